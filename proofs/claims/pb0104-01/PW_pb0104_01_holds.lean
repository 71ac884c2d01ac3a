import PyProof.Rows.All
import Wide.All
import OpenK.AllK
import Wide.FinOn
import Open.Tops
import PySem.Challenge.RW_pb0104_01
set_option Elab.async false
set_option maxRecDepth 100000
set_option linter.unusedVariables false
noncomputable section
open PySem PySem.W PySem.Calls PyProof.Rows
set_option Elab.async false
set_option maxRecDepth 100000
namespace Mine
set_option maxHeartbeats 0 in
open_shared top15 for PySem.Challenge.pw_pb0104_01 leaving 19
end Mine

end
noncomputable section
open PySem PySem.W PySem.Calls PyProof.Rows
set_option Elab.async false
set_option maxRecDepth 100000
namespace Mine

noncomputable abbrev PRG : Program := PySem.Challenge.pw_pb0104_01
noncomputable abbrev cB (b : List Stmt) : Code := .body b top15.env_1
noncomputable abbrev q0 : Pos := ⟨0, 0, 0, 0⟩
noncomputable abbrev annM : Option Value := some (.ref 6)
noncomputable def Sg {α : Type} (b : List Stmt) (w : World) (n : Nat) (x : Sem α) (s : Shared) (pos : Pos) (s' : Shared) (pos' : Pos) (a : α) : Prop :=
  ∀ (K : α → Sem Fin) (H : Value → Sem Fin) (gd : Bool → Bool) (lv : List Value → List Value) (N : Nat) (r : Shared), topRun treeTable PRG w 11 annM N s' ⟨K a, cB b, pos', [topFrame q0]⟩ = some r → topRun treeTable PRG w 11 annM (n + N) s ⟨x.wrap K H gd lv, cB b, pos, [topFrame q0]⟩ = some r
section
variable {α β : Type} {b : List Stmt} {w : World} {n m : Nat} {x : Sem α} {s s₁ s₂ : Shared} {p p₁ p₂ : Pos} {a : α} {c : β} {f : α → Sem β}
theorem Sg.pure : Sg b w 0 (pure a) s p s p a := fun K H gd lv N r h => by rw [Nat.zero_add]; exact h
theorem Sg.bind (h1 : Sg b w n x s p s₁ p₁ a) (h2 : Sg b w m (f a) s₁ p₁ s₂ p₂ c) : Sg b w (n + m) (x >>= f) s p s₂ p₂ c := fun K H gd lv N r h => by
  rw [Sem.bind_eq_wrap', Sem.wrap_wrap, Nat.add_assoc]
  exact h1 _ _ _ _ _ _ (h2 K H gd lv N r h)
theorem Sg.mono (h : Sg b w n x s p s₁ p₁ a) (hn : n ≤ m) : Sg b w m x s p s₁ p₁ a := fun K H gd lv N r q => by
  rw [show m + N = (n + N) + (m - n) by omega]
  exact topRun_mono _ _ _ _ _ (h K H gd lv N r q)
theorem Sg.keep {vs : List Value} (h : Sg b w n x s p s₁ p₁ a) : Sg b w n (x.keep vs) s p s₁ p₁ a := fun K H gd lv N r q => by
  rw [Sem.keep_eq_wrap, Sem.wrap_wrap]
  exact h _ _ _ _ _ _ q
theorem Sg.holding {vs : List Value} (h : Sg b w n x s p s₁ p₁ a) : Sg b w n (PySem.holding vs x) s p s₁ p₁ a := by
  unfold PySem.holding
  split
  · exact h
  · exact h.keep
theorem Sg.run (res : α → Flow) (hres : ∀ a', res a' = res a → a' = a) (h : ∀ gd lv, segRun treeTable PRG w 11 annM 1 n s ⟨x.wrap (fun a => .pure (.done (res a))) deadEnd gd lv, cB b, p, [topFrame q0]⟩ = some (res a, s₁, cB b, p₁)) : Sg b w n x s p s₁ p₁ a := fun K H gd lv N r hN => by
  obtain ⟨a', ha, hk⟩ := seg_top (res := res) (K' := K) (H' := H) (gd := gd) (lv := lv) (B := [topFrame q0]) rfl n s ⟨x.wrap (fun a => .pure (.done (res a))) deadEnd gd lv, cB b, p, [topFrame q0]⟩ ⟨x.wrap K H gd lv, cB b, p, [topFrame q0]⟩ _ _ _ _ ⟨rfl, rfl, .inl ⟨rfl, rfl, x, rfl, rfl⟩⟩ (h gd lv)
  obtain rfl := hres a' ha
  exact hk N r hN
theorem Sg.load {a₀ : Addr} {pt : Option Value} {k : Obj → Sem α} {o : Obj} (ho : s.heap.get? a₀ = some o) (h : Sg b w n (k o) s p s₁ p₁ a) : Sg b w (1 + n) (.load a₀ pt k) s p s₁ p₁ a := fun K H gd lv N r q => by
  have := h K H gd lv N r q
  rw [show 1 + n + N = (n + N) + 1 by omega]
  obtain ⟨hp, g, d, t, os⟩ := s
  have ho' : hp.get? a₀ = some o := ho
  unfold topRun
  simp only [Sem.wrap, through, List.isEmpty_cons, Bool.false_and, stepOk, Thread.calm, step, ho']
  exact this
theorem Sg.rule {tag : String} : Sg b w 1 (PySem.rule tag) s p s p () := fun K H gd lv N r q => by
  rw [show 1 + N = N + 1 by omega]
  unfold topRun
  exact q
end
noncomputable def vB (l : List UInt8) (t : Tok) : Value := .bytes l.toArray t
theorem reduce_range (i : Int) : -(2 ^ 63 : Int) ≤ reduceHash i ∧ reduceHash i < 2 ^ 63 := by
  unfold reduceHash
  by_cases h : (-(2 ^ 63 : Int) ≤ i && i < 2 ^ 63) = true
  · rw [if_pos h]
    simp only [Bool.and_eq_true, decide_eq_true_eq] at h
    split <;> omega
  · rw [if_neg h]
    have e1 := Int.emod_nonneg (i.natAbs : Int) (show (2 ^ 61 - 1 : Int) ≠ 0 by decide)
    have e2 := Int.emod_lt_of_pos (i.natAbs : Int) (show (0 : Int) < 2 ^ 61 - 1 by decide)
    generalize (i.natAbs : Int) % (2 ^ 61 - 1) = z at e1 e2 ⊢
    show _ ≤ (if ((if i < 0 then -z else z) == -1) = true then -2 else (if i < 0 then -z else z)) ∧ (if ((if i < 0 then -z else z) == -1) = true then -2 else (if i < 0 then -z else z)) < _
    by_cases h1 : i < 0
    · rw [if_pos h1]; split <;> omega
    · rw [if_neg h1]; split <;> omega
theorem reduced_range {i : Int} (h : -(2 ^ 63 : Int) ≤ i ∧ i < 2 ^ 63) : pyHashByItsType.reduced i = pure (reduceHash i) := by
  have h' : (-(2 ^ 63 : Int) ≤ i && i < 2 ^ 63) = true := by simp only [Bool.and_eq_true, decide_eq_true_eq]; exact h
  unfold pyHashByItsType.reduced reduceHash
  rw [if_pos h', if_pos h']
end Mine

end
noncomputable section
open PySem PySem.W PySem.Calls PyProof.Rows
set_option Elab.async false
set_option maxRecDepth 100000
namespace Mine
section
variable {α β γ : Type} {b : List Stmt} {w : World} {n m k : Nat} {s : Shared} {p : Pos} {a : α}
theorem Sg.forIn {f : γ → α → Sem (ForInStep α)} : ∀ (l : List γ), (∀ i ∈ l, Sg b w k (f i a) s p s p (.yield a)) → Sg b w (l.length * k) (forIn l a f) s p s p a
  | [], _ => by rw [List.forIn_nil, List.length_nil, Nat.zero_mul]; exact Sg.pure
  | i :: l, h => by
    rw [List.forIn_cons, List.length_cons, Nat.succ_mul, Nat.add_comm]
    exact Sg.bind (h i List.mem_cons_self) (Sg.forIn l fun j hj => h j (List.mem_cons_of_mem _ hj))
theorem seg_walk {d : Addr} {kb : Array UInt8} {kt : Tok} {h : Int} {es : Array DictEntry} {ep : Nat} (places : List Nat) (ho : s.heap.get? d = some { cls := .type "dict", data := .dict es ep })
    (hn : ∀ e ∈ es, Sg b w m (eqBool e.key (.bytes kb kt)) s p s p false) : Sg b w (places.length * (m + 3)) (dictWalkPlain d (.bytes kb kt) h es places) s p s p none := by
  unfold dictWalkPlain
  refine (Sg.bind (n := places.length * (m + 3)) (m := 0) (a := ((none : Option (Option Nat)), ())) (Sg.forIn places fun i hi => ?_) (by exact Sg.pure))
  dsimp only
  cases he : es[i]? with
  | none => exact (Sg.pure).mono (Nat.zero_le _)
  | some e =>
    dsimp only
    split
    · refine Sg.mono (n := 1 + (m + (1 + 1))) ?_ (by omega)
      unfold dictEpoch loadPart
      refine Sg.bind (Sg.bind (n := 1) (m := 0) (Sg.load (n := 0) ho Sg.pure) Sg.pure) ?_
      refine Sg.bind (hn e (Array.mem_of_getElem? he)) ?_
      refine Sg.bind (Sg.bind (n := 1) (m := 0) (Sg.load (n := 0) ho Sg.pure) Sg.pure) ?_
      simp only [bne_self_eq_false, Bool.false_eq_true, if_false]
      exact Sg.bind (m := 0) Sg.rule Sg.pure
    · exact (Sg.pure).mono (Nat.zero_le _)
theorem seg_find {d : Addr} {kb : Array UInt8} {kt : Tok} {h : Int} {es : Array DictEntry} {ep : Nat} (ho : s.heap.get? d = some { cls := .type "dict", data := .dict es ep })
    (hk : ∀ e ∈ es, ∃ l t, e.key = .bytes l t) (hn : ∀ e ∈ es, Sg b w m (eqBool e.key (.bytes kb kt)) s p s p false) : Sg b w (1 + es.size * (m + 3)) (dictFind d (.bytes kb kt) h) s p s p none := by
  unfold dictFind
  refine Sg.holding ?_
  unfold dictEntries loadPart
  refine Sg.bind (Sg.bind (n := 1) (m := 0) (Sg.load (n := 0) ho Sg.pure) Sg.pure) ?_
  dsimp only
  rw [if_pos]
  · refine Sg.mono (seg_walk _ ho hn) ?_
    refine Nat.mul_le_mul_right _ ?_
    unfold placesWithHash
    exact Nat.le_trans (List.length_filter_le _ _) (by simp)
  · rw [List.all_cons, Bool.and_eq_true]
    refine ⟨rfl, List.all_eq_true.mpr fun v hv => ?_⟩
    obtain ⟨i, _, hi⟩ := List.mem_filterMap.mp hv
    obtain ⟨e, he, rfl⟩ := Option.map_eq_some_iff.mp hi
    obtain ⟨l, t, hlt⟩ := hk e (Array.mem_of_getElem? he)
    rw [hlt]; rfl
end
end Mine

end
noncomputable section
open PySem PySem.W PySem.Calls PyProof.Rows
set_option Elab.async false
set_option maxRecDepth 100000
namespace Mine
noncomputable def resO : Option Value → Flow
  | some v => .ret v
  | none => .next
noncomputable def hB (w : World) (l : Array UInt8) : Int := PyData.keyHash w.params ⟨l.map (·.toNat)⟩
theorem run_hash (b : List Stmt) (s : Shared) (p : Pos) (l : Array UInt8) (t : Tok) (r : Sem Value) (gd : Bool → Bool) (lv : List Value → List Value) (w : World) :
    segRun treeTable PRG w 11 annM 1 30 s ⟨(callSpecialIfBoundUnlessNone? (.bytes l t) "__hash__" r).wrap (fun a => .pure (.done (resO a))) deadEnd gd lv, cB b, p, [topFrame q0]⟩ = some (.ret (.int (hB w l) s.toks), { s with toks := s.toks + 1 }, cB b, p) := by
  revert w
  refine byRow2 "special-get-raises" (fun w => ?_) (fun w => ?_)
  · kernel_rfl
  · kernel_rfl
end Mine

end
noncomputable section
open PySem PySem.W PySem.Calls PyProof.Rows
set_option Elab.async false
set_option maxRecDepth 100000
namespace Mine
section
variable {b : List Stmt} {w : World} {s : Shared} {p : Pos}
theorem hB_range (w : World) (l : Array UInt8) : -(2 ^ 63 : Int) ≤ hB w l ∧ hB w l < 2 ^ 63 := by
  unfold hB PyData.keyHash
  split
  · omega
  · exact reduce_range _
theorem spec_hash : specialOf (.bytes l t) "__hash__" = pure (some (.builtin "bytes.__hash__")) := by kernel_rfl
theorem sg_hash (l : Array UInt8) (t : Tok) : Sg b w 30 (pyHash (.bytes l t)) s p { s with toks := s.toks + 1 } p (reduceHash (hB w l)) := by
  show Sg b w 30 (pyHashByItsType (.bytes l t)) s p _ p _
  unfold pyHashByItsType
  refine Sg.bind (n := 0) (m := 30) (a := ()) Sg.pure ?_
  rw [spec_hash]
  refine Sg.bind (n := 0) (m := 30) Sg.pure ?_
  refine Sg.bind (n := 0) (m := 30) Sg.pure ?_
  refine Sg.bind (n := 30) (m := 0) (Sg.run resO (fun a' h => ?_) (a := some (.int (hB w l) s.toks)) (fun gd lv => run_hash b s p l t _ gd lv w)) ?_
  · cases a' with
    | none => cases h
    | some v => simpa [resO] using h
  · dsimp only
    rw [reduced_range (hB_range w l)]
    exact Sg.pure
theorem sg_ne {l l' : Array UInt8} {t t' : Tok} (h : ∀ gd lv, segRun treeTable PRG w 11 annM 1 40 s ⟨(eqBool (.bytes l t) (.bytes l' t')).wrap (fun a => .pure (.done (.ret (.bool a)))) deadEnd gd lv, cB b, p, [topFrame q0]⟩ = some (.ret (.bool false), s, cB b, p)) :
    Sg b w 40 (eqBool (.bytes l t) (.bytes l' t')) s p s p false := Sg.run (fun a => .ret (.bool a)) (fun a' q => by simpa using q) h
end
theorem run_ne1 (b : List Stmt) (s : Shared) (p : Pos) (t t' : Tok) (gd : Bool → Bool) (lv : List Value → List Value) (w : World) :
    segRun treeTable PRG w 11 annM 1 40 s ⟨(eqBool (.bytes #[99, 111, 109, 109, 105, 116] t) (.bytes #[116, 114, 101, 101] t')).wrap (fun a => .pure (.done (.ret (.bool a)))) deadEnd gd lv, cB b, p, [topFrame q0]⟩ = some (.ret (.bool false), s, cB b, p) := by
  revert w
  refine byRow2 "special-get-raises" (fun w => ?_) (fun w => ?_)
  · kernel_rfl
  · kernel_rfl
end Mine

end
noncomputable section
open PySem PySem.W PySem.Calls PyProof.Rows
set_option Elab.async false
set_option maxRecDepth 100000
namespace Mine

theorem run_ne01 (b : List Stmt) (s : Shared) (p : Pos) (t t' : Tok) (gd : Bool → Bool) (lv : List Value → List Value) (w : World) :
    segRun treeTable PRG w 11 annM 1 40 s ⟨(eqBool (.bytes #[99, 111, 109, 109, 105, 116] t) (.bytes #[116, 114, 101, 101] t')).wrap (fun a => .pure (.done (.ret (.bool a)))) deadEnd gd lv, cB b, p, [topFrame q0]⟩ = some (.ret (.bool false), s, cB b, p) := by
  revert w
  refine byRow2 "special-get-raises" (fun w => ?_) (fun w => ?_)
  · kernel_rfl
  · kernel_rfl

theorem run_ne02 (b : List Stmt) (s : Shared) (p : Pos) (t t' : Tok) (gd : Bool → Bool) (lv : List Value → List Value) (w : World) :
    segRun treeTable PRG w 11 annM 1 40 s ⟨(eqBool (.bytes #[99, 111, 109, 109, 105, 116] t) (.bytes #[98, 108, 111, 98] t')).wrap (fun a => .pure (.done (.ret (.bool a)))) deadEnd gd lv, cB b, p, [topFrame q0]⟩ = some (.ret (.bool false), s, cB b, p) := by
  revert w
  refine byRow2 "special-get-raises" (fun w => ?_) (fun w => ?_)
  · kernel_rfl
  · kernel_rfl

theorem run_ne03 (b : List Stmt) (s : Shared) (p : Pos) (t t' : Tok) (gd : Bool → Bool) (lv : List Value → List Value) (w : World) :
    segRun treeTable PRG w 11 annM 1 40 s ⟨(eqBool (.bytes #[99, 111, 109, 109, 105, 116] t) (.bytes #[116, 97, 103] t')).wrap (fun a => .pure (.done (.ret (.bool a)))) deadEnd gd lv, cB b, p, [topFrame q0]⟩ = some (.ret (.bool false), s, cB b, p) := by
  revert w
  refine byRow2 "special-get-raises" (fun w => ?_) (fun w => ?_)
  · kernel_rfl
  · kernel_rfl

theorem run_ne12 (b : List Stmt) (s : Shared) (p : Pos) (t t' : Tok) (gd : Bool → Bool) (lv : List Value → List Value) (w : World) :
    segRun treeTable PRG w 11 annM 1 40 s ⟨(eqBool (.bytes #[116, 114, 101, 101] t) (.bytes #[98, 108, 111, 98] t')).wrap (fun a => .pure (.done (.ret (.bool a)))) deadEnd gd lv, cB b, p, [topFrame q0]⟩ = some (.ret (.bool false), s, cB b, p) := by
  revert w
  refine byRow2 "special-get-raises" (fun w => ?_) (fun w => ?_)
  · kernel_rfl
  · kernel_rfl

theorem run_ne13 (b : List Stmt) (s : Shared) (p : Pos) (t t' : Tok) (gd : Bool → Bool) (lv : List Value → List Value) (w : World) :
    segRun treeTable PRG w 11 annM 1 40 s ⟨(eqBool (.bytes #[116, 114, 101, 101] t) (.bytes #[116, 97, 103] t')).wrap (fun a => .pure (.done (.ret (.bool a)))) deadEnd gd lv, cB b, p, [topFrame q0]⟩ = some (.ret (.bool false), s, cB b, p) := by
  revert w
  refine byRow2 "special-get-raises" (fun w => ?_) (fun w => ?_)
  · kernel_rfl
  · kernel_rfl

theorem run_ne23 (b : List Stmt) (s : Shared) (p : Pos) (t t' : Tok) (gd : Bool → Bool) (lv : List Value → List Value) (w : World) :
    segRun treeTable PRG w 11 annM 1 40 s ⟨(eqBool (.bytes #[98, 108, 111, 98] t) (.bytes #[116, 97, 103] t')).wrap (fun a => .pure (.done (.ret (.bool a)))) deadEnd gd lv, cB b, p, [topFrame q0]⟩ = some (.ret (.bool false), s, cB b, p) := by
  revert w
  refine byRow2 "special-get-raises" (fun w => ?_) (fun w => ?_)
  · kernel_rfl
  · kernel_rfl

noncomputable def kb0 : Array UInt8 := #[99, 111, 109, 109, 105, 116]
noncomputable def kE0 (P : Params) : DictEntry := ⟨reduceHash (PyData.keyHash P ⟨#[99, 111, 109, 109, 105, 116]⟩), .bytes #[99, 111, 109, 109, 105, 116] 323, .int 1 324⟩
noncomputable def kx0 : Expr := .Constant (.bytes [99, 111, 109, 109, 105, 116]) 0 ⟨47, 16, 47, 25⟩
noncomputable def vx0 : Expr := .Constant (.int 1) 0 ⟨47, 27, 47, 28⟩

noncomputable def kb1 : Array UInt8 := #[116, 114, 101, 101]
noncomputable def kE1 (P : Params) : DictEntry := ⟨reduceHash (PyData.keyHash P ⟨#[116, 114, 101, 101]⟩), .bytes #[116, 114, 101, 101] 325, .int 2 326⟩
noncomputable def kx1 : Expr := .Constant (.bytes [116, 114, 101, 101]) 0 ⟨47, 30, 47, 37⟩
noncomputable def vx1 : Expr := .Constant (.int 2) 0 ⟨47, 39, 47, 40⟩

noncomputable def kb2 : Array UInt8 := #[98, 108, 111, 98]
noncomputable def kE2 (P : Params) : DictEntry := ⟨reduceHash (PyData.keyHash P ⟨#[98, 108, 111, 98]⟩), .bytes #[98, 108, 111, 98] 327, .int 3 328⟩
noncomputable def kx2 : Expr := .Constant (.bytes [98, 108, 111, 98]) 0 ⟨47, 42, 47, 49⟩
noncomputable def vx2 : Expr := .Constant (.int 3) 0 ⟨47, 51, 47, 52⟩

noncomputable def kb3 : Array UInt8 := #[116, 97, 103]
noncomputable def kE3 (P : Params) : DictEntry := ⟨reduceHash (PyData.keyHash P ⟨#[116, 97, 103]⟩), .bytes #[116, 97, 103] 329, .int 4 330⟩
noncomputable def kx3 : Expr := .Constant (.bytes [116, 97, 103]) 0 ⟨47, 54, 47, 60⟩
noncomputable def vx3 : Expr := .Constant (.int 4) 0 ⟨47, 62, 47, 63⟩

noncomputable def dO0 (P : Params) : Obj := { cls := .type "dict", data := .dict #[] 0 }
noncomputable abbrev tD0 (P : Params) : BT := (top15.tree_109 P).ins 110 (dO0 P)

noncomputable def dO1 (P : Params) : Obj := { cls := .type "dict", data := .dict #[kE0 P] 1 }
noncomputable abbrev tD1 (P : Params) : BT := (top15.tree_109 P).ins 110 (dO1 P)

noncomputable def dO2 (P : Params) : Obj := { cls := .type "dict", data := .dict #[kE0 P, kE1 P] 2 }
noncomputable abbrev tD2 (P : Params) : BT := (top15.tree_109 P).ins 110 (dO2 P)

noncomputable def dO3 (P : Params) : Obj := { cls := .type "dict", data := .dict #[kE0 P, kE1 P, kE2 P] 3 }
noncomputable abbrev tD3 (P : Params) : BT := (top15.tree_109 P).ins 110 (dO3 P)

noncomputable def dO4 (P : Params) : Obj := { cls := .type "dict", data := .dict #[kE0 P, kE1 P, kE2 P, kE3 P] 4 }
noncomputable abbrev tD4 (P : Params) : BT := (top15.tree_109 P).ins 110 (dO4 P)

noncomputable abbrev sT (t : BT) (n k : Nat) (os : OsState) : Shared := SharedT.abs ⟨t, n, {}, ⟨[]⟩, {}, k, os⟩
section
variable {b : List Stmt} {w : World} {s s₂ : Shared} {p : Pos} {d : Addr} {es : Array DictEntry} {ep : Nat}
theorem sg_set {l : Array UInt8} {t : Tok} {v : Value} (ho : s.heap.get? d = some { cls := .type "dict", data := .dict es ep }) (hk : ∀ e ∈ es, ∃ l t, e.key = .bytes l t)
    (hn : ∀ e ∈ es, Sg b w 40 (eqBool e.key (.bytes l t)) { s with toks := s.toks + 1 } p { s with toks := s.toks + 1 } p false)
    (hu : Sg b w 10 (PySem.rule "dict.set.new-key-at-the-end" >>= fun _ => updateDictKeys d (·.push ⟨reduceHash (hB w l), .bytes l t, v⟩) (keyPart (.bytes l t))) { s with toks := s.toks + 1 } p s₂ p ()) :
    Sg b w (30 + ((1 + es.size * (40 + 3)) + 10)) (dictSet d (.bytes l t) v) s p s₂ p () := by
  unfold dictSet
  refine Sg.holding (Sg.bind (sg_hash l t) ?_)
  unfold dictSetHashed
  exact Sg.holding (Sg.bind (seg_find (s := { s with toks := s.toks + 1 }) ho hk hn) hu)
theorem sg_pair {k v : Sem Value} {rest : List (Sem Value × Sem Value)} {kv vv : Value} {vs : List (Value × Value)} {s₁ s₃ : Shared} {m : Nat} (h1 : Sg b w 5 k s p s₁ p kv) (h2 : Sg b w 5 v s₁ p s₂ p vv) (h3 : Sg b w m (evalPairs rest) s₂ p s₃ p vs) :
    Sg b w (5 + (5 + m)) (evalPairs ((k, v) :: rest)) s p s₃ p ((kv, vv) :: vs) := by
  rw [evalPairs]
  exact Sg.bind h1 (Sg.bind h2.holding (Sg.bind (m := 0) h3.holding Sg.pure))
end
section
variable {b : List Stmt} {w : World} {os : OsState}

theorem sg_k0 : Sg b w 5 (eval kx0 top15.env_1) (sT (tD0 w.params) 111 323 os) ⟨47, 15, 47, 64⟩ (sT (tD0 w.params) 111 324 os) ⟨47, 15, 47, 64⟩ (.bytes #[99, 111, 109, 109, 105, 116] 323) :=
  Sg.run Flow.ret (fun a' q => by cases q; rfl) (fun gd lv => segRun_of (by kernel_rfl))
theorem sg_v0 : Sg b w 5 (do let x ← eval vx0 top15.env_1; standAt ⟨47, 15, 47, 64⟩; pure x) (sT (tD0 w.params) 111 324 os) ⟨47, 15, 47, 64⟩ (sT (tD0 w.params) 111 325 os) ⟨47, 15, 47, 64⟩ (.int 1 324) :=
  Sg.run Flow.ret (fun a' q => by cases q; rfl) (fun gd lv => segRun_of (by kernel_rfl))
theorem get_0 : (sT (tD0 w.params) 111 331 os).heap.get? 110 = some (dO0 w.params) := by kernel_rfl
theorem sg_u0 : Sg b w 10 (PySem.rule "dict.set.new-key-at-the-end" >>= fun _ => updateDictKeys 110 (·.push ⟨reduceHash (hB w #[99, 111, 109, 109, 105, 116]), .bytes #[99, 111, 109, 109, 105, 116] 323, .int 1 324⟩) (keyPart (.bytes #[99, 111, 109, 109, 105, 116] 323)))
    (sT (tD0 w.params) 111 332 os) ⟨47, 15, 47, 64⟩ (sT (tD1 w.params) 111 332 os) ⟨47, 15, 47, 64⟩ () :=
  Sg.run (fun _ => .next) (fun a' q => rfl) (fun gd lv => segRun_of (by kernel_rfl))

theorem sg_s0 : Sg b w 41 (dictSet 110 (.bytes #[99, 111, 109, 109, 105, 116] 323) (.int 1 324)) (sT (tD0 w.params) 111 331 os) ⟨47, 15, 47, 64⟩ (sT (tD1 w.params) 111 332 os) ⟨47, 15, 47, 64⟩ () :=
  (sg_set (es := #[]) get_0 (fun e he => (by simp at he)) (fun e he => (by simp at he)) sg_u0).mono (Nat.le_of_ble_eq_true rfl)

theorem sg_k1 : Sg b w 5 (eval kx1 top15.env_1) (sT (tD0 w.params) 111 325 os) ⟨47, 15, 47, 64⟩ (sT (tD0 w.params) 111 326 os) ⟨47, 15, 47, 64⟩ (.bytes #[116, 114, 101, 101] 325) :=
  Sg.run Flow.ret (fun a' q => by cases q; rfl) (fun gd lv => segRun_of (by kernel_rfl))
theorem sg_v1 : Sg b w 5 (do let x ← eval vx1 top15.env_1; standAt ⟨47, 15, 47, 64⟩; pure x) (sT (tD0 w.params) 111 326 os) ⟨47, 15, 47, 64⟩ (sT (tD0 w.params) 111 327 os) ⟨47, 15, 47, 64⟩ (.int 2 326) :=
  Sg.run Flow.ret (fun a' q => by cases q; rfl) (fun gd lv => segRun_of (by kernel_rfl))
theorem get_1 : (sT (tD1 w.params) 111 332 os).heap.get? 110 = some (dO1 w.params) := by kernel_rfl
theorem sg_u1 : Sg b w 10 (PySem.rule "dict.set.new-key-at-the-end" >>= fun _ => updateDictKeys 110 (·.push ⟨reduceHash (hB w #[116, 114, 101, 101]), .bytes #[116, 114, 101, 101] 325, .int 2 326⟩) (keyPart (.bytes #[116, 114, 101, 101] 325)))
    (sT (tD1 w.params) 111 333 os) ⟨47, 15, 47, 64⟩ (sT (tD2 w.params) 111 333 os) ⟨47, 15, 47, 64⟩ () :=
  Sg.run (fun _ => .next) (fun a' q => rfl) (fun gd lv => segRun_of (by kernel_rfl))

theorem sg_s1 : Sg b w 84 (dictSet 110 (.bytes #[116, 114, 101, 101] 325) (.int 2 326)) (sT (tD1 w.params) 111 332 os) ⟨47, 15, 47, 64⟩ (sT (tD2 w.params) 111 333 os) ⟨47, 15, 47, 64⟩ () :=
  (sg_set (es := #[kE0 w.params]) get_1 (fun e he => (by simp only [List.mem_toArray, List.mem_cons, List.not_mem_nil, or_false] at he; rcases he with rfl <;> exact ⟨_, _, rfl⟩)) (fun e he => (by simp only [List.mem_toArray, List.mem_cons, List.not_mem_nil, or_false] at he; rcases he with rfl; exact sg_ne (fun gd lv => run_ne01 b _ _ _ _ gd lv w))) sg_u1).mono (Nat.le_of_ble_eq_true rfl)

theorem sg_k2 : Sg b w 5 (eval kx2 top15.env_1) (sT (tD0 w.params) 111 327 os) ⟨47, 15, 47, 64⟩ (sT (tD0 w.params) 111 328 os) ⟨47, 15, 47, 64⟩ (.bytes #[98, 108, 111, 98] 327) :=
  Sg.run Flow.ret (fun a' q => by cases q; rfl) (fun gd lv => segRun_of (by kernel_rfl))
theorem sg_v2 : Sg b w 5 (do let x ← eval vx2 top15.env_1; standAt ⟨47, 15, 47, 64⟩; pure x) (sT (tD0 w.params) 111 328 os) ⟨47, 15, 47, 64⟩ (sT (tD0 w.params) 111 329 os) ⟨47, 15, 47, 64⟩ (.int 3 328) :=
  Sg.run Flow.ret (fun a' q => by cases q; rfl) (fun gd lv => segRun_of (by kernel_rfl))
theorem get_2 : (sT (tD2 w.params) 111 333 os).heap.get? 110 = some (dO2 w.params) := by kernel_rfl
theorem sg_u2 : Sg b w 10 (PySem.rule "dict.set.new-key-at-the-end" >>= fun _ => updateDictKeys 110 (·.push ⟨reduceHash (hB w #[98, 108, 111, 98]), .bytes #[98, 108, 111, 98] 327, .int 3 328⟩) (keyPart (.bytes #[98, 108, 111, 98] 327)))
    (sT (tD2 w.params) 111 334 os) ⟨47, 15, 47, 64⟩ (sT (tD3 w.params) 111 334 os) ⟨47, 15, 47, 64⟩ () :=
  Sg.run (fun _ => .next) (fun a' q => rfl) (fun gd lv => segRun_of (by kernel_rfl))

theorem sg_s2 : Sg b w 127 (dictSet 110 (.bytes #[98, 108, 111, 98] 327) (.int 3 328)) (sT (tD2 w.params) 111 333 os) ⟨47, 15, 47, 64⟩ (sT (tD3 w.params) 111 334 os) ⟨47, 15, 47, 64⟩ () :=
  (sg_set (es := #[kE0 w.params, kE1 w.params]) get_2 (fun e he => (by simp only [List.mem_toArray, List.mem_cons, List.not_mem_nil, or_false] at he; rcases he with rfl | rfl <;> exact ⟨_, _, rfl⟩)) (fun e he => (by simp only [List.mem_toArray, List.mem_cons, List.not_mem_nil, or_false] at he; rcases he with rfl | rfl; exact sg_ne (fun gd lv => run_ne02 b _ _ _ _ gd lv w); exact sg_ne (fun gd lv => run_ne12 b _ _ _ _ gd lv w))) sg_u2).mono (Nat.le_of_ble_eq_true rfl)

theorem sg_k3 : Sg b w 5 (eval kx3 top15.env_1) (sT (tD0 w.params) 111 329 os) ⟨47, 15, 47, 64⟩ (sT (tD0 w.params) 111 330 os) ⟨47, 15, 47, 64⟩ (.bytes #[116, 97, 103] 329) :=
  Sg.run Flow.ret (fun a' q => by cases q; rfl) (fun gd lv => segRun_of (by kernel_rfl))
theorem sg_v3 : Sg b w 5 (do let x ← eval vx3 top15.env_1; standAt ⟨47, 15, 47, 64⟩; pure x) (sT (tD0 w.params) 111 330 os) ⟨47, 15, 47, 64⟩ (sT (tD0 w.params) 111 331 os) ⟨47, 15, 47, 64⟩ (.int 4 330) :=
  Sg.run Flow.ret (fun a' q => by cases q; rfl) (fun gd lv => segRun_of (by kernel_rfl))
theorem get_3 : (sT (tD3 w.params) 111 334 os).heap.get? 110 = some (dO3 w.params) := by kernel_rfl
theorem sg_u3 : Sg b w 10 (PySem.rule "dict.set.new-key-at-the-end" >>= fun _ => updateDictKeys 110 (·.push ⟨reduceHash (hB w #[116, 97, 103]), .bytes #[116, 97, 103] 329, .int 4 330⟩) (keyPart (.bytes #[116, 97, 103] 329)))
    (sT (tD3 w.params) 111 335 os) ⟨47, 15, 47, 64⟩ (sT (tD4 w.params) 111 335 os) ⟨47, 15, 47, 64⟩ () :=
  Sg.run (fun _ => .next) (fun a' q => rfl) (fun gd lv => segRun_of (by kernel_rfl))

theorem sg_s3 : Sg b w 170 (dictSet 110 (.bytes #[116, 97, 103] 329) (.int 4 330)) (sT (tD3 w.params) 111 334 os) ⟨47, 15, 47, 64⟩ (sT (tD4 w.params) 111 335 os) ⟨47, 15, 47, 64⟩ () :=
  (sg_set (es := #[kE0 w.params, kE1 w.params, kE2 w.params]) get_3 (fun e he => (by simp only [List.mem_toArray, List.mem_cons, List.not_mem_nil, or_false] at he; rcases he with rfl | rfl | rfl <;> exact ⟨_, _, rfl⟩)) (fun e he => (by simp only [List.mem_toArray, List.mem_cons, List.not_mem_nil, or_false] at he; rcases he with rfl | rfl | rfl; exact sg_ne (fun gd lv => run_ne03 b _ _ _ _ gd lv w); exact sg_ne (fun gd lv => run_ne13 b _ _ _ _ gd lv w); exact sg_ne (fun gd lv => run_ne23 b _ _ _ _ gd lv w))) sg_u3).mono (Nat.le_of_ble_eq_true rfl)

noncomputable def st15 : Stmt := .Assign [.Name "KIND_NUMBERS" ⟨47, 0, 47, 12⟩] (.Dict [some kx0, some kx1, some kx2, some kx3] [vx0, vx1, vx2, vx3] ⟨47, 15, 47, 64⟩) ⟨47, 0, 47, 64⟩
theorem sg_alloc : Sg b w 5 (alloc { cls := .type "dict", data := .dict #[] }) (sT (top15.tree_109 w.params) 110 323 os) ⟨47, 15, 47, 64⟩ (sT (tD0 w.params) 111 323 os) ⟨47, 15, 47, 64⟩ 110 :=
  Sg.run (fun a => .ret (.ref a)) (fun a' q => by simpa using q) (fun gd lv => segRun_of (by kernel_rfl))
theorem sg_pairs : Sg b w 40 (evalPairs [(eval kx0 top15.env_1, do let x ← eval vx0 top15.env_1; standAt ⟨47, 15, 47, 64⟩; pure x), (eval kx1 top15.env_1, do let x ← eval vx1 top15.env_1; standAt ⟨47, 15, 47, 64⟩; pure x), (eval kx2 top15.env_1, do let x ← eval vx2 top15.env_1; standAt ⟨47, 15, 47, 64⟩; pure x), (eval kx3 top15.env_1, do let x ← eval vx3 top15.env_1; standAt ⟨47, 15, 47, 64⟩; pure x)]) (sT (tD0 w.params) 111 323 os) ⟨47, 15, 47, 64⟩ (sT (tD0 w.params) 111 331 os) ⟨47, 15, 47, 64⟩ [(Value.bytes #[99, 111, 109, 109, 105, 116] 323, Value.int 1 324), (Value.bytes #[116, 114, 101, 101] 325, Value.int 2 326), (Value.bytes #[98, 108, 111, 98] 327, Value.int 3 328), (Value.bytes #[116, 97, 103] 329, Value.int 4 330)] :=
  sg_pair sg_k0 sg_v0 (sg_pair sg_k1 sg_v1 (sg_pair sg_k2 sg_v2 (sg_pair sg_k3 sg_v3 (m := 0) (by rw [evalPairs]; exact Sg.pure))))
theorem sg_sub : Sg b w 500 (subDict [(eval kx0 top15.env_1, do let x ← eval vx0 top15.env_1; standAt ⟨47, 15, 47, 64⟩; pure x), (eval kx1 top15.env_1, do let x ← eval vx1 top15.env_1; standAt ⟨47, 15, 47, 64⟩; pure x), (eval kx2 top15.env_1, do let x ← eval vx2 top15.env_1; standAt ⟨47, 15, 47, 64⟩; pure x), (eval kx3 top15.env_1, do let x ← eval vx3 top15.env_1; standAt ⟨47, 15, 47, 64⟩; pure x)]) (sT (top15.tree_109 w.params) 110 323 os) ⟨47, 15, 47, 64⟩ (sT (tD4 w.params) 111 335 os) ⟨47, 15, 47, 64⟩ 110 := by
  unfold subDict
  refine Sg.mono (n := 5 + ((40 + ((41 + 0 + (84 + 0 + (127 + 0 + (170 + 0 + 0)))) + 0)) + 0)) (Sg.bind sg_alloc (Sg.bind (a := ()) (Sg.holding ?_) Sg.pure)) (by decide)
  rw [if_pos (by decide)]
  refine Sg.bind sg_pairs (Sg.holding (Sg.bind (a := PUnit.unit) ?_ Sg.pure))
  rw [List.forIn_cons]
  refine Sg.bind (Sg.bind sg_s0 Sg.pure) ?_
  dsimp only
  rw [List.forIn_cons]
  refine Sg.bind (Sg.bind sg_s1 Sg.pure) ?_
  dsimp only
  rw [List.forIn_cons]
  refine Sg.bind (Sg.bind sg_s2 Sg.pure) ?_
  dsimp only
  rw [List.forIn_cons]
  refine Sg.bind (Sg.bind sg_s3 Sg.pure) ?_
  dsimp only
  rw [List.forIn_nil]
  exact Sg.pure
theorem eval15 : eval (.Dict [some kx0, some kx1, some kx2, some kx3] [vx0, vx1, vx2, vx3] ⟨47, 15, 47, 64⟩) top15.env_1 = (standAt ⟨47, 15, 47, 64⟩ >>= fun _ => dictDisplay (([(eval kx0 top15.env_1, do let x ← eval vx0 top15.env_1; standAt ⟨47, 15, 47, 64⟩; pure x), (eval kx1 top15.env_1, do let x ← eval vx1 top15.env_1; standAt ⟨47, 15, 47, 64⟩; pure x), (eval kx2 top15.env_1, do let x ← eval vx2 top15.env_1; standAt ⟨47, 15, 47, 64⟩; pure x), (eval kx3 top15.env_1, do let x ← eval vx3 top15.env_1; standAt ⟨47, 15, 47, 64⟩; pure x)] : List (Sem Value × Sem Value)).map fun p => (some p.1, p.2))) := by kernel_rfl
theorem sg_eval : Sg b w 505 (eval (.Dict [some kx0, some kx1, some kx2, some kx3] [vx0, vx1, vx2, vx3] ⟨47, 15, 47, 64⟩) top15.env_1) (sT (top15.tree_109 w.params) 110 323 os) ⟨47, 0, 47, 64⟩ (sT (tD4 w.params) 111 335 os) ⟨47, 15, 47, 64⟩ (.ref 110) := by
  rw [eval15, dictDisplay_pairs _ (by simp) (by decide)]
  exact Sg.bind (n := 5) (m := 500) (a := ()) (Sg.run (fun _ => .next) (fun a' q => rfl) (fun gd lv => segRun_of (s' := ⟨top15.tree_109 w.params, 110, {}, ⟨[]⟩, {}, 323, os⟩) (q := ⟨47, 15, 47, 64⟩) (by kernel_rfl))) (Sg.bind (n := 500) (m := 0) sg_sub Sg.pure)
theorem swap15 : swapsWith (.Dict [some kx0, some kx1, some kx2, some kx3] [vx0, vx1, vx2, vx3] ⟨47, 15, 47, 64⟩) (some (.Name "KIND_NUMBERS" ⟨47, 0, 47, 12⟩)) 47 top15.env_1 = pure false := by kernel_rfl
noncomputable def o16 (P : Params) : Obj := match (top15.tree_109 P).get 3 with
  | some o => Obj.mapDictKeys (·.push ⟨PyData.keyHash P "KIND_NUMBERS", .str "KIND_NUMBERS" 335, .ref 110⟩) o
  | none => default
noncomputable abbrev t16 (P : Params) : BT := (tD4 P).set 3 (fun _ => o16 P)
theorem sg_bind15 : Sg b w 20 (do standAt ⟨47, 0, 47, 12⟩; bindName top15.env_1 "KIND_NUMBERS" (.ref 110); pure Flow.next) (sT (tD4 w.params) 111 335 os) ⟨47, 15, 47, 64⟩ (sT (t16 w.params) 111 336 os) ⟨47, 0, 47, 12⟩ .next :=
  Sg.run id (fun a' q => q) (fun gd lv => segRun_of (by kernel_rfl))
theorem sg_15 : Sg b w 540 (exec st15 top15.env_1) (sT (top15.tree_109 w.params) 110 323 os) ⟨46, 0, 46, 8⟩ (sT (t16 w.params) 111 336 os) ⟨47, 0, 47, 12⟩ .next := by
  unfold st15
  rw [exec_Assign_Name (hs := swap15)]
  refine Sg.bind (n := 5) (m := 535) (a := ()) (Sg.run (fun _ => .next) (fun a' q => rfl) (fun gd lv => segRun_of (s' := ⟨top15.tree_109 w.params, 110, {}, ⟨[]⟩, {}, 323, os⟩) (q := ⟨47, 0, 47, 64⟩) (by kernel_rfl))) ?_
  exact Sg.mono (n := 505 + 20) (Sg.bind sg_eval sg_bind15) (by decide)
theorem piece_15 {rest : List Stmt} {N : Nat} {r : Shared} (h : topRun treeTable PRG w 11 annM N (sT (t16 w.params) 111 336 os) (restOf rest top15.env_1 (cB b) ⟨47, 0, 47, 12⟩ [topFrame q0]) = some r) :
    topRun treeTable PRG w 11 annM (540 + N) (sT (top15.tree_109 w.params) 110 323 os) (restOf (st15 :: rest) top15.env_1 (cB b) ⟨46, 0, 46, 8⟩ [topFrame q0]) = some r := by
  unfold restOf
  rw [execs_cons_wrap]
  exact sg_15 (b := b) (fun f => match f with | .next => (execs rest top15.env_1).wrap doneF (leaveH top15.env_1) id id | f => doneF f) (leaveH top15.env_1) id id N r h
end

end Mine

end
noncomputable section
open PySem PySem.W PySem.Calls PyProof.Rows
set_option Elab.async false
set_option maxRecDepth 100000
namespace Mine
noncomputable def fBody : Stmt → List Stmt
  | .FunctionDef _ _ b _ _ _ _ _ _ _ => b
  | _ => []
noncomputable def fArgs : Stmt → Arguments
  | .FunctionDef _ a _ _ _ _ _ _ _ _ => a
  | _ => { posonlyargs := [], args := [], vararg := none, kwonlyargs := [], kw_defaults := [], kwarg := none, defaults := [] }
noncomputable def fScope : Stmt → Scope
  | .FunctionDef _ _ _ _ _ _ s _ _ _ => s
  | _ => { kind := .module, names := [], isGenerator := false, isCoroutine := false, more := [] }
noncomputable def cBody : Stmt → List Stmt
  | .ClassDef _ _ _ b _ _ _ _ _ _ _ => b
  | _ => []
noncomputable def sAt (i : Nat) : Stmt := (behindTheImports PRG).getD i (.Pass ⟨0, 0, 0, 0⟩)
noncomputable def mAt (i j : Nat) : Stmt := (cBody (sAt i)).getD j (.Pass ⟨0, 0, 0, 0⟩)
end Mine

end
noncomputable section
open PySem PySem.W PySem.Calls PyProof.Rows
set_option Elab.async false
set_option maxRecDepth 1000000
set_option maxHeartbeats 4000000
set_option linter.unusedVariables false
namespace Mine
noncomputable def t16n (P : Params) : BT := (.node (boot_o_0 P) (.node (boot_o_1 P) (.node (o16 P) (.node (boot_o_7 P) (.node (top15.o_8 P) (.node (top15.o_24 P) (.node (top15.o_60 P) .nil .nil) (.node (top15.o_95 P) .nil .nil)) (.node (top15.o_44 P) (.node (top15.o_76 P) .nil .nil) .nil)) (.node (top15.o_16 P) (.node (top15.o_39 P) (.node (top15.o_68 P) .nil .nil) (.node (top15.o_103 P) .nil .nil)) (.node (top15.o_52 P) (.node (top15.o_87 P) .nil .nil) .nil))) (.node (top15.o_1 P) (.node (top15.o_12 P) (.node (top15.o_28 P) (.node (top15.o_64 P) .nil .nil) (.node (top15.o_99 P) .nil .nil)) (.node (top15.o_48 P) (.node (top15.o_83 P) .nil .nil) .nil)) (.node (top15.o_20 P) (.node (top15.o_40 P) (.node (top15.o_72 P) .nil .nil) (.node (top15.o_107 P) .nil .nil)) (.node (top15.o_56 P) (.node (top15.o_91 P) .nil .nil) .nil)))) (.node (boot_o_5 P) (.node (boot_o_9 P) (.node (top15.o_10 P) (.node (top15.o_26 P) (.node (top15.o_62 P) .nil .nil) (.node (top15.o_97 P) .nil .nil)) (.node (top15.o_46 P) (.node (top15.o_81 P) .nil .nil) .nil)) (.node (top15.o_18 P) (.node (top15.o_34 P) (.node (top15.o_70 P) .nil .nil) (.node (top15.o_105 P) .nil .nil)) (.node (top15.o_54 P) (.node (top15.o_89 P) .nil .nil) .nil))) (.node (top15.o_3 P) (.node (top15.o_14 P) (.node (top15.o_30 P) (.node (top15.o_66 P) .nil .nil) (.node (top15.o_101 P) .nil .nil)) (.node (top15.o_50 P) (.node (top15.o_85 P) .nil .nil) .nil)) (.node (top15.o_22 P) (.node (top15.o_42 P) (.node (top15.o_74 P) .nil .nil) (.node (top15.o_109 P) .nil .nil)) (.node (top15.o_58 P) (.node (top15.o_93 P) .nil .nil) .nil))))) (.node (top15.o_5 P) (.node (boot_o_4 P) (.node (boot_o_8 P) (.node (top15.o_9 P) (.node (top15.o_25 P) (.node (top15.o_61 P) .nil .nil) (.node (top15.o_96 P) .nil .nil)) (.node (top15.o_45 P) (.node (top15.o_77 P) .nil .nil) .nil)) (.node (top15.o_17 P) (.node (top15.o_33 P) (.node (top15.o_69 P) .nil .nil) (.node (top15.o_104 P) .nil .nil)) (.node (top15.o_53 P) (.node (top15.o_88 P) .nil .nil) .nil))) (.node (top15.o_80 P) (.node (top15.o_13 P) (.node (top15.o_29 P) (.node (top15.o_65 P) .nil .nil) (.node (top15.o_100 P) .nil .nil)) (.node (top15.o_49 P) (.node (top15.o_84 P) .nil .nil) .nil)) (.node (top15.o_21 P) (.node (top15.o_41 P) (.node (top15.o_73 P) .nil .nil) (.node (top15.o_108 P) .nil .nil)) (.node (top15.o_57 P) (.node (top15.o_92 P) .nil .nil) .nil)))) (.node (boot_o_6 P) (.node (boot_o_10 P) (.node (top15.o_11 P) (.node (top15.o_27 P) (.node (top15.o_63 P) .nil .nil) (.node (top15.o_98 P) .nil .nil)) (.node (top15.o_47 P) (.node (top15.o_82 P) .nil .nil) .nil)) (.node (top15.o_19 P) (.node (top15.o_35 P) (.node (top15.o_71 P) .nil .nil) (.node (top15.o_106 P) .nil .nil)) (.node (top15.o_55 P) (.node (top15.o_90 P) .nil .nil) .nil))) (.node (top15.o_4 P) (.node (top15.o_15 P) (.node (top15.o_31 P) (.node (top15.o_67 P) .nil .nil) (.node (top15.o_102 P) .nil .nil)) (.node (top15.o_51 P) (.node (top15.o_86 P) .nil .nil) .nil)) (.node (top15.o_23 P) (.node (top15.o_43 P) (.node (top15.o_75 P) .nil .nil) (.node (dO4 P) .nil .nil)) (.node (top15.o_59 P) (.node (top15.o_94 P) .nil .nil) .nil))))))
theorem t16_eq (P : Params) : t16 P = t16n P := by kernel_rfl
noncomputable def ha3 (P : Params) : Obj := { cls := Value.type "dict", data := Data.dict #[{ hash := PyData.keyHash P (Str.ofString "__name__"), key := Value.str (Str.ofString "__name__") 165, val := Value.str (Str.ofString "gitcore.packs") 311 }, { hash := PyData.keyHash P (Str.ofString "__doc__"), key := Value.str (Str.ofString "__doc__") 166, val := Value.none }, { hash := PyData.keyHash P (Str.ofString "__package__"), key := Value.str (Str.ofString "__package__") 167, val := Value.none }, { hash := PyData.keyHash P (Str.ofString "__loader__"), key := Value.str (Str.ofString "__loader__") 168, val := Value.builtin "__main__.__loader__#opaque" }, { hash := PyData.keyHash P (Str.ofString "__spec__"), key := Value.str (Str.ofString "__spec__") 169, val := Value.none }, { hash := PyData.keyHash P (Str.ofString "__annotations__"), key := Value.str (Str.ofString "__annotations__") 170, val := Value.ref 6 }, { hash := PyData.keyHash P (Str.ofString "__builtins__"), key := Value.str (Str.ofString "__builtins__") 171, val := Value.ref 4 }, { hash := PyData.keyHash P (Str.ofString "__file__"), key := Value.str (Str.ofString "__file__") 173, val := Value.str (Str.ofString "/claim/cut.py") 172 }, { hash := PyData.keyHash P (Str.ofString "__cached__"), key := Value.str (Str.ofString "__cached__") 174, val := Value.none }, { hash := PyData.keyHash P (Str.ofString "_wall"), key := Value.str (Str.ofString "_wall") 193, val := Value.ref 21 }, { hash := PyData.keyHash P (Str.ofString "GitError"), key := Value.str (Str.ofString "GitError") 225, val := Value.ref 39 }, { hash := PyData.keyHash P (Str.ofString "BadPack"), key := Value.str (Str.ofString "BadPack") 241, val := Value.ref 52 }, { hash := PyData.keyHash P (Str.ofString "big_endian"), key := Value.str (Str.ofString "big_endian") 247, val := Value.ref 59 }, { hash := PyData.keyHash P (Str.ofString "be32"), key := Value.str (Str.ofString "be32") 254, val := Value.ref 66 }, { hash := PyData.keyHash P (Str.ofString "put_size"), key := Value.str (Str.ofString "put_size") 262, val := Value.ref 73 }, { hash := PyData.keyHash P (Str.ofString "put_offset"), key := Value.str (Str.ofString "put_offset") 270, val := Value.ref 80 }, { hash := PyData.keyHash P (Str.ofString "CountingHasher"), key := Value.str (Str.ofString "CountingHasher") 310, val := Value.ref 105 }, { hash := PyData.keyHash P (Str.ofString "PACK_SIGN"), key := Value.str (Str.ofString "PACK_SIGN") 314, val := Value.bytes #[80, 65, 67, 75] 313 }, { hash := PyData.keyHash P (Str.ofString "PACK_VERSION"), key := Value.str (Str.ofString "PACK_VERSION") 316, val := Value.int 2 315 }, { hash := PyData.keyHash P (Str.ofString "PACK_HEAD_SIZE"), key := Value.str (Str.ofString "PACK_HEAD_SIZE") 318, val := Value.int 12 317 }, { hash := PyData.keyHash P (Str.ofString "OFFSET_DELTA"), key := Value.str (Str.ofString "OFFSET_DELTA") 320, val := Value.int 6 319 }, { hash := PyData.keyHash P (Str.ofString "ID_DELTA"), key := Value.str (Str.ofString "ID_DELTA") 322, val := Value.int 7 321 }, { hash := PyData.keyHash P (Str.ofString "KIND_NUMBERS"), key := Value.str (Str.ofString "KIND_NUMBERS") 335, val := Value.ref 110 }, { hash := PyData.keyHash P (Str.ofString "entry_head"), key := Value.str (Str.ofString "entry_head") 345, val := Value.ref 117 }, { hash := PyData.keyHash P (Str.ofString "PackEntry"), key := Value.str (Str.ofString "PackEntry") 389, val := Value.ref 142 }] 25 }
noncomputable def ha12 (P : Params) : Obj := { cls := Value.none, data := Data.fields #[Value.int 1 0, Value.int 0 0, Value.ref 20, Value.int 5 0, Value.int 0 0, Value.ref 27, Value.int 9 0, Value.int 0 0, Value.ref 48, Value.int 11 0, Value.int 0 0, Value.ref 58, Value.int 13 0, Value.int 0 0, Value.ref 65, Value.int 15 0, Value.int 0 0, Value.ref 72, Value.int 22 0, Value.int 0 0, Value.ref 79, Value.int 30 0, Value.int 0 0, Value.ref 86, Value.int 48 0, Value.int 0 0, Value.ref 116, Value.int 58 0, Value.int 0 0, Value.ref 123] }
noncomputable def ha111 (P : Params) : Obj := { cls := Value.type "tuple", data := Data.seq #[] }
noncomputable def ha112 (P : Params) : Obj := { cls := Value.none, data := Data.fields #[] }
noncomputable def ha113 (P : Params) : Obj := { cls := Value.type "tuple", data := Data.seq #[Value.str (Str.ofString "number") 339, Value.str (Str.ofString "size") 340, Value.str (Str.ofString "piece") 341, Value.str (Str.ofString "out") 342] }
noncomputable def ha114 (P : Params) : Obj := { cls := Value.type "tuple", data := Data.seq #[] }
noncomputable def ha115 (P : Params) : Obj := { cls := Value.none, data := Data.func { name := Str.ofString "entry_head", qualname := Str.ofString "entry_head", params := fArgs (sAt 16), body := FuncBody.stmts (fBody (sAt 16)), scope := fScope (sAt 16), globals := 0, closure := [], defaults := Value.none, kwdefaults := Value.none } }
noncomputable def ha116 (P : Params) : Obj := { cls := Value.type "code", data := Data.fields #[Value.str (Str.ofString "entry_head") 336, Value.str (Str.ofString "entry_head") 337, Value.str (Str.ofString "/claim/cut.py") 338, Value.int 48 0, Value.int 2 0, Value.int 0 0, Value.int 0 0, Value.int 3 0, Value.ref 111, Value.bool Bool.true, Value.int 181 0, Value.ref 112, Value.none, Value.ref 113, Value.ref 114, Value.ref 115, Value.int 343 0, Value.int 48 0, Value.str (Str.ofString "/claim/cut.py") 344] }
noncomputable def ha117 (P : Params) : Obj := { cls := Value.type "function", data := Data.func { name := Str.ofString "entry_head", qualname := Str.ofString "entry_head", params := fArgs (sAt 16), body := FuncBody.stmts (fBody (sAt 16)), scope := fScope (sAt 16), globals := 3, closure := [], defaults := Value.none, kwdefaults := Value.none, pyModule := Value.str (Str.ofString "gitcore.packs") 311, code := Value.ref 116 } }
noncomputable def ha118 (P : Params) : Obj := { cls := Value.type "tuple", data := Data.seq #[] }
noncomputable def ha119 (P : Params) : Obj := { cls := Value.type "builtin_function_or_method", data := Data.fields #[Value.builtin "type.__prepare__", Value.type "type"] }
noncomputable def ha120 (P : Params) : Obj := { cls := Value.type "dict", data := Data.dict #[{ hash := PyData.keyHash P (Str.ofString "__module__"), key := Value.str (Str.ofString "__module__") 353, val := Value.str (Str.ofString "gitcore.packs") 311 }, { hash := PyData.keyHash P (Str.ofString "__qualname__"), key := Value.str (Str.ofString "__qualname__") 355, val := Value.str (Str.ofString "PackEntry") 354 }, { hash := PyData.keyHash P (Str.ofString "__firstlineno__"), key := Value.str (Str.ofString "__firstlineno__") 357, val := Value.int 58 356 }, { hash := PyData.keyHash P (Str.ofString "__init__"), key := Value.str (Str.ofString "__init__") 369, val := Value.ref 132 }, { hash := PyData.keyHash P (Str.ofString "is_delta"), key := Value.str (Str.ofString "is_delta") 376, val := Value.ref 139 }, { hash := PyData.keyHash P (Str.ofString "__static_attributes__"), key := Value.str (Str.ofString "__static_attributes__") 382, val := Value.ref 140 }] 6 }
noncomputable def ha121 (P : Params) : Obj := { cls := Value.type "tuple", data := Data.seq #[] }
noncomputable def ha122 (P : Params) : Obj := { cls := Value.none, data := Data.fields #[Value.int 60 0, Value.int 4 0, Value.ref 131, Value.int 67 0, Value.int 4 0, Value.ref 138] }
noncomputable def ha123 (P : Params) : Obj := { cls := Value.type "code", data := Data.fields #[Value.str (Str.ofString "PackEntry") 348, Value.str (Str.ofString "PackEntry") 349, Value.str (Str.ofString "/claim/cut.py") 350, Value.int 58 0, Value.int 0 0, Value.int 0 0, Value.int 0 0, Value.int 0 0, Value.ref 121, Value.bool Bool.false, Value.int 181 0, Value.ref 122, Value.none, Value.none, Value.none, Value.none, Value.int 351 0, Value.int 58 0, Value.str (Str.ofString "/claim/cut.py") 352] }
noncomputable def ha124 (P : Params) : Obj := { cls := Value.type "frame", slots := #[Option.some (Value.ref 123), Option.some (Value.ref 3), Option.some (Value.ref 120), Option.none, Option.some (Value.str (Str.ofString "gitcore.packs") 311), Option.none, Option.some (Value.ref 0)] }
noncomputable def ha125 (P : Params) : Obj := { cls := Value.type "tuple", data := Data.seq #[Value.none, Value.none, Value.none] }
noncomputable def ha126 (P : Params) : Obj := { cls := Value.type "tuple", data := Data.seq #[] }
noncomputable def ha127 (P : Params) : Obj := { cls := Value.none, data := Data.fields #[] }
noncomputable def ha128 (P : Params) : Obj := { cls := Value.type "tuple", data := Data.seq #[Value.str (Str.ofString "self") 361, Value.str (Str.ofString "oid") 362, Value.str (Str.ofString "kind") 363, Value.str (Str.ofString "content") 364, Value.str (Str.ofString "base") 365, Value.str (Str.ofString "delta") 366] }
noncomputable def ha129 (P : Params) : Obj := { cls := Value.type "tuple", data := Data.seq #[] }
noncomputable def ha130 (P : Params) : Obj := { cls := Value.none, data := Data.func { name := Str.ofString "__init__", qualname := Str.ofString "PackEntry.__init__", params := fArgs (mAt 17 0), body := FuncBody.stmts (fBody (mAt 17 0)), scope := fScope (mAt 17 0), globals := 0, closure := [], defaults := Value.none, kwdefaults := Value.none } }
noncomputable def ha131 (P : Params) : Obj := { cls := Value.type "code", data := Data.fields #[Value.str (Str.ofString "__init__") 358, Value.str (Str.ofString "PackEntry.__init__") 359, Value.str (Str.ofString "/claim/cut.py") 360, Value.int 60 0, Value.int 6 0, Value.int 0 0, Value.int 0 0, Value.int 3 0, Value.ref 126, Value.bool Bool.true, Value.int 181 0, Value.ref 127, Value.none, Value.ref 128, Value.ref 129, Value.ref 130, Value.int 367 0, Value.int 60 0, Value.str (Str.ofString "/claim/cut.py") 368] }
noncomputable def ha132 (P : Params) : Obj := { cls := Value.type "function", data := Data.func { name := Str.ofString "__init__", qualname := Str.ofString "PackEntry.__init__", params := fArgs (mAt 17 0), body := FuncBody.stmts (fBody (mAt 17 0)), scope := fScope (mAt 17 0), globals := 3, closure := [], defaults := Value.ref 125, kwdefaults := Value.none, pyModule := Value.str (Str.ofString "gitcore.packs") 311, code := Value.ref 131 } }
noncomputable def ha133 (P : Params) : Obj := { cls := Value.type "tuple", data := Data.seq #[] }
noncomputable def ha134 (P : Params) : Obj := { cls := Value.none, data := Data.fields #[] }
noncomputable def ha135 (P : Params) : Obj := { cls := Value.type "tuple", data := Data.seq #[Value.str (Str.ofString "self") 373] }
noncomputable def ha136 (P : Params) : Obj := { cls := Value.type "tuple", data := Data.seq #[] }
noncomputable def ha137 (P : Params) : Obj := { cls := Value.none, data := Data.func { name := Str.ofString "is_delta", qualname := Str.ofString "PackEntry.is_delta", params := fArgs (mAt 17 1), body := FuncBody.stmts (fBody (mAt 17 1)), scope := fScope (mAt 17 1), globals := 0, closure := [], defaults := Value.none, kwdefaults := Value.none } }
noncomputable def ha138 (P : Params) : Obj := { cls := Value.type "code", data := Data.fields #[Value.str (Str.ofString "is_delta") 370, Value.str (Str.ofString "PackEntry.is_delta") 371, Value.str (Str.ofString "/claim/cut.py") 372, Value.int 67 0, Value.int 1 0, Value.int 0 0, Value.int 0 0, Value.int 3 0, Value.ref 133, Value.bool Bool.true, Value.int 181 0, Value.ref 134, Value.none, Value.ref 135, Value.ref 136, Value.ref 137, Value.int 374 0, Value.int 67 0, Value.str (Str.ofString "/claim/cut.py") 375] }
noncomputable def ha139 (P : Params) : Obj := { cls := Value.type "function", data := Data.func { name := Str.ofString "is_delta", qualname := Str.ofString "PackEntry.is_delta", params := fArgs (mAt 17 1), body := FuncBody.stmts (fBody (mAt 17 1)), scope := fScope (mAt 17 1), globals := 3, closure := [], defaults := Value.none, kwdefaults := Value.none, pyModule := Value.str (Str.ofString "gitcore.packs") 311, code := Value.ref 138 } }
noncomputable def ha140 (P : Params) : Obj := { cls := Value.type "tuple", data := Data.seq #[Value.str (Str.ofString "base") 377, Value.str (Str.ofString "content") 378, Value.str (Str.ofString "delta") 379, Value.str (Str.ofString "kind") 380, Value.str (Str.ofString "oid") 381] }
noncomputable def ha141 (P : Params) : Obj := { cls := Value.type "dict", data := Data.dict #[{ hash := PyData.keyHash P (Str.ofString "__module__"), key := Value.str (Str.ofString "__module__") 353, val := Value.str (Str.ofString "gitcore.packs") 311 }, { hash := PyData.keyHash P (Str.ofString "__firstlineno__"), key := Value.str (Str.ofString "__firstlineno__") 357, val := Value.int 58 356 }, { hash := PyData.keyHash P (Str.ofString "__init__"), key := Value.str (Str.ofString "__init__") 369, val := Value.ref 132 }, { hash := PyData.keyHash P (Str.ofString "is_delta"), key := Value.str (Str.ofString "is_delta") 376, val := Value.ref 139 }, { hash := PyData.keyHash P (Str.ofString "__static_attributes__"), key := Value.str (Str.ofString "__static_attributes__") 382, val := Value.ref 140 }, { hash := PyData.keyHash P (Str.ofString "__dict__"), key := Value.str (Str.ofString "__dict__") 384, val := Value.ref 143 }, { hash := PyData.keyHash P (Str.ofString "__weakref__"), key := Value.str (Str.ofString "__weakref__") 386, val := Value.ref 144 }, { hash := PyData.keyHash P (Str.ofString "__doc__"), key := Value.str (Str.ofString "__doc__") 387, val := Value.none }] 4 }
noncomputable def ha142 (P : Params) : Obj := { cls := Value.type "type", data := Data.cls { name := Str.ofString "PackEntry", bases := [Value.type "object"], mro := [Value.ref 142, Value.type "object"], ns := 141, qualname := Str.ofString "PackEntry" }, slots := #[Option.none, Option.none, Option.some (Value.str (Str.ofString "PackEntry") 346), Option.some (Value.str (Str.ofString "PackEntry") 354), Option.some (Value.builtin "object.__new__"), Option.some (Value.bool Bool.true)] }
noncomputable def ha143 (P : Params) : Obj := { cls := Value.type "getset_descriptor", data := Data.fields #[Value.str (Str.ofString "__dict__") 383, Value.ref 142, Value.builtin "function.__dict__", Value.builtin "function.__dict__#set"] }
noncomputable def ha144 (P : Params) : Obj := { cls := Value.type "getset_descriptor", data := Data.fields #[Value.str (Str.ofString "__weakref__") 385, Value.ref 142, Value.builtin "ExceptionGroup.__weakref__", Value.none] }
noncomputable def ha145 (P : Params) : Obj := { cls := Value.type "super", data := Data.fields #[Value.ref 142, Value.ref 142, Value.ref 142] }
noncomputable def ha146 (P : Params) : Obj := { cls := Value.type "builtin_function_or_method", data := Data.fields #[Value.builtin "object.__init_subclass__", Value.ref 142] }
noncomputable def ta (P : Params) : BT := (.node (boot_o_0 P) (.node (boot_o_1 P) (.node (ha3 P) (.node (boot_o_7 P) (.node (top15.o_8 P) (.node (top15.o_24 P) (.node (top15.o_60 P) (.node (ha127 P) .nil .nil) .nil) (.node (top15.o_95 P) .nil .nil)) (.node (top15.o_44 P) (.node (top15.o_76 P) (.node (ha143 P) .nil .nil) .nil) (.node (ha111 P) .nil .nil))) (.node (top15.o_16 P) (.node (top15.o_39 P) (.node (top15.o_68 P) (.node (ha135 P) .nil .nil) .nil) (.node (top15.o_103 P) .nil .nil)) (.node (top15.o_52 P) (.node (top15.o_87 P) .nil .nil) (.node (ha119 P) .nil .nil)))) (.node (top15.o_1 P) (.node (top15.o_12 P) (.node (top15.o_28 P) (.node (top15.o_64 P) (.node (ha131 P) .nil .nil) .nil) (.node (top15.o_99 P) .nil .nil)) (.node (top15.o_48 P) (.node (top15.o_83 P) .nil .nil) (.node (ha115 P) .nil .nil))) (.node (top15.o_20 P) (.node (top15.o_40 P) (.node (top15.o_72 P) (.node (ha139 P) .nil .nil) .nil) (.node (top15.o_107 P) .nil .nil)) (.node (top15.o_56 P) (.node (top15.o_91 P) .nil .nil) (.node (ha123 P) .nil .nil))))) (.node (boot_o_5 P) (.node (boot_o_9 P) (.node (top15.o_10 P) (.node (top15.o_26 P) (.node (top15.o_62 P) (.node (ha129 P) .nil .nil) .nil) (.node (top15.o_97 P) .nil .nil)) (.node (top15.o_46 P) (.node (top15.o_81 P) (.node (ha145 P) .nil .nil) .nil) (.node (ha113 P) .nil .nil))) (.node (top15.o_18 P) (.node (top15.o_34 P) (.node (top15.o_70 P) (.node (ha137 P) .nil .nil) .nil) (.node (top15.o_105 P) .nil .nil)) (.node (top15.o_54 P) (.node (top15.o_89 P) .nil .nil) (.node (ha121 P) .nil .nil)))) (.node (top15.o_3 P) (.node (top15.o_14 P) (.node (top15.o_30 P) (.node (top15.o_66 P) (.node (ha133 P) .nil .nil) .nil) (.node (top15.o_101 P) .nil .nil)) (.node (top15.o_50 P) (.node (top15.o_85 P) .nil .nil) (.node (ha117 P) .nil .nil))) (.node (top15.o_22 P) (.node (top15.o_42 P) (.node (top15.o_74 P) (.node (ha141 P) .nil .nil) .nil) (.node (top15.o_109 P) .nil .nil)) (.node (top15.o_58 P) (.node (top15.o_93 P) .nil .nil) (.node (ha125 P) .nil .nil)))))) (.node (top15.o_5 P) (.node (boot_o_4 P) (.node (boot_o_8 P) (.node (top15.o_9 P) (.node (top15.o_25 P) (.node (top15.o_61 P) (.node (ha128 P) .nil .nil) .nil) (.node (top15.o_96 P) .nil .nil)) (.node (top15.o_45 P) (.node (top15.o_77 P) (.node (ha144 P) .nil .nil) .nil) (.node (ha112 P) .nil .nil))) (.node (top15.o_17 P) (.node (top15.o_33 P) (.node (top15.o_69 P) (.node (ha136 P) .nil .nil) .nil) (.node (top15.o_104 P) .nil .nil)) (.node (top15.o_53 P) (.node (top15.o_88 P) .nil .nil) (.node (ha120 P) .nil .nil)))) (.node (ha12 P) (.node (top15.o_13 P) (.node (top15.o_29 P) (.node (top15.o_65 P) (.node (ha132 P) .nil .nil) .nil) (.node (top15.o_100 P) .nil .nil)) (.node (top15.o_49 P) (.node (top15.o_84 P) .nil .nil) (.node (ha116 P) .nil .nil))) (.node (top15.o_21 P) (.node (top15.o_41 P) (.node (top15.o_73 P) (.node (ha140 P) .nil .nil) .nil) (.node (top15.o_108 P) .nil .nil)) (.node (top15.o_57 P) (.node (top15.o_92 P) .nil .nil) (.node (ha124 P) .nil .nil))))) (.node (boot_o_6 P) (.node (boot_o_10 P) (.node (top15.o_11 P) (.node (top15.o_27 P) (.node (top15.o_63 P) (.node (ha130 P) .nil .nil) .nil) (.node (top15.o_98 P) .nil .nil)) (.node (top15.o_47 P) (.node (top15.o_82 P) (.node (ha146 P) .nil .nil) .nil) (.node (ha114 P) .nil .nil))) (.node (top15.o_19 P) (.node (top15.o_35 P) (.node (top15.o_71 P) (.node (ha138 P) .nil .nil) .nil) (.node (top15.o_106 P) .nil .nil)) (.node (top15.o_55 P) (.node (top15.o_90 P) .nil .nil) (.node (ha122 P) .nil .nil)))) (.node (top15.o_4 P) (.node (top15.o_15 P) (.node (top15.o_31 P) (.node (top15.o_67 P) (.node (ha134 P) .nil .nil) .nil) (.node (top15.o_102 P) .nil .nil)) (.node (top15.o_51 P) (.node (top15.o_86 P) .nil .nil) (.node (ha118 P) .nil .nil))) (.node (top15.o_23 P) (.node (top15.o_43 P) (.node (top15.o_75 P) (.node (ha142 P) .nil .nil) .nil) (.node (dO4 P) .nil .nil)) (.node (top15.o_59 P) (.node (top15.o_94 P) .nil .nil) (.node (ha126 P) .nil .nil)))))))
noncomputable def stsa : List Stmt := ((behindTheImports PRG).drop 16).take 2
theorem runa (b : List Stmt) (w : World) (os : OsState) : segRunT treeTable PRG w 11 annM 1 295 ⟨t16n w.params, 111, {}, ⟨[]⟩, {}, 336, os⟩ (piecesOf stsa top15.env_1 (cB b) ⟨47, 0, 47, 12⟩ [topFrame q0]) = some (.next, ⟨ta w.params, 147, {}, ⟨[]⟩, {}, 390, os⟩, cB b, ⟨58, 0, 68, 63⟩) := by kernel_rfl
noncomputable def hb3 (P : Params) : Obj := { cls := Value.type "dict", data := Data.dict #[{ hash := PyData.keyHash P (Str.ofString "__name__"), key := Value.str (Str.ofString "__name__") 165, val := Value.str (Str.ofString "gitcore.deflate") 464 }, { hash := PyData.keyHash P (Str.ofString "__doc__"), key := Value.str (Str.ofString "__doc__") 166, val := Value.none }, { hash := PyData.keyHash P (Str.ofString "__package__"), key := Value.str (Str.ofString "__package__") 167, val := Value.none }, { hash := PyData.keyHash P (Str.ofString "__loader__"), key := Value.str (Str.ofString "__loader__") 168, val := Value.builtin "__main__.__loader__#opaque" }, { hash := PyData.keyHash P (Str.ofString "__spec__"), key := Value.str (Str.ofString "__spec__") 169, val := Value.none }, { hash := PyData.keyHash P (Str.ofString "__annotations__"), key := Value.str (Str.ofString "__annotations__") 170, val := Value.ref 6 }, { hash := PyData.keyHash P (Str.ofString "__builtins__"), key := Value.str (Str.ofString "__builtins__") 171, val := Value.ref 4 }, { hash := PyData.keyHash P (Str.ofString "__file__"), key := Value.str (Str.ofString "__file__") 173, val := Value.str (Str.ofString "/claim/cut.py") 172 }, { hash := PyData.keyHash P (Str.ofString "__cached__"), key := Value.str (Str.ofString "__cached__") 174, val := Value.none }, { hash := PyData.keyHash P (Str.ofString "_wall"), key := Value.str (Str.ofString "_wall") 193, val := Value.ref 21 }, { hash := PyData.keyHash P (Str.ofString "GitError"), key := Value.str (Str.ofString "GitError") 225, val := Value.ref 39 }, { hash := PyData.keyHash P (Str.ofString "BadPack"), key := Value.str (Str.ofString "BadPack") 241, val := Value.ref 52 }, { hash := PyData.keyHash P (Str.ofString "big_endian"), key := Value.str (Str.ofString "big_endian") 247, val := Value.ref 59 }, { hash := PyData.keyHash P (Str.ofString "be32"), key := Value.str (Str.ofString "be32") 254, val := Value.ref 66 }, { hash := PyData.keyHash P (Str.ofString "put_size"), key := Value.str (Str.ofString "put_size") 262, val := Value.ref 73 }, { hash := PyData.keyHash P (Str.ofString "put_offset"), key := Value.str (Str.ofString "put_offset") 270, val := Value.ref 80 }, { hash := PyData.keyHash P (Str.ofString "CountingHasher"), key := Value.str (Str.ofString "CountingHasher") 310, val := Value.ref 105 }, { hash := PyData.keyHash P (Str.ofString "PACK_SIGN"), key := Value.str (Str.ofString "PACK_SIGN") 314, val := Value.bytes #[80, 65, 67, 75] 313 }, { hash := PyData.keyHash P (Str.ofString "PACK_VERSION"), key := Value.str (Str.ofString "PACK_VERSION") 316, val := Value.int 2 315 }, { hash := PyData.keyHash P (Str.ofString "PACK_HEAD_SIZE"), key := Value.str (Str.ofString "PACK_HEAD_SIZE") 318, val := Value.int 12 317 }, { hash := PyData.keyHash P (Str.ofString "OFFSET_DELTA"), key := Value.str (Str.ofString "OFFSET_DELTA") 320, val := Value.int 6 319 }, { hash := PyData.keyHash P (Str.ofString "ID_DELTA"), key := Value.str (Str.ofString "ID_DELTA") 322, val := Value.int 7 321 }, { hash := PyData.keyHash P (Str.ofString "KIND_NUMBERS"), key := Value.str (Str.ofString "KIND_NUMBERS") 335, val := Value.ref 110 }, { hash := PyData.keyHash P (Str.ofString "entry_head"), key := Value.str (Str.ofString "entry_head") 345, val := Value.ref 117 }, { hash := PyData.keyHash P (Str.ofString "PackEntry"), key := Value.str (Str.ofString "PackEntry") 389, val := Value.ref 142 }, { hash := PyData.keyHash P (Str.ofString "PackBuilder"), key := Value.str (Str.ofString "PackBuilder") 453, val := Value.ref 185 }, { hash := PyData.keyHash P (Str.ofString "pack_closed"), key := Value.str (Str.ofString "pack_closed") 463, val := Value.ref 196 }] 27 }
noncomputable def hb12 (P : Params) : Obj := { cls := Value.none, data := Data.fields #[Value.int 1 0, Value.int 0 0, Value.ref 20, Value.int 5 0, Value.int 0 0, Value.ref 27, Value.int 9 0, Value.int 0 0, Value.ref 48, Value.int 11 0, Value.int 0 0, Value.ref 58, Value.int 13 0, Value.int 0 0, Value.ref 65, Value.int 15 0, Value.int 0 0, Value.ref 72, Value.int 22 0, Value.int 0 0, Value.ref 79, Value.int 30 0, Value.int 0 0, Value.ref 86, Value.int 48 0, Value.int 0 0, Value.ref 116, Value.int 58 0, Value.int 0 0, Value.ref 123, Value.int 69 0, Value.int 0 0, Value.ref 152, Value.int 103 0, Value.int 0 0, Value.ref 195] }
noncomputable def hb147 (P : Params) : Obj := { cls := Value.type "tuple", data := Data.seq #[] }
noncomputable def hb148 (P : Params) : Obj := { cls := Value.type "builtin_function_or_method", data := Data.fields #[Value.builtin "type.__prepare__", Value.type "type"] }
noncomputable def hb149 (P : Params) : Obj := { cls := Value.type "dict", data := Data.dict #[{ hash := PyData.keyHash P (Str.ofString "__module__"), key := Value.str (Str.ofString "__module__") 397, val := Value.str (Str.ofString "gitcore.packs") 311 }, { hash := PyData.keyHash P (Str.ofString "__qualname__"), key := Value.str (Str.ofString "__qualname__") 399, val := Value.str (Str.ofString "PackBuilder") 398 }, { hash := PyData.keyHash P (Str.ofString "__firstlineno__"), key := Value.str (Str.ofString "__firstlineno__") 401, val := Value.int 69 400 }, { hash := PyData.keyHash P (Str.ofString "__init__"), key := Value.str (Str.ofString "__init__") 411, val := Value.ref 161 }, { hash := PyData.keyHash P (Str.ofString "piece_of"), key := Value.str (Str.ofString "piece_of") 422, val := Value.ref 168 }, { hash := PyData.keyHash P (Str.ofString "add"), key := Value.str (Str.ofString "add") 432, val := Value.ref 175 }, { hash := PyData.keyHash P (Str.ofString "close"), key := Value.str (Str.ofString "close") 439, val := Value.ref 182 }, { hash := PyData.keyHash P (Str.ofString "__static_attributes__"), key := Value.str (Str.ofString "__static_attributes__") 446, val := Value.ref 183 }] 8 }
noncomputable def hb150 (P : Params) : Obj := { cls := Value.type "tuple", data := Data.seq #[] }
noncomputable def hb151 (P : Params) : Obj := { cls := Value.none, data := Data.fields #[Value.int 71 0, Value.int 4 0, Value.ref 160, Value.int 79 0, Value.int 4 0, Value.ref 167, Value.int 91 0, Value.int 4 0, Value.ref 174, Value.int 101 0, Value.int 4 0, Value.ref 181] }
noncomputable def hb152 (P : Params) : Obj := { cls := Value.type "code", data := Data.fields #[Value.str (Str.ofString "PackBuilder") 392, Value.str (Str.ofString "PackBuilder") 393, Value.str (Str.ofString "/claim/cut.py") 394, Value.int 69 0, Value.int 0 0, Value.int 0 0, Value.int 0 0, Value.int 0 0, Value.ref 150, Value.bool Bool.false, Value.int 181 0, Value.ref 151, Value.none, Value.none, Value.none, Value.none, Value.int 395 0, Value.int 69 0, Value.str (Str.ofString "/claim/cut.py") 396] }
noncomputable def hb153 (P : Params) : Obj := { cls := Value.type "frame", slots := #[Option.some (Value.ref 152), Option.some (Value.ref 3), Option.some (Value.ref 149), Option.none, Option.some (Value.str (Str.ofString "gitcore.packs") 311), Option.none, Option.some (Value.ref 0)] }
noncomputable def hb154 (P : Params) : Obj := { cls := Value.type "tuple", data := Data.seq #[Value.bool Bool.true] }
noncomputable def hb155 (P : Params) : Obj := { cls := Value.type "tuple", data := Data.seq #[] }
noncomputable def hb156 (P : Params) : Obj := { cls := Value.none, data := Data.fields #[] }
noncomputable def hb157 (P : Params) : Obj := { cls := Value.type "tuple", data := Data.seq #[Value.str (Str.ofString "self") 405, Value.str (Str.ofString "hasher") 406, Value.str (Str.ofString "codec") 407, Value.str (Str.ofString "by_offset") 408] }
noncomputable def hb158 (P : Params) : Obj := { cls := Value.type "tuple", data := Data.seq #[] }
noncomputable def hb159 (P : Params) : Obj := { cls := Value.none, data := Data.func { name := Str.ofString "__init__", qualname := Str.ofString "PackBuilder.__init__", params := fArgs (mAt 18 0), body := FuncBody.stmts (fBody (mAt 18 0)), scope := fScope (mAt 18 0), globals := 0, closure := [], defaults := Value.none, kwdefaults := Value.none } }
noncomputable def hb160 (P : Params) : Obj := { cls := Value.type "code", data := Data.fields #[Value.str (Str.ofString "__init__") 402, Value.str (Str.ofString "PackBuilder.__init__") 403, Value.str (Str.ofString "/claim/cut.py") 404, Value.int 71 0, Value.int 4 0, Value.int 0 0, Value.int 0 0, Value.int 3 0, Value.ref 155, Value.bool Bool.true, Value.int 181 0, Value.ref 156, Value.none, Value.ref 157, Value.ref 158, Value.ref 159, Value.int 409 0, Value.int 71 0, Value.str (Str.ofString "/claim/cut.py") 410] }
noncomputable def hb161 (P : Params) : Obj := { cls := Value.type "function", data := Data.func { name := Str.ofString "__init__", qualname := Str.ofString "PackBuilder.__init__", params := fArgs (mAt 18 0), body := FuncBody.stmts (fBody (mAt 18 0)), scope := fScope (mAt 18 0), globals := 3, closure := [], defaults := Value.ref 154, kwdefaults := Value.none, pyModule := Value.str (Str.ofString "gitcore.packs") 311, code := Value.ref 160 } }
noncomputable def hb162 (P : Params) : Obj := { cls := Value.type "tuple", data := Data.seq #[] }
noncomputable def hb163 (P : Params) : Obj := { cls := Value.none, data := Data.fields #[] }
noncomputable def hb164 (P : Params) : Obj := { cls := Value.type "tuple", data := Data.seq #[Value.str (Str.ofString "self") 415, Value.str (Str.ofString "entry") 416, Value.str (Str.ofString "number") 417, Value.str (Str.ofString "packed") 418, Value.str (Str.ofString "back") 419] }
noncomputable def hb165 (P : Params) : Obj := { cls := Value.type "tuple", data := Data.seq #[] }
noncomputable def hb166 (P : Params) : Obj := { cls := Value.none, data := Data.func { name := Str.ofString "piece_of", qualname := Str.ofString "PackBuilder.piece_of", params := fArgs (mAt 18 1), body := FuncBody.stmts (fBody (mAt 18 1)), scope := fScope (mAt 18 1), globals := 0, closure := [], defaults := Value.none, kwdefaults := Value.none } }
noncomputable def hb167 (P : Params) : Obj := { cls := Value.type "code", data := Data.fields #[Value.str (Str.ofString "piece_of") 412, Value.str (Str.ofString "PackBuilder.piece_of") 413, Value.str (Str.ofString "/claim/cut.py") 414, Value.int 79 0, Value.int 2 0, Value.int 0 0, Value.int 0 0, Value.int 3 0, Value.ref 162, Value.bool Bool.true, Value.int 181 0, Value.ref 163, Value.none, Value.ref 164, Value.ref 165, Value.ref 166, Value.int 420 0, Value.int 79 0, Value.str (Str.ofString "/claim/cut.py") 421] }
noncomputable def hb168 (P : Params) : Obj := { cls := Value.type "function", data := Data.func { name := Str.ofString "piece_of", qualname := Str.ofString "PackBuilder.piece_of", params := fArgs (mAt 18 1), body := FuncBody.stmts (fBody (mAt 18 1)), scope := fScope (mAt 18 1), globals := 3, closure := [], defaults := Value.none, kwdefaults := Value.none, pyModule := Value.str (Str.ofString "gitcore.packs") 311, code := Value.ref 167 } }
noncomputable def hb169 (P : Params) : Obj := { cls := Value.type "tuple", data := Data.seq #[] }
noncomputable def hb170 (P : Params) : Obj := { cls := Value.none, data := Data.fields #[] }
noncomputable def hb171 (P : Params) : Obj := { cls := Value.type "tuple", data := Data.seq #[Value.str (Str.ofString "self") 426, Value.str (Str.ofString "entry") 427, Value.str (Str.ofString "piece") 428, Value.str (Str.ofString "place") 429] }
noncomputable def hb172 (P : Params) : Obj := { cls := Value.type "tuple", data := Data.seq #[] }
noncomputable def hb173 (P : Params) : Obj := { cls := Value.none, data := Data.func { name := Str.ofString "add", qualname := Str.ofString "PackBuilder.add", params := fArgs (mAt 18 2), body := FuncBody.stmts (fBody (mAt 18 2)), scope := fScope (mAt 18 2), globals := 0, closure := [], defaults := Value.none, kwdefaults := Value.none } }
noncomputable def hb174 (P : Params) : Obj := { cls := Value.type "code", data := Data.fields #[Value.str (Str.ofString "add") 423, Value.str (Str.ofString "PackBuilder.add") 424, Value.str (Str.ofString "/claim/cut.py") 425, Value.int 91 0, Value.int 2 0, Value.int 0 0, Value.int 0 0, Value.int 3 0, Value.ref 169, Value.bool Bool.true, Value.int 181 0, Value.ref 170, Value.none, Value.ref 171, Value.ref 172, Value.ref 173, Value.int 430 0, Value.int 91 0, Value.str (Str.ofString "/claim/cut.py") 431] }
noncomputable def hb175 (P : Params) : Obj := { cls := Value.type "function", data := Data.func { name := Str.ofString "add", qualname := Str.ofString "PackBuilder.add", params := fArgs (mAt 18 2), body := FuncBody.stmts (fBody (mAt 18 2)), scope := fScope (mAt 18 2), globals := 3, closure := [], defaults := Value.none, kwdefaults := Value.none, pyModule := Value.str (Str.ofString "gitcore.packs") 311, code := Value.ref 174 } }
noncomputable def hb176 (P : Params) : Obj := { cls := Value.type "tuple", data := Data.seq #[] }
noncomputable def hb177 (P : Params) : Obj := { cls := Value.none, data := Data.fields #[] }
noncomputable def hb178 (P : Params) : Obj := { cls := Value.type "tuple", data := Data.seq #[Value.str (Str.ofString "self") 436] }
noncomputable def hb179 (P : Params) : Obj := { cls := Value.type "tuple", data := Data.seq #[] }
noncomputable def hb180 (P : Params) : Obj := { cls := Value.none, data := Data.func { name := Str.ofString "close", qualname := Str.ofString "PackBuilder.close", params := fArgs (mAt 18 3), body := FuncBody.stmts (fBody (mAt 18 3)), scope := fScope (mAt 18 3), globals := 0, closure := [], defaults := Value.none, kwdefaults := Value.none } }
noncomputable def hb181 (P : Params) : Obj := { cls := Value.type "code", data := Data.fields #[Value.str (Str.ofString "close") 433, Value.str (Str.ofString "PackBuilder.close") 434, Value.str (Str.ofString "/claim/cut.py") 435, Value.int 101 0, Value.int 1 0, Value.int 0 0, Value.int 0 0, Value.int 3 0, Value.ref 176, Value.bool Bool.true, Value.int 181 0, Value.ref 177, Value.none, Value.ref 178, Value.ref 179, Value.ref 180, Value.int 437 0, Value.int 101 0, Value.str (Str.ofString "/claim/cut.py") 438] }
noncomputable def hb182 (P : Params) : Obj := { cls := Value.type "function", data := Data.func { name := Str.ofString "close", qualname := Str.ofString "PackBuilder.close", params := fArgs (mAt 18 3), body := FuncBody.stmts (fBody (mAt 18 3)), scope := fScope (mAt 18 3), globals := 3, closure := [], defaults := Value.none, kwdefaults := Value.none, pyModule := Value.str (Str.ofString "gitcore.packs") 311, code := Value.ref 181 } }
noncomputable def hb183 (P : Params) : Obj := { cls := Value.type "tuple", data := Data.seq #[Value.str (Str.ofString "by_offset") 440, Value.str (Str.ofString "codec") 441, Value.str (Str.ofString "hasher") 442, Value.str (Str.ofString "length") 443, Value.str (Str.ofString "pieces") 444, Value.str (Str.ofString "places") 445] }
noncomputable def hb184 (P : Params) : Obj := { cls := Value.type "dict", data := Data.dict #[{ hash := PyData.keyHash P (Str.ofString "__module__"), key := Value.str (Str.ofString "__module__") 397, val := Value.str (Str.ofString "gitcore.packs") 311 }, { hash := PyData.keyHash P (Str.ofString "__firstlineno__"), key := Value.str (Str.ofString "__firstlineno__") 401, val := Value.int 69 400 }, { hash := PyData.keyHash P (Str.ofString "__init__"), key := Value.str (Str.ofString "__init__") 411, val := Value.ref 161 }, { hash := PyData.keyHash P (Str.ofString "piece_of"), key := Value.str (Str.ofString "piece_of") 422, val := Value.ref 168 }, { hash := PyData.keyHash P (Str.ofString "add"), key := Value.str (Str.ofString "add") 432, val := Value.ref 175 }, { hash := PyData.keyHash P (Str.ofString "close"), key := Value.str (Str.ofString "close") 439, val := Value.ref 182 }, { hash := PyData.keyHash P (Str.ofString "__static_attributes__"), key := Value.str (Str.ofString "__static_attributes__") 446, val := Value.ref 183 }, { hash := PyData.keyHash P (Str.ofString "__dict__"), key := Value.str (Str.ofString "__dict__") 448, val := Value.ref 186 }, { hash := PyData.keyHash P (Str.ofString "__weakref__"), key := Value.str (Str.ofString "__weakref__") 450, val := Value.ref 187 }, { hash := PyData.keyHash P (Str.ofString "__doc__"), key := Value.str (Str.ofString "__doc__") 451, val := Value.none }] 4 }
noncomputable def hb185 (P : Params) : Obj := { cls := Value.type "type", data := Data.cls { name := Str.ofString "PackBuilder", bases := [Value.type "object"], mro := [Value.ref 185, Value.type "object"], ns := 184, qualname := Str.ofString "PackBuilder" }, slots := #[Option.none, Option.none, Option.some (Value.str (Str.ofString "PackBuilder") 390), Option.some (Value.str (Str.ofString "PackBuilder") 398), Option.some (Value.builtin "object.__new__"), Option.some (Value.bool Bool.true)] }
noncomputable def hb186 (P : Params) : Obj := { cls := Value.type "getset_descriptor", data := Data.fields #[Value.str (Str.ofString "__dict__") 447, Value.ref 185, Value.builtin "function.__dict__", Value.builtin "function.__dict__#set"] }
noncomputable def hb187 (P : Params) : Obj := { cls := Value.type "getset_descriptor", data := Data.fields #[Value.str (Str.ofString "__weakref__") 449, Value.ref 185, Value.builtin "ExceptionGroup.__weakref__", Value.none] }
noncomputable def hb188 (P : Params) : Obj := { cls := Value.type "super", data := Data.fields #[Value.ref 185, Value.ref 185, Value.ref 185] }
noncomputable def hb189 (P : Params) : Obj := { cls := Value.type "builtin_function_or_method", data := Data.fields #[Value.builtin "object.__init_subclass__", Value.ref 185] }
noncomputable def hb190 (P : Params) : Obj := { cls := Value.type "tuple", data := Data.seq #[] }
noncomputable def hb191 (P : Params) : Obj := { cls := Value.none, data := Data.fields #[] }
noncomputable def hb192 (P : Params) : Obj := { cls := Value.type "tuple", data := Data.seq #[Value.str (Str.ofString "count") 457, Value.str (Str.ofString "body") 458, Value.str (Str.ofString "hasher") 459, Value.str (Str.ofString "whole") 460] }
noncomputable def hb193 (P : Params) : Obj := { cls := Value.type "tuple", data := Data.seq #[] }
noncomputable def hb194 (P : Params) : Obj := { cls := Value.none, data := Data.func { name := Str.ofString "pack_closed", qualname := Str.ofString "pack_closed", params := fArgs (sAt 19), body := FuncBody.stmts (fBody (sAt 19)), scope := fScope (sAt 19), globals := 0, closure := [], defaults := Value.none, kwdefaults := Value.none } }
noncomputable def hb195 (P : Params) : Obj := { cls := Value.type "code", data := Data.fields #[Value.str (Str.ofString "pack_closed") 454, Value.str (Str.ofString "pack_closed") 455, Value.str (Str.ofString "/claim/cut.py") 456, Value.int 103 0, Value.int 3 0, Value.int 0 0, Value.int 0 0, Value.int 3 0, Value.ref 190, Value.bool Bool.true, Value.int 181 0, Value.ref 191, Value.none, Value.ref 192, Value.ref 193, Value.ref 194, Value.int 461 0, Value.int 103 0, Value.str (Str.ofString "/claim/cut.py") 462] }
noncomputable def hb196 (P : Params) : Obj := { cls := Value.type "function", data := Data.func { name := Str.ofString "pack_closed", qualname := Str.ofString "pack_closed", params := fArgs (sAt 19), body := FuncBody.stmts (fBody (sAt 19)), scope := fScope (sAt 19), globals := 3, closure := [], defaults := Value.none, kwdefaults := Value.none, pyModule := Value.str (Str.ofString "gitcore.packs") 311, code := Value.ref 195 } }
noncomputable def tb (P : Params) : BT := (.node (boot_o_0 P) (.node (boot_o_1 P) (.node (hb3 P) (.node (boot_o_7 P) (.node (top15.o_8 P) (.node (top15.o_24 P) (.node (top15.o_60 P) (.node (ha127 P) .nil .nil) (.node (hb191 P) .nil .nil)) (.node (top15.o_95 P) (.node (hb159 P) .nil .nil) .nil)) (.node (top15.o_44 P) (.node (top15.o_76 P) (.node (ha143 P) .nil .nil) .nil) (.node (ha111 P) (.node (hb175 P) .nil .nil) .nil))) (.node (top15.o_16 P) (.node (top15.o_39 P) (.node (top15.o_68 P) (.node (ha135 P) .nil .nil) .nil) (.node (top15.o_103 P) (.node (hb167 P) .nil .nil) .nil)) (.node (top15.o_52 P) (.node (top15.o_87 P) (.node (hb151 P) .nil .nil) .nil) (.node (ha119 P) (.node (hb183 P) .nil .nil) .nil)))) (.node (top15.o_1 P) (.node (top15.o_12 P) (.node (top15.o_28 P) (.node (top15.o_64 P) (.node (ha131 P) .nil .nil) (.node (hb195 P) .nil .nil)) (.node (top15.o_99 P) (.node (hb163 P) .nil .nil) .nil)) (.node (top15.o_48 P) (.node (top15.o_83 P) (.node (hb147 P) .nil .nil) .nil) (.node (ha115 P) (.node (hb179 P) .nil .nil) .nil))) (.node (top15.o_20 P) (.node (top15.o_40 P) (.node (top15.o_72 P) (.node (ha139 P) .nil .nil) .nil) (.node (top15.o_107 P) (.node (hb171 P) .nil .nil) .nil)) (.node (top15.o_56 P) (.node (top15.o_91 P) (.node (hb155 P) .nil .nil) .nil) (.node (ha123 P) (.node (hb187 P) .nil .nil) .nil))))) (.node (boot_o_5 P) (.node (boot_o_9 P) (.node (top15.o_10 P) (.node (top15.o_26 P) (.node (top15.o_62 P) (.node (ha129 P) .nil .nil) (.node (hb193 P) .nil .nil)) (.node (top15.o_97 P) (.node (hb161 P) .nil .nil) .nil)) (.node (top15.o_46 P) (.node (top15.o_81 P) (.node (ha145 P) .nil .nil) .nil) (.node (ha113 P) (.node (hb177 P) .nil .nil) .nil))) (.node (top15.o_18 P) (.node (top15.o_34 P) (.node (top15.o_70 P) (.node (ha137 P) .nil .nil) .nil) (.node (top15.o_105 P) (.node (hb169 P) .nil .nil) .nil)) (.node (top15.o_54 P) (.node (top15.o_89 P) (.node (hb153 P) .nil .nil) .nil) (.node (ha121 P) (.node (hb185 P) .nil .nil) .nil)))) (.node (top15.o_3 P) (.node (top15.o_14 P) (.node (top15.o_30 P) (.node (top15.o_66 P) (.node (ha133 P) .nil .nil) .nil) (.node (top15.o_101 P) (.node (hb165 P) .nil .nil) .nil)) (.node (top15.o_50 P) (.node (top15.o_85 P) (.node (hb149 P) .nil .nil) .nil) (.node (ha117 P) (.node (hb181 P) .nil .nil) .nil))) (.node (top15.o_22 P) (.node (top15.o_42 P) (.node (top15.o_74 P) (.node (ha141 P) .nil .nil) .nil) (.node (top15.o_109 P) (.node (hb173 P) .nil .nil) .nil)) (.node (top15.o_58 P) (.node (top15.o_93 P) (.node (hb157 P) .nil .nil) .nil) (.node (ha125 P) (.node (hb189 P) .nil .nil) .nil)))))) (.node (top15.o_5 P) (.node (boot_o_4 P) (.node (boot_o_8 P) (.node (top15.o_9 P) (.node (top15.o_25 P) (.node (top15.o_61 P) (.node (ha128 P) .nil .nil) (.node (hb192 P) .nil .nil)) (.node (top15.o_96 P) (.node (hb160 P) .nil .nil) .nil)) (.node (top15.o_45 P) (.node (top15.o_77 P) (.node (ha144 P) .nil .nil) .nil) (.node (ha112 P) (.node (hb176 P) .nil .nil) .nil))) (.node (top15.o_17 P) (.node (top15.o_33 P) (.node (top15.o_69 P) (.node (ha136 P) .nil .nil) .nil) (.node (top15.o_104 P) (.node (hb168 P) .nil .nil) .nil)) (.node (top15.o_53 P) (.node (top15.o_88 P) (.node (hb152 P) .nil .nil) .nil) (.node (ha120 P) (.node (hb184 P) .nil .nil) .nil)))) (.node (hb12 P) (.node (top15.o_13 P) (.node (top15.o_29 P) (.node (top15.o_65 P) (.node (ha132 P) .nil .nil) (.node (hb196 P) .nil .nil)) (.node (top15.o_100 P) (.node (hb164 P) .nil .nil) .nil)) (.node (top15.o_49 P) (.node (top15.o_84 P) (.node (hb148 P) .nil .nil) .nil) (.node (ha116 P) (.node (hb180 P) .nil .nil) .nil))) (.node (top15.o_21 P) (.node (top15.o_41 P) (.node (top15.o_73 P) (.node (ha140 P) .nil .nil) .nil) (.node (top15.o_108 P) (.node (hb172 P) .nil .nil) .nil)) (.node (top15.o_57 P) (.node (top15.o_92 P) (.node (hb156 P) .nil .nil) .nil) (.node (ha124 P) (.node (hb188 P) .nil .nil) .nil))))) (.node (boot_o_6 P) (.node (boot_o_10 P) (.node (top15.o_11 P) (.node (top15.o_27 P) (.node (top15.o_63 P) (.node (ha130 P) .nil .nil) (.node (hb194 P) .nil .nil)) (.node (top15.o_98 P) (.node (hb162 P) .nil .nil) .nil)) (.node (top15.o_47 P) (.node (top15.o_82 P) (.node (ha146 P) .nil .nil) .nil) (.node (ha114 P) (.node (hb178 P) .nil .nil) .nil))) (.node (top15.o_19 P) (.node (top15.o_35 P) (.node (top15.o_71 P) (.node (ha138 P) .nil .nil) .nil) (.node (top15.o_106 P) (.node (hb170 P) .nil .nil) .nil)) (.node (top15.o_55 P) (.node (top15.o_90 P) (.node (hb154 P) .nil .nil) .nil) (.node (ha122 P) (.node (hb186 P) .nil .nil) .nil)))) (.node (top15.o_4 P) (.node (top15.o_15 P) (.node (top15.o_31 P) (.node (top15.o_67 P) (.node (ha134 P) .nil .nil) .nil) (.node (top15.o_102 P) (.node (hb166 P) .nil .nil) .nil)) (.node (top15.o_51 P) (.node (top15.o_86 P) (.node (hb150 P) .nil .nil) .nil) (.node (ha118 P) (.node (hb182 P) .nil .nil) .nil))) (.node (top15.o_23 P) (.node (top15.o_43 P) (.node (top15.o_75 P) (.node (ha142 P) .nil .nil) .nil) (.node (dO4 P) (.node (hb174 P) .nil .nil) .nil)) (.node (top15.o_59 P) (.node (top15.o_94 P) (.node (hb158 P) .nil .nil) .nil) (.node (ha126 P) (.node (hb190 P) .nil .nil) .nil)))))))
noncomputable def stsb : List Stmt := ((behindTheImports PRG).drop 18).take 3
theorem runb (b : List Stmt) (w : World) (os : OsState) : segRunT treeTable PRG w 11 annM 1 372 ⟨ta w.params, 147, {}, ⟨[]⟩, {}, 390, os⟩ (piecesOf stsb top15.env_1 (cB b) ⟨58, 0, 68, 63⟩ [topFrame q0]) = some (.next, ⟨tb w.params, 197, {}, ⟨[]⟩, {}, 466, os⟩, cB b, ⟨106, 0, 106, 8⟩) := by kernel_rfl
noncomputable def hc3 (P : Params) : Obj := { cls := Value.type "dict", data := Data.dict #[{ hash := PyData.keyHash P (Str.ofString "__name__"), key := Value.str (Str.ofString "__name__") 165, val := Value.str (Str.ofString "law_pb0104_01") 504 }, { hash := PyData.keyHash P (Str.ofString "__doc__"), key := Value.str (Str.ofString "__doc__") 166, val := Value.none }, { hash := PyData.keyHash P (Str.ofString "__package__"), key := Value.str (Str.ofString "__package__") 167, val := Value.none }, { hash := PyData.keyHash P (Str.ofString "__loader__"), key := Value.str (Str.ofString "__loader__") 168, val := Value.builtin "__main__.__loader__#opaque" }, { hash := PyData.keyHash P (Str.ofString "__spec__"), key := Value.str (Str.ofString "__spec__") 169, val := Value.none }, { hash := PyData.keyHash P (Str.ofString "__annotations__"), key := Value.str (Str.ofString "__annotations__") 170, val := Value.ref 6 }, { hash := PyData.keyHash P (Str.ofString "__builtins__"), key := Value.str (Str.ofString "__builtins__") 171, val := Value.ref 4 }, { hash := PyData.keyHash P (Str.ofString "__file__"), key := Value.str (Str.ofString "__file__") 173, val := Value.str (Str.ofString "/claim/cut.py") 172 }, { hash := PyData.keyHash P (Str.ofString "__cached__"), key := Value.str (Str.ofString "__cached__") 174, val := Value.none }, { hash := PyData.keyHash P (Str.ofString "_wall"), key := Value.str (Str.ofString "_wall") 193, val := Value.ref 21 }, { hash := PyData.keyHash P (Str.ofString "GitError"), key := Value.str (Str.ofString "GitError") 225, val := Value.ref 39 }, { hash := PyData.keyHash P (Str.ofString "BadPack"), key := Value.str (Str.ofString "BadPack") 241, val := Value.ref 52 }, { hash := PyData.keyHash P (Str.ofString "big_endian"), key := Value.str (Str.ofString "big_endian") 247, val := Value.ref 59 }, { hash := PyData.keyHash P (Str.ofString "be32"), key := Value.str (Str.ofString "be32") 254, val := Value.ref 66 }, { hash := PyData.keyHash P (Str.ofString "put_size"), key := Value.str (Str.ofString "put_size") 262, val := Value.ref 73 }, { hash := PyData.keyHash P (Str.ofString "put_offset"), key := Value.str (Str.ofString "put_offset") 270, val := Value.ref 80 }, { hash := PyData.keyHash P (Str.ofString "CountingHasher"), key := Value.str (Str.ofString "CountingHasher") 310, val := Value.ref 105 }, { hash := PyData.keyHash P (Str.ofString "PACK_SIGN"), key := Value.str (Str.ofString "PACK_SIGN") 314, val := Value.bytes #[80, 65, 67, 75] 313 }, { hash := PyData.keyHash P (Str.ofString "PACK_VERSION"), key := Value.str (Str.ofString "PACK_VERSION") 316, val := Value.int 2 315 }, { hash := PyData.keyHash P (Str.ofString "PACK_HEAD_SIZE"), key := Value.str (Str.ofString "PACK_HEAD_SIZE") 318, val := Value.int 12 317 }, { hash := PyData.keyHash P (Str.ofString "OFFSET_DELTA"), key := Value.str (Str.ofString "OFFSET_DELTA") 320, val := Value.int 6 319 }, { hash := PyData.keyHash P (Str.ofString "ID_DELTA"), key := Value.str (Str.ofString "ID_DELTA") 322, val := Value.int 7 321 }, { hash := PyData.keyHash P (Str.ofString "KIND_NUMBERS"), key := Value.str (Str.ofString "KIND_NUMBERS") 335, val := Value.ref 110 }, { hash := PyData.keyHash P (Str.ofString "entry_head"), key := Value.str (Str.ofString "entry_head") 345, val := Value.ref 117 }, { hash := PyData.keyHash P (Str.ofString "PackEntry"), key := Value.str (Str.ofString "PackEntry") 389, val := Value.ref 142 }, { hash := PyData.keyHash P (Str.ofString "PackBuilder"), key := Value.str (Str.ofString "PackBuilder") 453, val := Value.ref 185 }, { hash := PyData.keyHash P (Str.ofString "pack_closed"), key := Value.str (Str.ofString "pack_closed") 463, val := Value.ref 196 }, { hash := PyData.keyHash P (Str.ofString "StoredCodec"), key := Value.str (Str.ofString "StoredCodec") 503, val := Value.ref 221 }, { hash := PyData.keyHash P (Str.ofString "_law_deck"), key := Value.str (Str.ofString "_law_deck") 511, val := Value.ref 230 }, { hash := PyData.keyHash P (Str.ofString "_law_draw"), key := Value.str (Str.ofString "_law_draw") 519, val := Value.ref 237 }, { hash := PyData.keyHash P (Str.ofString "_law_pieces_of_size"), key := Value.str (Str.ofString "_law_pieces_of_size") 529, val := Value.ref 244 }, { hash := PyData.keyHash P (Str.ofString "_law_entry_head"), key := Value.str (Str.ofString "_law_entry_head") 535, val := Value.ref 249 }] 32 }
noncomputable def hc12 (P : Params) : Obj := { cls := Value.none, data := Data.fields #[Value.int 1 0, Value.int 0 0, Value.ref 20, Value.int 5 0, Value.int 0 0, Value.ref 27, Value.int 9 0, Value.int 0 0, Value.ref 48, Value.int 11 0, Value.int 0 0, Value.ref 58, Value.int 13 0, Value.int 0 0, Value.ref 65, Value.int 15 0, Value.int 0 0, Value.ref 72, Value.int 22 0, Value.int 0 0, Value.ref 79, Value.int 30 0, Value.int 0 0, Value.ref 86, Value.int 48 0, Value.int 0 0, Value.ref 116, Value.int 58 0, Value.int 0 0, Value.ref 123, Value.int 69 0, Value.int 0 0, Value.ref 152, Value.int 103 0, Value.int 0 0, Value.ref 195, Value.int 107 0, Value.int 0 0, Value.ref 202, Value.int 115 0, Value.int 0 0, Value.ref 229, Value.int 120 0, Value.int 0 0, Value.ref 236, Value.int 125 0, Value.int 0 0, Value.ref 243, Value.int 131 0, Value.int 0 0, Value.ref 248] }
noncomputable def hc197 (P : Params) : Obj := { cls := Value.type "tuple", data := Data.seq #[] }
noncomputable def hc198 (P : Params) : Obj := { cls := Value.type "builtin_function_or_method", data := Data.fields #[Value.builtin "type.__prepare__", Value.type "type"] }
noncomputable def hc199 (P : Params) : Obj := { cls := Value.type "dict", data := Data.dict #[{ hash := PyData.keyHash P (Str.ofString "__module__"), key := Value.str (Str.ofString "__module__") 473, val := Value.str (Str.ofString "gitcore.deflate") 464 }, { hash := PyData.keyHash P (Str.ofString "__qualname__"), key := Value.str (Str.ofString "__qualname__") 475, val := Value.str (Str.ofString "StoredCodec") 474 }, { hash := PyData.keyHash P (Str.ofString "__firstlineno__"), key := Value.str (Str.ofString "__firstlineno__") 477, val := Value.int 107 476 }, { hash := PyData.keyHash P (Str.ofString "pack"), key := Value.str (Str.ofString "pack") 485, val := Value.ref 210 }, { hash := PyData.keyHash P (Str.ofString "unpack"), key := Value.str (Str.ofString "unpack") 495, val := Value.ref 218 }, { hash := PyData.keyHash P (Str.ofString "__static_attributes__"), key := Value.str (Str.ofString "__static_attributes__") 496, val := Value.ref 219 }] 6 }
noncomputable def hc200 (P : Params) : Obj := { cls := Value.type "tuple", data := Data.seq #[] }
noncomputable def hc201 (P : Params) : Obj := { cls := Value.none, data := Data.fields #[Value.int 109 0, Value.int 4 0, Value.ref 209, Value.int 112 0, Value.int 4 0, Value.ref 217] }
noncomputable def hc202 (P : Params) : Obj := { cls := Value.type "code", data := Data.fields #[Value.str (Str.ofString "StoredCodec") 468, Value.str (Str.ofString "StoredCodec") 469, Value.str (Str.ofString "/claim/cut.py") 470, Value.int 107 0, Value.int 0 0, Value.int 0 0, Value.int 0 0, Value.int 0 0, Value.ref 200, Value.bool Bool.false, Value.int 181 0, Value.ref 201, Value.none, Value.none, Value.none, Value.none, Value.int 471 0, Value.int 107 0, Value.str (Str.ofString "/claim/cut.py") 472] }
noncomputable def hc203 (P : Params) : Obj := { cls := Value.type "frame", slots := #[Option.some (Value.ref 202), Option.some (Value.ref 3), Option.some (Value.ref 199), Option.none, Option.some (Value.str (Str.ofString "gitcore.deflate") 464), Option.none, Option.some (Value.ref 0)] }
noncomputable def hc204 (P : Params) : Obj := { cls := Value.type "tuple", data := Data.seq #[] }
noncomputable def hc205 (P : Params) : Obj := { cls := Value.none, data := Data.fields #[] }
noncomputable def hc206 (P : Params) : Obj := { cls := Value.type "tuple", data := Data.seq #[Value.str (Str.ofString "self") 481, Value.str (Str.ofString "octets") 482] }
noncomputable def hc207 (P : Params) : Obj := { cls := Value.type "tuple", data := Data.seq #[] }
noncomputable def hc208 (P : Params) : Obj := { cls := Value.none, data := Data.func { name := Str.ofString "pack", qualname := Str.ofString "StoredCodec.pack", params := fArgs (mAt 21 0), body := FuncBody.stmts (fBody (mAt 21 0)), scope := fScope (mAt 21 0), globals := 0, closure := [], defaults := Value.none, kwdefaults := Value.none } }
noncomputable def hc209 (P : Params) : Obj := { cls := Value.type "code", data := Data.fields #[Value.str (Str.ofString "pack") 478, Value.str (Str.ofString "StoredCodec.pack") 479, Value.str (Str.ofString "/claim/cut.py") 480, Value.int 109 0, Value.int 2 0, Value.int 0 0, Value.int 0 0, Value.int 3 0, Value.ref 204, Value.bool Bool.true, Value.int 181 0, Value.ref 205, Value.none, Value.ref 206, Value.ref 207, Value.ref 208, Value.int 483 0, Value.int 109 0, Value.str (Str.ofString "/claim/cut.py") 484] }
noncomputable def hc210 (P : Params) : Obj := { cls := Value.type "function", data := Data.func { name := Str.ofString "pack", qualname := Str.ofString "StoredCodec.pack", params := fArgs (mAt 21 0), body := FuncBody.stmts (fBody (mAt 21 0)), scope := fScope (mAt 21 0), globals := 3, closure := [], defaults := Value.none, kwdefaults := Value.none, pyModule := Value.str (Str.ofString "gitcore.deflate") 464, code := Value.ref 209 } }
noncomputable def hc211 (P : Params) : Obj := { cls := Value.type "tuple", data := Data.seq #[Value.int 0 486] }
noncomputable def hc212 (P : Params) : Obj := { cls := Value.type "tuple", data := Data.seq #[] }
noncomputable def hc213 (P : Params) : Obj := { cls := Value.none, data := Data.fields #[] }
noncomputable def hc214 (P : Params) : Obj := { cls := Value.type "tuple", data := Data.seq #[Value.str (Str.ofString "self") 490, Value.str (Str.ofString "octets") 491, Value.str (Str.ofString "at") 492] }
noncomputable def hc215 (P : Params) : Obj := { cls := Value.type "tuple", data := Data.seq #[] }
noncomputable def hc216 (P : Params) : Obj := { cls := Value.none, data := Data.func { name := Str.ofString "unpack", qualname := Str.ofString "StoredCodec.unpack", params := fArgs (mAt 21 1), body := FuncBody.stmts (fBody (mAt 21 1)), scope := fScope (mAt 21 1), globals := 0, closure := [], defaults := Value.none, kwdefaults := Value.none } }
noncomputable def hc217 (P : Params) : Obj := { cls := Value.type "code", data := Data.fields #[Value.str (Str.ofString "unpack") 487, Value.str (Str.ofString "StoredCodec.unpack") 488, Value.str (Str.ofString "/claim/cut.py") 489, Value.int 112 0, Value.int 3 0, Value.int 0 0, Value.int 0 0, Value.int 3 0, Value.ref 212, Value.bool Bool.true, Value.int 181 0, Value.ref 213, Value.none, Value.ref 214, Value.ref 215, Value.ref 216, Value.int 493 0, Value.int 112 0, Value.str (Str.ofString "/claim/cut.py") 494] }
noncomputable def hc218 (P : Params) : Obj := { cls := Value.type "function", data := Data.func { name := Str.ofString "unpack", qualname := Str.ofString "StoredCodec.unpack", params := fArgs (mAt 21 1), body := FuncBody.stmts (fBody (mAt 21 1)), scope := fScope (mAt 21 1), globals := 3, closure := [], defaults := Value.ref 211, kwdefaults := Value.none, pyModule := Value.str (Str.ofString "gitcore.deflate") 464, code := Value.ref 217 } }
noncomputable def hc219 (P : Params) : Obj := { cls := Value.type "tuple", data := Data.seq #[] }
noncomputable def hc220 (P : Params) : Obj := { cls := Value.type "dict", data := Data.dict #[{ hash := PyData.keyHash P (Str.ofString "__module__"), key := Value.str (Str.ofString "__module__") 473, val := Value.str (Str.ofString "gitcore.deflate") 464 }, { hash := PyData.keyHash P (Str.ofString "__firstlineno__"), key := Value.str (Str.ofString "__firstlineno__") 477, val := Value.int 107 476 }, { hash := PyData.keyHash P (Str.ofString "pack"), key := Value.str (Str.ofString "pack") 485, val := Value.ref 210 }, { hash := PyData.keyHash P (Str.ofString "unpack"), key := Value.str (Str.ofString "unpack") 495, val := Value.ref 218 }, { hash := PyData.keyHash P (Str.ofString "__static_attributes__"), key := Value.str (Str.ofString "__static_attributes__") 496, val := Value.ref 219 }, { hash := PyData.keyHash P (Str.ofString "__dict__"), key := Value.str (Str.ofString "__dict__") 498, val := Value.ref 222 }, { hash := PyData.keyHash P (Str.ofString "__weakref__"), key := Value.str (Str.ofString "__weakref__") 500, val := Value.ref 223 }, { hash := PyData.keyHash P (Str.ofString "__doc__"), key := Value.str (Str.ofString "__doc__") 501, val := Value.none }] 4 }
noncomputable def hc221 (P : Params) : Obj := { cls := Value.type "type", data := Data.cls { name := Str.ofString "StoredCodec", bases := [Value.type "object"], mro := [Value.ref 221, Value.type "object"], ns := 220, qualname := Str.ofString "StoredCodec" }, slots := #[Option.none, Option.none, Option.some (Value.str (Str.ofString "StoredCodec") 466), Option.some (Value.str (Str.ofString "StoredCodec") 474), Option.some (Value.builtin "object.__new__"), Option.some (Value.bool Bool.true)] }
noncomputable def hc222 (P : Params) : Obj := { cls := Value.type "getset_descriptor", data := Data.fields #[Value.str (Str.ofString "__dict__") 497, Value.ref 221, Value.builtin "function.__dict__", Value.builtin "function.__dict__#set"] }
noncomputable def hc223 (P : Params) : Obj := { cls := Value.type "getset_descriptor", data := Data.fields #[Value.str (Str.ofString "__weakref__") 499, Value.ref 221, Value.builtin "ExceptionGroup.__weakref__", Value.none] }
noncomputable def hc224 (P : Params) : Obj := { cls := Value.type "super", data := Data.fields #[Value.ref 221, Value.ref 221, Value.ref 221] }
noncomputable def hc225 (P : Params) : Obj := { cls := Value.type "builtin_function_or_method", data := Data.fields #[Value.builtin "object.__init_subclass__", Value.ref 221] }
noncomputable def hc226 (P : Params) : Obj := { cls := Value.type "tuple", data := Data.seq #[] }
noncomputable def hc227 (P : Params) : Obj := { cls := Value.none, data := Data.fields #[] }
noncomputable def hc228 (P : Params) : Obj := { cls := Value.none, data := Data.func { name := Str.ofString "_law_deck", qualname := Str.ofString "_law_deck", params := fArgs (sAt 23), body := FuncBody.stmts (fBody (sAt 23)), scope := fScope (sAt 23), globals := 0, closure := [], defaults := Value.none, kwdefaults := Value.none } }
noncomputable def hc229 (P : Params) : Obj := { cls := Value.type "code", data := Data.fields #[Value.str (Str.ofString "_law_deck") 506, Value.str (Str.ofString "_law_deck") 507, Value.str (Str.ofString "/claim/cut.py") 508, Value.int 115 0, Value.int 1 0, Value.int 0 0, Value.int 0 0, Value.int 3 0, Value.ref 226, Value.bool Bool.true, Value.int 181 0, Value.ref 227, Value.none, Value.none, Value.none, Value.ref 228, Value.int 509 0, Value.int 115 0, Value.str (Str.ofString "/claim/cut.py") 510] }
noncomputable def hc230 (P : Params) : Obj := { cls := Value.type "function", data := Data.func { name := Str.ofString "_law_deck", qualname := Str.ofString "_law_deck", params := fArgs (sAt 23), body := FuncBody.stmts (fBody (sAt 23)), scope := fScope (sAt 23), globals := 3, closure := [], defaults := Value.none, kwdefaults := Value.none, pyModule := Value.str (Str.ofString "law_pb0104_01") 504, code := Value.ref 229 } }
noncomputable def hc231 (P : Params) : Obj := { cls := Value.type "tuple", data := Data.seq #[] }
noncomputable def hc232 (P : Params) : Obj := { cls := Value.none, data := Data.fields #[] }
noncomputable def hc233 (P : Params) : Obj := { cls := Value.type "tuple", data := Data.seq #[Value.str (Str.ofString "deck") 515, Value.str (Str.ofString "many") 516] }
noncomputable def hc234 (P : Params) : Obj := { cls := Value.type "tuple", data := Data.seq #[] }
noncomputable def hc235 (P : Params) : Obj := { cls := Value.none, data := Data.func { name := Str.ofString "_law_draw", qualname := Str.ofString "_law_draw", params := fArgs (sAt 24), body := FuncBody.stmts (fBody (sAt 24)), scope := fScope (sAt 24), globals := 0, closure := [], defaults := Value.none, kwdefaults := Value.none } }
noncomputable def hc236 (P : Params) : Obj := { cls := Value.type "code", data := Data.fields #[Value.str (Str.ofString "_law_draw") 512, Value.str (Str.ofString "_law_draw") 513, Value.str (Str.ofString "/claim/cut.py") 514, Value.int 120 0, Value.int 2 0, Value.int 0 0, Value.int 0 0, Value.int 3 0, Value.ref 231, Value.bool Bool.true, Value.int 181 0, Value.ref 232, Value.none, Value.ref 233, Value.ref 234, Value.ref 235, Value.int 517 0, Value.int 120 0, Value.str (Str.ofString "/claim/cut.py") 518] }
noncomputable def hc237 (P : Params) : Obj := { cls := Value.type "function", data := Data.func { name := Str.ofString "_law_draw", qualname := Str.ofString "_law_draw", params := fArgs (sAt 24), body := FuncBody.stmts (fBody (sAt 24)), scope := fScope (sAt 24), globals := 3, closure := [], defaults := Value.none, kwdefaults := Value.none, pyModule := Value.str (Str.ofString "law_pb0104_01") 504, code := Value.ref 236 } }
noncomputable def hc238 (P : Params) : Obj := { cls := Value.type "tuple", data := Data.seq #[] }
noncomputable def hc239 (P : Params) : Obj := { cls := Value.none, data := Data.fields #[] }
noncomputable def hc240 (P : Params) : Obj := { cls := Value.type "tuple", data := Data.seq #[Value.str (Str.ofString "number") 523, Value.str (Str.ofString "first") 524, Value.str (Str.ofString "found") 525, Value.str (Str.ofString "rest") 526] }
noncomputable def hc241 (P : Params) : Obj := { cls := Value.type "tuple", data := Data.seq #[] }
noncomputable def hc242 (P : Params) : Obj := { cls := Value.none, data := Data.func { name := Str.ofString "_law_pieces_of_size", qualname := Str.ofString "_law_pieces_of_size", params := fArgs (sAt 25), body := FuncBody.stmts (fBody (sAt 25)), scope := fScope (sAt 25), globals := 0, closure := [], defaults := Value.none, kwdefaults := Value.none } }
noncomputable def hc243 (P : Params) : Obj := { cls := Value.type "code", data := Data.fields #[Value.str (Str.ofString "_law_pieces_of_size") 520, Value.str (Str.ofString "_law_pieces_of_size") 521, Value.str (Str.ofString "/claim/cut.py") 522, Value.int 125 0, Value.int 2 0, Value.int 0 0, Value.int 0 0, Value.int 3 0, Value.ref 238, Value.bool Bool.true, Value.int 181 0, Value.ref 239, Value.none, Value.ref 240, Value.ref 241, Value.ref 242, Value.int 527 0, Value.int 125 0, Value.str (Str.ofString "/claim/cut.py") 528] }
noncomputable def hc244 (P : Params) : Obj := { cls := Value.type "function", data := Data.func { name := Str.ofString "_law_pieces_of_size", qualname := Str.ofString "_law_pieces_of_size", params := fArgs (sAt 25), body := FuncBody.stmts (fBody (sAt 25)), scope := fScope (sAt 25), globals := 3, closure := [], defaults := Value.none, kwdefaults := Value.none, pyModule := Value.str (Str.ofString "law_pb0104_01") 504, code := Value.ref 243 } }
noncomputable def hc245 (P : Params) : Obj := { cls := Value.type "tuple", data := Data.seq #[] }
noncomputable def hc246 (P : Params) : Obj := { cls := Value.none, data := Data.fields #[] }
noncomputable def hc247 (P : Params) : Obj := { cls := Value.none, data := Data.func { name := Str.ofString "_law_entry_head", qualname := Str.ofString "_law_entry_head", params := fArgs (sAt 26), body := FuncBody.stmts (fBody (sAt 26)), scope := fScope (sAt 26), globals := 0, closure := [], defaults := Value.none, kwdefaults := Value.none } }
noncomputable def hc248 (P : Params) : Obj := { cls := Value.type "code", data := Data.fields #[Value.str (Str.ofString "_law_entry_head") 530, Value.str (Str.ofString "_law_entry_head") 531, Value.str (Str.ofString "/claim/cut.py") 532, Value.int 131 0, Value.int 2 0, Value.int 0 0, Value.int 0 0, Value.int 3 0, Value.ref 245, Value.bool Bool.true, Value.int 181 0, Value.ref 246, Value.none, Value.none, Value.none, Value.ref 247, Value.int 533 0, Value.int 131 0, Value.str (Str.ofString "/claim/cut.py") 534] }
noncomputable def hc249 (P : Params) : Obj := { cls := Value.type "function", data := Data.func { name := Str.ofString "_law_entry_head", qualname := Str.ofString "_law_entry_head", params := fArgs (sAt 26), body := FuncBody.stmts (fBody (sAt 26)), scope := fScope (sAt 26), globals := 3, closure := [], defaults := Value.none, kwdefaults := Value.none, pyModule := Value.str (Str.ofString "law_pb0104_01") 504, code := Value.ref 248 } }
noncomputable def tc (P : Params) : BT := (.node (boot_o_0 P) (.node (boot_o_1 P) (.node (hc3 P) (.node (boot_o_7 P) (.node (top15.o_8 P) (.node (top15.o_24 P) (.node (top15.o_60 P) (.node (ha127 P) .nil .nil) (.node (hb191 P) .nil .nil)) (.node (top15.o_95 P) (.node (hb159 P) .nil .nil) (.node (hc223 P) .nil .nil))) (.node (top15.o_44 P) (.node (top15.o_76 P) (.node (ha143 P) .nil .nil) (.node (hc207 P) .nil .nil)) (.node (ha111 P) (.node (hb175 P) .nil .nil) (.node (hc239 P) .nil .nil)))) (.node (top15.o_16 P) (.node (top15.o_39 P) (.node (top15.o_68 P) (.node (ha135 P) .nil .nil) (.node (hc199 P) .nil .nil)) (.node (top15.o_103 P) (.node (hb167 P) .nil .nil) (.node (hc231 P) .nil .nil))) (.node (top15.o_52 P) (.node (top15.o_87 P) (.node (hb151 P) .nil .nil) (.node (hc215 P) .nil .nil)) (.node (ha119 P) (.node (hb183 P) .nil .nil) (.node (hc247 P) .nil .nil))))) (.node (top15.o_1 P) (.node (top15.o_12 P) (.node (top15.o_28 P) (.node (top15.o_64 P) (.node (ha131 P) .nil .nil) (.node (hb195 P) .nil .nil)) (.node (top15.o_99 P) (.node (hb163 P) .nil .nil) (.node (hc227 P) .nil .nil))) (.node (top15.o_48 P) (.node (top15.o_83 P) (.node (hb147 P) .nil .nil) (.node (hc211 P) .nil .nil)) (.node (ha115 P) (.node (hb179 P) .nil .nil) (.node (hc243 P) .nil .nil)))) (.node (top15.o_20 P) (.node (top15.o_40 P) (.node (top15.o_72 P) (.node (ha139 P) .nil .nil) (.node (hc203 P) .nil .nil)) (.node (top15.o_107 P) (.node (hb171 P) .nil .nil) (.node (hc235 P) .nil .nil))) (.node (top15.o_56 P) (.node (top15.o_91 P) (.node (hb155 P) .nil .nil) (.node (hc219 P) .nil .nil)) (.node (ha123 P) (.node (hb187 P) .nil .nil) .nil))))) (.node (boot_o_5 P) (.node (boot_o_9 P) (.node (top15.o_10 P) (.node (top15.o_26 P) (.node (top15.o_62 P) (.node (ha129 P) .nil .nil) (.node (hb193 P) .nil .nil)) (.node (top15.o_97 P) (.node (hb161 P) .nil .nil) (.node (hc225 P) .nil .nil))) (.node (top15.o_46 P) (.node (top15.o_81 P) (.node (ha145 P) .nil .nil) (.node (hc209 P) .nil .nil)) (.node (ha113 P) (.node (hb177 P) .nil .nil) (.node (hc241 P) .nil .nil)))) (.node (top15.o_18 P) (.node (top15.o_34 P) (.node (top15.o_70 P) (.node (ha137 P) .nil .nil) (.node (hc201 P) .nil .nil)) (.node (top15.o_105 P) (.node (hb169 P) .nil .nil) (.node (hc233 P) .nil .nil))) (.node (top15.o_54 P) (.node (top15.o_89 P) (.node (hb153 P) .nil .nil) (.node (hc217 P) .nil .nil)) (.node (ha121 P) (.node (hb185 P) .nil .nil) (.node (hc249 P) .nil .nil))))) (.node (top15.o_3 P) (.node (top15.o_14 P) (.node (top15.o_30 P) (.node (top15.o_66 P) (.node (ha133 P) .nil .nil) (.node (hc197 P) .nil .nil)) (.node (top15.o_101 P) (.node (hb165 P) .nil .nil) (.node (hc229 P) .nil .nil))) (.node (top15.o_50 P) (.node (top15.o_85 P) (.node (hb149 P) .nil .nil) (.node (hc213 P) .nil .nil)) (.node (ha117 P) (.node (hb181 P) .nil .nil) (.node (hc245 P) .nil .nil)))) (.node (top15.o_22 P) (.node (top15.o_42 P) (.node (top15.o_74 P) (.node (ha141 P) .nil .nil) (.node (hc205 P) .nil .nil)) (.node (top15.o_109 P) (.node (hb173 P) .nil .nil) (.node (hc237 P) .nil .nil))) (.node (top15.o_58 P) (.node (top15.o_93 P) (.node (hb157 P) .nil .nil) (.node (hc221 P) .nil .nil)) (.node (ha125 P) (.node (hb189 P) .nil .nil) .nil)))))) (.node (top15.o_5 P) (.node (boot_o_4 P) (.node (boot_o_8 P) (.node (top15.o_9 P) (.node (top15.o_25 P) (.node (top15.o_61 P) (.node (ha128 P) .nil .nil) (.node (hb192 P) .nil .nil)) (.node (top15.o_96 P) (.node (hb160 P) .nil .nil) (.node (hc224 P) .nil .nil))) (.node (top15.o_45 P) (.node (top15.o_77 P) (.node (ha144 P) .nil .nil) (.node (hc208 P) .nil .nil)) (.node (ha112 P) (.node (hb176 P) .nil .nil) (.node (hc240 P) .nil .nil)))) (.node (top15.o_17 P) (.node (top15.o_33 P) (.node (top15.o_69 P) (.node (ha136 P) .nil .nil) (.node (hc200 P) .nil .nil)) (.node (top15.o_104 P) (.node (hb168 P) .nil .nil) (.node (hc232 P) .nil .nil))) (.node (top15.o_53 P) (.node (top15.o_88 P) (.node (hb152 P) .nil .nil) (.node (hc216 P) .nil .nil)) (.node (ha120 P) (.node (hb184 P) .nil .nil) (.node (hc248 P) .nil .nil))))) (.node (hc12 P) (.node (top15.o_13 P) (.node (top15.o_29 P) (.node (top15.o_65 P) (.node (ha132 P) .nil .nil) (.node (hb196 P) .nil .nil)) (.node (top15.o_100 P) (.node (hb164 P) .nil .nil) (.node (hc228 P) .nil .nil))) (.node (top15.o_49 P) (.node (top15.o_84 P) (.node (hb148 P) .nil .nil) (.node (hc212 P) .nil .nil)) (.node (ha116 P) (.node (hb180 P) .nil .nil) (.node (hc244 P) .nil .nil)))) (.node (top15.o_21 P) (.node (top15.o_41 P) (.node (top15.o_73 P) (.node (ha140 P) .nil .nil) (.node (hc204 P) .nil .nil)) (.node (top15.o_108 P) (.node (hb172 P) .nil .nil) (.node (hc236 P) .nil .nil))) (.node (top15.o_57 P) (.node (top15.o_92 P) (.node (hb156 P) .nil .nil) (.node (hc220 P) .nil .nil)) (.node (ha124 P) (.node (hb188 P) .nil .nil) .nil))))) (.node (boot_o_6 P) (.node (boot_o_10 P) (.node (top15.o_11 P) (.node (top15.o_27 P) (.node (top15.o_63 P) (.node (ha130 P) .nil .nil) (.node (hb194 P) .nil .nil)) (.node (top15.o_98 P) (.node (hb162 P) .nil .nil) (.node (hc226 P) .nil .nil))) (.node (top15.o_47 P) (.node (top15.o_82 P) (.node (ha146 P) .nil .nil) (.node (hc210 P) .nil .nil)) (.node (ha114 P) (.node (hb178 P) .nil .nil) (.node (hc242 P) .nil .nil)))) (.node (top15.o_19 P) (.node (top15.o_35 P) (.node (top15.o_71 P) (.node (ha138 P) .nil .nil) (.node (hc202 P) .nil .nil)) (.node (top15.o_106 P) (.node (hb170 P) .nil .nil) (.node (hc234 P) .nil .nil))) (.node (top15.o_55 P) (.node (top15.o_90 P) (.node (hb154 P) .nil .nil) (.node (hc218 P) .nil .nil)) (.node (ha122 P) (.node (hb186 P) .nil .nil) .nil)))) (.node (top15.o_4 P) (.node (top15.o_15 P) (.node (top15.o_31 P) (.node (top15.o_67 P) (.node (ha134 P) .nil .nil) (.node (hc198 P) .nil .nil)) (.node (top15.o_102 P) (.node (hb166 P) .nil .nil) (.node (hc230 P) .nil .nil))) (.node (top15.o_51 P) (.node (top15.o_86 P) (.node (hb150 P) .nil .nil) (.node (hc214 P) .nil .nil)) (.node (ha118 P) (.node (hb182 P) .nil .nil) (.node (hc246 P) .nil .nil)))) (.node (top15.o_23 P) (.node (top15.o_43 P) (.node (top15.o_75 P) (.node (ha142 P) .nil .nil) (.node (hc206 P) .nil .nil)) (.node (dO4 P) (.node (hb174 P) .nil .nil) (.node (hc238 P) .nil .nil))) (.node (top15.o_59 P) (.node (top15.o_94 P) (.node (hb158 P) .nil .nil) (.node (hc222 P) .nil .nil)) (.node (ha126 P) (.node (hb190 P) .nil .nil) .nil)))))))
noncomputable def stsc : List Stmt := ((behindTheImports PRG).drop 21).take 6
theorem runc (b : List Stmt) (w : World) (os : OsState) : segRunT treeTable PRG w 11 annM 1 380 ⟨tb w.params, 197, {}, ⟨[]⟩, {}, 466, os⟩ (piecesOf stsc top15.env_1 (cB b) ⟨106, 0, 106, 8⟩ [topFrame q0]) = some (.next, ⟨tc w.params, 250, {}, ⟨[]⟩, {}, 536, os⟩, cB b, ⟨131, 0, 134, 68⟩) := by kernel_rfl
noncomputable def hd3 (P : Params) : Obj := { cls := Value.type "dict", data := Data.dict #[{ hash := PyData.keyHash P (Str.ofString "__name__"), key := Value.str (Str.ofString "__name__") 165, val := Value.str (Str.ofString "law_pb0104_01") 504 }, { hash := PyData.keyHash P (Str.ofString "__doc__"), key := Value.str (Str.ofString "__doc__") 166, val := Value.none }, { hash := PyData.keyHash P (Str.ofString "__package__"), key := Value.str (Str.ofString "__package__") 167, val := Value.none }, { hash := PyData.keyHash P (Str.ofString "__loader__"), key := Value.str (Str.ofString "__loader__") 168, val := Value.builtin "__main__.__loader__#opaque" }, { hash := PyData.keyHash P (Str.ofString "__spec__"), key := Value.str (Str.ofString "__spec__") 169, val := Value.none }, { hash := PyData.keyHash P (Str.ofString "__annotations__"), key := Value.str (Str.ofString "__annotations__") 170, val := Value.ref 6 }, { hash := PyData.keyHash P (Str.ofString "__builtins__"), key := Value.str (Str.ofString "__builtins__") 171, val := Value.ref 4 }, { hash := PyData.keyHash P (Str.ofString "__file__"), key := Value.str (Str.ofString "__file__") 173, val := Value.str (Str.ofString "/claim/cut.py") 172 }, { hash := PyData.keyHash P (Str.ofString "__cached__"), key := Value.str (Str.ofString "__cached__") 174, val := Value.none }, { hash := PyData.keyHash P (Str.ofString "_wall"), key := Value.str (Str.ofString "_wall") 193, val := Value.ref 21 }, { hash := PyData.keyHash P (Str.ofString "GitError"), key := Value.str (Str.ofString "GitError") 225, val := Value.ref 39 }, { hash := PyData.keyHash P (Str.ofString "BadPack"), key := Value.str (Str.ofString "BadPack") 241, val := Value.ref 52 }, { hash := PyData.keyHash P (Str.ofString "big_endian"), key := Value.str (Str.ofString "big_endian") 247, val := Value.ref 59 }, { hash := PyData.keyHash P (Str.ofString "be32"), key := Value.str (Str.ofString "be32") 254, val := Value.ref 66 }, { hash := PyData.keyHash P (Str.ofString "put_size"), key := Value.str (Str.ofString "put_size") 262, val := Value.ref 73 }, { hash := PyData.keyHash P (Str.ofString "put_offset"), key := Value.str (Str.ofString "put_offset") 270, val := Value.ref 80 }, { hash := PyData.keyHash P (Str.ofString "CountingHasher"), key := Value.str (Str.ofString "CountingHasher") 310, val := Value.ref 105 }, { hash := PyData.keyHash P (Str.ofString "PACK_SIGN"), key := Value.str (Str.ofString "PACK_SIGN") 314, val := Value.bytes #[80, 65, 67, 75] 313 }, { hash := PyData.keyHash P (Str.ofString "PACK_VERSION"), key := Value.str (Str.ofString "PACK_VERSION") 316, val := Value.int 2 315 }, { hash := PyData.keyHash P (Str.ofString "PACK_HEAD_SIZE"), key := Value.str (Str.ofString "PACK_HEAD_SIZE") 318, val := Value.int 12 317 }, { hash := PyData.keyHash P (Str.ofString "OFFSET_DELTA"), key := Value.str (Str.ofString "OFFSET_DELTA") 320, val := Value.int 6 319 }, { hash := PyData.keyHash P (Str.ofString "ID_DELTA"), key := Value.str (Str.ofString "ID_DELTA") 322, val := Value.int 7 321 }, { hash := PyData.keyHash P (Str.ofString "KIND_NUMBERS"), key := Value.str (Str.ofString "KIND_NUMBERS") 335, val := Value.ref 110 }, { hash := PyData.keyHash P (Str.ofString "entry_head"), key := Value.str (Str.ofString "entry_head") 345, val := Value.ref 117 }, { hash := PyData.keyHash P (Str.ofString "PackEntry"), key := Value.str (Str.ofString "PackEntry") 389, val := Value.ref 142 }, { hash := PyData.keyHash P (Str.ofString "PackBuilder"), key := Value.str (Str.ofString "PackBuilder") 453, val := Value.ref 185 }, { hash := PyData.keyHash P (Str.ofString "pack_closed"), key := Value.str (Str.ofString "pack_closed") 463, val := Value.ref 196 }, { hash := PyData.keyHash P (Str.ofString "StoredCodec"), key := Value.str (Str.ofString "StoredCodec") 503, val := Value.ref 221 }, { hash := PyData.keyHash P (Str.ofString "_law_deck"), key := Value.str (Str.ofString "_law_deck") 511, val := Value.ref 230 }, { hash := PyData.keyHash P (Str.ofString "_law_draw"), key := Value.str (Str.ofString "_law_draw") 519, val := Value.ref 237 }, { hash := PyData.keyHash P (Str.ofString "_law_pieces_of_size"), key := Value.str (Str.ofString "_law_pieces_of_size") 529, val := Value.ref 244 }, { hash := PyData.keyHash P (Str.ofString "_law_entry_head"), key := Value.str (Str.ofString "_law_entry_head") 535, val := Value.ref 249 }, { hash := PyData.keyHash P (Str.ofString "_law_stored"), key := Value.str (Str.ofString "_law_stored") 541, val := Value.ref 254 }, { hash := PyData.keyHash P (Str.ofString "_law_back"), key := Value.str (Str.ofString "_law_back") 550, val := Value.ref 261 }, { hash := PyData.keyHash P (Str.ofString "_law_piece"), key := Value.str (Str.ofString "_law_piece") 564, val := Value.ref 268 }, { hash := PyData.keyHash P (Str.ofString "_law_row"), key := Value.str (Str.ofString "_law_row") 570, val := Value.ref 273 }, { hash := PyData.keyHash P (Str.ofString "_law_tried"), key := Value.str (Str.ofString "_law_tried") 580, val := Value.ref 280 }, { hash := PyData.keyHash P (Str.ofString "_law_whole"), key := Value.str (Str.ofString "_law_whole") 590, val := Value.ref 287 }, { hash := PyData.keyHash P (Str.ofString "law"), key := Value.str (Str.ofString "law") 606, val := Value.ref 294 }] 39 }
noncomputable def hd12 (P : Params) : Obj := { cls := Value.none, data := Data.fields #[Value.int 1 0, Value.int 0 0, Value.ref 20, Value.int 5 0, Value.int 0 0, Value.ref 27, Value.int 9 0, Value.int 0 0, Value.ref 48, Value.int 11 0, Value.int 0 0, Value.ref 58, Value.int 13 0, Value.int 0 0, Value.ref 65, Value.int 15 0, Value.int 0 0, Value.ref 72, Value.int 22 0, Value.int 0 0, Value.ref 79, Value.int 30 0, Value.int 0 0, Value.ref 86, Value.int 48 0, Value.int 0 0, Value.ref 116, Value.int 58 0, Value.int 0 0, Value.ref 123, Value.int 69 0, Value.int 0 0, Value.ref 152, Value.int 103 0, Value.int 0 0, Value.ref 195, Value.int 107 0, Value.int 0 0, Value.ref 202, Value.int 115 0, Value.int 0 0, Value.ref 229, Value.int 120 0, Value.int 0 0, Value.ref 236, Value.int 125 0, Value.int 0 0, Value.ref 243, Value.int 131 0, Value.int 0 0, Value.ref 248, Value.int 135 0, Value.int 0 0, Value.ref 253, Value.int 138 0, Value.int 0 0, Value.ref 260, Value.int 145 0, Value.int 0 0, Value.ref 267, Value.int 155 0, Value.int 0 0, Value.ref 272, Value.int 164 0, Value.int 0 0, Value.ref 279, Value.int 171 0, Value.int 0 0, Value.ref 286, Value.int 175 0, Value.int 0 0, Value.ref 293] }
noncomputable def hd250 (P : Params) : Obj := { cls := Value.type "tuple", data := Data.seq #[] }
noncomputable def hd251 (P : Params) : Obj := { cls := Value.none, data := Data.fields #[] }
noncomputable def hd252 (P : Params) : Obj := { cls := Value.none, data := Data.func { name := Str.ofString "_law_stored", qualname := Str.ofString "_law_stored", params := fArgs (sAt 27), body := FuncBody.stmts (fBody (sAt 27)), scope := fScope (sAt 27), globals := 0, closure := [], defaults := Value.none, kwdefaults := Value.none } }
noncomputable def hd253 (P : Params) : Obj := { cls := Value.type "code", data := Data.fields #[Value.str (Str.ofString "_law_stored") 536, Value.str (Str.ofString "_law_stored") 537, Value.str (Str.ofString "/claim/cut.py") 538, Value.int 135 0, Value.int 1 0, Value.int 0 0, Value.int 0 0, Value.int 3 0, Value.ref 250, Value.bool Bool.true, Value.int 181 0, Value.ref 251, Value.none, Value.none, Value.none, Value.ref 252, Value.int 539 0, Value.int 135 0, Value.str (Str.ofString "/claim/cut.py") 540] }
noncomputable def hd254 (P : Params) : Obj := { cls := Value.type "function", data := Data.func { name := Str.ofString "_law_stored", qualname := Str.ofString "_law_stored", params := fArgs (sAt 27), body := FuncBody.stmts (fBody (sAt 27)), scope := fScope (sAt 27), globals := 3, closure := [], defaults := Value.none, kwdefaults := Value.none, pyModule := Value.str (Str.ofString "law_pb0104_01") 504, code := Value.ref 253 } }
noncomputable def hd255 (P : Params) : Obj := { cls := Value.type "tuple", data := Data.seq #[] }
noncomputable def hd256 (P : Params) : Obj := { cls := Value.none, data := Data.fields #[] }
noncomputable def hd257 (P : Params) : Obj := { cls := Value.type "tuple", data := Data.seq #[Value.str (Str.ofString "far") 545, Value.str (Str.ofString "found") 546, Value.str (Str.ofString "rest") 547] }
noncomputable def hd258 (P : Params) : Obj := { cls := Value.type "tuple", data := Data.seq #[] }
noncomputable def hd259 (P : Params) : Obj := { cls := Value.none, data := Data.func { name := Str.ofString "_law_back", qualname := Str.ofString "_law_back", params := fArgs (sAt 28), body := FuncBody.stmts (fBody (sAt 28)), scope := fScope (sAt 28), globals := 0, closure := [], defaults := Value.none, kwdefaults := Value.none } }
noncomputable def hd260 (P : Params) : Obj := { cls := Value.type "code", data := Data.fields #[Value.str (Str.ofString "_law_back") 542, Value.str (Str.ofString "_law_back") 543, Value.str (Str.ofString "/claim/cut.py") 544, Value.int 138 0, Value.int 1 0, Value.int 0 0, Value.int 0 0, Value.int 3 0, Value.ref 255, Value.bool Bool.true, Value.int 181 0, Value.ref 256, Value.none, Value.ref 257, Value.ref 258, Value.ref 259, Value.int 548 0, Value.int 138 0, Value.str (Str.ofString "/claim/cut.py") 549] }
noncomputable def hd261 (P : Params) : Obj := { cls := Value.type "function", data := Data.func { name := Str.ofString "_law_back", qualname := Str.ofString "_law_back", params := fArgs (sAt 28), body := FuncBody.stmts (fBody (sAt 28)), scope := fScope (sAt 28), globals := 3, closure := [], defaults := Value.none, kwdefaults := Value.none, pyModule := Value.str (Str.ofString "law_pb0104_01") 504, code := Value.ref 260 } }
noncomputable def hd262 (P : Params) : Obj := { cls := Value.type "tuple", data := Data.seq #[] }
noncomputable def hd263 (P : Params) : Obj := { cls := Value.none, data := Data.fields #[] }
noncomputable def hd264 (P : Params) : Obj := { cls := Value.type "tuple", data := Data.seq #[Value.str (Str.ofString "w") 554, Value.str (Str.ofString "row") 555, Value.str (Str.ofString "oid") 556, Value.str (Str.ofString "kind") 557, Value.str (Str.ofString "content") 558, Value.str (Str.ofString "base") 559, Value.str (Str.ofString "delta") 560, Value.str (Str.ofString "sorts") 561] }
noncomputable def hd265 (P : Params) : Obj := { cls := Value.type "tuple", data := Data.seq #[] }
noncomputable def hd266 (P : Params) : Obj := { cls := Value.none, data := Data.func { name := Str.ofString "_law_piece", qualname := Str.ofString "_law_piece", params := fArgs (sAt 29), body := FuncBody.stmts (fBody (sAt 29)), scope := fScope (sAt 29), globals := 0, closure := [], defaults := Value.none, kwdefaults := Value.none } }
noncomputable def hd267 (P : Params) : Obj := { cls := Value.type "code", data := Data.fields #[Value.str (Str.ofString "_law_piece") 551, Value.str (Str.ofString "_law_piece") 552, Value.str (Str.ofString "/claim/cut.py") 553, Value.int 145 0, Value.int 2 0, Value.int 0 0, Value.int 0 0, Value.int 3 0, Value.ref 262, Value.bool Bool.true, Value.int 181 0, Value.ref 263, Value.none, Value.ref 264, Value.ref 265, Value.ref 266, Value.int 562 0, Value.int 145 0, Value.str (Str.ofString "/claim/cut.py") 563] }
noncomputable def hd268 (P : Params) : Obj := { cls := Value.type "function", data := Data.func { name := Str.ofString "_law_piece", qualname := Str.ofString "_law_piece", params := fArgs (sAt 29), body := FuncBody.stmts (fBody (sAt 29)), scope := fScope (sAt 29), globals := 3, closure := [], defaults := Value.none, kwdefaults := Value.none, pyModule := Value.str (Str.ofString "law_pb0104_01") 504, code := Value.ref 267 } }
noncomputable def hd269 (P : Params) : Obj := { cls := Value.type "tuple", data := Data.seq #[] }
noncomputable def hd270 (P : Params) : Obj := { cls := Value.none, data := Data.fields #[] }
noncomputable def hd271 (P : Params) : Obj := { cls := Value.none, data := Data.func { name := Str.ofString "_law_row", qualname := Str.ofString "_law_row", params := fArgs (sAt 30), body := FuncBody.stmts (fBody (sAt 30)), scope := fScope (sAt 30), globals := 0, closure := [], defaults := Value.none, kwdefaults := Value.none } }
noncomputable def hd272 (P : Params) : Obj := { cls := Value.type "code", data := Data.fields #[Value.str (Str.ofString "_law_row") 565, Value.str (Str.ofString "_law_row") 566, Value.str (Str.ofString "/claim/cut.py") 567, Value.int 155 0, Value.int 2 0, Value.int 0 0, Value.int 0 0, Value.int 3 0, Value.ref 269, Value.bool Bool.true, Value.int 181 0, Value.ref 270, Value.none, Value.none, Value.none, Value.ref 271, Value.int 568 0, Value.int 155 0, Value.str (Str.ofString "/claim/cut.py") 569] }
noncomputable def hd273 (P : Params) : Obj := { cls := Value.type "function", data := Data.func { name := Str.ofString "_law_row", qualname := Str.ofString "_law_row", params := fArgs (sAt 30), body := FuncBody.stmts (fBody (sAt 30)), scope := fScope (sAt 30), globals := 3, closure := [], defaults := Value.none, kwdefaults := Value.none, pyModule := Value.str (Str.ofString "law_pb0104_01") 504, code := Value.ref 272 } }
noncomputable def hd274 (P : Params) : Obj := { cls := Value.type "tuple", data := Data.seq #[] }
noncomputable def hd275 (P : Params) : Obj := { cls := Value.none, data := Data.fields #[] }
noncomputable def hd276 (P : Params) : Obj := { cls := Value.type "tuple", data := Data.seq #[Value.str (Str.ofString "builder") 574, Value.str (Str.ofString "entry") 575, Value.str (Str.ofString "is_add") 576, Value.str (Str.ofString "found") 577] }
noncomputable def hd277 (P : Params) : Obj := { cls := Value.type "tuple", data := Data.seq #[] }
noncomputable def hd278 (P : Params) : Obj := { cls := Value.none, data := Data.func { name := Str.ofString "_law_tried", qualname := Str.ofString "_law_tried", params := fArgs (sAt 31), body := FuncBody.stmts (fBody (sAt 31)), scope := fScope (sAt 31), globals := 0, closure := [], defaults := Value.none, kwdefaults := Value.none } }
noncomputable def hd279 (P : Params) : Obj := { cls := Value.type "code", data := Data.fields #[Value.str (Str.ofString "_law_tried") 571, Value.str (Str.ofString "_law_tried") 572, Value.str (Str.ofString "/claim/cut.py") 573, Value.int 164 0, Value.int 3 0, Value.int 0 0, Value.int 0 0, Value.int 3 0, Value.ref 274, Value.bool Bool.true, Value.int 181 0, Value.ref 275, Value.none, Value.ref 276, Value.ref 277, Value.ref 278, Value.int 578 0, Value.int 164 0, Value.str (Str.ofString "/claim/cut.py") 579] }
noncomputable def hd280 (P : Params) : Obj := { cls := Value.type "function", data := Data.func { name := Str.ofString "_law_tried", qualname := Str.ofString "_law_tried", params := fArgs (sAt 31), body := FuncBody.stmts (fBody (sAt 31)), scope := fScope (sAt 31), globals := 3, closure := [], defaults := Value.none, kwdefaults := Value.none, pyModule := Value.str (Str.ofString "law_pb0104_01") 504, code := Value.ref 279 } }
noncomputable def hd281 (P : Params) : Obj := { cls := Value.type "tuple", data := Data.seq #[] }
noncomputable def hd282 (P : Params) : Obj := { cls := Value.none, data := Data.fields #[] }
noncomputable def hd283 (P : Params) : Obj := { cls := Value.type "tuple", data := Data.seq #[Value.str (Str.ofString "w") 584, Value.str (Str.ofString "hasher") 585, Value.str (Str.ofString "many") 586, Value.str (Str.ofString "body") 587] }
noncomputable def hd284 (P : Params) : Obj := { cls := Value.type "tuple", data := Data.seq #[] }
noncomputable def hd285 (P : Params) : Obj := { cls := Value.none, data := Data.func { name := Str.ofString "_law_whole", qualname := Str.ofString "_law_whole", params := fArgs (sAt 32), body := FuncBody.stmts (fBody (sAt 32)), scope := fScope (sAt 32), globals := 0, closure := [], defaults := Value.none, kwdefaults := Value.none } }
noncomputable def hd286 (P : Params) : Obj := { cls := Value.type "code", data := Data.fields #[Value.str (Str.ofString "_law_whole") 581, Value.str (Str.ofString "_law_whole") 582, Value.str (Str.ofString "/claim/cut.py") 583, Value.int 171 0, Value.int 2 0, Value.int 0 0, Value.int 0 0, Value.int 3 0, Value.ref 281, Value.bool Bool.true, Value.int 181 0, Value.ref 282, Value.none, Value.ref 283, Value.ref 284, Value.ref 285, Value.int 588 0, Value.int 171 0, Value.str (Str.ofString "/claim/cut.py") 589] }
noncomputable def hd287 (P : Params) : Obj := { cls := Value.type "function", data := Data.func { name := Str.ofString "_law_whole", qualname := Str.ofString "_law_whole", params := fArgs (sAt 32), body := FuncBody.stmts (fBody (sAt 32)), scope := fScope (sAt 32), globals := 3, closure := [], defaults := Value.none, kwdefaults := Value.none, pyModule := Value.str (Str.ofString "law_pb0104_01") 504, code := Value.ref 286 } }
noncomputable def hd288 (P : Params) : Obj := { cls := Value.type "tuple", data := Data.seq #[] }
noncomputable def hd289 (P : Params) : Obj := { cls := Value.none, data := Data.fields #[] }
noncomputable def hd290 (P : Params) : Obj := { cls := Value.type "tuple", data := Data.seq #[Value.str (Str.ofString "script") 594, Value.str (Str.ofString "deck") 595, Value.str (Str.ofString "hasher") 596, Value.str (Str.ofString "w") 597, Value.str (Str.ofString "builder") 598, Value.str (Str.ofString "go") 599, Value.str (Str.ofString "row") 600, Value.str (Str.ofString "entry") 601, Value.str (Str.ofString "piece") 602, Value.str (Str.ofString "due") 603] }
noncomputable def hd291 (P : Params) : Obj := { cls := Value.type "tuple", data := Data.seq #[] }
noncomputable def hd292 (P : Params) : Obj := { cls := Value.none, data := Data.func { name := Str.ofString "law", qualname := Str.ofString "law", params := fArgs (sAt 33), body := FuncBody.stmts (fBody (sAt 33)), scope := fScope (sAt 33), globals := 0, closure := [], defaults := Value.none, kwdefaults := Value.none } }
noncomputable def hd293 (P : Params) : Obj := { cls := Value.type "code", data := Data.fields #[Value.str (Str.ofString "law") 591, Value.str (Str.ofString "law") 592, Value.str (Str.ofString "/claim/cut.py") 593, Value.int 175 0, Value.int 1 0, Value.int 0 0, Value.int 0 0, Value.int 3 0, Value.ref 288, Value.bool Bool.true, Value.int 181 0, Value.ref 289, Value.none, Value.ref 290, Value.ref 291, Value.ref 292, Value.int 604 0, Value.int 175 0, Value.str (Str.ofString "/claim/cut.py") 605] }
noncomputable def hd294 (P : Params) : Obj := { cls := Value.type "function", data := Data.func { name := Str.ofString "law", qualname := Str.ofString "law", params := fArgs (sAt 33), body := FuncBody.stmts (fBody (sAt 33)), scope := fScope (sAt 33), globals := 3, closure := [], defaults := Value.none, kwdefaults := Value.none, pyModule := Value.str (Str.ofString "law_pb0104_01") 504, code := Value.ref 293 } }
noncomputable def td (P : Params) : BT := (.node (boot_o_0 P) (.node (boot_o_1 P) (.node (hd3 P) (.node (boot_o_7 P) (.node (top15.o_8 P) (.node (top15.o_24 P) (.node (top15.o_60 P) (.node (ha127 P) (.node (hd255 P) .nil .nil) .nil) (.node (hb191 P) .nil .nil)) (.node (top15.o_95 P) (.node (hb159 P) (.node (hd287 P) .nil .nil) .nil) (.node (hc223 P) .nil .nil))) (.node (top15.o_44 P) (.node (top15.o_76 P) (.node (ha143 P) (.node (hd271 P) .nil .nil) .nil) (.node (hc207 P) .nil .nil)) (.node (ha111 P) (.node (hb175 P) .nil .nil) (.node (hc239 P) .nil .nil)))) (.node (top15.o_16 P) (.node (top15.o_39 P) (.node (top15.o_68 P) (.node (ha135 P) (.node (hd263 P) .nil .nil) .nil) (.node (hc199 P) .nil .nil)) (.node (top15.o_103 P) (.node (hb167 P) .nil .nil) (.node (hc231 P) .nil .nil))) (.node (top15.o_52 P) (.node (top15.o_87 P) (.node (hb151 P) (.node (hd279 P) .nil .nil) .nil) (.node (hc215 P) .nil .nil)) (.node (ha119 P) (.node (hb183 P) .nil .nil) (.node (hc247 P) .nil .nil))))) (.node (top15.o_1 P) (.node (top15.o_12 P) (.node (top15.o_28 P) (.node (top15.o_64 P) (.node (ha131 P) (.node (hd259 P) .nil .nil) .nil) (.node (hb195 P) .nil .nil)) (.node (top15.o_99 P) (.node (hb163 P) (.node (hd291 P) .nil .nil) .nil) (.node (hc227 P) .nil .nil))) (.node (top15.o_48 P) (.node (top15.o_83 P) (.node (hb147 P) (.node (hd275 P) .nil .nil) .nil) (.node (hc211 P) .nil .nil)) (.node (ha115 P) (.node (hb179 P) .nil .nil) (.node (hc243 P) .nil .nil)))) (.node (top15.o_20 P) (.node (top15.o_40 P) (.node (top15.o_72 P) (.node (ha139 P) (.node (hd267 P) .nil .nil) .nil) (.node (hc203 P) .nil .nil)) (.node (top15.o_107 P) (.node (hb171 P) .nil .nil) (.node (hc235 P) .nil .nil))) (.node (top15.o_56 P) (.node (top15.o_91 P) (.node (hb155 P) (.node (hd283 P) .nil .nil) .nil) (.node (hc219 P) .nil .nil)) (.node (ha123 P) (.node (hb187 P) .nil .nil) (.node (hd251 P) .nil .nil)))))) (.node (boot_o_5 P) (.node (boot_o_9 P) (.node (top15.o_10 P) (.node (top15.o_26 P) (.node (top15.o_62 P) (.node (ha129 P) (.node (hd257 P) .nil .nil) .nil) (.node (hb193 P) .nil .nil)) (.node (top15.o_97 P) (.node (hb161 P) (.node (hd289 P) .nil .nil) .nil) (.node (hc225 P) .nil .nil))) (.node (top15.o_46 P) (.node (top15.o_81 P) (.node (ha145 P) (.node (hd273 P) .nil .nil) .nil) (.node (hc209 P) .nil .nil)) (.node (ha113 P) (.node (hb177 P) .nil .nil) (.node (hc241 P) .nil .nil)))) (.node (top15.o_18 P) (.node (top15.o_34 P) (.node (top15.o_70 P) (.node (ha137 P) (.node (hd265 P) .nil .nil) .nil) (.node (hc201 P) .nil .nil)) (.node (top15.o_105 P) (.node (hb169 P) .nil .nil) (.node (hc233 P) .nil .nil))) (.node (top15.o_54 P) (.node (top15.o_89 P) (.node (hb153 P) (.node (hd281 P) .nil .nil) .nil) (.node (hc217 P) .nil .nil)) (.node (ha121 P) (.node (hb185 P) .nil .nil) (.node (hc249 P) .nil .nil))))) (.node (top15.o_3 P) (.node (top15.o_14 P) (.node (top15.o_30 P) (.node (top15.o_66 P) (.node (ha133 P) (.node (hd261 P) .nil .nil) .nil) (.node (hc197 P) .nil .nil)) (.node (top15.o_101 P) (.node (hb165 P) (.node (hd293 P) .nil .nil) .nil) (.node (hc229 P) .nil .nil))) (.node (top15.o_50 P) (.node (top15.o_85 P) (.node (hb149 P) (.node (hd277 P) .nil .nil) .nil) (.node (hc213 P) .nil .nil)) (.node (ha117 P) (.node (hb181 P) .nil .nil) (.node (hc245 P) .nil .nil)))) (.node (top15.o_22 P) (.node (top15.o_42 P) (.node (top15.o_74 P) (.node (ha141 P) (.node (hd269 P) .nil .nil) .nil) (.node (hc205 P) .nil .nil)) (.node (top15.o_109 P) (.node (hb173 P) .nil .nil) (.node (hc237 P) .nil .nil))) (.node (top15.o_58 P) (.node (top15.o_93 P) (.node (hb157 P) (.node (hd285 P) .nil .nil) .nil) (.node (hc221 P) .nil .nil)) (.node (ha125 P) (.node (hb189 P) .nil .nil) (.node (hd253 P) .nil .nil))))))) (.node (top15.o_5 P) (.node (boot_o_4 P) (.node (boot_o_8 P) (.node (top15.o_9 P) (.node (top15.o_25 P) (.node (top15.o_61 P) (.node (ha128 P) (.node (hd256 P) .nil .nil) .nil) (.node (hb192 P) .nil .nil)) (.node (top15.o_96 P) (.node (hb160 P) (.node (hd288 P) .nil .nil) .nil) (.node (hc224 P) .nil .nil))) (.node (top15.o_45 P) (.node (top15.o_77 P) (.node (ha144 P) (.node (hd272 P) .nil .nil) .nil) (.node (hc208 P) .nil .nil)) (.node (ha112 P) (.node (hb176 P) .nil .nil) (.node (hc240 P) .nil .nil)))) (.node (top15.o_17 P) (.node (top15.o_33 P) (.node (top15.o_69 P) (.node (ha136 P) (.node (hd264 P) .nil .nil) .nil) (.node (hc200 P) .nil .nil)) (.node (top15.o_104 P) (.node (hb168 P) .nil .nil) (.node (hc232 P) .nil .nil))) (.node (top15.o_53 P) (.node (top15.o_88 P) (.node (hb152 P) (.node (hd280 P) .nil .nil) .nil) (.node (hc216 P) .nil .nil)) (.node (ha120 P) (.node (hb184 P) .nil .nil) (.node (hc248 P) .nil .nil))))) (.node (hd12 P) (.node (top15.o_13 P) (.node (top15.o_29 P) (.node (top15.o_65 P) (.node (ha132 P) (.node (hd260 P) .nil .nil) .nil) (.node (hb196 P) .nil .nil)) (.node (top15.o_100 P) (.node (hb164 P) (.node (hd292 P) .nil .nil) .nil) (.node (hc228 P) .nil .nil))) (.node (top15.o_49 P) (.node (top15.o_84 P) (.node (hb148 P) (.node (hd276 P) .nil .nil) .nil) (.node (hc212 P) .nil .nil)) (.node (ha116 P) (.node (hb180 P) .nil .nil) (.node (hc244 P) .nil .nil)))) (.node (top15.o_21 P) (.node (top15.o_41 P) (.node (top15.o_73 P) (.node (ha140 P) (.node (hd268 P) .nil .nil) .nil) (.node (hc204 P) .nil .nil)) (.node (top15.o_108 P) (.node (hb172 P) .nil .nil) (.node (hc236 P) .nil .nil))) (.node (top15.o_57 P) (.node (top15.o_92 P) (.node (hb156 P) (.node (hd284 P) .nil .nil) .nil) (.node (hc220 P) .nil .nil)) (.node (ha124 P) (.node (hb188 P) .nil .nil) (.node (hd252 P) .nil .nil)))))) (.node (boot_o_6 P) (.node (boot_o_10 P) (.node (top15.o_11 P) (.node (top15.o_27 P) (.node (top15.o_63 P) (.node (ha130 P) (.node (hd258 P) .nil .nil) .nil) (.node (hb194 P) .nil .nil)) (.node (top15.o_98 P) (.node (hb162 P) (.node (hd290 P) .nil .nil) .nil) (.node (hc226 P) .nil .nil))) (.node (top15.o_47 P) (.node (top15.o_82 P) (.node (ha146 P) (.node (hd274 P) .nil .nil) .nil) (.node (hc210 P) .nil .nil)) (.node (ha114 P) (.node (hb178 P) .nil .nil) (.node (hc242 P) .nil .nil)))) (.node (top15.o_19 P) (.node (top15.o_35 P) (.node (top15.o_71 P) (.node (ha138 P) (.node (hd266 P) .nil .nil) .nil) (.node (hc202 P) .nil .nil)) (.node (top15.o_106 P) (.node (hb170 P) .nil .nil) (.node (hc234 P) .nil .nil))) (.node (top15.o_55 P) (.node (top15.o_90 P) (.node (hb154 P) (.node (hd282 P) .nil .nil) .nil) (.node (hc218 P) .nil .nil)) (.node (ha122 P) (.node (hb186 P) .nil .nil) (.node (hd250 P) .nil .nil))))) (.node (top15.o_4 P) (.node (top15.o_15 P) (.node (top15.o_31 P) (.node (top15.o_67 P) (.node (ha134 P) (.node (hd262 P) .nil .nil) .nil) (.node (hc198 P) .nil .nil)) (.node (top15.o_102 P) (.node (hb166 P) (.node (hd294 P) .nil .nil) .nil) (.node (hc230 P) .nil .nil))) (.node (top15.o_51 P) (.node (top15.o_86 P) (.node (hb150 P) (.node (hd278 P) .nil .nil) .nil) (.node (hc214 P) .nil .nil)) (.node (ha118 P) (.node (hb182 P) .nil .nil) (.node (hc246 P) .nil .nil)))) (.node (top15.o_23 P) (.node (top15.o_43 P) (.node (top15.o_75 P) (.node (ha142 P) (.node (hd270 P) .nil .nil) .nil) (.node (hc206 P) .nil .nil)) (.node (dO4 P) (.node (hb174 P) .nil .nil) (.node (hc238 P) .nil .nil))) (.node (top15.o_59 P) (.node (top15.o_94 P) (.node (hb158 P) (.node (hd286 P) .nil .nil) .nil) (.node (hc222 P) .nil .nil)) (.node (ha126 P) (.node (hb190 P) .nil .nil) (.node (hd254 P) .nil .nil))))))))
noncomputable def stsd : List Stmt := ((behindTheImports PRG).drop 27).take 7
theorem rund (b : List Stmt) (w : World) (os : OsState) : segRunT treeTable PRG w 11 annM 1 222 ⟨tc w.params, 250, {}, ⟨[]⟩, {}, 536, os⟩ (piecesOf stsd top15.env_1 (cB b) ⟨131, 0, 134, 68⟩ [topFrame q0]) = some (.next, ⟨td w.params, 295, {}, ⟨[]⟩, {}, 607, os⟩, cB b, ⟨175, 0, 195, 96⟩) := by kernel_rfl
noncomputable def hEnd (P : Params) : Heap := ⟨⟨[boot_o_0 P, boot_o_1 P, top15.o_5 P, hd3 P, boot_o_4 P, boot_o_5 P, boot_o_6 P, boot_o_7 P, boot_o_8 P, boot_o_9 P, boot_o_10 P, top15.o_1 P, hd12 P, top15.o_3 P, top15.o_4 P, top15.o_8 P, top15.o_9 P, top15.o_10 P, top15.o_11 P, top15.o_12 P, top15.o_13 P, top15.o_14 P, top15.o_15 P, top15.o_16 P, top15.o_17 P, top15.o_18 P, top15.o_19 P, top15.o_20 P, top15.o_21 P, top15.o_22 P, top15.o_23 P, top15.o_24 P, top15.o_25 P, top15.o_26 P, top15.o_27 P, top15.o_28 P, top15.o_29 P, top15.o_30 P, top15.o_31 P, top15.o_39 P, top15.o_33 P, top15.o_34 P, top15.o_35 P, top15.o_40 P, top15.o_41 P, top15.o_42 P, top15.o_43 P, top15.o_44 P, top15.o_45 P, top15.o_46 P, top15.o_47 P, top15.o_48 P, top15.o_49 P, top15.o_50 P, top15.o_51 P, top15.o_52 P, top15.o_53 P, top15.o_54 P, top15.o_55 P, top15.o_56 P, top15.o_57 P, top15.o_58 P, top15.o_59 P, top15.o_60 P, top15.o_61 P, top15.o_62 P, top15.o_63 P, top15.o_64 P, top15.o_65 P, top15.o_66 P, top15.o_67 P, top15.o_68 P, top15.o_69 P, top15.o_70 P, top15.o_71 P, top15.o_72 P, top15.o_73 P, top15.o_74 P, top15.o_75 P, top15.o_76 P, top15.o_77 P, top15.o_81 P, top15.o_82 P, top15.o_83 P, top15.o_84 P, top15.o_85 P, top15.o_86 P, top15.o_87 P, top15.o_88 P, top15.o_89 P, top15.o_90 P, top15.o_91 P, top15.o_92 P, top15.o_93 P, top15.o_94 P, top15.o_95 P, top15.o_96 P, top15.o_97 P, top15.o_98 P, top15.o_99 P, top15.o_100 P, top15.o_101 P, top15.o_102 P, top15.o_103 P, top15.o_104 P, top15.o_105 P, top15.o_106 P, top15.o_107 P, top15.o_108 P, top15.o_109 P, dO4 P, ha111 P, ha112 P, ha113 P, ha114 P, ha115 P, ha116 P, ha117 P, ha118 P, ha119 P, ha120 P, ha121 P, ha122 P, ha123 P, ha124 P, ha125 P, ha126 P, ha127 P, ha128 P, ha129 P, ha130 P, ha131 P, ha132 P, ha133 P, ha134 P, ha135 P, ha136 P, ha137 P, ha138 P, ha139 P, ha140 P, ha141 P, ha142 P, ha143 P, ha144 P, ha145 P, ha146 P, hb147 P, hb148 P, hb149 P, hb150 P, hb151 P, hb152 P, hb153 P, hb154 P, hb155 P, hb156 P, hb157 P, hb158 P, hb159 P, hb160 P, hb161 P, hb162 P, hb163 P, hb164 P, hb165 P, hb166 P, hb167 P, hb168 P, hb169 P, hb170 P, hb171 P, hb172 P, hb173 P, hb174 P, hb175 P, hb176 P, hb177 P, hb178 P, hb179 P, hb180 P, hb181 P, hb182 P, hb183 P, hb184 P, hb185 P, hb186 P, hb187 P, hb188 P, hb189 P, hb190 P, hb191 P, hb192 P, hb193 P, hb194 P, hb195 P, hb196 P, hc197 P, hc198 P, hc199 P, hc200 P, hc201 P, hc202 P, hc203 P, hc204 P, hc205 P, hc206 P, hc207 P, hc208 P, hc209 P, hc210 P, hc211 P, hc212 P, hc213 P, hc214 P, hc215 P, hc216 P, hc217 P, hc218 P, hc219 P, hc220 P, hc221 P, hc222 P, hc223 P, hc224 P, hc225 P, hc226 P, hc227 P, hc228 P, hc229 P, hc230 P, hc231 P, hc232 P, hc233 P, hc234 P, hc235 P, hc236 P, hc237 P, hc238 P, hc239 P, hc240 P, hc241 P, hc242 P, hc243 P, hc244 P, hc245 P, hc246 P, hc247 P, hc248 P, hc249 P, hd250 P, hd251 P, hd252 P, hd253 P, hd254 P, hd255 P, hd256 P, hd257 P, hd258 P, hd259 P, hd260 P, hd261 P, hd262 P, hd263 P, hd264 P, hd265 P, hd266 P, hd267 P, hd268 P, hd269 P, hd270 P, hd271 P, hd272 P, hd273 P, hd274 P, hd275 P, hd276 P, hd277 P, hd278 P, hd279 P, hd280 P, hd281 P, hd282 P, hd283 P, hd284 P, hd285 P, hd286 P, hd287 P, hd288 P, hd289 P, hd290 P, hd291 P, hd292 P, hd293 P, hd294 P]⟩, {}⟩
noncomputable def hp11 (P : Params) : Obj := { cls := Value.type "tuple", data := Data.seq #[] }
noncomputable def hp12 (P : Params) : Obj := { cls := Value.none, data := Data.fields #[] }
noncomputable def hp13 (P : Params) : Obj := { cls := Value.type "code", data := Data.fields #[Value.str (Str.ofString "<module>") 182, Value.str (Str.ofString "<module>") 183, Value.str (Str.ofString "/claim/cut.py") 184, Value.int 1 0, Value.int 0 0, Value.int 0 0, Value.int 0 0, Value.int 0 0, Value.ref 11, Value.bool Bool.false, Value.int 181 0, Value.ref 12, Value.none, Value.none, Value.none, Value.none, Value.int 185 0, Value.int 1 0, Value.str (Str.ofString "/claim/cut.py") 186] }
noncomputable def hp14 (P : Params) : Obj := { cls := Value.type "frame", slots := #[Option.some (Value.ref 13), Option.some (Value.ref 3), Option.some (Value.ref 3), Option.none, Option.some (Value.str (Str.ofString "__main__") 164), Option.none, Option.some (Value.ref 0)] }
noncomputable def hPre (P : Params) : Heap := ⟨⟨[boot_o_0 P, boot_o_1 P, boot_o_2 P, boot_o_3 P, boot_o_4 P, boot_o_5 P, boot_o_6 P, boot_o_7 P, boot_o_8 P, boot_o_9 P, boot_o_10 P, hp11 P, hp12 P, hp13 P, hp14 P]⟩, {}⟩
-- pre steps 12 toks 187 pos ⟨0, 0, 0, 0⟩ gens 0; block steps 0 pos ⟨0, 0, 0, 0⟩; fin steps 1 toks 607 pos ⟨175, 0, 195, 96⟩ same true
noncomputable def KF (P : Params) : Frag := (nat_lit 2, top15.o_5 P) :: (nat_lit 3, hd3 P) :: (nat_lit 15, top15.o_8 P) :: (nat_lit 17, top15.o_10 P) :: (nat_lit 18, top15.o_11 P) :: (nat_lit 20, top15.o_13 P) :: (nat_lit 21, top15.o_14 P) :: (nat_lit 22, top15.o_15 P) :: (nat_lit 29, top15.o_22 P) :: (nat_lit 30, top15.o_23 P) :: (nat_lit 32, top15.o_25 P) :: (nat_lit 33, top15.o_26 P) :: (nat_lit 35, top15.o_28 P) :: (nat_lit 36, top15.o_29 P) :: (nat_lit 37, top15.o_30 P) :: (nat_lit 38, top15.o_31 P) :: (nat_lit 39, top15.o_39 P) :: (nat_lit 40, top15.o_33 P) :: (nat_lit 43, top15.o_40 P) :: (nat_lit 50, top15.o_47 P) :: (nat_lit 51, top15.o_48 P) :: (nat_lit 52, top15.o_49 P) :: (nat_lit 55, top15.o_52 P) :: (nat_lit 58, top15.o_55 P) :: (nat_lit 59, top15.o_56 P) :: (nat_lit 60, top15.o_57 P) :: (nat_lit 62, top15.o_59 P) :: (nat_lit 63, top15.o_60 P) :: (nat_lit 65, top15.o_62 P) :: (nat_lit 66, top15.o_63 P) :: (nat_lit 67, top15.o_64 P) :: (nat_lit 69, top15.o_66 P) :: (nat_lit 70, top15.o_67 P) :: (nat_lit 72, top15.o_69 P) :: (nat_lit 73, top15.o_70 P) :: (nat_lit 74, top15.o_71 P) :: (nat_lit 76, top15.o_73 P) :: (nat_lit 77, top15.o_74 P) :: (nat_lit 79, top15.o_76 P) :: (nat_lit 80, top15.o_77 P) :: (nat_lit 88, top15.o_88 P) :: (nat_lit 89, top15.o_89 P) :: (nat_lit 91, top15.o_91 P) :: (nat_lit 92, top15.o_92 P) :: (nat_lit 94, top15.o_94 P) :: (nat_lit 95, top15.o_95 P) :: (nat_lit 96, top15.o_96 P) :: (nat_lit 98, top15.o_98 P) :: (nat_lit 99, top15.o_99 P) :: (nat_lit 101, top15.o_101 P) :: (nat_lit 102, top15.o_102 P) :: (nat_lit 103, top15.o_103 P) :: (nat_lit 104, top15.o_104 P) :: (nat_lit 105, top15.o_105 P) :: (nat_lit 106, top15.o_106 P) :: (nat_lit 107, top15.o_107 P) :: (nat_lit 110, dO4 P) :: (nat_lit 111, ha111 P) :: (nat_lit 113, ha113 P) :: (nat_lit 114, ha114 P) :: (nat_lit 116, ha116 P) :: (nat_lit 117, ha117 P) :: (nat_lit 125, ha125 P) :: (nat_lit 126, ha126 P) :: (nat_lit 128, ha128 P) :: (nat_lit 129, ha129 P) :: (nat_lit 131, ha131 P) :: (nat_lit 132, ha132 P) :: (nat_lit 133, ha133 P) :: (nat_lit 135, ha135 P) :: (nat_lit 136, ha136 P) :: (nat_lit 138, ha138 P) :: (nat_lit 139, ha139 P) :: (nat_lit 140, ha140 P) :: (nat_lit 141, ha141 P) :: (nat_lit 142, ha142 P) :: (nat_lit 143, ha143 P) :: (nat_lit 144, ha144 P) :: (nat_lit 154, hb154 P) :: (nat_lit 155, hb155 P) :: (nat_lit 157, hb157 P) :: (nat_lit 158, hb158 P) :: (nat_lit 160, hb160 P) :: (nat_lit 161, hb161 P) :: (nat_lit 162, hb162 P) :: (nat_lit 164, hb164 P) :: (nat_lit 165, hb165 P) :: (nat_lit 167, hb167 P) :: (nat_lit 168, hb168 P) :: (nat_lit 169, hb169 P) :: (nat_lit 171, hb171 P) :: (nat_lit 172, hb172 P) :: (nat_lit 174, hb174 P) :: (nat_lit 175, hb175 P) :: (nat_lit 176, hb176 P) :: (nat_lit 178, hb178 P) :: (nat_lit 179, hb179 P) :: (nat_lit 181, hb181 P) :: (nat_lit 182, hb182 P) :: (nat_lit 183, hb183 P) :: (nat_lit 184, hb184 P) :: (nat_lit 185, hb185 P) :: (nat_lit 186, hb186 P) :: (nat_lit 187, hb187 P) :: (nat_lit 190, hb190 P) :: (nat_lit 192, hb192 P) :: (nat_lit 193, hb193 P) :: (nat_lit 195, hb195 P) :: (nat_lit 196, hb196 P) :: (nat_lit 204, hc204 P) :: (nat_lit 206, hc206 P) :: (nat_lit 207, hc207 P) :: (nat_lit 209, hc209 P) :: (nat_lit 210, hc210 P) :: (nat_lit 211, hc211 P) :: (nat_lit 212, hc212 P) :: (nat_lit 214, hc214 P) :: (nat_lit 215, hc215 P) :: (nat_lit 217, hc217 P) :: (nat_lit 218, hc218 P) :: (nat_lit 219, hc219 P) :: (nat_lit 220, hc220 P) :: (nat_lit 221, hc221 P) :: (nat_lit 222, hc222 P) :: (nat_lit 223, hc223 P) :: (nat_lit 226, hc226 P) :: (nat_lit 229, hc229 P) :: (nat_lit 230, hc230 P) :: (nat_lit 231, hc231 P) :: (nat_lit 233, hc233 P) :: (nat_lit 234, hc234 P) :: (nat_lit 236, hc236 P) :: (nat_lit 237, hc237 P) :: (nat_lit 238, hc238 P) :: (nat_lit 240, hc240 P) :: (nat_lit 241, hc241 P) :: (nat_lit 243, hc243 P) :: (nat_lit 244, hc244 P) :: (nat_lit 245, hc245 P) :: (nat_lit 248, hc248 P) :: (nat_lit 249, hc249 P) :: (nat_lit 250, hd250 P) :: (nat_lit 253, hd253 P) :: (nat_lit 254, hd254 P) :: (nat_lit 255, hd255 P) :: (nat_lit 257, hd257 P) :: (nat_lit 258, hd258 P) :: (nat_lit 260, hd260 P) :: (nat_lit 261, hd261 P) :: (nat_lit 262, hd262 P) :: (nat_lit 264, hd264 P) :: (nat_lit 265, hd265 P) :: (nat_lit 267, hd267 P) :: (nat_lit 268, hd268 P) :: (nat_lit 269, hd269 P) :: (nat_lit 272, hd272 P) :: (nat_lit 273, hd273 P) :: (nat_lit 274, hd274 P) :: (nat_lit 276, hd276 P) :: (nat_lit 277, hd277 P) :: (nat_lit 279, hd279 P) :: (nat_lit 280, hd280 P) :: (nat_lit 281, hd281 P) :: (nat_lit 283, hd283 P) :: (nat_lit 284, hd284 P) :: (nat_lit 286, hd286 P) :: (nat_lit 287, hd287 P) :: (nat_lit 288, hd288 P) :: (nat_lit 290, hd290 P) :: (nat_lit 291, hd291 P) :: (nat_lit 293, hd293 P) :: (nat_lit 294, hd294 P) :: []
noncomputable def aKF : List Addr := [nat_lit 2, nat_lit 3, nat_lit 15, nat_lit 17, nat_lit 18, nat_lit 20, nat_lit 21, nat_lit 22, nat_lit 29, nat_lit 30, nat_lit 32, nat_lit 33, nat_lit 35, nat_lit 36, nat_lit 37, nat_lit 38, nat_lit 39, nat_lit 40, nat_lit 43, nat_lit 50, nat_lit 51, nat_lit 52, nat_lit 55, nat_lit 58, nat_lit 59, nat_lit 60, nat_lit 62, nat_lit 63, nat_lit 65, nat_lit 66, nat_lit 67, nat_lit 69, nat_lit 70, nat_lit 72, nat_lit 73, nat_lit 74, nat_lit 76, nat_lit 77, nat_lit 79, nat_lit 80, nat_lit 88, nat_lit 89, nat_lit 91, nat_lit 92, nat_lit 94, nat_lit 95, nat_lit 96, nat_lit 98, nat_lit 99, nat_lit 101, nat_lit 102, nat_lit 103, nat_lit 104, nat_lit 105, nat_lit 106, nat_lit 107, nat_lit 110, nat_lit 111, nat_lit 113, nat_lit 114, nat_lit 116, nat_lit 117, nat_lit 125, nat_lit 126, nat_lit 128, nat_lit 129, nat_lit 131, nat_lit 132, nat_lit 133, nat_lit 135, nat_lit 136, nat_lit 138, nat_lit 139, nat_lit 140, nat_lit 141, nat_lit 142, nat_lit 143, nat_lit 144, nat_lit 154, nat_lit 155, nat_lit 157, nat_lit 158, nat_lit 160, nat_lit 161, nat_lit 162, nat_lit 164, nat_lit 165, nat_lit 167, nat_lit 168, nat_lit 169, nat_lit 171, nat_lit 172, nat_lit 174, nat_lit 175, nat_lit 176, nat_lit 178, nat_lit 179, nat_lit 181, nat_lit 182, nat_lit 183, nat_lit 184, nat_lit 185, nat_lit 186, nat_lit 187, nat_lit 190, nat_lit 192, nat_lit 193, nat_lit 195, nat_lit 196, nat_lit 204, nat_lit 206, nat_lit 207, nat_lit 209, nat_lit 210, nat_lit 211, nat_lit 212, nat_lit 214, nat_lit 215, nat_lit 217, nat_lit 218, nat_lit 219, nat_lit 220, nat_lit 221, nat_lit 222, nat_lit 223, nat_lit 226, nat_lit 229, nat_lit 230, nat_lit 231, nat_lit 233, nat_lit 234, nat_lit 236, nat_lit 237, nat_lit 238, nat_lit 240, nat_lit 241, nat_lit 243, nat_lit 244, nat_lit 245, nat_lit 248, nat_lit 249, nat_lit 250, nat_lit 253, nat_lit 254, nat_lit 255, nat_lit 257, nat_lit 258, nat_lit 260, nat_lit 261, nat_lit 262, nat_lit 264, nat_lit 265, nat_lit 267, nat_lit 268, nat_lit 269, nat_lit 272, nat_lit 273, nat_lit 274, nat_lit 276, nat_lit 277, nat_lit 279, nat_lit 280, nat_lit 281, nat_lit 283, nat_lit 284, nat_lit 286, nat_lit 287, nat_lit 288, nat_lit 290, nat_lit 291, nat_lit 293, nat_lit 294]
end Mine

end
noncomputable section
open PySem PySem.W PySem.Calls PyProof.Rows
set_option Elab.async false
set_option maxRecDepth 1000000
set_option maxHeartbeats 400000
namespace Mine
noncomputable abbrev keepL : List Nat := [0, 2, 3, 4, 5, 6, 7, 8, 10, 11, 12, 13, 14, 15, 16, 17, 18, 19, 21, 23, 24, 25, 26, 27, 28, 29, 30, 31, 32, 33]
noncomputable def qV : Program := view PRG keepL
noncomputable abbrev looseL : List Str := [Str.ofString "GitError", Str.ofString "KIND_NUMBERS"]
noncomputable abbrev cE : Code := cB (behindTheImports PRG)
theorem body_eq : behindTheImports PRG = top15.sts_4 ++ (top15.sts_37 ++ (top15.sts_79 ++ (st15 :: (stsa ++ (stsb ++ (stsc ++ (stsd ++ []))))))) := by kernel_rfl
theorem r_pre (w : World) (os : OsState) : topGo treeTable PRG w 11 annM 12 ⟨boot_heap w.params, ⟨[]⟩, boot_drawn, boot_toks, os⟩ (topStub PRG) = some (⟨hPre w.params, ⟨[]⟩, {}, 187, os⟩, ⟨denote treeTable cE, cE, q0, [topFrame q0]⟩) := by kernel_rfl
theorem r_block (w : World) (os : OsState) : segRun treeTable PRG w 11 annM 1 1 ⟨hPre w.params, ⟨[]⟩, {}, 187, os⟩ (blockOf (behindTheImports PRG) top15.env_1 cE q0 [topFrame q0]) = some (.next, sT (top15.tree_4 w.params) 15 187 os, cE, q0) := by kernel_rfl
theorem r_fin (w : World) (os : OsState) : topRun treeTable PRG w 11 annM 2 (sT (td w.params) 295 607 os) ⟨doneF .next, cE, ⟨175, 0, 195, 96⟩, [topFrame q0]⟩ = some ⟨hEnd w.params, ⟨[]⟩, {}, 607, os⟩ := by kernel_rfl

theorem q_d (w : World) (os : OsState) : topRun treeTable PRG w 11 annM (222 + (2)) (sT (tc w.params) 250 536 os) (restOf (stsd ++ ([])) top15.env_1 cE ⟨131, 0, 134, 68⟩ [topFrame q0]) = some ⟨hEnd w.params, ⟨[]⟩, {}, 607, os⟩ :=
  @piece_app treeTable PRG w 11 annM top15.env_1 q0 222 (2) (sT (tc w.params) 250 536 os) (sT (td w.params) 295 607 os) ⟨hEnd w.params, ⟨[]⟩, {}, 607, os⟩ stsd ([]) cE ⟨131, 0, 134, 68⟩ ⟨175, 0, 195, 96⟩ (segRun_of (rund (behindTheImports PRG) w os)) (piece_nil (r_fin w os))
theorem q_c (w : World) (os : OsState) : topRun treeTable PRG w 11 annM (380 + (222 + 2)) (sT (tb w.params) 197 466 os) (restOf (stsc ++ (stsd ++ [])) top15.env_1 cE ⟨106, 0, 106, 8⟩ [topFrame q0]) = some ⟨hEnd w.params, ⟨[]⟩, {}, 607, os⟩ :=
  @piece_app treeTable PRG w 11 annM top15.env_1 q0 380 (222 + 2) (sT (tb w.params) 197 466 os) (sT (tc w.params) 250 536 os) ⟨hEnd w.params, ⟨[]⟩, {}, 607, os⟩ stsc (stsd ++ []) cE ⟨106, 0, 106, 8⟩ ⟨131, 0, 134, 68⟩ (segRun_of (runc (behindTheImports PRG) w os)) (q_d w os)
theorem q_b (w : World) (os : OsState) : topRun treeTable PRG w 11 annM (372 + (380 + (222 + 2))) (sT (ta w.params) 147 390 os) (restOf (stsb ++ (stsc ++ (stsd ++ []))) top15.env_1 cE ⟨58, 0, 68, 63⟩ [topFrame q0]) = some ⟨hEnd w.params, ⟨[]⟩, {}, 607, os⟩ :=
  @piece_app treeTable PRG w 11 annM top15.env_1 q0 372 (380 + (222 + 2)) (sT (ta w.params) 147 390 os) (sT (tb w.params) 197 466 os) ⟨hEnd w.params, ⟨[]⟩, {}, 607, os⟩ stsb (stsc ++ (stsd ++ [])) cE ⟨58, 0, 68, 63⟩ ⟨106, 0, 106, 8⟩ (segRun_of (runb (behindTheImports PRG) w os)) (q_c w os)
theorem q_a (w : World) (os : OsState) : topRun treeTable PRG w 11 annM (295 + (372 + (380 + (222 + 2)))) (sT (t16n w.params) 111 336 os) (restOf (stsa ++ (stsb ++ (stsc ++ (stsd ++ [])))) top15.env_1 cE ⟨47, 0, 47, 12⟩ [topFrame q0]) = some ⟨hEnd w.params, ⟨[]⟩, {}, 607, os⟩ :=
  @piece_app treeTable PRG w 11 annM top15.env_1 q0 295 (372 + (380 + (222 + 2))) (sT (t16n w.params) 111 336 os) (sT (ta w.params) 147 390 os) ⟨hEnd w.params, ⟨[]⟩, {}, 607, os⟩ stsa (stsb ++ (stsc ++ (stsd ++ []))) cE ⟨47, 0, 47, 12⟩ ⟨58, 0, 68, 63⟩ (segRun_of (runa (behindTheImports PRG) w os)) (q_b w os)
theorem q_0 (w : World) (os : OsState) : topRun treeTable PRG w 11 annM (1 + (269 + (329 + (313 + (540 + (295 + (372 + (380 + (222 + 2))))))))) ⟨hPre w.params, ⟨[]⟩, {}, 187, os⟩ ⟨denote treeTable cE, cE, q0, [topFrame q0]⟩ = some ⟨hEnd w.params, ⟨[]⟩, {}, 607, os⟩ := by
  refine piece_block (r_block w os) ?_
  have h := top15.chain PRG (behindTheImports PRG) w os _ _ _ (piece_15 (t16_eq w.params ▸ q_a w os))
  rw [body_eq]
  rw [body_eq] at h
  exact h
theorem q_all (w : World) (os : OsState) : topRun treeTable PRG w 11 annM (12 + (1 + (269 + (329 + (313 + (540 + (295 + (372 + (380 + (222 + 2)))))))))) ⟨boot_heap w.params, ⟨[]⟩, boot_drawn, boot_toks, os⟩ (topStub PRG) = some ⟨hEnd w.params, ⟨[]⟩, {}, 607, os⟩ :=
  go_top (r_pre w os) (q_0 w os)
theorem open15 : ∀ w : World, (fencedOpening treeTable PRG w 4604).map (fun s => (s.heap, s.gens, s.drawn, s.toks)) = some (boot_heap w.params, ⟨[]⟩, boot_drawn, boot_toks) :=
  boot_open (by kernel_rfl) (by decide) (fun s => by kernel_rfl)
end Mine

end
noncomputable section
open PySem PySem.W PySem.Calls PyProof.Rows
set_option Elab.async false
set_option maxRecDepth 1000000
set_option maxHeartbeats 4000000
namespace Mine
noncomputable abbrev rowR : RowW := PySem.Challenge.rw_pb0104_01.row.toRowW
noncomputable def XtV (s : Shared) : Bool := xlAt qV [] s && recOk (RowW.records rowR) s
theorem size15 : ∀ w : World, ((boot_heap w.params).isNs mainGlobals && (⟨[]⟩ : Array GenState).size == 0, (boot_heap w.params).objs.size, (boot_heap w.params).nsMap mainGlobals "__annotations__") = (true, 11, annM) := fun w => by kernel_rfl
noncomputable abbrev sE (w : World) (os : OsState) : Shared := ⟨hEnd w.params, ⟨[]⟩, {}, 607, os⟩
theorem l1 (w : World) (os : OsState) : (staticsOk (importedModules PRG.main.body) (boot_heap w.params) (hEnd w.params) && namesBound PRG (hEnd w.params) && gensDone (sE w os) && laidKept (boot_heap w.params) (hEnd w.params)) = true := by kernel_rfl
theorem k1 (w : World) (os : OsState) : seen ((recsOf qV).map (·.name)) (ownsOf qV) [] { sE w os with gens := #[] } = expectedOf qV := by kernel_rfl
theorem k2 (w : World) (os : OsState) : (sE w os).heap.bltView = bltViewBooted := by kernel_rfl
theorem k3 (w : World) (os : OsState) : ((sE w os).heap.keysOk (looseW qV looseL) ((recsOf qV).map (·.name)) ((litsOf qV).map (·.1)) ((clssOf qV (looseW qV looseL)).map (·.name)) && (sE w os).heap.accountedOkI (importedModules PRG.main.body) && (sE w os).heap.isNs mainGlobals && (sE w os).heap.isNs builtinsNs && tablesOk qV (sE w os).heap && XtV (sE w os) && (if true then (sE w os).gens.size == 0 else !leftWithCleanup (sE w os).gens)) = true := by kernel_rfl
theorem k4 (w : World) (os : OsState) : tabsOk qV (sE w os) = true := by kernel_rfl
theorem k5 (w : World) (os : OsState) : pinSeenD qV (drecsOf qV) (sE w os) = pinGoodD (drecsOf qV) := by kernel_rfl
theorem k6 (w : World) (os : OsState) : plainSeenE qV (looseW qV looseL) (sE w os) = plainGoodE qV (looseW qV looseL) := by kernel_rfl
theorem k7 (w : World) (os : OsState) : plainSeenD qV looseL (sE w os) = plainGoodD qV looseL := by kernel_rfl
theorem k8 (w : World) (os : OsState) : wideSeen qV (sE w os) = wideGood qV := by kernel_rfl
theorem k9 (w : World) (os : OsState) : clsSeenW qV looseL (sE w os) = clsGoodW qV looseL := by kernel_rfl
theorem k10 (w : World) (os : OsState) : aKF.map (sE w os).heap.get? = (KF w.params).map fun p => some p.2 := by kernel_rfl
noncomputable abbrev hookK : Hook := kHook KF aKF (fun _ => by kernel_rfl)
theorem left15 : LeftO PRG qV looseL XtV (Hook.obs hookK) (Hook.val hookK) 4604 true :=
  LeftO.of_pieces (H₀ := boot_heap) (H₁ := hEnd) (gs₀ := ⟨[]⟩) (gs₁ := ⟨[]⟩) (d₀ := boot_drawn) (d₁ := {}) (k₀ := boot_toks) (k₁ := 607) (m₀ := 11) (ann := annM)
    (M := 12 + (1 + (269 + (329 + (313 + (540 + (295 + (372 + (380 + (222 + 2))))))))))
    open15 size15 (fun w os => q_all w os) (by decide) (fun w => funext fun os => looks_pair (l1 w os) (looks_pair
      (looks_pair (k1 w os) (looks_pair (k2 w os) (looks_pair (k3 w os) (looks_pair (k4 w os) (looks_pair (k5 w os) (looks_pair (k6 w os) (looks_pair (k7 w os) (looks_pair (k8 w os) (k9 w os)))))))))
      (k10 w os)))
end Mine

end
noncomputable section
open PySem PySem.W PySem.Calls PyProof.Rows
set_option Elab.async false
set_option maxRecDepth 100000
namespace Mine

noncomputable abbrev PR : Program := PySem.Challenge.rw_pb0104_01.prog

/-- every object of h but those at the addresses as stands in h' as it stood -/
noncomputable def Agree (as : List (Addr × Obj)) (h h' : Heap) : Prop := ∀ b o, h.get? b = some o → b ∉ as.map (·.1) → h'.get? b = some o

section
variable {prog : Program} {w : World} {A₀ A : Around} {s : Shared} {base h₀ : Heap} {outer : List Env} {L : Addr} {m : Str → Option Value} {env : Env} {as : List (Addr × Obj)} {K : Frag} {p : Program} {loose : List Str} {mean : ExcName → Option Value} {mg mb : Str → Option Value}
  {R : Result → Shared → Prop} {name qual : Str} {params : Arguments} {body : List Stmt} {scope : Scope} {dV kV doc pm cdv ct oc : Value} {an od : Option Addr} {osl : Array (Option Value)} {f : Addr} {args : Args} {binds : List (Str × Value)}

theorem enter (B : Below A₀ base outer h₀) (F : Fr h₀ L s.heap m) (X₀ : K.In h₀) (N : News h₀ L s.heap as) (T : Top p loose mean mg mb h₀) (hA : A.frames = some (env :: outer)) (hf : env.frame = some L) (hke : env.scope.kind = .function)
    (ho : K.lookup f = some ⟨oc, od, .func (fnOf name qual params body scope dV kV doc pm an cdv ct), osl⟩) (hcd : codeIn K cdv qual = true) (hroom : A.depth < recursionLimit)
    (hbind : BindsTo s (fnOf name qual params body scope dV kV doc pm an cdv ct) args binds) (hloc : ∀ y ∈ binds, scope.names.lookup y.1 = some .local)
    (h : ∀ g L' h₁ tk₁, Agree as s.heap g → Fr h₀ L g m → Fr g L' h₁ (fun y => binds.reverse.lookup y) → News g L' h₁ as → Below A base (env :: outer) g → K.In g → Top p loose mean mg mb g → (∀ p ∈ as, p.1 < L') →
      wpAny (model prog w) (A.deeper (envOf qual scope L' f cdv)) (execs body (envOf qual scope L' f cdv))
        (fun fl s' => LeaveK h₀ L m g R (match fl with | .ret v => v | _ => .none) s')
        (fun e s' => wpAny (model prog w) (A.deeper (envOf qual scope L' f cdv)) («leaving» (envOf qual scope L' f cdv) e) (fun _ s'' => R (.error e) s'') (fun e' s'' => R (.error e') s'') s')
        { s with heap := h₁, toks := tk₁ })
    (hco : scope.isCoroutine = false) (hgen : scope.isGenerator = false) (hk : scope.kind = .function)
    (hcell : ∀ x ∈ scope.names, x.2 ≠ .cell) : codeAny (model prog w) A (.call (.ref f) args) R s := by
  obtain ⟨FG, BG, st, lv⟩ := groundX (R := R) B F N hA hf hke
  refine codeAny_call_def (fd := fnOf name qual params body scope dV kV doc pm an cdv ct) (body := body) (binds := binds) hroom ((X₀.keeps F.keep) _ _ ho) rfl (T.nolimit.keeps F.keep) (codeRec_of (X₀.keeps F.keep) hcd) rfl hbind hcell hloc (fun h₁ hns hk₁ => ?_) hco hgen hk
  exact wpAny_mono (h _ s.heap.objs.size h₁ (s.toks + binds.length) (fun b o e n => hideAll_get _ e n) FG ⟨hns, fun b o e => hk₁ b o (of_hideAll _ e), Nat.le_of_eq (hideAll_size _ _)⟩
    (fun p hp => ⟨hk₁ _ _ (N p hp).1, Nat.ne_of_lt (Heap.lt_size (N p hp).1), hideAll_none _ (List.mem_map_of_mem hp)⟩) BG (X₀.keeps st) (T.keeps st) (fun p hp => Heap.lt_size (N p hp).1)) (fun fl s' hl => lv _ _ hl) fun _ _ y => y
end

/-- a contract of a call that returns: it is made with the objects as, turns them alone, and Post tells of what comes back -/
noncomputable def Sp (w : World) (f : Addr) (args : List Value) (as : List (Addr × Obj)) (d u : Nat) (Post : Heap → Value → Heap → Prop) : Prop :=
  ∀ (p : Program) (loose : List Str) (mean : ExcName → Option Value) (mg mb : Str → Option Value) (dp un : Nat) (gd : Option (List Code)) (cn : Str) (cs : Scope) (a : Addr) (ccd : Value) (cl : List (Str × Addr)) (outer : List Env) (A₀ : Around) (base h₀ : Heap) (L : Addr) (m : Str → Option Value) (s : Shared) (Q E : Value → Shared → Prop),
    Below A₀ base outer h₀ → Fr h₀ L s.heap m → (KF w.params).In h₀ → News h₀ L s.heap as → Top p loose mean mg mb h₀ → cs.kind = .function → dp + d < recursionLimit → un + u < cLine →
    (∀ v h' tk', Agree as s.heap h' → Post s.heap v h' → Q v { s with heap := h', toks := tk' }) →
    wpAny (model PR w) (ktrTop dp un gd cn cs L a ccd cl outer) (call (.ref f) args) Q E s

theorem fr_agree {h₀ h h' : Heap} {L : Addr} {m : Str → Option Value} {as : List (Addr × Obj)} (F : Fr h₀ L h m) (N : News h₀ L h as) (hA : Agree as h h') : Fr h₀ L h' m := by
  obtain ⟨oL, es, ep, hL, r⟩ := F.ns
  refine ⟨⟨oL, es, ep, hA L oL hL fun q => ?_, r⟩, fun b o e => hA b o (F.keep b o e) fun q => ?_, F.above⟩
  · obtain ⟨p, hp, e⟩ := List.mem_map.mp q
    exact (N p hp).2.1 e
  · obtain ⟨p, hp, e'⟩ := List.mem_map.mp q
    have := (N p hp).2.2
    rw [e', e] at this; cases this

theorem use {w : World} {f : Addr} {args : List Value} {as : List (Addr × Obj)} {d u : Nat} {Post : Heap → Value → Heap → Prop} (H : Sp w f args as d u Post)
    {p : Program} {loose : List Str} {mean : ExcName → Option Value} {mg mb : Str → Option Value} {dp un : Nat} {gd : Option (List Code)} {cn : Str} {cs : Scope} {a : Addr} {ccd : Value} {cl : List (Str × Addr)} {outer : List Env} {A₀ : Around} {base h₀ : Heap} {L : Addr} {m : Str → Option Value} {s : Shared} {Q E : Value → Shared → Prop} {news : List (Addr × Obj)}
    (B : Below A₀ base outer h₀) (F : Fr h₀ L s.heap m) (X : (KF w.params).In h₀) (N : News h₀ L s.heap news) (T : Top p loose mean mg mb h₀) (hk : cs.kind = .function) (hd : dp + d < recursionLimit) (hu : un + u < cLine)
    (rest : List (Addr × Obj)) (hs : ∀ q ∈ as, q ∈ news) (hr : ∀ q ∈ rest, q ∈ news ∧ q.1 ∉ as.map (·.1))
    (k : ∀ v h' tk', Fr h₀ L h' m → News h₀ L h' rest → (∀ l, s.heap.get? l = none → ∀ q ∈ news, q.1 ≠ l) → (∀ b o r, (b ∈ as.map (·.1) ∨ s.heap.get? b = none) → h'.get? b = some o → News h₀ L h' r → News h₀ L h' ((b, o) :: r)) → Post s.heap v h' → Q v { s with heap := h', toks := tk' }) :
    wpAny (model PR w) (ktrTop dp un gd cn cs L a ccd cl outer) (call (.ref f) args) Q E s := by
  have N' : News h₀ L s.heap as := fun q hq => N q (hs q hq)
  refine H p loose mean mg mb dp un gd cn cs a ccd cl outer A₀ base h₀ L m s Q E B F X N' T hk hd hu fun v h' tk' hA hP => ?_
  refine k v h' tk' (fr_agree F N' hA) (fun q hq => ?_) (fun l hl q hq e => by have := (N q hq).1; rw [e, hl] at this; cases this) (fun b o r hb e hn q hq => ?_) hP
  · obtain ⟨h1, h2⟩ := hr q hq
    have := N q h1
    exact ⟨hA _ _ this.1 h2, this.2⟩
  · rcases List.mem_cons.mp hq with rfl | hq
    · refine ⟨e, ?_⟩
      rcases hb with hb | hb
      · obtain ⟨z, hz, ez⟩ := List.mem_map.mp hb
        have := N' z hz
        exact ez ▸ this.2
      · obtain ⟨oL, es, ep, hL, r⟩ := F.ns
        refine ⟨fun q => ?_, ?_⟩
        · have q' : b = L := q
          rw [q', hL] at hb; cases hb
        · show h₀.get? b = none
          cases q : h₀.get? b with
          | none => rfl
          | some o' => have := F.keep _ _ q; rw [this] at hb; cases hb
    · exact hn q hq

/-- the same for a call that turns nothing -/
theorem use0 {w : World} {f : Addr} {args : List Value} {d u : Nat} {Post : Heap → Value → Heap → Prop} {as : List (Addr × Obj)} (H : Sp w f args as d u Post)
    {p : Program} {loose : List Str} {mean : ExcName → Option Value} {mg mb : Str → Option Value} {dp un : Nat} {gd : Option (List Code)} {cn : Str} {cs : Scope} {a : Addr} {ccd : Value} {cl : List (Str × Addr)} {outer : List Env} {A₀ : Around} {base h₀ : Heap} {L : Addr} {m : Str → Option Value} {s : Shared} {Q E : Value → Shared → Prop} {news : List (Addr × Obj)}
    (B : Below A₀ base outer h₀) (F : Fr h₀ L s.heap m) (X : (KF w.params).In h₀) (N : News h₀ L s.heap news) (T : Top p loose mean mg mb h₀) (hk : cs.kind = .function) (hd : dp + d < recursionLimit) (hu : un + u < cLine) (hs : ∀ q ∈ as, q ∈ news)
    (hst : ∀ g v h', Post g v h' → ∀ q ∈ as, h'.get? q.1 = some q.2)
    (k : ∀ v h' tk', Fr h₀ L h' m → News h₀ L h' news → Post s.heap v h' → Q v { s with heap := h', toks := tk' }) :
    wpAny (model PR w) (ktrTop dp un gd cn cs L a ccd cl outer) (call (.ref f) args) Q E s := by
  have N' : News h₀ L s.heap as := fun q hq => N q (hs q hq)
  refine H p loose mean mg mb dp un gd cn cs a ccd cl outer A₀ base h₀ L m s Q E B F X N' T hk hd hu fun v h' tk' hA hP => ?_
  refine k v h' tk' (fr_agree F N' hA) (fun q hq => ?_) hP
  have h0 := N q hq
  refine ⟨?_, h0.2⟩
  by_cases hm : q.1 ∈ as.map (·.1)
  · obtain ⟨z, hz, ez⟩ := List.mem_map.mp hm
    have h1 := hst _ v h' hP z hz
    have h2 := (N' z hz).1
    rw [ez, h0.1] at h2
    rw [← ez, h1, ← h2]
  · exact hA _ _ h0.1 hm

/-- a call that gives bytes -/
theorem useB {w : World} {f : Addr} {args : List Value} {d u K : Nat} {V : Array UInt8} (H : Sp w f args [] d u (fun _ v _ => ∃ b tk, v = .bytes b tk ∧ b = V ∧ b.size ≤ K))
    {p : Program} {loose : List Str} {mean : ExcName → Option Value} {mg mb : Str → Option Value} {dp un : Nat} {gd : Option (List Code)} {cn : Str} {cs : Scope} {a : Addr} {ccd : Value} {cl : List (Str × Addr)} {outer : List Env} {A₀ : Around} {base h₀ : Heap} {L : Addr} {m : Str → Option Value} {s : Shared} {Q E : Value → Shared → Prop} {news : List (Addr × Obj)}
    (B : Below A₀ base outer h₀) (F : Fr h₀ L s.heap m) (X : (KF w.params).In h₀) (N : News h₀ L s.heap news) (T : Top p loose mean mg mb h₀) (hk : cs.kind = .function) (hd : dp + d < recursionLimit) (hu : un + u < cLine)
    (k : ∀ tk h' tk', Fr h₀ L h' m → News h₀ L h' news → V.size ≤ K → Q (.bytes V tk) { s with heap := h', toks := tk' }) :
    wpAny (model PR w) (ktrTop dp un gd cn cs L a ccd cl outer) (call (.ref f) args) Q E s :=
  use0 H B F X N T hk hd hu (List.forall_mem_nil _) (fun _ _ _ _ => List.forall_mem_nil _) fun v h' tk' F' N' hP => by
    obtain ⟨b, tk, rfl, rfl, hz⟩ := hP
    exact k tk h' tk' F' N' hz
/-- addresses in ascending order -/
noncomputable def Asc : List Nat → Prop
  | a :: b :: r => a < b ∧ Asc (b :: r)
  | _ => True
theorem news_last3 {h h' : Heap} {L : Addr} {l : List (Addr × Obj)} (N : News h L h' l) : News h L h' (l.drop (l.length - 3)) := fun q hq => N q (List.mem_of_mem_drop hq)
theorem news_first {h h' : Heap} {L : Addr} {a : Addr × Obj} {l : List (Addr × Obj)} (N : News h L h' (a :: l)) : News h L h' (a :: l.drop (l.length - 2)) := fun q hq => by
  rcases List.mem_cons.mp hq with rfl | hq
  · exact N _ (.head _)
  · exact N q (.tail _ (List.mem_of_mem_drop hq))
theorem fa2 {p : Addr × Obj → Prop} {a : Addr × Obj} {l : List (Addr × Obj)} (h : p a) (t : ∀ x ∈ l, p x) : ∀ x ∈ a :: l, p x := List.forall_mem_cons.mpr ⟨h, t⟩
theorem cjL {p q r : Prop} (k : p → r) (h : p ∧ q) : r := k h.1
theorem cjR {p q r : Prop} (k : q → r) (h : p ∧ q) : r := k h.2
/-- x is the k-th -/
inductive At : List Nat → Nat → Nat → Prop
  | z {x : Nat} {r : List Nat} : At (x :: r) x 0
  | s {x y k : Nat} {r : List Nat} : At r x k → At (y :: r) x (k + 1)
theorem Asc.lt : ∀ {r : List Nat} {x y k : Nat}, Asc (x :: r) → At r y k → x < y
  | b :: r, x, y, k, hA, h => by
    cases h with
    | z => exact hA.1
    | s h => exact Nat.lt_trans hA.1 (Asc.lt hA.2 h)
theorem Asc.tail : ∀ {r : List Nat} {x : Nat}, Asc (x :: r) → Asc r
  | [], _, _ => trivial
  | _ :: _, _, h => h.2
theorem Asc.at_lt : ∀ {L : List Nat} {x y i j : Nat}, Asc L → At L x i → At L y j → i < j → x < y
  | a :: r, x, y, i, j, hA, h1, h2, hij => by
    cases h1 with
    | z =>
      cases h2 with
      | z => exact absurd hij (Nat.lt_irrefl _)
      | s h2 => exact hA.lt h2
    | s h1 =>
      cases h2 with
      | z => exact absurd hij (Nat.not_lt_zero _)
      | s h2 => exact hA.tail.at_lt h1 h2 (Nat.lt_of_succ_lt_succ hij)
structure Ord (dk Lf : Nat) (L : List Nat) : Prop where
  a : Asc (dk :: L)
  b : Asc (Lf :: L)
/-- where x stands in the order -/
inductive Pl9 (dk Lf : Nat) (L : List Nat) : Nat → Nat → Prop
  | d : Pl9 dk Lf L dk 0
  | f : Pl9 dk Lf L Lf 0
  | i {x k : Nat} : At L x k → Pl9 dk Lf L x (k + 1)
theorem ord_lt {dk Lf x y i j : Nat} {L : List Nat} (h : Ord dk Lf L) (a : Pl9 dk Lf L x i) (b : Pl9 dk Lf L y j) (hij : i < j) : x < y := by
  cases a with
  | d =>
    cases b with
    | d => exact absurd hij (Nat.lt_irrefl _)
    | f => exact absurd hij (Nat.lt_irrefl _)
    | i b => exact h.a.lt b
  | f =>
    cases b with
    | d => exact absurd hij (Nat.lt_irrefl _)
    | f => exact absurd hij (Nat.lt_irrefl _)
    | i b => exact h.b.lt b
  | i a =>
    cases b with
    | d => exact absurd hij (Nat.not_lt_zero _)
    | f => exact absurd hij (Nat.not_lt_zero _)
    | i b => exact h.a.tail.at_lt a b (Nat.lt_of_succ_lt_succ hij)
theorem ord_ne {dk Lf x y i j : Nat} {L : List Nat} (h : Ord dk Lf L) (a : Pl9 dk Lf L x i) (b : Pl9 dk Lf L y j) (hij : i ≠ j) : x ≠ y := by
  rcases Nat.lt_or_gt_of_ne hij with q | q
  · exact Nat.ne_of_lt (ord_lt h a b q)
  · exact Nat.ne_of_gt (ord_lt h b a q)
theorem at0 {x : Nat} {r : List Nat} : At (x :: r) x 0 := .z
theorem at1 {a0 x : Nat} {r : List Nat} : At (a0 :: x :: r) x 1 := .s at0
theorem at2 {a0 a1 x : Nat} {r : List Nat} : At (a0 :: a1 :: x :: r) x 2 := .s at1
theorem at3 {a0 a1 a2 x : Nat} {r : List Nat} : At (a0 :: a1 :: a2 :: x :: r) x 3 := .s at2
theorem at4 {a0 a1 a2 a3 x : Nat} {r : List Nat} : At (a0 :: a1 :: a2 :: a3 :: x :: r) x 4 := .s at3
theorem at5 {a0 a1 a2 a3 a4 x : Nat} {r : List Nat} : At (a0 :: a1 :: a2 :: a3 :: a4 :: x :: r) x 5 := .s at4
theorem at6 {a0 a1 a2 a3 a4 a5 x : Nat} {r : List Nat} : At (a0 :: a1 :: a2 :: a3 :: a4 :: a5 :: x :: r) x 6 := .s at5
theorem at7 {a0 a1 a2 a3 a4 a5 a6 x : Nat} {r : List Nat} : At (a0 :: a1 :: a2 :: a3 :: a4 :: a5 :: a6 :: x :: r) x 7 := .s at6
theorem at8 {a0 a1 a2 a3 a4 a5 a6 a7 x : Nat} {r : List Nat} : At (a0 :: a1 :: a2 :: a3 :: a4 :: a5 :: a6 :: a7 :: x :: r) x 8 := .s at7
theorem at9 {a0 a1 a2 a3 a4 a5 a6 a7 a8 x : Nat} {r : List Nat} : At (a0 :: a1 :: a2 :: a3 :: a4 :: a5 :: a6 :: a7 :: a8 :: x :: r) x 9 := .s at8
theorem at10 {a0 a1 a2 a3 a4 a5 a6 a7 a8 a9 x : Nat} {r : List Nat} : At (a0 :: a1 :: a2 :: a3 :: a4 :: a5 :: a6 :: a7 :: a8 :: a9 :: x :: r) x 10 := .s at9
theorem at11 {a0 a1 a2 a3 a4 a5 a6 a7 a8 a9 a10 x : Nat} {r : List Nat} : At (a0 :: a1 :: a2 :: a3 :: a4 :: a5 :: a6 :: a7 :: a8 :: a9 :: a10 :: x :: r) x 11 := .s at10
theorem at12 {a0 a1 a2 a3 a4 a5 a6 a7 a8 a9 a10 a11 x : Nat} {r : List Nat} : At (a0 :: a1 :: a2 :: a3 :: a4 :: a5 :: a6 :: a7 :: a8 :: a9 :: a10 :: a11 :: x :: r) x 12 := .s at11
theorem at13 {a0 a1 a2 a3 a4 a5 a6 a7 a8 a9 a10 a11 a12 x : Nat} {r : List Nat} : At (a0 :: a1 :: a2 :: a3 :: a4 :: a5 :: a6 :: a7 :: a8 :: a9 :: a10 :: a11 :: a12 :: x :: r) x 13 := .s at12
theorem at14 {a0 a1 a2 a3 a4 a5 a6 a7 a8 a9 a10 a11 a12 a13 x : Nat} {r : List Nat} : At (a0 :: a1 :: a2 :: a3 :: a4 :: a5 :: a6 :: a7 :: a8 :: a9 :: a10 :: a11 :: a12 :: a13 :: x :: r) x 14 := .s at13
theorem at15 {a0 a1 a2 a3 a4 a5 a6 a7 a8 a9 a10 a11 a12 a13 a14 x : Nat} {r : List Nat} : At (a0 :: a1 :: a2 :: a3 :: a4 :: a5 :: a6 :: a7 :: a8 :: a9 :: a10 :: a11 :: a12 :: a13 :: a14 :: x :: r) x 15 := .s at14
theorem at16 {a0 a1 a2 a3 a4 a5 a6 a7 a8 a9 a10 a11 a12 a13 a14 a15 x : Nat} {r : List Nat} : At (a0 :: a1 :: a2 :: a3 :: a4 :: a5 :: a6 :: a7 :: a8 :: a9 :: a10 :: a11 :: a12 :: a13 :: a14 :: a15 :: x :: r) x 16 := .s at15
theorem at17 {a0 a1 a2 a3 a4 a5 a6 a7 a8 a9 a10 a11 a12 a13 a14 a15 a16 x : Nat} {r : List Nat} : At (a0 :: a1 :: a2 :: a3 :: a4 :: a5 :: a6 :: a7 :: a8 :: a9 :: a10 :: a11 :: a12 :: a13 :: a14 :: a15 :: a16 :: x :: r) x 17 := .s at16
/-- a goal at which the steps stop -/
noncomputable def Halt (P : Prop) : Prop := P
theorem halt {P : Prop} (h : Halt P) : P := h
/-- says which row and which written part are at hand (for k_fill) -/
noncomputable def Fill (_ : OpenLaw) (_ : Params → Frag) : Prop := True
end Mine

end
noncomputable section
open PySem PySem.W PySem.Calls PyProof.Rows
set_option Elab.async false
set_option maxRecDepth 100000
namespace Mine
theorem agree_end {as : List (Addr × Obj)} {h g h' : Heap} {L : Addr} {m : Str → Option Value} (hG : Agree as h g) (F : Fr g L h' m) : Agree as h h' := fun b o e hn => F.keep b o (hG b o e hn)
theorem whlIf_cases {b : Bool} {T F : Prop} (t : b = true → T) (f : b = false → F) : WhlIf b T F := by
  cases b
  · exact WhlIf.no rfl (f rfl)
  · exact WhlIf.yes rfl (t rfl)
/-- the octets of a size: seven bits each, the lowest first -/
noncomputable def sz (n : Int) : List Int := if 127 < n then [128 + n % 128, n / 128] else [n]
theorem size_le {ns : List Int} {k : Nat} (h : ns.length ≤ k) : (byteArr ns).size ≤ k := by rw [byteArr_size]; exact h
theorem sz_len (n : Int) : (sz n).length ≤ 2 := by unfold sz; split <;> simp
/-- the octets of a distance back -/
noncomputable def bk (n : Int) : List Int := if 0 < n / 128 then [128 + (n / 128 - 1) % 128, n % 128] else [n % 128]
theorem bk_len (n : Int) : (bk n).length ≤ 2 := by unfold bk; split <;> simp
/-- the head of an entry: its sort and its size -/
noncomputable def eh (k n : Int) : List Int := if 0 < n / 16 then [128 + (k * 16 + n % 16), n / 16] else [k * 16 + n % 16]
theorem eh_len (k n : Int) : (eh k n).length ≤ 2 := by unfold eh; split <;> simp
/-- stored octets -/
noncomputable def stored (b : Array UInt8) : Array UInt8 := byteArr (sz b.size) ++ b
theorem stored_size (b : Array UInt8) : (stored b).size ≤ b.size + 2 := by
  have := size_le (sz_len (b.size : Int))
  unfold stored; rw [Array.size_append]; omega
theorem byteArr_two (a b : Int) : (List.map (fun n : Int => n.toNat.toUInt8) [a, b]).toArray = byteArr [a, b] := rfl
theorem byteArr_one (a : Int) : (List.map (fun n : Int => n.toNat.toUInt8) [a]).toArray = byteArr [a] := rfl
theorem sz_two {n a b : Int} (h : 127 < n) (ha : a = 128 + n % 128) (hb : b = n / 128) : (List.map (fun n : Int => n.toNat.toUInt8) [a, b]).toArray = byteArr (sz n) := by unfold sz; rw [if_pos h, ha, hb]; rfl
theorem sz_one {n a : Int} (h : ¬ 127 < n) (ha : a = n) : (List.map (fun n : Int => n.toNat.toUInt8) [a]).toArray = byteArr (sz n) := by unfold sz; rw [if_neg h, ha]; rfl
theorem bk_two {n a b : Int} (h : 0 < n / 128) (ha : a = 128 + (n / 128 - 1) % 128) (hb : b = n % 128) : (List.map (fun n : Int => n.toNat.toUInt8) [a, b]).toArray = byteArr (bk n) := by unfold bk; rw [if_pos h, ha, hb]; rfl
theorem bk_one {n a : Int} (h : ¬ 0 < n / 128) (ha : a = n % 128) : (List.map (fun n : Int => n.toNat.toUInt8) [a]).toArray = byteArr (bk n) := by unfold bk; rw [if_neg h, ha]; rfl
theorem eh_two {k n a b : Int} (h : 0 < n / 16) (ha : a = 128 + (k * 16 + n % 16)) (hb : b = n / 16) : (List.map (fun n : Int => n.toNat.toUInt8) [a, b]).toArray = byteArr (eh k n) := by unfold eh; rw [if_pos h, ha, hb]; rfl
theorem eh_one {k n a : Int} (h : ¬ 0 < n / 16) (ha : a = k * 16 + n % 16) : (List.map (fun n : Int => n.toNat.toUInt8) [a]).toArray = byteArr (eh k n) := by unfold eh; rw [if_neg h, ha]; rfl
theorem news_none {as : List (Addr × Obj)} {g g' h' : Heap} {L l : Addr} {o : Obj} {news : List (Addr × Obj)} (hG : Agree as g g') (N : News g' L h' news) (hm : (l, o) ∈ news) (hn : l ∉ as.map (·.1)) : g.get? l = none ∧ h'.get? l = some o := by
  refine ⟨?_, (N _ hm).1⟩
  cases q : g.get? l with
  | none => rfl
  | some o' => have := hG _ _ q hn; rw [(N _ hm).2.2] at this; cases this
/-- a new list of one or two ints: a size's pieces -/
noncomputable def PcPost (c n : Int) (g : Heap) (v : Value) (h : Heap) : Prop :=
  ∃ l k, v = .ref l ∧ g.get? l = none ∧ ((n / c = 0 ∧ ∃ t1, h.get? l = some (listOf #[.int (n % c) t1] k)) ∨ (0 < n / c ∧ ∃ t1 t2, h.get? l = some (listOf #[.int (n % c) t1, .int (n / c % 128) t2] k)))
theorem pc_one {c n : Int} {g g' h' : Heap} {L l : Addr} {news : List (Addr × Obj)} {t : Tok} {k : Nat} (hG : Agree [] g g') (N : News g' L h' news) (hm : (l, listOf #[.int (n % c) t] k) ∈ news) (h0 : n / c = 0) : PcPost c n g (.ref l) h' :=
  ⟨l, k, rfl, (news_none hG N hm List.not_mem_nil).1, .inl ⟨h0, t, (N _ hm).1⟩⟩
theorem pc_two {c n : Int} {g g' h' : Heap} {L l : Addr} {news : List (Addr × Obj)} {t u : Tok} {k : Nat} (hG : Agree [] g g') (N : News g' L h' news) (hm : (l, listOf (#[Value.int (n % c) t].push (.int (n / c % 128) u)) k) ∈ news) (h0 : 0 < n / c) : PcPost c n g (.ref l) h' :=
  ⟨l, k, rfl, (news_none hG N hm List.not_mem_nil).1, .inr ⟨h0, t, u, (N _ hm).1⟩⟩
theorem toNat_pow2 {k : Nat} : (2 : Int) ^ k = ((2 ^ k : Nat) : Int) := by simp
theorem band_mask {x : Int} {k : Nat} {mk : Int} (h : 0 ≤ x) (hm : mk = ((2 ^ k - 1 : Nat) : Int)) : Builtin.bitAnd x mk = x % ((2 ^ k : Nat) : Int) := by
  subst hm
  have h2 : (0 : Int) ≤ ((2 ^ k - 1 : Nat) : Int) := Int.natCast_nonneg _
  unfold Builtin.bitAnd
  rw [decide_eq_true h, decide_eq_true h2]
  simp only [Int.toNat_natCast]
  rw [Nat.and_two_pow_sub_one_eq_mod]
  obtain ⟨n, rfl⟩ := Int.eq_ofNat_of_zero_le h
  simp
theorem bor_high {x y : Int} {k : Nat} (h : 0 ≤ x) (hx : x < ((2 ^ k : Nat) : Int)) (j : Nat) (hy : y = ((j * 2 ^ k : Nat) : Int)) : Builtin.bitOr y x = y + x ∧ Builtin.bitOr x y = y + x := by
  obtain ⟨n, rfl⟩ := Int.eq_ofNat_of_zero_le h
  subst hy
  have hn : n < 2 ^ k := by exact_mod_cast hx
  have key : (j * 2 ^ k) ||| n = j * 2 ^ k + n := by
    rw [Nat.mul_comm]; exact (Nat.two_pow_add_eq_or_of_lt hn j).symm
  have gen : ∀ a b : Nat, Builtin.bitOr (a : Int) (b : Int) = ((a ||| b : Nat) : Int) := by
    intro a b
    have ha : ¬ (0 : Int) ≤ Builtin.bitNot (a : Int) := by unfold Builtin.bitNot; omega
    have hb : ¬ (0 : Int) ≤ Builtin.bitNot (b : Int) := by unfold Builtin.bitNot; omega
    have n1 : Builtin.bitNot (Builtin.bitNot (a : Int)) = (a : Int) := by unfold Builtin.bitNot; omega
    have n2 : Builtin.bitNot (Builtin.bitNot (b : Int)) = (b : Int) := by unfold Builtin.bitNot; omega
    unfold Builtin.bitOr Builtin.bitAnd
    rw [decide_eq_false ha, decide_eq_false hb]
    simp only [n1, n2, Int.toNat_natCast]
    unfold Builtin.bitNot; omega
  constructor
  · rw [gen, key]; simp
  · rw [gen, Nat.or_comm, key]; simp
section
variable {prog : Program} {w : World} {A : Around} {E : Value → Shared → Prop} {s : Shared} {Q : Value → Shared → Prop} {x k y : Int} {t u : Tok}
theorem shr_ii {c : Int} (hk : 0 ≤ k) (hc : (2 : Int) ^ k.toNat = c) (hp : 0 < c) (h : Q (.int (x / c) s.toks) { s with toks := s.toks + 1 }) : wpAny (model prog w) A (binaryOp .RShift (.int x t) (.int k u)) Q E s :=
  rshift_int hk (by rw [hc, Int.fdiv_eq_ediv_of_nonneg _ (Int.le_of_lt hp)]; exact h)
theorem and_ii {c : Int} (j : Nat) (h0 : 0 ≤ x) (hk : k = ((2 ^ j - 1 : Nat) : Int)) (hc : ((2 ^ j : Nat) : Int) = c) (h : Q (.int (x % c) s.toks) { s with toks := s.toks + 1 }) : wpAny (model prog w) A (binaryOp .BitAnd (.int x t) (.int k u)) Q E s :=
  and_int (by rw [band_mask h0 hk, hc]; exact h)
theorem or_ii (j i : Nat) (h0 : 0 ≤ x) (hx : x < ((2 ^ j : Nat) : Int)) (hk : k = ((i * 2 ^ j : Nat) : Int)) (h : Q (.int (k + x) s.toks) { s with toks := s.toks + 1 }) : wpAny (model prog w) A (binaryOp .BitOr (.int k t) (.int x u)) Q E s :=
  or_int (by rw [(bor_high h0 hx i hk).1]; exact h)
theorem or_iir (j i : Nat) (h0 : 0 ≤ x) (hx : x < ((2 ^ j : Nat) : Int)) (hk : k = ((i * 2 ^ j : Nat) : Int)) (h : Q (.int (k + x) s.toks) { s with toks := s.toks + 1 }) : wpAny (model prog w) A (binaryOp .BitOr (.int x t) (.int k u)) Q E s :=
  or_int (by rw [(bor_high h0 hx i hk).2]; exact h)
theorem fdiv_ii {c : Int} (hp : 0 < c) (hc : c < 1073741824) (h : Q (.int (x / c) s.toks) { s with toks := s.toks + 1 }) : wpAny (model prog w) A (binaryOp .FloorDiv (.int x t) (.int c u)) Q E s :=
  floordiv_int (by omega) (by rw [Int.fdiv_eq_ediv_of_nonneg _ (Int.le_of_lt hp)]; exact h) (Or.inl (PyProof.noPylong_small (by omega)))
theorem pow_ii {c n : Int} (hn : 0 ≤ n) (hs : (Builtin.Int.intBits x : Int) * n ≤ 2 ^ 27) (hc : x ^ n.toNat = c) (h : Q (.int c s.toks) { s with toks := s.toks + 1 }) : wpAny (model prog w) A (binaryOp .Pow (.int x t) (.int n u)) Q E s :=
  pow_int hn hs (by rw [hc]; exact h)
theorem fmod_ii {c : Int} (hp : 0 < c) (h : Q (.int (x % c) s.toks) { s with toks := s.toks + 1 }) : wpAny (model prog w) A (binaryOp .Mod (.int x t) (.int c u)) Q E s :=
  mod_int' (by omega) (by rw [Int.fmod_eq_emod_of_nonneg _ (Int.le_of_lt hp)]; exact h)
end
end Mine

end
noncomputable section
open PySem PySem.W PySem.Calls PyProof.Rows
open PySem.Sem (wp)
set_option Elab.async false
set_option maxRecDepth 100000
namespace Mine
/-- built-ins at work that may hold a bytearray fast -/
noncomputable def holders : List String := ["bytearray.__contains__", "bytearray.__mod__", "bytearray.__rmod__", "_struct.pack_into.held", "bytearray.find.held"] ++ Builtin.Bytes.decodersThatHold
noncomputable def holds : Code → Bool
  | .builtin id _ => holders.contains id
  | _ => false
/-- nothing on the stack holds a bytearray fast -/
noncomputable def Cln (Γ : Ctx) : Prop := holds Γ.code = false ∧ ∀ q ∈ Γ.below, holds q.1 = false

noncomputable def wpC {α : Type} (M : Model) (A : Around) (t : Sem α) (Q : α → Shared → Prop) (E : Value → Shared → Prop) (s : Shared) : Prop :=
  ∀ Γ p, Γ.In A → Cln Γ → wp M Γ t (fun a _ s' => Q a s') (fun e _ s' => E e s') p s
noncomputable def codeC (M : Model) (A : Around) (c : Code) (R : Result → Shared → Prop) (s : Shared) : Prop :=
  ∀ Γ p, Γ.code = c → Γ.Below A → Cln Γ → wpCode M Γ R p s

section
variable {α β : Type} {M : Model} {A : Around} {E : Value → Shared → Prop} {s : Shared}
theorem wpC_any {t : Sem α} {Q : α → Shared → Prop} (h : wpAny M A t Q E s) : wpC M A t Q E s := fun Γ p hΓ _ => h Γ p hΓ
theorem codeC_any {c : Code} {R : Result → Shared → Prop} (h : codeAny M A c R s) : codeC M A c R s := fun Γ p hc hΓ _ => h Γ p hc hΓ
theorem wpC_mono {t : Sem α} {Q Q' : α → Shared → Prop} {E' : Value → Shared → Prop} (h : wpC M A t Q E s) (hQ : ∀ a s, Q a s → Q' a s) (hE : ∀ e s, E e s → E' e s) : wpC M A t Q' E' s :=
  fun Γ p hΓ hC => Sem.wp_mono M Γ t (fun a _ s => hQ a s) (fun e _ s => hE e s) p s (h Γ p hΓ hC)
theorem wpC_bind {m : Sem α} {f : α → Sem β} {Q : β → Shared → Prop} (h : wpC M A m (fun a s' => wpC M A (f a) Q E s') E s) : wpC M A (m >>= f) Q E s := fun Γ p hΓ hC => by
  rw [Sem.wp_bind']
  exact Sem.wp_mono M Γ m (fun a p' s' h' => h' Γ p' hΓ hC) (fun _ _ _ h' => h') p s (h Γ p hΓ hC)
/-- the first part is walked for every context, the rest for the clean ones -/
theorem wpC_bindA {m : Sem α} {f : α → Sem β} {Q : β → Shared → Prop} (h : wpAny M A m (fun a s' => wpC M A (f a) Q E s') E s) : wpC M A (m >>= f) Q E s := wpC_bind (wpC_any h)
theorem wpC_pure {a : α} {Q : α → Shared → Prop} (h : Q a s) : wpC M A (pure a) Q E s := fun _ _ _ _ => h
theorem wpC_holding {vs : List Value} {m : Sem α} {Q : α → Shared → Prop} (h : wpC M A m Q E s) : wpC M A (holding vs m) Q E s :=
  fun Γ p hΓ hC => by rw [Sem.wp_holding]; exact h Γ p hΓ hC
theorem wpC_keep {vs : List Value} {m : Sem α} {Q : α → Shared → Prop} (h : wpC M A m Q E s) : wpC M A (m.keep vs) Q E s :=
  fun Γ p hΓ hC => by rw [Sem.wp_keep]; exact h Γ p hΓ hC
theorem wpC_onRaise {m : Sem α} {k : Value → Sem Unit} {Q : α → Shared → Prop}
    (h : wpC M A m Q (fun e s' => wpC M A (k e) (fun _ s'' => E e s'') E s') s) : wpC M A (m.onRaise k) Q E s := fun Γ p hΓ hC => by
  rw [Sem.wp_onRaise]
  exact Sem.wp_mono M Γ m (fun _ _ _ h' => h') (fun e p' s' h' => h' Γ p' hΓ hC) p s (h Γ p hΓ hC)
theorem wpC_tryCatch {m : Sem α} {k : Value → Sem α} {Q : α → Shared → Prop} (h : wpC M A m Q (fun e s' => wpC M A (k e) Q E s') s) :
    wpC M A (tryCatch m k) Q E s := fun Γ p hΓ hC => by
  rw [Sem.wp_tryCatch']
  exact Sem.wp_mono M Γ m (fun _ _ _ h' => h') (fun e p' s' h' => h' Γ p' hΓ hC) p s (h Γ p hΓ hC)
theorem wpC_attempt {m : Sem α} {Q : Except Value α → Shared → Prop} (h : wpC M A m (fun a => Q (.ok a)) (fun e => Q (.error e)) s) :
    wpC M A m.attempt Q E s := fun Γ p hΓ hC => by rw [Sem.wp_attempt]; exact h Γ p hΓ hC
theorem codeC_mono {c : Code} {R R' : Result → Shared → Prop} (h : codeC M A c R s) (hR : ∀ r s, R r s → R' r s) : codeC M A c R' s :=
  fun Γ p hc hΓ hC => wpCode_mono hR (h Γ p hc hΓ hC)
theorem Cln.enter {Γ : Ctx} (h : Cln Γ) {c : Code} {hd : Option Value} {p : Pos} (hc : holds c = false) : Cln (Γ.enter c hd p) :=
  ⟨hc, fun q hq => by rcases List.mem_cons.mp hq with rfl | hq; exact h.1; exact h.2 q hq⟩
theorem Cln.goto {Γ : Ctx} (h : Cln Γ) {c : Code} (hc : holds c = false) : Cln (Γ.goto c) := ⟨hc, h.2⟩
theorem wpC_run {c : Code} {h : Option Value} {Q : Flow → Shared → Prop} (hh : holds c = false)
    (hc : codeC M (A.mark h) c (fun r s' => match r with | .ok f => Q f s' | .error e => E e s') s) (hnb : h ≠ some byPass := by intro x; cases x) :
    wpC M A (run c h) Q E s := fun Γ p hΓ hC => by rw [Sem.wp_run]; exact hc _ p rfl (hΓ.enter c h p hnb) (hC.enter hh)
theorem wpC_runValue {c : Code} {Q : Value → Shared → Prop} (hh : holds c = false)
    (hc : codeC M A c (fun r s' => match r with | .ok (.ret v) => Q v s' | .ok _ => False | .error e => E e s') s) : wpC M A (runValue c) Q E s := fun Γ p hΓ hC => by
  rw [Sem.wp_runValue]; exact hc _ p rfl (hΓ.enter c none p (by intro x; cases x)) (hC.enter hh)
theorem wpC_call {f : Value} {pos : List Value} {kw : List (Str × Value)} {Q : Value → Shared → Prop}
    (hc : codeC M A (.call f ⟨pos, kw⟩) (fun r s' => match r with | .ok (.ret v) => Q v s' | .ok _ => False | .error e => E e s') s) : wpC M A (call f pos kw) Q E s := wpC_runValue rfl hc
theorem codeC_of_tree {c : Code} {R : Result → Shared → Prop}
    (h : wpC M (A.under c) (M.den c) (fun fin s' => match fin with | .done f => R (.ok f) s' | .again c' => c'.quiet = true ∧ holds c' = false ∧ codeC M A c' R s') (fun e s' => R (.error e) s') s) : codeC M A c R s := fun Γ p hc hΓ hC => by
  rw [wpCode_iff_wp, hc]
  refine Sem.wp_mono M Γ _ (fun fin p' s' h' => ?_) (fun _ _ _ h' => h') p s (h Γ p (hc ▸ hΓ.in) hC)
  cases fin with
  | done f => exact h'
  | again c' => exact ⟨h'.1, h'.2.2 (Γ.goto c') p' rfl (hΓ.goto c') (hC.goto h'.2.1)⟩
theorem dite_no {α : Type} {c : Prop} [Decidable c] {t : c → α} {e : ¬ c → α} {x : α} (hc : ¬ c) (h : e hc = x) : dite c t e = x := by rw [dif_neg hc]; exact h
theorem wpC_exported {a : Addr} {Q : Bool → Shared → Prop} (h : Q false s) : wpC M A (Builtin.Bytes.exported (.ref a)) Q E s := fun Γ p _ hC => by
  show Q (((Γ.code, p) :: Γ.below).any _) s
  have key : ∀ (c : Code) (q : Pos), holds c = false → (match ((c, q) : Code × Pos) with
      | (.builtin "bytearray.__contains__" ⟨v :: _, _⟩, _) | (.builtin "bytearray.__mod__" ⟨v :: _, _⟩, _)
      | (.builtin "bytearray.__rmod__" ⟨_ :: v :: _, _⟩, _) | (.builtin "_struct.pack_into.held" ⟨v :: _, _⟩, _) => Builtin.Bytes.sameRef v (.ref a)
      | (.builtin "bytearray.find.held" ⟨_ :: _ :: held, _⟩, _) => held.any (Builtin.Bytes.sameRef (.ref a))
      | (.builtin id ⟨v :: _, _⟩, _) => Builtin.Bytes.sameRef v (.ref a) && Builtin.Bytes.decodersThatHold.contains id
      | _ => false) = false := by
    intro c q hc
    cases c with
    | builtin id args =>
      have n : ∀ x, x ∈ holders → ¬ id = x := fun x hx e => by
        subst e
        exact Bool.noConfusion (hc.symm.trans (List.contains_iff_mem.mpr hx))
      have n2 : Builtin.Bytes.decodersThatHold.contains id = false := by
        cases e : Builtin.Bytes.decodersThatHold.contains id with
        | false => rfl
        | true => exact absurd rfl (n id (List.mem_append_right _ (List.contains_iff_mem.mp e)))
      delta wpC_exported.match_1
      refine dite_no (n _ (List.mem_append_left _ (by decide))) ?_
      refine dite_no (n _ (List.mem_append_left _ (by decide))) ?_
      refine dite_no (n _ (List.mem_append_left _ (by decide))) ?_
      refine dite_no (n _ (List.mem_append_left _ (by decide))) ?_
      refine dite_no (n _ (List.mem_append_left _ (by decide))) ?_
      obtain ⟨pos, kw⟩ := args
      cases pos with
      | nil => rfl
      | cons v t =>
        show (Builtin.Bytes.sameRef v _ && Builtin.Bytes.decodersThatHold.contains id) = false
        rw [n2, Bool.and_false]
    | _ => rfl
  rw [List.any_eq_false.mpr]
  · exact h
  · intro x hx
    obtain ⟨c, q⟩ := x
    rw [Bool.not_eq_true]
    rcases List.mem_cons.mp hx with e | hx
    · cases e; exact key _ _ hC.1
    · exact key _ _ (hC.2 _ hx)
end
end Mine

end
noncomputable section
open PySem PySem.W PySem.Calls PyProof.Rows
open PySem.Sem (wp)
set_option Elab.async false
set_option maxRecDepth 100000
namespace Mine
namespace BA
theorem plainAttrs : PlainAttrs "bytearray" :=
  ⟨⟨"bytearray.__getattribute__", by rw [typeLookup_type, builtinLookup_eq_fast]; kernel_rfl, by decide +kernel⟩, by rw [typeLookup_type, builtinLookup_eq_fast]; kernel_rfl⟩
theorem owner : Manifest.owners.lookup (String.ofList ['y', 'a', 'r', 'r', 'a', 'e', 't', 'y', 'b'].reverse) = some Manifest.sig_bytearray := by kernel_rfl
theorem slot_append : Slot "bytearray" "append" "bytearray.append" :=
  .of (owner := "bytearray") (n := "append") (by rw [typeLookup_type, builtinLookup_eq_fast]; kernel_rfl) (by decide +kernel) (by decide +kernel) (by decide +kernel)
    (by first | exact .inl (by decide +kernel) | exact .inr (by decide +kernel)) (by rw [isSubtype_type]; kernel_rfl)
theorem type_append : typeOf (.builtin "bytearray.append") = pure (.type "method_descriptor") := by show builtinType _ = _; rw [builtinType_eq_fast]; kernel_rfl
theorem entry_append : entryFor table "bytearray.append" = some Builtin.«bytearray.append» := entryFor_of_tree (by kernel_rfl)
theorem args_append (a b : Value) : argsOk "bytearray.append" ⟨[a, b], []⟩ := by
  unfold argsOk; rw [signature?_of (id := "bytearray.append") (n := ['d', 'n', 'e', 'p', 'p', 'a']) (o := ['y', 'a', 'r', 'r', 'a', 'e', 't', 'y', 'b']) (by kernel_rfl) owner]; kernel_rfl
theorem mro : mroOf (.type "bytearray") = pure [.type "bytearray", .type "object"] := by rw [mroOf_type]; kernel_rfl
theorem lookup_new : typeLookup (.type "bytearray") "__new__" = pure (some (.builtin "bytearray.__new__")) := by rw [typeLookup_type, builtinLookup_eq_fast]; kernel_rfl
theorem slot_init : Slot "bytearray" "__init__" "bytearray.__init__" :=
  .of (owner := "bytearray") (n := "__init__") (by rw [typeLookup_type, builtinLookup_eq_fast]; kernel_rfl) (by decide +kernel) (by decide +kernel) (by decide +kernel)
    (by first | exact .inl (by decide +kernel) | exact .inr (by decide +kernel)) (by rw [isSubtype_type]; kernel_rfl)
theorem entry_init : entryFor table "bytearray.__init__" = some Builtin.«bytearray.__init__» := entryFor_of_tree (by kernel_rfl)
theorem args_init (a : Value) : argsOk "bytearray.__init__" ⟨[a], []⟩ := by
  unfold argsOk; rw [signature?_of (id := "bytearray.__init__") (n := ['_', '_', 't', 'i', 'n', 'i', '_', '_']) (o := ['y', 'a', 'r', 'r', 'a', 'e', 't', 'y', 'b']) (by kernel_rfl) owner]; kernel_rfl
theorem called : TypeCalled "bytearray" "bytearray.__new__" "bytearray.__init__" :=
  ⟨by decide +kernel, by decide +kernel, ⟨_, _, mro⟩, madeBy_type mro lookup_new (by decide +kernel), by decide +kernel, by rw [isSubtype_type]; kernel_rfl, slot_init⟩
theorem typeCall : checkTypeCall "bytearray" ⟨[], []⟩ = pure () := by kernel_rfl
theorem newCall : checkBuiltinCall "bytearray.__new__" ⟨[.type "bytearray"], []⟩ = pure () := by kernel_rfl
theorem plain_new : plainId "bytearray.__new__" = true := by decide +kernel
theorem entry_new : entryFor table "bytearray.__new__" = some Builtin.«list.__new__» := entryFor_alias (id' := "list.__new__") (by kernel_rfl) rfl (by decide +kernel) (by kernel_rfl)
set_option maxRecDepth 1000000 in
set_option maxHeartbeats 4000000 in
theorem owner_new : ("bytearray.__new__".splitOn ".__new__").headD "" = "bytearray" := by simp +decide [String.splitOn, String.splitOnAux]
theorem sub_self : isSubtype (.type "bytearray") (.type "bytearray") = pure true := by rw [isSubtype_type]; kernel_rfl
theorem look_release : typeLookup (.type "bytearray") "__release_buffer__" = pure (some (.builtin "bytearray.__release_buffer__")) := by rw [typeLookup_type, builtinLookup_eq_fast]; kernel_rfl
theorem look_buffer : typeLookup (.type "bytearray") "__buffer__" = pure (some (.builtin "bytearray.__buffer__")) := by rw [typeLookup_type, builtinLookup_eq_fast]; kernel_rfl
theorem look_bytes : typeLookup (.type "bytearray") "__bytes__" = pure none := by rw [typeLookup_type, builtinLookup_eq_fast]; kernel_rfl
theorem look_index : typeLookup (.type "bytearray") "__index__" = pure none := by rw [typeLookup_type, builtinLookup_eq_fast]; kernel_rfl
theorem bind_init : Builtin.Bytes.bindOptional "bytearray.__init__" "bytearray" ["source", "encoding", "errors"] [] [] = pure [none, none, none] := by kernel_rfl
end BA
end Mine

end
noncomputable section
open PySem PySem.W PySem.Calls PyProof.Rows
open PySem.Sem (wp)
set_option Elab.async false
set_option maxRecDepth 100000
namespace Mine
noncomputable abbrev baObj (b : Array UInt8) : Obj := { cls := .type "bytearray", data := .bytearray b }
section
variable {prog : Program} {w : World} {A : Around} {E : Value → Shared → Prop} {s : Shared}
theorem codeC_builtin {id : String} {args : Args} {b : Builtin} {R : Result → Shared → Prop} (hb : entryFor table id = some b)
    (h : wpC (model prog w) (A.under (.builtin id args)) (b args) (fun fin s' => match fin with | .done f => R (.ok f) s' | .again c' => c'.quiet = true ∧ holds c' = false ∧ codeC (model prog w) A c' R s') (fun e s' => R (.error e) s') s) :
    codeC (model prog w) A (.builtin id args) R s := by
  refine codeC_of_tree ?_
  show wpC _ _ (match entryFor table id with | some b => b args | none => unsupported ((withoutEnding? id "#data").getD id)) _ _ s
  rw [hb]; exact h
theorem wpC_call_entry {T : String} {name : Str} {id : String} {b : Builtin} {self : Value} {rest : List Value} {Q : Value → Shared → Prop} (h : Slot T name id) (hT : s.TypeIs self T)
    (hb : entryFor table id = some b) (hh : holds (.builtin id ⟨self :: rest, []⟩) = false)
    (hc : wpC (model prog w) A.in1 (b ⟨self :: rest, []⟩) (fun fin s' => ∃ v, fin = .done (.ret v) ∧ Q v s') E s) (ha : argsOk id ⟨self :: rest, []⟩) :
    wpC (model prog w) A (call (.builtin id) (self :: rest)) Q E s := by
  refine wpC_call (codeC_of_tree ?_)
  show wpC _ A.in1 (do checkBuiltinCall id ⟨self :: rest, []⟩; again (.builtin id ⟨self :: rest, []⟩)) _ _ s
  refine wpC_bindA (h.check _ _ _ _ _ _ _ _ hT ha (wpC_pure ⟨plainId_quiet h.plain _, hh, codeC_builtin hb ?_⟩))
  rw [Around.under_plainId h.plain]
  refine wpC_mono hc (fun fin s' h' => ?_) fun _ _ x => x
  obtain ⟨v, rfl, hv⟩ := h'
  exact hv
theorem ba_typeIs {a : Addr} {b : Array UInt8} (ho : s.heap.get? a = some (baObj b)) : s.TypeIs (.ref a) "bytearray" := ⟨_, ho, rfl⟩
theorem ba_release {a : Addr} {b : Array UInt8} {Q : Bool → Shared → Prop} {M : Model} (ho : s.heap.get? a = some (baObj b)) (h : Q false s) : wpAny M A (Builtin.Bytes.ownRelease (.ref a)) Q E s := by
  have key : ∀ x : String, x = "bytearray" → ∀ {Q : Bool → Shared → Prop}, Q true s → wpAny M A (isInstance (.ref a) (.type x)) Q E s := fun x hx Q hq => by
    subst hx; exact wpAny_isInstance (ba_typeIs ho) BA.sub_self hq
  unfold Builtin.Bytes.ownRelease Builtin.Bytes.slotIsOwn
  refine wpAny_bind (wpAny_bind (wpAny_specialOf (ba_typeIs ho) BA.look_release ?_))
  dsimp only
  split
  · rename_i hx; exact absurd hx (by decide +kernel)
  · exact key _ (by decide +kernel) (wpAny_pure h)
theorem wpC_notExported {a : Addr} {b : Array UInt8} {Q : Bool → Shared → Prop} {M : Model} (ho : s.heap.get? a = some (baObj b)) (h : Q false s) :
    wpC M A (Builtin.Bytes.exported (.ref a) <||> (do return (← Builtin.Bytes.exportsOf (.ref a)) > 0)) Q E s := by
  unfold orM
  refine wpC_bind (wpC_exported ?_)
  dsimp only [toBool, ToBool.toBool]
  refine wpC_bindA ?_
  unfold Builtin.Bytes.exportsOf
  refine wpAny_bind (wpAny_load ho (wpAny_pure ?_))
  exact wpC_pure h
theorem ba_write {a : Addr} {b : Array UInt8} {f : Array UInt8 → Array UInt8} {Q : Unit → Shared → Prop} {M : Model} (ho : s.heap.get? a = some (baObj b)) (hz : (f b).size ≤ sizeLine)
    (h : ∀ h', Heap.SameBut a s.heap h' → h'.get? a = some (baObj (f b)) → Q () { s with heap := h' }) : wpAny M A (Builtin.Bytes.write (.ref a) f) Q E s := by
  show wpAny M A (updateBytearray a f) Q E s
  unfold updateBytearray
  refine wpAny_bind (wpAny_load ho ?_)
  show wpAny _ _ (update a (Obj.mapBytearray f) >>= fun _ => lookBehind a) _ _ _
  refine wpAny_bind (wpAny_update ho ?_)
  have hS₂ : (s.heap.update a (Obj.mapBytearray f)).get? a = some (baObj (f b)) := Heap.get?_update_self (Obj.mapBytearray f) ho rfl
  refine wpAny_lookBehind hS₂ ?_ (h _ (Heap.SameBut.update ..) hS₂)
  show (if (f b).size > sizeLine then some "bytearray:memory" else none) = none
  rw [if_neg (Nat.not_lt.mpr hz)]
theorem wpC_ba_append {a : Addr} {b : Array UInt8} {n : Int} {t : Tok} {Q : Value → Shared → Prop} (ho : s.heap.get? a = some (baObj b)) (h0 : 0 ≤ n) (h1 : n < 256) (hz : b.size + 1 ≤ sizeLine)
    (h : ∀ h', Heap.SameBut a s.heap h' → h'.get? a = some (baObj (b.push n.toNat.toUInt8)) → Q .none { s with heap := h' }) : wpC (model prog w) A (call (.builtin "bytearray.append") [.ref a, .int n t]) Q E s := by
  refine wpC_call_entry BA.slot_append (ba_typeIs ho) BA.entry_append (show holders.contains "bytearray.append" = false by decide +kernel) ?_ (BA.args_append _ _)
  unfold Builtin.«bytearray.append»
  refine wpC_bindA (wpAny_of_eq (a := (Value.ref a, Value.int n t)) rfl ?_)
  dsimp only
  refine wpC_bindA ?_
  · unfold Builtin.Bytes.byteValue
    refine wpAny_bind (wpAny_of_eq (rfl : asIndex (.int n t) = pure n) ?_)
    refine bm_if_false (by simp only [Bool.or_eq_false_iff, decide_eq_false_iff_not]; omega) ?_
    refine wpAny_pure ?_
    unfold Builtin.Bytes.checkResize
    refine wpC_bind (wpC_bind (wpC_notExported ho ?_))
    refine wpC_pure ?_
    refine wpC_bindA (ba_write ho (by simpa using hz) fun h' hs' ho' => wpC_pure ⟨_, rfl, h h' hs' ho'⟩)
end
end Mine

end
noncomputable section
open PySem PySem.W PySem.Calls PyProof.Rows
open PySem.Sem (wp)
set_option Elab.async false
set_option maxRecDepth 100000
namespace Mine
section
variable {prog : Program} {w : World} {A : Around} {E : Value → Shared → Prop} {s : Shared}
theorem code_ba_new {Q₁ : Value → Shared → Prop} (h : Q₁ (.ref s.heap.objs.size) { s with heap := s.heap.push (baObj #[]) }) :
    codeAny (model prog w) A (.call (.builtin "bytearray.__new__") ⟨[.type "bytearray"], []⟩) (wants Q₁ E) s := by
  refine codeAny_of_tree ?_
  show wpAny _ A.in1 (do checkBuiltinCall "bytearray.__new__" ⟨[.type "bytearray"], []⟩; again (.builtin "bytearray.__new__" ⟨[.type "bytearray"], []⟩)) _ _ s
  refine wpAny_bind (wpAny_of_eq BA.newCall (wpAny_pure ⟨plainId_quiet BA.plain_new _, codeAny_builtin_stack BA.entry_new rfl fun p st => ?_⟩))
  rw [Around.under_plainId BA.plain_new _]
  have hsub := BA.sub_self
  have hown := BA.owner_new
  obtain ⟨hp, g, d, tk, os⟩ := s
  simp only [hown]
  wp_walk
  exact h
theorem wpC_ba_init {a : Addr} {Q : Value → Shared → Prop} (ho : s.heap.get? a = some (baObj #[]))
    (h : ∀ h', Heap.SameBut a s.heap h' → h'.get? a = some (baObj #[]) → Q .none { s with heap := h' }) : wpC (model prog w) A (call (.builtin "bytearray.__init__") [.ref a]) Q E s := by
  refine wpC_call_entry BA.slot_init (ba_typeIs ho) BA.entry_init (show holders.contains "bytearray.__init__" = false by decide +kernel) ?_ (BA.args_init _)
  refine wpC_bindA (ba_release ho ?_)
  refine wpC_bindA (wpAny_of_eq BA.bind_init ?_)
  refine wpC_bindA (wpAny_of_eq (a := ()) rfl ?_)
  refine wpC_bindA (wpAny_of_eq (a := ()) rfl ?_)
  refine wpC_bind (wpC_notExported ho ?_)
  refine wpC_bindA (ba_write ho (Nat.zero_le _) fun h' hs' ho' => ?_)
  exact wpC_any (wpAny_pure ⟨_, rfl, h h' hs' ho'⟩)
theorem wpC_ba {Q : Value → Shared → Prop}
    (h : ∀ h', Heap.SameBut s.heap.objs.size (s.heap.push (baObj #[])) h' → h'.get? s.heap.objs.size = some (baObj #[]) → Q (.ref s.heap.objs.size) { s with heap := h' }) :
    wpC (model prog w) A (call (.type "bytearray") []) Q E s := by
  obtain ⟨c, tl, hmro⟩ := BA.called.mro
  have hmade := BA.called.made
  have hsub := BA.called.sub
  refine wpC_call (codeC_of_tree ?_)
  show wpC _ _ (callAny (.type "bytearray") _) _ _ _
  refine wpC_pure ⟨Code.quiet_builtin _ (by decide +kernel), (show holders.contains "type.__call__" = false by decide +kernel), codeC_builtin F.entry_type_call ?_⟩
  rw [Around.under_plain (weight_type_call_type "bytearray" [] []) rfl]
  have h1 := BA.called.notType
  have h2 := BA.called.canCreate
  unfold Builtin.«type.__call__»
  simp only [h1, h2, hmro, hmade, BA.typeCall, Bool.false_eq_true, if_false, List.isEmpty_cons, pure_bind]
  refine wpC_bindA (wpAny_holding (wpAny_call (code_ba_new ?_)))
  have ho : (s.heap.push (baObj #[])).get? s.heap.objs.size = some (baObj #[]) := by simp [Heap.get?, Heap.push]
  refine wpC_bindA (wpAny_isInstance (T := "bytearray") ⟨_, ho, rfl⟩ hsub ?_)
  simp only [Bool.not_true, Bool.false_eq_true, if_false]
  refine wpC_bind (wpC_holding ?_)
  simp only [callSpecial?]
  refine wpC_bindA (wpAny_specialOf (T := "bytearray") ⟨_, ho, rfl⟩ BA.slot_init.lookup ?_)
  simp only [BA.slot_init.bind]
  refine wpC_holding (wpC_bindA (wpAny_pure (wpC_bind (wpC_mono (wpC_ba_init ho fun h' hs' ho' => ?_) (Q := fun v s' => v = .none ∧ Q (.ref s.heap.objs.size) s') (fun v s' h' => ?_) fun _ _ x => x))))
  · exact ⟨rfl, h h' hs' ho'⟩
  · obtain ⟨rfl, hq⟩ := h'
    exact wpC_pure (wpC_pure hq)
end
end Mine

end
noncomputable section
open PySem PySem.W PySem.Calls PyProof.Rows
open PySem.Sem (wp)
set_option Elab.async false
set_option maxRecDepth 100000
namespace Mine
theorem caller_cln : Cln ⟨.builtin "claim.caller" {}, none, none, [], none⟩ := ⟨by decide +kernel, fun q hq => nomatch hq⟩
theorem thread_ends_C {prog : Program} {w : World} {t : Sem Fin} {s : Shared} {R : Result → Shared → Prop} (hreg : s.asleep)
    (h : wpC (model prog w) callerA t (fun fin s' => ∃ f, fin = .done f ∧ (R (.ok f) s' ∧ leftWithCleanup s'.gens = false)) (fun e s' => R (.error e) s' ∧ leftWithCleanup s'.gens = false) s) :
    ∃ n r s' s'', runN (denote table) prog w n s ⟨t, .builtin "claim.caller" {}, default, []⟩ = .halted (outcomeOf r) s' ∧
      schedN (denote table) prog w n (.single s ⟨t, .builtin "claim.caller" {}, default, []⟩) = .halted (outcomeOf r) s' ∧ s'.forget = s''.forget ∧ R r s'' := by
  have h' : wp (model prog w) ⟨.builtin "claim.caller" {}, none, none, [], none⟩ t (Sem.finPost (model prog w) ⟨.builtin "claim.caller" {}, none, none, [], none⟩ fun r s' => R r s' ∧ leftWithCleanup s'.gens = false) (fun e _ s' => R (.error e) s' ∧ leftWithCleanup s'.gens = false) default s :=
    Sem.wp_mono _ _ _ (fun fin p' s' q => by obtain ⟨f, rfl, hf⟩ := q; exact hf) (fun _ _ _ x => x) _ _ (h _ default caller_in caller_cln)
  obtain ⟨n, r, s₁, s₂, hs, hn, hfo, hR⟩ := wp_halts_full (M := model prog w) (R := R) hreg h'
  exact ⟨n, r, s₂, s₁, hn, hs, hfo, hR⟩
theorem callFrom_C {c : ClaimW} {tree : List Value → Sem Fin} {w : World} {s : Shared} {free : Addr → Prop} {gens : Prop} {kept : Heap → Prop} (hz : s.asleep) (hgens : s.gens = #[])
    (hspec : ∀ args, c.pre args = true → WData.layableAll args = true →
      ∀ ord : List DictEntry → List DictEntry, (∀ l, (ord l).Perm l) →
      ∃ vs s₁, layAllW c.records (classAt s.heap) w.params ord args s = some (vs, s₁) ∧
        wpC (model c.prog w) callerA (tree vs) (fun fin s' => ∃ f, fin = .done f ∧ (c.Ends s args vs s₁ (.ok f) s' ∧ s'.os = s.os ∧ AllBare s'.gens ∧ kept s'.heap))
          (fun e s' => c.Ends s args vs s₁ (.error e) s' ∧ s'.os = s.os ∧ AllBare s'.gens ∧ kept s'.heap) s₁) :
    c.CallFrom (fun vs => ⟨tree vs, .builtin "claim.caller" {}, default, []⟩) w free gens kept s := by
  intro args hpre hlay ord hord
  obtain ⟨vs, s₁, hlaid, hcode⟩ := hspec args hpre hlay ord hord
  have hal := layAllW_rest _ _ _ hlaid
  have key := thread_ends_C (prog := c.prog) (w := w) (t := tree vs) (s := s₁) (R := fun r s' => c.Ends s args vs s₁ r s' ∧ s'.os = s.os ∧ kept s'.heap) (Shared.asleep_of_life hal.2.2.2 hz)
    (wpC_mono hcode (fun fin s' q => by obtain ⟨f, e, h1, h2, h3, h4⟩ := q; exact ⟨f, e, ⟨h1, h2, h4⟩, leftWithCleanup_false_of_bare h3⟩) (fun e s' q => ⟨⟨q.1, q.2.1, q.2.2.2⟩, leftWithCleanup_false_of_bare q.2.2.1⟩))
  obtain ⟨k, r, s', s'', hrun, hsched, hfo, hcase, hos, hkp⟩ := key
  obtain ⟨eh, _, _, eo, _⟩ := Shared.forget_eq hfo
  have hcase' := hcase.congr eh
  have hkp' : kept s'.heap := by rw [eh]; exact hkp
  rw [← eo] at hos
  have hlife : s'.heap.life = s.heap.life := (runN_life _ _ _ hrun).trans hal.2.2.2
  refine ⟨vs, s₁, hlaid, k, _, s', hsched, ?_, (fun _ i x hx => by rw [hgens] at hx; simp at hx), hkp', by rw [hlife], Shared.rest_eq hos⟩
  rcases hcase' with ⟨v, rfl, d1, d2, d3, d4, d5⟩ | ⟨e, ob, cls, rfl, d1, d2, d3, d4, d5⟩
  · exact .inl ⟨v, rfl, d1, d2, d3, fun b o y _ => d4 b o y, d5⟩
  · exact .inr ⟨e, ob, cls, rfl, d1, d2, d3, d4, fun b o y _ => d5 b o y⟩
/-- what is left to be walked: the call of the law, among the contexts that hold no bytearray fast -/
noncomputable abbrev WalkC (q : Program) (loose : List Str) (XP : (Str → Option Value) → Heap → Prop) (YP : World → Heap → Prop) (r : RowW) (d : DefRec) (kwd : List (Str × Expr)) : Prop :=
  ∀ (w : World) (s₀ s₁ : Shared) (mg mb : Str → Option Value), Ground q loose r.records XP w s₀ mg mb s₁.heap → YP w s₁.heap → ∀ (a : Addr) (o : Obj) (pm cd doc dV kV : Value), s₁.heap.get? a = some o →
    o.data = .func { docDef d.name d.params d.body d.scope pm cd doc with defaults := dV, kwdefaults := kV } → s₁.heap.CodeRec cd d.name → Dflts mg s₁.heap d.params kwd dV kV → mg d.name = some (.ref a) → s₁.gens = #[] →
    ∀ (args : List WData) (vals : List Value) (as : List Addr), r.claim.pre args = true → WData.layableAll args = true → ReadsAllW r.records (classAt s₀.heap) s₁.heap vals args as → WellAll w.params s₁.heap vals args → (∀ a ∈ as, (a == sysModules) = false) →
      wpC (model r.prog w) callerA (PySem.call (.ref a) vals) (fun v s' => GoodWG r.claim (classAt s₀.heap) (ExcName.means s₀.heap) args s₁ (.ok (.ret v)) s')
        (fun e s' => GoodWG r.claim (classAt s₀.heap) (ExcName.means s₀.heap) args s₁ (.error e) s') s₁
theorem holds_C {r : OpenRow} {q : Program} {loose : List Str} {Xt : Shared → Bool} {XP : (Str → Option Value) → Heap → Prop} {α : Type} {Yf : Shared → α} {Ya : World → α} {YP : World → Heap → Prop} {d : DefRec} {kwd : List (Str × Expr)} {N : Nat}
    (left : LeftO r.prog q loose Xt Yf Ya N) (hY : ∀ w s, Yf s = Ya w → YP w s.heap) (hYk : ∀ w h h', YP w h → (∀ b o, h.get? b = some o → h'.get? b = some o) → YP w h')
    (hX : ∀ s, Xt s = true → XP (s.heap.nsMap mainGlobals) s.heap) (hXk : ∀ mg h h', XP mg h → (∀ b o, h.get? b = some o → h'.get? b = some o) → XP mg h')
    (hdef : defOf q r.name = some (d, kwd)) (hp : r.prog.theDef r.name = some (d.params, d.body, d.scope)) (hk : kwWritten? d.params.kwonlyargs d.params.kw_defaults = some kwd) (hRf : ∀ s, Xt s = true → RecFacts r.records s.heap) (hwr : (!r.writes || r.records.isEmpty) = true)
    (k1 : r.wellSaid = true) (ok : (chainsOk q && opensWell r.prog && (frees r.toRowW && r.within.isEmpty)) = true) (hb : r.prog.bare) (hw : r.toRowW.promised)
    (call : WalkC q loose XP YP r.toRowW d kwd) : r.Holds := by
  refine ⟨k1, hw, ?_⟩
  obtain ⟨ok, k5⟩ := Bool.and_eq_true_iff.mp ok
  obtain ⟨hch, o1⟩ := Bool.and_eq_true_iff.mp ok
  obtain ⟨k5, k6⟩ := Bool.and_eq_true_iff.mp k5
  obtain ⟨hsame, hu, ha, hap, hm⟩ := frees_parts k5
  refine ⟨⟨hb, o1, by show r.toRowW.makers.map _ = []; rw [hm]; rfl⟩, hw.witness, fun w => ⟨(left.behind hX hch w).1, fun s' hs' => ?_⟩⟩
  obtain ⟨s₀, hf, hg0, s, hT, hz, hgens, hg, G00, y⟩ := (left.behind (XP := fun mg h => XP mg h ∧ RecFacts r.toRowW.records h) (fun s hs => ⟨hX s hs, hRf s hs⟩) hch w).2 s' hs'
  have G0 : Ground q loose [] XP w s (s.heap.nsMap mainGlobals) (s.heap.nsMap builtinsNs) s.heap := ⟨G00.T, G00.B, G00.D, G00.TE, G00.TD, G00.W, G00.X.1, G00.cls, G00.has, G00.apart, G00.once, G00.K⟩
  have RF := G00.X.2
  have hT' := hT
  refine ⟨s₀, hf, hg0, s, hT, fun n hn => ?_, RF.1, RF.2.1, ?_⟩
  · obtain rfl : n = r.name := by split at hn <;> simp_all
    exact pinned_of_view hg G0 hdef hp hk
  have hgens : s.gens = #[] := Array.eq_empty_of_size_eq_zero (beq_iff_eq.mp hgens)
  have G : Ground q loose r.toRowW.records XP w s _ _ s.heap := RF.ground G0
  refine callFrom_C (c := r.toRowW.claim) (tree := fun vs => do match ← nsGet mainNs r.name with
      | some f => do ret (← PySem.call f vs)
      | none => unsupported "claim.caller:no-such-global") hz hgens fun args hpre hlay ord hord => ?_
  obtain ⟨⟨vs, s₁⟩, hlaid⟩ := Option.isSome_iff_exists.mp (layAllW_isSome (P := w.params) (ord := ord) G.has args r.toRowW.args s (pre_splitW hpre).1)
  have keeps := layAllW_keeps _ _ _ hlaid
  have hal := layAllW_rest _ _ _ hlaid
  obtain ⟨as, hrd, hin, hold⟩ := reads_layAllW hord _ _ _ hlaid hlay s₁.heap (fun _ _ e => e)
  have L : Laid r.toRowW.records w s s₁ args vs as := ⟨⟨ord, hord, hlaid⟩, hrd, hin, hold, keeps, hal.1.trans hgens, hal.2.2.1⟩
  have G₁ := G.keeps hXk keeps
  obtain ⟨a, o, pm, cd, doc, dV, kV, h1, h2, h3, h4, h5⟩ := G₁.fn hdef
  have h := call w s s₁ _ _ G₁ (hYk _ _ _ (hY w s y) keeps) a o pm cd doc dV kV h2 h3 h4 h5 (defOf_name hdef ▸ h1) L.gens args vs as hpre hlay L.reads L.well (L.low G.low)
  have hi := ident_freeW hu ha hap
  have hwi : r.toRowW.claim.within = [] := List.isEmpty_iff.mp k6
  refine ⟨vs, s₁, hlaid, wpC_bindA (wpAny_nsGet G₁.T.g ?_)⟩
  have h1' : (s.heap.nsMap mainGlobals) r.name = some (.ref a) := h1
  rw [h1']
  refine wpC_bind (wpC_mono h (fun v s' g => ?_) fun e s' g => ?_)
  · have z := g.laid (c := r.toRowW.claim) hsame hwi hi L
    exact wpC_pure ⟨_, rfl, z.1, z.2.1, z.2.2, fun q => ⟨namesKept_of hT' hg _ keeps g.2.1.old, noTable hwr q⟩⟩
  · have z := g.laid (c := r.toRowW.claim) hsame hwi hi L
    exact ⟨z.1, z.2.1, z.2.2, fun q => ⟨namesKept_of hT' hg _ keeps g.2.1.old, noTable hwr q⟩⟩
end Mine

end
noncomputable section
open PySem PySem.W PySem.Calls PyProof.Rows
open PySem.Sem (wp)
set_option Elab.async false
set_option maxRecDepth 100000
namespace Mine
section
variable {w : World} {A : Around} {E : Value → Shared → Prop} {s : Shared} {h₀ : Heap} {L d : Addr} {m : Str → Option Value} {news : List (Addr × Obj)} {g : Obj → List (Addr × Obj)} {o : Obj}
  {K : Type} [DecidableEq K] {knd : KeyKind PR w K} {kvs : List (K × Value)} {k : K} {key v : Value}
/-- the object at d is the dict of these pairs -/
noncomputable def DI (knd : KeyKind PR w K) (d : Addr) (o : Obj) (kvs : List (K × Value)) : Prop := (d == sysModules) = false ∧ o.IsDictOf knd kvs
theorem DI.at (D : DI knd d o kvs) (N : News h₀ L s.heap news) (hm : (d, o) ∈ news) : s.heap.DictOf knd d kvs := Heap.dictOf_iff.mpr ⟨o, (N _ hm).1, D.2⟩
theorem di_item {Q : Value → Shared → Prop} (N : News h₀ L s.heap news) (hm : (d, o) ∈ news) (D : DI knd d o kvs) (hkey : knd.is k key = true) (hv : valueAt kvs k = some v) (h : Q v { s with toks := s.toks + 1 }) :
    wpAny (model PR w) A (getItem (.ref d) key) Q E s := wpAny_getItem_of hkey (D.at N hm).mapOf hv h
theorem di_tail {value slice : PySem.Expr} {Q : Value → Shared → Prop} (N : News h₀ L s.heap news) (hm : (d, o) ∈ news) (D : DI knd d o kvs) (hkey : knd.is k key = true) (hv : valueAt kvs k = some v) (h : Q v { s with toks := s.toks + 1 })
    (hs : subscripted slice false (.ref d) key = operate [.ref d, key] (getItem (.ref d) key) := by with_unfolding_all rfl) :
    wpAny (model PR w) A (subscriptTail value slice (.ref d) key) Q E s := tail_any (D.at N hm).typeIs slot_dict_getitem.lookup (di_item N hm D hkey hv h) hs
theorem di_in {Q : Value → Shared → Prop} (N : News h₀ L s.heap news) (hm : (d, o) ∈ news) (D : DI knd d o kvs) (hkey : knd.is k key = true) (h : Q (.bool (valueAt kvs k).isSome) { s with toks := s.toks + 1 }) :
    wpAny (model PR w) A (compareOp .In key (.ref d)) Q E s := wpAny_in_of hkey D.1 (D.at N hm).mapOf h
theorem di_notin {Q : Value → Shared → Prop} (N : News h₀ L s.heap news) (hm : (d, o) ∈ news) (D : DI knd d o kvs) (hkey : knd.is k key = true) (h : Q (.bool (!(valueAt kvs k).isSome)) { s with toks := s.toks + 1 }) :
    wpAny (model PR w) A (compareOp .NotIn key (.ref d)) Q E s := wpAny_notIn_of hkey D.1 (D.at N hm).mapOf h
theorem di_set {Q : Unit → Shared → Prop} (F : Fr h₀ L s.heap m) (N : News h₀ L s.heap news) (U : UpdF d o news g) (D : DI knd d o kvs) (hkey : knd.is k key = true) (hsz : kvs.length ≤ sizeLine)
    (h : ∀ h' o' k', Fr h₀ L h' m → News h₀ L h' (g o') → DI knd d o' (PySem.stored kvs k v) → Q () { s with heap := h', toks := k' }) : wpAny (model PR w) A (setItem (.ref d) key v) Q E s := by
  obtain ⟨pre, post, rfl, hg, a, b⟩ := U.split
  have hm := N (d, o) (List.mem_append_right _ (.head _))
  refine wpAny_setItem_pairs (hsz := hsz) hkey (Heap.dictOf_iff.mpr ⟨o, hm.1, D.2⟩) fun h' hmm hs => ?_
  obtain ⟨o', ho', hd'⟩ := Heap.dictOf_iff.mp hmm
  exact h h' o' _ (F.change hs hm.2.1 hm.2.2) (hg o' ▸ N.setIn a b hs ho') ⟨D.1, hd'⟩
theorem di_len {Q : Value → Shared → Prop} (N : News h₀ L s.heap news) (hm : (d, o) ∈ news) (D : DI knd d o kvs) (hfit : kvs.length < 2 ^ 62) (h : ∀ t k', Q (.int kvs.length t) { s with toks := k' }) :
    wpAny (model PR w) A (call (.builtin "len") [.ref d]) Q E s := call_len_dict D.1 (D.at N hm) (by omega) (h _ _)
theorem di_get1 {Q : Value → Shared → Prop} (N : News h₀ L s.heap news) (hm : (d, o) ∈ news) (D : DI knd d o kvs) (hkey : knd.is k key = true) (h : Q ((valueAt kvs k).getD .none) { s with toks := s.toks + 1 }) :
    wpAny (model PR w) A (call (.builtin "dict.get") [.ref d, key]) Q E s :=
  call_meetsIn PySem.F.slot_dict_get (D.at N hm).typeIs PySem.F.entry_dict_get (PySem.F.args_dict_get_2 _ _) (meets_dict_get knd d hkey D.1) ⟨_, (D.at N hm).mapOf, h⟩
theorem di_get2 {dflt : Value} {Q : Value → Shared → Prop} (N : News h₀ L s.heap news) (hm : (d, o) ∈ news) (D : DI knd d o kvs) (hkey : knd.is k key = true) (h : Q ((valueAt kvs k).getD dflt) { s with toks := s.toks + 1 }) :
    wpAny (model PR w) A (call (.builtin "dict.get") [.ref d, key, dflt]) Q E s :=
  call_meetsIn PySem.F.slot_dict_get (D.at N hm).typeIs PySem.F.entry_dict_get (PySem.F.args_dict_get_3 _ _ _) (meets_dict_get_default knd d hkey D.1 dflt) ⟨_, (D.at N hm).mapOf, h⟩
theorem di_new {env : Env} {pos : Pos} {Q : Value → Shared → Prop} (F : Fr h₀ L s.heap m) (N : News h₀ L s.heap news) (hbig : h₀.NoLimit)
    (h : ∀ d h' k', Fr h₀ L h' m → News h₀ L h' ((d, { cls := .type "dict", data := .dict #[] }) :: news) → (∀ p ∈ news, p.1 < d) → (d == sysModules) = false → Q (.ref d) { s with heap := h', toks := k' }) :
    wpAny (model PR w) A (eval (.Dict [] [] pos) env) Q E s := by
  refine wpAny_Dict_empty ?_
  exact h _ _ _ (F.push _) (News.push F N _) (fun p hp => Heap.lt_size (N p hp).1) (F.notModules (modules_low hbig))
theorem di_empty (knd : KeyKind PR w K) (hlo : (d == sysModules) = false) : DI knd d { cls := .type "dict", data := .dict #[] } [] := ⟨hlo, #[], 0, ⟨rfl, rfl, rfl⟩, rfl, fun _ he => by simp at he, Pairs.nil, List.nodup_nil⟩
end

/-- bytes to ints: the values are known, their tokens are not -/
noncomputable def IV : List (List UInt8 × Value) → List (List UInt8 × Int) → Prop
  | [], [] => True
  | (k, v) :: r, (k', n) :: r' => k = k' ∧ (∃ t, v = .int n t) ∧ IV r r'
  | _, _ => False
noncomputable def plAt (pl : List (List UInt8 × Int)) (k : List UInt8) : Option Int := (pl.find? fun p => p.1 = k).map (·.2)
theorem IV.length : ∀ {kvs : List (List UInt8 × Value)} {pl : List (List UInt8 × Int)}, IV kvs pl → kvs.length = pl.length
  | [], [], _ => rfl
  | _ :: _, _ :: _, h => by simp only [List.length_cons, IV.length h.2.2]
  | [], _ :: _, h => h.elim
  | _ :: _, [], h => h.elim
theorem IV.find {k : List UInt8} : ∀ {kvs : List (List UInt8 × Value)} {pl : List (List UInt8 × Int)}, IV kvs pl → (∃ n t, plAt pl k = some n ∧ valueAt kvs k = some (.int n t)) ∨ (plAt pl k = none ∧ valueAt kvs k = none)
  | [], [], _ => .inr ⟨rfl, rfl⟩
  | (a, v) :: r, (a', n) :: r', h => by
    obtain ⟨rfl, ⟨t, rfl⟩, h'⟩ := h
    by_cases e : a = k
    · exact .inl ⟨n, t, by simp [plAt, e], by simp [valueAt, e]⟩
    · rcases IV.find (k := k) h' with ⟨n', t', e1, e2⟩ | ⟨e1, e2⟩
      · exact .inl ⟨n', t', by simpa [plAt, e] using e1, by simpa [valueAt, e] using e2⟩
      · exact .inr ⟨by simpa [plAt, e] using e1, by simpa [valueAt, e] using e2⟩
  | [], _ :: _, h => h.elim
  | _ :: _, [], h => h.elim
theorem IV.snoc {k : List UInt8} {n : Int} {t : Tok} : ∀ {kvs : List (List UInt8 × Value)} {pl : List (List UInt8 × Int)}, IV kvs pl → IV (kvs ++ [(k, .int n t)]) (pl ++ [(k, n)])
  | [], [], _ => ⟨rfl, ⟨t, rfl⟩, trivial⟩
  | _ :: _, _ :: _, h => ⟨h.1, h.2.1, IV.snoc h.2.2⟩
  | [], _ :: _, h => h.elim
  | _ :: _, [], h => h.elim
theorem stored_absent {K : Type} [DecidableEq K] {kvs : List (K × Value)} {k : K} {v : Value} (h : valueAt kvs k = none) : PySem.stored kvs k v = kvs ++ [(k, v)] := by
  unfold PySem.stored
  rw [if_neg]
  intro q
  obtain ⟨kv, hm, e⟩ := List.any_eq_true.mp q
  have := List.find?_eq_none.mp (Option.map_eq_none_iff.mp h) kv hm
  exact this e
/-- the object at d is a dict of bytes to ints -/
noncomputable def Pl (w : World) (d : Addr) (o : Obj) (pl : List (List UInt8 × Int)) : Prop := ∃ kvs, DI (bytesKind PR w) d o kvs ∧ IV kvs pl
section
variable {w : World} {A : Around} {E : Value → Shared → Prop} {s : Shared} {h₀ : Heap} {L d : Addr} {m : Str → Option Value} {news : List (Addr × Obj)} {g : Obj → List (Addr × Obj)} {o : Obj}
  {pl : List (List UInt8 × Int)} {b : Array UInt8} {t : Tok}
theorem bk_is (b : Array UInt8) (t : Tok) : (bytesKind PR w).is b.toList (.bytes b t) = true := by simp [bytesKind, isBytes]
theorem pl_in {Q : Value → Shared → Prop} (N : News h₀ L s.heap news) (hm : (d, o) ∈ news) (D : Pl w d o pl) (h : ∀ k', Q (.bool (plAt pl b.toList).isSome) { s with toks := k' }) :
    wpAny (model PR w) A (compareOp .In (.bytes b t) (.ref d)) Q E s := by
  obtain ⟨kvs, D, I⟩ := D
  refine di_in N hm D (bk_is b t) ?_
  rcases I.find (k := b.toList) with ⟨n, t, e1, e2⟩ | ⟨e1, e2⟩ <;> rw [e2] <;> rw [e1] at h <;> exact h _
theorem pl_notin {Q : Value → Shared → Prop} (N : News h₀ L s.heap news) (hm : (d, o) ∈ news) (D : Pl w d o pl) (h : ∀ k', Q (.bool (!(plAt pl b.toList).isSome)) { s with toks := k' }) :
    wpAny (model PR w) A (compareOp .NotIn (.bytes b t) (.ref d)) Q E s := by
  obtain ⟨kvs, D, I⟩ := D
  refine di_notin N hm D (bk_is b t) ?_
  rcases I.find (k := b.toList) with ⟨n, t, e1, e2⟩ | ⟨e1, e2⟩ <;> rw [e2] <;> rw [e1] at h <;> exact h _
theorem pl_tail {value slice : PySem.Expr} {n : Int} {Q : Value → Shared → Prop} (N : News h₀ L s.heap news) (hm : (d, o) ∈ news) (D : Pl w d o pl) (hv : plAt pl b.toList = some n) (h : ∀ t' k', Q (.int n t') { s with toks := k' })
    (hs : subscripted slice false (.ref d) (.bytes b t) = operate [.ref d, .bytes b t] (getItem (.ref d) (.bytes b t)) := by with_unfolding_all rfl) :
    wpAny (model PR w) A (subscriptTail value slice (.ref d) (.bytes b t)) Q E s := by
  obtain ⟨kvs, D, I⟩ := D
  rcases I.find (k := b.toList) with ⟨n', t', e1, e2⟩ | ⟨e1, e2⟩
  · rw [hv] at e1; cases e1
    exact di_tail N hm D (bk_is b t) e2 (h _ _) hs
  · rw [hv] at e1; cases e1
theorem pl_get1 {Q : Value → Shared → Prop} (N : News h₀ L s.heap news) (hm : (d, o) ∈ news) (D : Pl w d o pl) (h : ∀ v k', (match plAt pl b.toList with | some n => ∃ t, v = .int n t | none => v = .none) → Q v { s with toks := k' }) :
    wpAny (model PR w) A (call (.builtin "dict.get") [.ref d, .bytes b t]) Q E s := by
  obtain ⟨kvs, D, I⟩ := D
  refine di_get1 N hm D (bk_is b t) (h _ _ ?_)
  rcases I.find (k := b.toList) with ⟨n', t', e1, e2⟩ | ⟨e1, e2⟩ <;> rw [e1, e2]
  · exact ⟨t', rfl⟩
  · rfl
theorem pl_get2 {dflt : Value} {Q : Value → Shared → Prop} (N : News h₀ L s.heap news) (hm : (d, o) ∈ news) (D : Pl w d o pl) (h : ∀ v k', (match plAt pl b.toList with | some n => ∃ t, v = .int n t | none => v = dflt) → Q v { s with toks := k' }) :
    wpAny (model PR w) A (call (.builtin "dict.get") [.ref d, .bytes b t, dflt]) Q E s := by
  obtain ⟨kvs, D, I⟩ := D
  refine di_get2 N hm D (bk_is b t) (h _ _ ?_)
  rcases I.find (k := b.toList) with ⟨n', t', e1, e2⟩ | ⟨e1, e2⟩ <;> rw [e1, e2]
  · exact ⟨t', rfl⟩
  · rfl
theorem pl_len {Q : Value → Shared → Prop} (N : News h₀ L s.heap news) (hm : (d, o) ∈ news) (D : Pl w d o pl) (hfit : pl.length < 2 ^ 62) (h : ∀ t k', Q (.int pl.length t) { s with toks := k' }) :
    wpAny (model PR w) A (call (.builtin "len") [.ref d]) Q E s := by
  obtain ⟨kvs, D, I⟩ := D
  rw [← I.length] at hfit h
  exact di_len N hm D hfit h
theorem pl_set {n : Int} {tn : Tok} {Q : Unit → Shared → Prop} (F : Fr h₀ L s.heap m) (N : News h₀ L s.heap news) (U : UpdF d o news g) (D : Pl w d o pl) (ha : plAt pl b.toList = none) (hsz : pl.length ≤ sizeLine)
    (h : ∀ h' o' k', Fr h₀ L h' m → News h₀ L h' (g o') → Pl w d o' (pl ++ [(b.toList, n)]) → Q () { s with heap := h', toks := k' }) : wpAny (model PR w) A (setItem (.ref d) (.bytes b t) (.int n tn)) Q E s := by
  obtain ⟨kvs, D, I⟩ := D
  rcases I.find (k := b.toList) with ⟨n', t', e1, e2⟩ | ⟨e1, e2⟩
  · rw [ha] at e1; cases e1
  · refine di_set F N U D (bk_is b t) (by rw [I.length]; exact hsz) fun h' o' k' F' N' D' => h h' o' k' F' N' ⟨_, D', ?_⟩
    rw [stored_absent e2]
    exact I.snoc
end
end Mine

end
noncomputable section
open PySem PySem.W PySem.Calls PyProof.Rows
open PySem.Sem (wp)
set_option Elab.async false
set_option maxRecDepth 100000
namespace Mine
theorem IV.get : ∀ {kvs : List (List UInt8 × Value)} {pl : List (List UInt8 × Int)} {i : Nat} {k : List UInt8} {v : Value}, IV kvs pl → kvs[i]? = some (k, v) → ∃ n t, pl[i]? = some (k, n) ∧ v = .int n t
  | [], [], _, _, _, _, h => by simp at h
  | (a, u) :: r, (a', n) :: r', 0, k, v, I, h => by
    obtain ⟨rfl, ⟨t, rfl⟩, _⟩ := I
    simp only [List.getElem?_cons_zero, Option.some.injEq, Prod.mk.injEq] at h
    obtain ⟨rfl, rfl⟩ := h
    exact ⟨n, t, rfl, rfl⟩
  | (a, u) :: r, (a', n) :: r', i + 1, k, v, I, h => by
    simp only [List.getElem?_cons_succ] at h
    exact (IV.get (kvs := r) (pl := r') I.2.2 h)
  | [], _ :: _, _, _, _, I, _ => I.elim
  | _ :: _, [], _, _, _, I, _ => I.elim
theorem IV.keys : ∀ {kvs : List (List UInt8 × Value)} {pl : List (List UInt8 × Int)}, IV kvs pl → kvs.map (·.1) = pl.map (·.1)
  | [], [], _ => rfl
  | _ :: _, _ :: _, h => by simp only [List.map_cons, IV.keys h.2.2, h.1]
  | [], _ :: _, h => h.elim
  | _ :: _, [], h => h.elim
theorem plAt_mem : ∀ {pl : List (List UInt8 × Int)} {i : Nat} {k : List UInt8} {n : Int}, (pl.map (·.1)).Nodup → pl[i]? = some (k, n) → plAt pl k = some n
  | [], _, _, _, _, h => by simp at h
  | (a, x) :: r, 0, k, n, _, h => by
    simp only [List.getElem?_cons_zero, Option.some.injEq, Prod.mk.injEq] at h
    obtain ⟨rfl, rfl⟩ := h
    simp [plAt]
  | (a, x) :: r, i + 1, k, n, hn, h => by
    simp only [List.getElem?_cons_succ] at h
    rw [List.map_cons, List.nodup_cons] at hn
    have hk : a ≠ k := by
      rintro rfl
      exact hn.1 (List.mem_map.mpr ⟨_, List.mem_of_getElem? h, rfl⟩)
    have := plAt_mem hn.2 h
    simpa [plAt, hk] using this
theorem fi_list {α : Type} (es : Array α) (p : α → Bool) : es.findIdx? p = es.toList.findIdx? p := by obtain ⟨l⟩ := es; simp
section
variable {w : World} {A : Around} {E : Value → Shared → Prop} {s : Shared} {h₀ : Heap} {L d d' : Addr} {m : Str → Option Value} {news : List (Addr × Obj)} {o o' : Obj} {pl : List (List UInt8 × Int)}
theorem pl_same {id : String} {Q : Bool → Shared → Prop} (N : News h₀ L s.heap news) (hm : (d, o) ∈ news) (hm' : (d', o') ∈ news) (D : Pl w d o pl) (D' : Pl w d' o' pl) (h : Q true s) :
    wpAny (model PR w) A (PySem.Builtin.Dict.samePairs id d d') Q E s := by
  obtain ⟨kvs, ⟨lo, es, ep, hx, hd, hk, hp, hn⟩, I⟩ := D
  obtain ⟨kvs', ⟨lo', es', ep', hx', hd', hk', hp', hn'⟩, I'⟩ := D'
  have ho := (N _ hm).1
  have ho' := (N _ hm').1
  have e1 : es.size = pl.length := by have := hp.length; rw [I.length] at this; simpa using this
  have e2 : es'.size = pl.length := by have := hp'.length; rw [I'.length] at this; simpa using this
  unfold PySem.Builtin.Dict.samePairs PySem.Builtin.Dict.showsAll
  rw [lo, lo']
  refine wpAny_bind (wpAny_pure (wpAny_bind (wpAny_pure ?_)))
  refine wpAny_bind (wpAny_dictEntries ho hd (wpAny_bind (wpAny_dictEntries ho' hd' ?_)))
  rw [e1, e2]
  simp only [bne_self_eq_false, Bool.false_eq_true, if_false]
  refine wpAny_bind (wpAny_dictEpoch ho hd ?_)
  rw [Std.Legacy.Range.forIn_eq_forIn_range']
  simp only [Std.Legacy.Range.size, Nat.sub_zero, Nat.add_sub_cancel, Nat.div_one]
  refine wpAny_bind (wpAny_forIn_list _ (fun rest r s' => r = (none, ()) ∧ s' = s ∧ ∃ i, rest = List.range' i (pl.length - i) ∧ i ≤ pl.length) _ ?_ ?_ _ _ ⟨rfl, rfl, 0, by simp, Nat.zero_le _⟩)
  · rintro x rest r s' ⟨rfl, rfl, i, hr, hi⟩
    have hlt : i < pl.length := by
      rcases Nat.lt_or_ge i pl.length with h | h
      · exact h
      · rw [Nat.sub_eq_zero_of_le h] at hr; simp at hr
    obtain ⟨rfl, hrest⟩ : x = i ∧ rest = List.range' (i + 1) (pl.length - (i + 1)) := by
      have e : pl.length - i = (pl.length - (i + 1)) + 1 := by omega
      rw [e, List.range'_succ] at hr
      injection hr with h1 h2
      exact ⟨h1, h2⟩
    have hxs : x < es.size := by omega
    refine wpAny_bind (wpAny_dictEntries ho hd ?_)
    rw [Array.getElem?_eq_getElem hxs]
    obtain ⟨⟨k, v⟩, hkv⟩ : ∃ kv, kvs[x]? = some kv := ⟨kvs[x]'(by rw [I.length]; exact hlt), List.getElem?_eq_getElem _⟩
    obtain ⟨hkey, hval⟩ := hp.get? (e := es[x]) (by simp [hxs]) hkv
    obtain ⟨k', hkey', hhash⟩ := hk es[x] (Array.getElem_mem hxs)
    obtain rfl : k' = k := (bytesKind PR w).inj _ _ _ hkey' hkey
    obtain ⟨n, t, hpl, rfl⟩ := I.get hkv
    have hpa := plAt_mem (I.keys ▸ hn) hpl
    obtain ⟨t2, f2⟩ : ∃ t2, valueAt kvs' k' = some (.int n t2) := by
      rcases I'.find (k := k') with ⟨n2, t2, f1, f2⟩ | ⟨f1, _⟩
      · rw [hpa] at f1; cases f1; exact ⟨t2, f2⟩
      · rw [hpa] at f1; cases f1
    refine wpAny_bind (wpAny_holding ?_)
    rw [hhash, hval]
    refine wpAny_bind (wpAny_dictFind_of hkey ho' hd' hk' ?_)
    cases hj : es'.findIdx? fun e => (bytesKind PR w).is k' e.key with
    | none =>
      have hq := hp'.find k'
      rw [f2] at hq
      rw [fi_list, List.findIdx?_eq_none_iff] at hj
      rw [List.find?_eq_none.mpr (fun e he => by simpa using hj e he)] at hq
      cases hq
    | some j =>
      rw [fi_list] at hj
      obtain ⟨e, he, _, hev⟩ := hp'.at hj
      rw [f2] at hev
      have hev := (Option.some.inj hev).symm
      refine wpAny_bind (wpAny_dictEntries ho' hd' ?_)
      rw [← Array.getElem?_toList, he]
      dsimp only
      refine wpAny_holding ?_
      rw [hev]
      refine wpAny_eqBool_int ?_
      simp only [beq_self_eq_true, Bool.not_true, Bool.false_eq_true, if_false]
      refine wpAny_bind (wpAny_dictEpoch ho hd ?_)
      simp only [bne_self_eq_false, Bool.false_eq_true, if_false]
      exact wpAny_pure ⟨rfl, rfl, x + 1, hrest, hlt⟩
  · rintro r s' ⟨rfl, rfl, _⟩
    exact wpAny_pure h
theorem pl_ne {Q : Value → Shared → Prop} (N : News h₀ L s.heap news) (hm : (d, o) ∈ news) (hm' : (d', o') ∈ news) (D : Pl w d o pl) (D' : Pl w d' o' pl) (hu : A.units < cLine) (h : Q (.bool false) s) :
    wpAny (model PR w) A (compareOp .NotEq (.ref d) (.ref d')) Q E s := by
  obtain ⟨kvs, D1, I1⟩ := id D
  obtain ⟨kvs', D2, I2⟩ := id D'
  have T1 : s.TypeIs (.ref d) "dict" := (D1.at N hm).typeIs
  have T2 : s.TypeIs (.ref d') "dict" := (D2.at N hm').typeIs
  show wpAny _ _ (richCompare .NotEq (.ref d) (.ref d')) _ _ _
  refine wpAny_richCompare_same_room T1 T2 PySem.F.slot_dict_ne ?_ hu
  refine wpAny_call_entry PySem.F.slot_dict_ne T1 PySem.F.entry_dict_ne ?_ (PySem.F.args_dict_ne_2 _ _)
  show wpAny _ _ (do
    let (self, other) ← PySem.Builtin.Dict.dictSlotArgs "__ne__" ⟨[.ref d, .ref d'], []⟩
    if !(← isInstance other (.type "dict")) then rule s!"dict.{"__ne__"}.not-a-dict"; return ← ret .notImplemented
    ret (.bool ((← PySem.Builtin.Dict.samePairs s!"dict.{"__ne__"}" (← PySem.Builtin.Dict.addrOf self) (← PySem.Builtin.Dict.addrOf other)) == false))) _ _ _
  refine wpAny_bind (wpAny_of_eq (a := (Value.ref d, Value.ref d')) (by rfl) ?_)
  dsimp only
  refine wpAny_bind (wpAny_isInstance T2 isSubtype_dict_dict ?_)
  simp only [Bool.not_true, Bool.false_eq_true, if_false]
  refine wpAny_bind (wpAny_pure (wpAny_bind (wpAny_pure ?_)))
  refine wpAny_bind (pl_same N hm hm' D D' ?_)
  exact wpAny_pure ⟨_, rfl, nofun, h⟩
/-- a display of a dict with keys of one kind -/
theorem di_display {K : Type} [DecidableEq K] (knd : KeyKind PR w K) {env : Env} {keys : List (Option PySem.Expr)} {values : List PySem.Expr} {pos : Pos} {pairs : List (Sem Value × Sem Value)} {Q : Value → Shared → Prop}
    (F : Fr h₀ L s.heap m) (N : News h₀ L s.heap news) (hbig : h₀.NoLimit)
    (hshape : (evalEachOpt keys env).zip ((evalEach values env).map fun v => do let x ← v; standAt pos; pure x) = pairs.map fun p => (some p.1, p.2)) (h0 : pairs ≠ []) (hlen : pairs.length ≤ 15)
    (h : ∀ d h', Fr h₀ L h' m → News h₀ L h' ((d, { cls := .type "dict", data := .dict #[] }) :: news) → (∀ p ∈ news, p.1 < d) → (d == sysModules) = false →
      wpAny (model PR w) A (evalPairs pairs) (fun vs s₁ => ∃ news₁ m₁ kvs, Fr h₀ L s₁.heap m₁ ∧ News h₀ L s₁.heap ((d, { cls := .type "dict", data := .dict #[] }) :: news₁) ∧ (∀ p ∈ news₁, p.1 ≠ d) ∧ Carries knd vs kvs ∧
        ∀ h'' o' k', Fr h₀ L h'' m₁ → News h₀ L h'' ((d, o') :: news₁) → DI knd d o' (merged [] kvs) → Q (.ref d) { s₁ with heap := h'', toks := k' }) E { s with heap := h' }) :
    wpAny (model PR w) A (eval (.Dict keys values pos) env) Q E s := by
  have hlo := F.notModules (modules_low hbig)
  refine wpAny_Dict_pairs (knd := knd) hshape h0 hlen ?_
  refine wpAny_mono (h s.heap.objs.size _ (F.push _) (News.push F N _) (fun p hp => Heap.lt_size (N p hp).1) hlo) (fun vs s₁ q => ?_) fun _ _ x => x
  obtain ⟨news₁, m₁, kvs, F1, N1, hne, hC, k⟩ := q
  refine ⟨kvs, hC, Heap.dictOf_iff.mpr ⟨_, (N1 _ (.head _)).1, (di_empty knd hlo).2⟩, fun h' hd hs => ?_⟩
  obtain ⟨o', ho', hd'⟩ := Heap.dictOf_iff.mp hd
  have hm := N1 _ (.head _)
  exact k h' o' _ (F1.change hs hm.2.1 hm.2.2) (News.setIn (own := []) N1 (fun _ q => nomatch q) hne hs ho') ⟨hlo, hd'⟩
end
theorem plAt_snoc {pl : List (List UInt8 × Int)} {k : List UInt8} {n : Int} (h : plAt pl k = none) : plAt (pl ++ [(k, n)]) k = some n := by
  unfold plAt at h ⊢
  rw [List.find?_append, Option.map_eq_none_iff.mp h]
  simp
theorem plAt_in {pl : List (List UInt8 × Int)} {k : List UInt8} {n : Int} (h : plAt pl k = some n) : (k, n) ∈ pl := by
  obtain ⟨p, hp, e⟩ := Option.map_eq_some_iff.mp h
  have h1 := List.mem_of_find?_eq_some hp
  have h2 : p.1 = k := by simpa using List.find?_some hp
  subst h2 e
  exact h1
section
variable {w : World} {A : Around} {E : Value → Shared → Prop} {s : Shared} {h₀ : Heap} {L d : Addr} {m : Str → Option Value} {news : List (Addr × Obj)} {o : Obj} {pl : List (List UInt8 × Int)} {b : Array UInt8} {t : Tok}
theorem pl_tailS {value slice : PySem.Expr} {Q : Value → Shared → Prop} (N : News h₀ L s.heap news) (hm : (d, o) ∈ news) (D : Pl w d o pl) (hv : (plAt pl b.toList).isSome = true) (h : ∀ n t' k', plAt pl b.toList = some n → Q (.int n t') { s with toks := k' })
    (hs : subscripted slice false (.ref d) (.bytes b t) = operate [.ref d, .bytes b t] (getItem (.ref d) (.bytes b t)) := by with_unfolding_all rfl) :
    wpAny (model PR w) A (subscriptTail value slice (.ref d) (.bytes b t)) Q E s := by
  obtain ⟨n, hn⟩ := Option.isSome_iff_exists.mp hv
  exact pl_tail N hm D hn (fun t' k' => h n t' k' hn) hs
end
/-- the digests known: some few, each with its number -/
noncomputable def Kn (kn : List (List UInt8 × Int)) : Prop := kn.length < 200 ∧ ∀ p ∈ kn, 0 ≤ p.2 ∧ p.2 ≤ (kn.length : Int)
noncomputable def dig (kn : List (List UInt8 × Int)) (k : List UInt8) : List (List UInt8 × Int) := if (plAt kn k).isSome then kn else kn ++ [(k, (kn.length : Int) + 1)]
theorem dig_at (kn : List (List UInt8 × Int)) (k : List UInt8) : (plAt (dig kn k) k).isSome = true := by
  unfold dig
  by_cases h : (plAt kn k).isSome = true
  · rw [if_pos h]; exact h
  · rw [if_neg h]
    rw [plAt_snoc (by simpa using h)]; rfl
theorem dig_again (kn : List (List UInt8 × Int)) (k : List UInt8) : dig (dig kn k) k = dig kn k := if_pos (dig_at kn k)
theorem dig_len (kn : List (List UInt8 × Int)) (k : List UInt8) : (dig kn k).length ≤ kn.length + 1 := by
  unfold dig; split <;> simp
theorem dig_good {kn : List (List UInt8 × Int)} {k : List UInt8} (h : Kn kn) : ∀ p ∈ dig kn k, 0 ≤ p.2 ∧ p.2 ≤ ((dig kn k).length : Int) := by
  intro p hp
  unfold dig at hp ⊢
  split at hp
  · rename_i q; rw [if_pos q]; exact h.2 p hp
  · rename_i q
    rw [if_neg q, List.length_append]
    rcases List.mem_append.mp hp with hp | hp
    · have := h.2 p hp; simp only [List.length_cons, List.length_nil]; omega
    · rw [List.mem_singleton.mp hp]; simp only [List.length_cons, List.length_nil]; omega
theorem dig_num {kn : List (List UInt8 × Int)} {k : List UInt8} {n : Int} (h : Kn kn) (e : plAt (dig kn k) k = some n) : 0 ≤ n ∧ n < 256 := by
  have h1 := dig_good h _ (plAt_in e)
  have h2 := dig_len kn k
  have h3 := h.1
  dsimp only at h1
  omega
theorem plAt_snoc_some (pl : List (List UInt8 × Int)) (k : List UInt8) (n : Int) : (plAt (pl ++ [(k, n)]) k).isSome = true := by
  cases h : plAt pl k with
  | none => rw [plAt_snoc h]; rfl
  | some x =>
    unfold plAt at h ⊢
    obtain ⟨p, hp, e⟩ := Option.map_eq_some_iff.mp h
    rw [List.find?_append, hp]; rfl
theorem kn_num {kn : List (List UInt8 × Int)} {k : List UInt8} {n : Int} (h : Kn kn) (e : plAt kn k = some n) : 0 ≤ n ∧ n < 256 := by
  have h1 := h.2 _ (plAt_in e)
  have h3 := h.1
  dsimp only at h1
  omega
theorem kn_num1 {kn : List (List UInt8 × Int)} {k k' : List UInt8} {n : Int} (h : Kn kn) (e : plAt (kn ++ [(k', (kn.length : Int) + 1)]) k = some n) : 0 ≤ n ∧ n < 256 := by
  have h3 := h.1
  rcases List.mem_append.mp (plAt_in e) with q | q
  · have h1 := h.2 _ q
    dsimp only at h1
    omega
  · have := congrArg Prod.snd (List.mem_singleton.mp q)
    dsimp only at this
    omega
theorem dig_old {kn : List (List UInt8 × Int)} {k : List UInt8} (h : (plAt kn k).isSome = true) : dig kn k = kn := if_pos h
theorem dig_new {kn : List (List UInt8 × Int)} {k : List UInt8} (h : (plAt kn k).isSome = false) : dig kn k = kn ++ [(k, (kn.length : Int) + 1)] := if_neg (by rw [h]; exact Bool.false_ne_true)
end Mine

end
noncomputable section
open PySem PySem.W PySem.Calls PyProof.Rows
set_option Elab.async false
set_option maxRecDepth 100000
namespace Mine
section
variable {prog : Program} {w : World} {A₀ A : Around} {s : Shared} {base h₀ : Heap} {outer : List Env} {L : Addr} {m : Str → Option Value} {env : Env} {as : List (Addr × Obj)} {K : Frag} {p : Program} {loose : List Str} {mean : ExcName → Option Value} {mg mb : Str → Option Value}
  {R : Result → Shared → Prop} {name qual : Str} {params : Arguments} {body : List Stmt} {scope : Scope} {dV kV doc pm cdv ct oc : Value} {an od : Option Addr} {osl : Array (Option Value)} {f : Addr} {args : Args} {binds : List (Str × Value)}
theorem enterC (B : Below A₀ base outer h₀) (F : Fr h₀ L s.heap m) (X₀ : K.In h₀) (N : News h₀ L s.heap as) (T : Top p loose mean mg mb h₀) (hA : A.frames = some (env :: outer)) (hf : env.frame = some L) (hke : env.scope.kind = .function)
    (ho : K.lookup f = some ⟨oc, od, .func (fnOf name qual params body scope dV kV doc pm an cdv ct), osl⟩) (hcd : codeIn K cdv qual = true) (hroom : A.depth < recursionLimit)
    (hbind : BindsTo s (fnOf name qual params body scope dV kV doc pm an cdv ct) args binds) (hkind : (binds.all fun y => scope.names.lookup y.1 == some .local || scope.names.lookup y.1 == some .cell) = true)
    (hnd : ((cellsFrom 0 scope.names []).map (·.1)).Nodup)
    (h : ∀ g L' h₁ tk cells, Agree as s.heap g → Fr h₀ L g m → Fr g L' h₁ (bindL (envOfC qual scope L' f cdv).kindOf binds fun _ => none) → News g L' h₁ (cells ++ as) →
      CellsAre (bindC (envOfC qual scope L' f cdv).kindOf binds fun _ => none) (cellsFrom (L' + 1) scope.names []) cells → Below A base (env :: outer) g → K.In g → Top p loose mean mg mb g → (∀ p ∈ as, p.1 < L') →
      wpAny (model prog w) (A.deeper (envOfC qual scope L' f cdv)) (execs body (envOfC qual scope L' f cdv))
        (fun fl s' => LeaveK h₀ L m g R (match fl with | .ret v => v | _ => .none) s')
        (fun e s' => wpAny (model prog w) (A.deeper (envOfC qual scope L' f cdv)) («leaving» (envOfC qual scope L' f cdv) e) (fun _ s'' => R (.error e) s'') (fun e' s'' => R (.error e') s'') s')
        { s with heap := h₁, toks := tk })
    (hco : scope.isCoroutine = false) (hgen : scope.isGenerator = false) (hk : scope.kind = .function) : codeAny (model prog w) A (.call (.ref f) args) R s := by
  obtain ⟨FG, BG, st, lv⟩ := groundX (R := R) B F N hA hf hke
  refine codeAny_call_function (body := body) hroom ((X₀.keeps F.keep) _ _ ho) (fd := fnX name qual params body scope [] dV kV doc pm an cdv ct) rfl hco hgen rfl (codeRec_of (X₀.keeps F.keep) hcd) (hbind _ _ _ _ ?_)
  refine wpAny_newFunctionEnv_cells hk (kindsX hkind _) fun env' he s' x => ?_
  subst he
  refine ⟨(T.nolimit.keeps F.keep).keeps x.toInCall.keep, codeAny_func ?_⟩
  obtain ⟨h₁, tk, rfl, _⟩ := x.done
  have hk₁ := x.toInCall.keep
  obtain ⟨cells, NC, Y⟩ := Cl.news (h₀ := s.heap) (Nat.le_refl _) fun n c hm => ⟨x.cell n c (lookup_of_mem_nodup (cellsFrom_names scope.names 0 (s.heap.objs.size + 1) [] [] rfl ▸ hnd) hm), x.above n c hm⟩
  refine wpAny_mono (h _ s.heap.objs.size h₁ tk cells (fun b o e q => hideAll_get _ e q) FG ⟨x.toInCall.ns, fun b o e => hk₁ b o (of_hideAll _ e), Nat.le_of_eq (hideAll_size _ _)⟩ (fun p hp => ?_) Y BG (X₀.keeps st) (T.keeps st) (fun p hp => Heap.lt_size (N p hp).1)) (fun fl s' hl => lv _ _ hl) fun _ _ y => y
  rcases List.mem_append.mp hp with hp | hp
  · refine ⟨(NC p hp).1, (NC p hp).2.1, ?_⟩
    cases q : (hideAll s.heap (as.map (·.1))).get? p.1 with
    | none => rfl
    | some o => have := of_hideAll _ q; rw [(NC p hp).2.2] at this; cases this
  · exact ⟨hk₁ _ _ (N p hp).1, Nat.ne_of_lt (Heap.lt_size (N p hp).1), hideAll_none _ (List.mem_map_of_mem hp)⟩
end
end Mine

end
noncomputable section
open PySem PySem.W PySem.Calls PyProof.Rows
open PySem.Sem (wp)
set_option Elab.async false
set_option maxRecDepth 100000
namespace Mine
theorem look_bytes_bytes : typeLookup (.type "bytes") "__bytes__" = pure (some (.builtin "bytes.__bytes__")) := by rw [typeLookup_type, builtinLookup_eq_fast]; kernel_rfl
section
variable {prog : Program} {w : World} {A : Around} {E : Value → Shared → Prop} {s : Shared}
theorem new_of_bytes {b : Array UInt8} {t : Tok} {Q : Value → Shared → Prop} (h : Q (.bytes b t) s) :
    codeAny (model prog w) A (.call (.builtin "bytes.__new__") ⟨[.type "bytes", .bytes b t], []⟩) (wants Q E) s := by
  refine codeAny_of_tree ?_
  show wpAny _ A.in1 (do checkBuiltinCall "bytes.__new__" ⟨[.type "bytes", .bytes b t], []⟩; again (.builtin "bytes.__new__" ⟨[.type "bytes", .bytes b t], []⟩)) _ _ s
  refine wpAny_bind (wpAny_of_eq (F.bm_newCall _) (wpAny_pure ⟨plainId_quiet F.bm_plain _, codeAny_builtin F.bm_entry ?_⟩))
  rw [Around.under_plainId F.bm_plain _]
  unfold Builtin.«bytes.__new__»
  refine wpAny_bind (wpAny_of_eq (a := true) rfl ?_)
  refine bm_if_false rfl ?_
  refine wpAny_bind (wpAny_of_eq F.bm_sub ?_)
  refine bm_if_false rfl ?_
  refine wpAny_bind (wpAny_of_eq (F.bm_bind _) ?_)
  refine wpAny_bind (wpAny_of_eq (a := ()) rfl ?_)
  refine wpAny_bind (wpAny_of_eq (a := ()) rfl ?_)
  refine bm_if_false rfl ?_
  refine wpAny_bind (wpAny_specialOf (typeIs_bytes _ _ _) look_bytes_bytes ?_)
  dsimp only
  refine wpAny_bind (wpAny_rule ?_)
  refine wpAny_bind (wpAny_of_eq (a := Value.type "bytes") rfl ?_)
  refine bm_if_true rfl ?_
  exact wpAny_pure h
theorem call_bytes_bytes {b : Array UInt8} {t : Tok} {Q : Value → Shared → Prop} (h : Q (.bytes b t) s) : wpAny (model prog w) A (call (.type "bytes") [.bytes b t]) Q E s := by
  refine callType_codes (Q₁ := fun obj s₁ => s₁.TypeIs obj "bytes" ∧ Q obj s₁) F.bm_called (F.bm_typeCall _) F.entry_object_init (new_of_bytes ⟨typeIs_bytes _ _ _, h⟩) fun obj s₁ h₁ => ?_
  exact ⟨h₁.1, F.args_object_init_2 obj _, object_init_meets F.bm_called.init.lookup F.bm_called.made (by decide) prog w A.in1 _ s₁ ⟨h₁.1, rfl, h₁.2⟩⟩
theorem ba_ownBuffer {M : Model} {a : Addr} {b : Array UInt8} {Q : Bool → Shared → Prop} (ho : s.heap.get? a = some (baObj b)) (h : Q true s) : wpAny M A (Builtin.Bytes.slotIsOwn (.ref a) "__buffer__") Q E s := by
  have key : ∀ x : String, x = "bytearray" → ∀ {Q : Bool → Shared → Prop}, Q true s → wpAny M A (isInstance (.ref a) (.type x)) Q E s := fun x hx Q hq => by
    subst hx; exact wpAny_isInstance (ba_typeIs ho) BA.sub_self hq
  unfold Builtin.Bytes.slotIsOwn
  refine wpAny_bind (wpAny_specialOf (ba_typeIs ho) BA.look_buffer ?_)
  dsimp only
  split
  · rename_i hx; exact absurd hx (by decide +kernel)
  · exact key _ (by decide +kernel) h
theorem new_of_ba {a : Addr} {b : Array UInt8} {Q : Value → Shared → Prop} (ho : s.heap.get? a = some (baObj b)) (hz : b.size ≤ sizeLine) (h : Q (.bytes b s.toks) { s with toks := s.toks + 1 }) :
    codeAny (model prog w) A (.call (.builtin "bytes.__new__") ⟨[.type "bytes", .ref a], []⟩) (wants Q E) s := by
  refine codeAny_of_tree ?_
  show wpAny _ A.in1 (do checkBuiltinCall "bytes.__new__" ⟨[.type "bytes", .ref a], []⟩; again (.builtin "bytes.__new__" ⟨[.type "bytes", .ref a], []⟩)) _ _ s
  refine wpAny_bind (wpAny_of_eq (F.bm_newCall _) (wpAny_pure ⟨plainId_quiet F.bm_plain _, codeAny_builtin F.bm_entry ?_⟩))
  rw [Around.under_plainId F.bm_plain _]
  have hT : s.TypeIs (.ref a) "bytearray" := ba_typeIs ho
  unfold Builtin.«bytes.__new__»
  refine wpAny_bind (wpAny_of_eq (a := true) rfl ?_)
  refine bm_if_false rfl ?_
  refine wpAny_bind (wpAny_of_eq F.bm_sub ?_)
  refine bm_if_false rfl ?_
  refine wpAny_bind (wpAny_of_eq (F.bm_bind _) ?_)
  refine wpAny_bind (wpAny_of_eq (a := ()) rfl ?_)
  refine wpAny_bind (wpAny_of_eq (a := ()) rfl ?_)
  refine bm_if_false rfl ?_
  refine wpAny_bind (wpAny_specialOf hT BA.look_bytes ?_)
  refine wpAny_bind (wpAny_bind ?_)
  show wpAny _ _ (load a >>= _) _ _ _
  refine wpAny_bind (wpAny_load ho ?_)
  refine wpAny_pure (wpAny_pure ?_)
  refine bm_if_false rfl ?_
  refine wpAny_bind (wpAny_specialOf hT BA.look_index ?_)
  refine bm_if_true rfl ?_
  first
    | show wpAny _ _ (Builtin.Bytes.buffer? "bytes.__new__" (.ref a) true >>= _) _ _ _
    | (refine wpAny_bind ?_; show wpAny _ _ (Builtin.Bytes.buffer? "bytes.__new__" (.ref a) true >>= _) _ _ _)
  refine wpAny_bind ?_
  unfold Builtin.Bytes.buffer?
  refine wpAny_bind (wpAny_specialOf hT BA.look_buffer ?_)
  refine wpAny_bind (ba_ownBuffer ho ?_)
  refine bm_if_false rfl ?_
  refine wpAny_bind (wpAny_specialOf hT BA.look_buffer ?_)
  dsimp only
  refine wpAny_bind (ba_release ho ?_)
  refine bm_if_false rfl ?_
  refine wpAny_bind (wpAny_bind ?_)
  show wpAny _ _ (load a >>= _) _ _ _
  refine wpAny_bind (wpAny_load ho ?_)
  refine wpAny_pure (wpAny_pure (wpAny_pure ?_))
  refine wpAny_bind (wpAny_rule ?_)
  refine wpAny_bind ?_
  unfold mkBytes
  rw [if_neg (Nat.not_lt.mpr hz)]
  refine wpAny_bind (wpAny_fresh ?_)
  refine wpAny_pure ?_
  refine bm_if_true rfl ?_
  exact wpAny_pure h
theorem call_bytes_ba {a : Addr} {b : Array UInt8} {Q : Value → Shared → Prop} (ho : s.heap.get? a = some (baObj b)) (hz : b.size ≤ sizeLine) (h : Q (.bytes b s.toks) { s with toks := s.toks + 1 }) : wpAny (model prog w) A (call (.type "bytes") [.ref a]) Q E s := by
  refine callType_codes (Q₁ := fun obj s₁ => s₁.TypeIs obj "bytes" ∧ Q obj s₁) F.bm_called (F.bm_typeCall _) F.entry_object_init (new_of_ba ho hz ⟨typeIs_bytes _ _ _, h⟩) fun obj s₁ h₁ => ?_
  exact ⟨h₁.1, F.args_object_init_2 obj _, object_init_meets F.bm_called.init.lookup F.bm_called.made (by decide) prog w A.in1 _ s₁ ⟨h₁.1, rfl, h₁.2⟩⟩
end
end Mine

end
noncomputable section
open PySem PySem.W PySem.Calls PyProof.Rows
open PySem.Sem (wp)
set_option Elab.async false
set_option maxRecDepth 100000
namespace Mine
theorem wpAny_ifn {M : Model} {A : Around} {α : Type} {c : Prop} [Decidable c] {a b : Sem α} {Q : α → Shared → Prop} {E : Value → Shared → Prop} {s : Shared} (hc : ¬ c) (h : wpAny M A b Q E s) : wpAny M A (if c then a else b) Q E s := by
  rw [if_neg hc]; exact h
namespace BJ
theorem slot_join : Slot "bytes" "join" "bytes.join" :=
  .of (owner := "bytes") (n := "join") (by rw [typeLookup_type, builtinLookup_eq_fast]; kernel_rfl) (by decide +kernel) (by decide +kernel) (by decide +kernel)
    (by first | exact .inl (by decide +kernel) | exact .inr (by decide +kernel)) (by rw [isSubtype_type]; kernel_rfl)
theorem entry_join : entryFor table "bytes.join" = some Builtin.«bytes.join» := entryFor_of_tree (by kernel_rfl)
theorem owner : Manifest.owners.lookup (String.ofList ['s', 'e', 't', 'y', 'b'].reverse) = some Manifest.sig_bytes := by kernel_rfl
theorem args_join (a b : Value) : argsOk "bytes.join" ⟨[a, b], []⟩ := by
  unfold argsOk; rw [signature?_of (id := "bytes.join") (n := ['n', 'i', 'o', 'j']) (o := ['s', 'e', 't', 'y', 'b']) (by kernel_rfl) owner]; kernel_rfl
theorem type_join : typeOf (.builtin "bytes.join") = pure (.type "method_descriptor") := by show builtinType _ = _; rw [builtinType_eq_fast]; kernel_rfl
theorem look_buffer : typeLookup (.type "bytes") "__buffer__" = pure (some (.builtin "bytes.__buffer__")) := by rw [typeLookup_type, builtinLookup_eq_fast]; kernel_rfl
theorem look_release : typeLookup (.type "bytes") "__release_buffer__" = pure none := by rw [typeLookup_type, builtinLookup_eq_fast]; kernel_rfl
theorem plainAttrs : PlainAttrs "bytes" :=
  ⟨⟨"bytes.__getattribute__", by rw [typeLookup_type, builtinLookup_eq_fast]; kernel_rfl, by decide +kernel⟩, by rw [typeLookup_type, builtinLookup_eq_fast]; kernel_rfl⟩
theorem method {M : Model} {A : Around} {E : Value → Shared → Prop} {s : Shared} {b : Array UInt8} {t : Tok} {pl : Sem Bool} {Q : Value × List Value → Shared → Prop} (h : Q (.builtin "bytes.join", [.bytes b t]) s) :
    wpAny M A (getMethod (.bytes b t) "join" pl) Q E s := getMethod_builtin (typeIs_bytes _ _ _) plainAttrs slot_join type_join (fun _ e => nomatch e) h
end BJ
noncomputable def cat (ps : List (Array UInt8)) : Array UInt8 := ps.foldl (· ++ ·) #[]
theorem cat_snoc (ps : List (Array UInt8)) (p : Array UInt8) : cat (ps ++ [p]) = cat ps ++ p := by unfold cat; rw [List.foldl_append]; rfl
theorem joined_nil (ps : List (Array UInt8)) : Builtin.Bytes.joined #[] ps = cat ps := by
  have key : ∀ (l : List (Array UInt8)) (n : Nat) (acc : Array UInt8), (l.zipIdx n).foldl (fun out (x : Array UInt8 × Nat) => (if x.2 > 0 then out ++ #[] else out) ++ x.1) acc = l.foldl (· ++ ·) acc := by
    intro l
    induction l with
    | nil => intro n acc; rfl
    | cons a r ih =>
      intro n acc
      rw [List.zipIdx_cons, List.foldl_cons, List.foldl_cons, ih]
      congr 1
      split <;> simp
  exact key ps 0 #[]
theorem cat_size (ps : List (Array UInt8)) : ps.foldl (fun n p => n + p.size) 0 = (cat ps).size := by
  have key : ∀ (l : List (Array UInt8)) (acc : Array UInt8), l.foldl (fun n p => n + p.size) acc.size = (l.foldl (· ++ ·) acc).size := by
    intro l
    induction l with
    | nil => intro acc; rfl
    | cons a r ih => intro acc; rw [List.foldl_cons, List.foldl_cons, ← ih, Array.size_append]
  exact key ps #[]
/-- the values are these octets, their tokens are not known -/
noncomputable def BV : List Value → List (Array UInt8) → Prop
  | [], [] => True
  | v :: r, b :: r' => (∃ t, v = .bytes b t) ∧ BV r r'
  | _, _ => False
theorem BV.length : ∀ {vs : List Value} {ps : List (Array UInt8)}, BV vs ps → vs.length = ps.length
  | [], [], _ => rfl
  | _ :: _, _ :: _, h => by simp only [List.length_cons, BV.length h.2]
  | [], _ :: _, h => h.elim
  | _ :: _, [], h => h.elim
theorem BV.snoc {b : Array UInt8} {t : Tok} : ∀ {vs : List Value} {ps : List (Array UInt8)}, BV vs ps → BV (vs ++ [.bytes b t]) (ps ++ [b])
  | [], [], _ => ⟨⟨t, rfl⟩, trivial⟩
  | _ :: _, _ :: _, h => ⟨h.1, BV.snoc h.2⟩
  | [], _ :: _, h => h.elim
  | _ :: _, [], h => h.elim
theorem BV.get : ∀ {vs : List Value} {ps : List (Array UInt8)} {i : Nat} (h : i < ps.length), BV vs ps → ∃ t, vs[i]? = some (.bytes ps[i] t)
  | [], [], _, h, _ => absurd h (Nat.not_lt_zero _)
  | v :: r, b :: r', 0, _, I => by obtain ⟨⟨t, rfl⟩, _⟩ := I; exact ⟨t, rfl⟩
  | v :: r, b :: r', i + 1, h, I => by
    obtain ⟨t, ht⟩ := BV.get (i := i) (by simpa using h) I.2
    exact ⟨t, by simpa using ht⟩
  | [], _ :: _, _, _, I => I.elim
  | _ :: _, [], _, _, I => I.elim
section
variable {prog : Program} {w : World} {A : Around} {E : Value → Shared → Prop} {s : Shared}
theorem bytes_own {M : Model} {b : Array UInt8} {t : Tok} {Q : Bool → Shared → Prop} (h : Q true s) : wpAny M A (Builtin.Bytes.slotIsOwn (.bytes b t) "__buffer__") Q E s := by
  have key : ∀ x : String, x = "bytes" → ∀ {Q : Bool → Shared → Prop}, Q true s → wpAny M A (isInstance (.bytes b t) (.type x)) Q E s := fun x hx Q hq => by
    subst hx; exact wpAny_isInstance (typeIs_bytes _ _ _) F.bm_sub hq
  unfold Builtin.Bytes.slotIsOwn
  refine wpAny_bind (wpAny_specialOf (typeIs_bytes _ _ _) BJ.look_buffer ?_)
  dsimp only
  split
  · rename_i hx; exact absurd hx (by decide +kernel)
  · exact key _ (by decide +kernel) h
theorem bytes_norel {M : Model} {b : Array UInt8} {t : Tok} {Q : Bool → Shared → Prop} (h : Q false s) : wpAny M A (Builtin.Bytes.ownRelease (.bytes b t)) Q E s := by
  unfold Builtin.Bytes.ownRelease Builtin.Bytes.slotIsOwn
  exact wpAny_bind (wpAny_bind (wpAny_specialOf (typeIs_bytes _ _ _) BJ.look_release (wpAny_pure (wpAny_pure h))))
theorem take_bytes {M : Model} {id : String} {b : Array UInt8} {t : Tok} {Q : Option (Array UInt8 × Option Value) → Shared → Prop} (h : Q (some (b, none)) s) : wpAny M A (Builtin.Bytes.takeBufferQuiet? id (.bytes b t) 0) Q E s := by
  unfold Builtin.Bytes.takeBufferQuiet?
  refine wpAny_bind (wpAny_attempt ?_)
  unfold Builtin.Bytes.takeBuffer?
  refine wpAny_bind (wpAny_specialOf (typeIs_bytes _ _ _) BJ.look_buffer ?_)
  refine wpAny_bind (bytes_own ?_)
  refine bm_if_false rfl ?_
  refine wpAny_bind (wpAny_specialOf (typeIs_bytes _ _ _) BJ.look_buffer ?_)
  dsimp only
  refine wpAny_bind ?_
  unfold Builtin.Bytes.buffer?
  refine wpAny_bind (wpAny_specialOf (typeIs_bytes _ _ _) BJ.look_buffer ?_)
  refine wpAny_bind (bytes_own ?_)
  refine bm_if_false rfl ?_
  refine wpAny_bind (wpAny_specialOf (typeIs_bytes _ _ _) BJ.look_buffer ?_)
  dsimp only
  refine wpAny_bind (bytes_norel ?_)
  refine bm_if_false rfl ?_
  exact wpAny_bind (wpAny_pure (wpAny_pure (wpAny_pure (wpAny_pure h))))
theorem join_letGo {M : Model} : ∀ (taken : List (Value × Option Value)) (keep : List Value) {Q : Unit → Shared → Prop}, (∀ x ∈ taken, x.2 = none) → Q () s → wpAny M A (Builtin.Bytes.joinLetGo taken keep) Q E s
  | [], keep, Q, _, h => by rw [Builtin.Bytes.joinLetGo]; exact wpAny_pure h
  | (x, u) :: r, keep, Q, hn, h => by
    obtain rfl : u = none := hn (x, u) List.mem_cons_self
    simp only [Builtin.Bytes.joinLetGo]
    exact wpAny_bind (wpAny_letGo (join_letGo r keep (fun y hy => hn y (List.mem_cons_of_mem _ hy)) h))
theorem call_join {l : Addr} {vs : List Value} {ps : List (Array UInt8)} {n : Nat} {t : Tok} {Q : Value → Shared → Prop} (ho : s.heap.get? l = some { cls := .type "list", data := .seq vs.toArray n }) (hv : BV vs ps)
    (hz : (cat ps).size ≤ sizeLine) (h : ∀ t' k', Q (.bytes (cat ps) t') { s with toks := k' }) : wpAny (model prog w) A (call (.builtin "bytes.join") [.bytes #[] t, .ref l]) Q E s := by
  have hT : s.TypeIs (.ref l) "list" := ⟨_, ho, rfl⟩
  refine wpAny_call_entry BJ.slot_join (typeIs_bytes _ _ _) BJ.entry_join ?_ (BJ.args_join _ _)
  refine wpAny_bind (wpAny_of_eq (a := (Value.bytes #[] t, Value.ref l)) rfl ?_)
  refine wpAny_bind ?_
  show wpAny _ _ (Builtin.Bytes.joinItems (.ref l)) _ _ _
  unfold Builtin.Bytes.joinItems
  refine wpAny_bind (wpAny_typeOf hT ?_)
  show wpAny _ _ (pure (Value.ref l)) _ _ _
  refine wpAny_pure ?_
  have seq : ∀ {Q : Option (Array Value) → Shared → Prop} {E : Value → Shared → Prop}, Q (some vs.toArray) s → wpAny (model prog w) A.in1 (seqItems? (.ref l)) Q E s := fun h => wpAny_bind (wpAny_load ho (wpAny_pure h))
  refine wpAny_bind (seq ?_)
  by_cases h1 : ∃ v, vs = [v]
  · obtain ⟨v, rfl⟩ := h1
    match ps, hv with
    | [b], hv =>
      obtain ⟨⟨u, rfl⟩, _⟩ := hv
      show wpAny _ _ (typeOf (Value.bytes b u) >>= _) _ _ _
      refine wpAny_bind (wpAny_typeOf (typeIs_bytes _ _ _) ?_)
      show wpAny _ _ (rule "bytes.join.one-item" >>= _) _ _ _
      refine wpAny_bind (wpAny_rule (wpAny_pure ⟨_, rfl, ?_⟩))
      have := h u s.toks
      rw [show cat [b] = b by simp [cat]] at this
      exact this
    | [], hv => exact hv.elim
    | _ :: _ :: _, hv => exact hv.2.elim
  · have e : ∀ {β : Type} (a : Value → β) (b : β), (match vs.toArray with | #[x] => a x | _ => b) = b := fun a b => by
      match vs, h1 with
      | [], _ => rfl
      | [v], h1 => exact absurd ⟨v, rfl⟩ h1
      | _ :: _ :: _, _ => rfl
    show wpAny _ _ (match vs.toArray with | #[x] => _ | _ => _) _ _ _
    rw [e]
    refine wpAny_bind ?_
    rw [Std.Legacy.Range.forIn_eq_forIn_range']
    have hsz : vs.toArray.size = ps.length := by simpa using hv.length
    simp only [Std.Legacy.Range.size, Nat.sub_zero, Nat.add_sub_cancel, Nat.div_one]
    refine wpAny_forIn_list _ (fun (rest : List Nat) (r : Array (Array UInt8) × List (Value × Option Value)) (s' : Shared) => s' = s ∧ (∀ x ∈ r.2, x.2 = none ∧ x.1.onHeap = false) ∧ ∃ i, rest = List.range' i (ps.length - i) ∧ i ≤ ps.length ∧ r.1 = (ps.take i).toArray) _ ?_ ?_ _ _ ⟨rfl, fun _ q => absurd q List.not_mem_nil, 0, by rw [hsz]; rfl, Nat.zero_le _, rfl⟩
    · rintro x rest ⟨parts, taken⟩ s' ⟨rfl, htk, i, hr, hi, hp⟩
      dsimp only at htk hp
      have hlt : i < ps.length := by
        rcases Nat.lt_or_ge i ps.length with h | h
        · exact h
        · rw [Nat.sub_eq_zero_of_le h] at hr; simp at hr
      obtain ⟨rfl, hrest⟩ : x = i ∧ rest = List.range' (i + 1) (ps.length - (i + 1)) := by
        have e : ps.length - i = (ps.length - (i + 1)) + 1 := by omega
        rw [e, List.range'_succ] at hr
        injection hr with h1 h2
        exact ⟨h1, h2⟩
      obtain ⟨tx, hx⟩ := hv.get hlt
      have hx' : vs.toArray.getD x .none = .bytes ps[x] tx := by
        simp only [Array.getD_eq_getD_getElem?, List.getElem?_toArray, hx, Option.getD_some]
      have ha : (taken.any fun x => x.1.onHeap) = false := List.any_eq_false.mpr fun y hy => by rw [(htk y hy).2]; exact Bool.false_ne_true
      refine wpAny_bind (seq ?_)
      show wpAny _ _ (if (_ || _) = true then _ else _) _ _ _
      refine wpAny_ifn (by rw [ha]; exact Bool.false_ne_true) ?_
      rw [hx']
      refine wpAny_bind (wpAny_holding (take_bytes ?_))
      show wpAny _ _ (seqItems? _ >>= _) _ _ _
      refine wpAny_bind (seq ?_)
      show wpAny _ _ (if (_ != _) = true then _ else _) _ _ _
      refine wpAny_ifn (by simp) ?_
      refine wpAny_pure ⟨rfl, fun y hy => ?_, x + 1, hrest, hlt, ?_⟩
      · rcases List.mem_append.mp hy with hy | hy
        · exact htk y hy
        · rw [List.mem_singleton.mp hy]; exact ⟨rfl, rfl⟩
      · show parts.push _ = _
        rw [hp, List.push_toArray, List.take_succ_eq_append_getElem hlt]
    · rintro ⟨parts, taken⟩ s' ⟨rfl, htk, i, hr, hi, hp⟩
      dsimp only at htk hp
      obtain rfl : i = ps.length := by
        rcases Nat.lt_or_ge i ps.length with h | h
        · have e : ps.length - i = (ps.length - (i + 1)) + 1 := by omega
          rw [e, List.range'_succ] at hr; exact nomatch hr
        · exact Nat.le_antisymm hi h
      rw [List.take_length] at hp
      subst hp
      refine wpAny_bind (wpAny_pure ?_)
      dsimp only
      have hs : Array.foldl (fun (x1 : Nat) (x2 : Array UInt8) => x1 + x2.size) ((#[] : Array UInt8).size * (ps.toArray.size - 1)) ps.toArray = (cat ps).size := by
        rw [← cat_size, show (#[] : Array UInt8).size * (ps.toArray.size - 1) = 0 by simp, List.foldl_toArray]
      refine wpAny_ifn (by rw [hs]; unfold Builtin.Bytes.tooLong; rw [decide_eq_true_eq]; exact Nat.not_lt.mpr hz) ?_
      rw [show Builtin.Bytes.joined #[] ps.toArray.toList = cat ps from joined_nil ps]
      refine wpAny_bind ?_
      show wpAny _ _ (mkBytes (cat ps)) _ _ _
      unfold mkBytes
      refine wpAny_ifn (Nat.not_lt.mpr hz) ?_
      refine wpAny_bind (wpAny_fresh ?_)
      refine wpAny_pure ?_
      refine wpAny_bind (wpAny_holding (wpAny_point ?_))
      refine wpAny_bind (join_letGo _ _ (fun y hy => (htk y hy).1) ?_)
      exact wpAny_pure ⟨_, rfl, h _ _⟩
end
section
variable {w : World} {A : Around} {E : Value → Shared → Prop} {s : Shared} {h₀ : Heap} {L l : Addr} {news : List (Addr × Obj)} {vs : List Value} {n : Nat}
theorem len_seq {Q : Value → Shared → Prop} (N : News h₀ L s.heap news) (hm : (l, ({ cls := .type "list", data := .seq vs.toArray n } : Obj)) ∈ news) (hz : vs.length < 2 ^ 62) (h : ∀ t k', Q (.int vs.length t) { s with toks := k' }) :
    wpAny (model PR w) A (call (.builtin "len") [.ref l]) Q E s := by
  have hl : s.heap.IsList l vs.toArray := ⟨_, (N _ hm).1, rfl, n, rfl⟩
  refine call_len_list hl (by simp only [List.size_toArray]; omega) ?_
  simp only [List.size_toArray]
  exact h _ _
end
end Mine

end
noncomputable section
open PySem PySem.W PySem.Calls PyProof.Rows
open PySem.Sem (wp)
set_option Elab.async false
set_option maxRecDepth 100000
namespace Mine
section
variable {M : Model} {A : Around} {E : Value → Shared → Prop} {s : Shared} {Q : Value → Shared → Prop} {f : Value} {first : List Value} {pos : Pos}
/-- a call: its arguments are walked for every context, the call itself for the clean ones -/
theorem wpC_callWith {P : Heap → Prop} {args : List (Bool × Sem Value)} {keywords : List (Option Str × Sem Value)} (hplain : (args.any (·.1) || keywords.any (·.1.isNone)) = false)
    (hk : ∀ h, P h → ∃ k, (k = Keeper.frame ∨ k = Keeper.machine ∨ k = Keeper.boundFrame) ∧ Looks M h (keeperOf f) k)
    (h : wpAny M A (evalArgs f true args keywords) (fun a s₁ => P s₁.heap ∧ wpC M A (call f (first ++ a.pos) a.kw) Q E s₁) E s) : wpC M A (callWith pos f first args keywords) Q E s := by
  unfold callWith
  refine wpC_bindA (wpAny_holding (wpAny_mono h (fun a s₁ h₁ => ?_) fun _ _ x => x))
  refine wpC_bindA (wpAny_standAt ?_)
  obtain ⟨k, hk', L⟩ := hk _ h₁.1
  simp only [hplain]
  refine wpC_bindA (L.here ?_)
  have tail : ∀ {t : Sem Value}, wpC M A t Q E s₁ → wpC M A (t >>= fun r => holding [r] point >>= fun _ => pure r) Q E s₁ :=
    fun ht => wpC_bind (wpC_mono ht (fun r s₂ hr => wpC_bindA (wpAny_holding (wpAny_point (wpC_pure hr)))) fun _ _ x => x)
  have marked (mk : Value) : wpC M A (callMarked mk f (first ++ a.pos) a.kw) Q E s₁ := by unfold callMarked; exact wpC_keep h₁.2
  rcases hk' with rfl | rfl | rfl <;> dsimp only <;> first | exact tail h₁.2 | (split <;> first | exact tail h₁.2 | exact tail (marked _))
end
section
variable {M : Model} {A : Around} {E : Value → Shared → Prop} {s : Shared} {Q : Flow → Shared → Prop} {env : Env}
theorem wpC_execs_nil (h : Q .next s) : wpC M A (execs [] env) Q E s := wpC_any (wpAny_execs_nil h)
theorem wpC_execs_cons {st : Stmt} {rest : List Stmt} (h : wpC M A (exec st env) (fun fl s' => match fl with | .next => wpC M A (execs rest env) Q E s' | fl => Q fl s') E s) : wpC M A (execs (st :: rest) env) Q E s := fun Γ p hΓ hC => by
  have h' := h Γ p hΓ hC
  rw [execs]
  rw [Sem.wp_bind']
  refine Sem.wp_mono M Γ _ (fun fl p' s' q => ?_) (fun _ _ _ x => x) p s h'
  cases fl with
  | next => exact q Γ p' hΓ hC
  | _ => exact q
/-- the first statement is walked for every context -/
theorem wpC_execs_consA {st : Stmt} {rest : List Stmt} (h : wpAny M A (exec st env) (fun fl s' => match fl with | .next => wpC M A (execs rest env) Q E s' | fl => Q fl s') E s) : wpC M A (execs (st :: rest) env) Q E s := wpC_execs_cons (wpC_any h)
end
section
variable {M : Model} {A : Around} {E : Value → Shared → Prop} {s : Shared} {env : Env}
theorem wpC_methodCall {o : PySem.Expr} {name : Str} {apos pos : Pos} {args : List PySem.Expr} {kws : List Keyword} {pl : Sem Bool} {Q : Value → Shared → Prop}
    (h : wpAny M A (eval o env) (fun ov s₁ => wpAny M A (getMethod ov name pl) (fun fx s₂ => wpC M A (callWith pos fx.1 fx.2 (backTo pos (starEach args env)) (backToKw pos (keywordEach kws env))) Q E s₂) E s₁) E s)
    (he : eval (.Call (.Attribute o name apos) args kws pos) env = (do
      let ov ← eval o env
      standAt apos.atName
      let (f, first) ← holding [ov] (getMethod ov name pl)
      callWith pos f first (backTo pos (starEach args env)) (backToKw pos (keywordEach kws env))) := by rfl) :
    wpC M A (eval (.Call (.Attribute o name apos) args kws pos) env) Q E s := by
  rw [he]
  refine wpC_bindA (wpAny_mono h (fun ov s₁ h₁ => ?_) fun _ _ x => x)
  refine wpC_bindA (wpAny_standAt ?_)
  exact wpC_bindA (wpAny_holding (wpAny_mono h₁ (fun fx s₂ h₂ => h₂) fun _ _ x => x))
theorem wpC_Call {func : PySem.Expr} {args : List PySem.Expr} {kws : List Keyword} {pos : Pos} {Q : Value → Shared → Prop}
    (h : wpAny M A (eval func env) (fun f s₁ => wpC M A (callWith pos f [] (backTo pos (starEach args env)) (backToKw pos (keywordEach kws env))) Q E s₁) E s)
    (he : eval (.Call func args kws pos) env = (do let f ← eval func env; callWith pos f [] (backTo pos (starEach args env)) (backToKw pos (keywordEach kws env))) := by rfl) :
    wpC M A (eval (.Call func args kws pos) env) Q E s := by
  rw [he]
  exact wpC_bindA h
theorem wpC_Return {e : PySem.Expr} {pos : Pos} {Q : Flow → Shared → Prop} (h : wpC M A (eval e env) (fun v s₁ => Q (.ret v) s₁) E s) (he : exec (.Return (some e) pos) env = (do standAt pos; let v ← eval e env; pure (.ret v)) := by rfl) :
    wpC M A (exec (.Return (some e) pos) env) Q E s := by
  rw [he]
  exact wpC_bindA (wpAny_standAt (wpC_bind (wpC_mono h (fun v s₁ q => wpC_pure q) fun _ _ x => x)))
theorem wpC_Assign {x : Str} {pos' pos : Pos} {value : PySem.Expr} {Q : Flow → Shared → Prop} (h : wpC M A (eval value env) (fun v s₁ => wpAny M A (bindName env x v) (fun _ s₂ => Q .next s₂) E s₁) E s) (hs : swapsWith value (some (.Name x pos')) pos.line env = pure false := by rfl) :
    wpC M A (exec (.Assign [.Name x pos'] value pos) env) Q E s := by
  rw [exec_Assign_Name (hs := hs)]
  refine wpC_bindA (wpAny_standAt (wpC_bind (wpC_mono h (fun v s₁ q => ?_) fun _ _ x => x)))
  exact wpC_bindA (wpAny_standAt (wpC_bindA (wpAny_mono q (fun _ s₂ q' => wpC_pure q') fun _ _ x => x)))
theorem wpC_ExprStmt {e : PySem.Expr} {pos : Pos} {Q : Flow → Shared → Prop} (h : wpC M A (eval e env) (fun v s₁ => wpAny M A (dropValue e pos v) Q E s₁) E s) (he : exec (.Expr e pos) env = (do standAt pos; let v ← eval e env; dropValue e pos v) := by rfl) :
    wpC M A (exec (.Expr e pos) env) Q E s := by
  rw [he]
  exact wpC_bindA (wpAny_standAt (wpC_bind (wpC_mono h (fun v s₁ q => wpC_any q) fun _ _ x => x)))
theorem wpC_BinOpL {l r : PySem.Expr} {op : Operator} {pos : Pos} {Q : Value → Shared → Prop} (h : wpC M A (eval l env) (fun a s₁ => wpAny M A (eval r env) (fun b s₂ => wpAny M A (operate [a, b] (binaryOp op a b)) Q E s₂) E s₁) E s)
    (he : eval (.BinOp l op r pos) env = (do let a ← eval l env; let b ← holding [a] (eval r env); standAt pos; operate [a, b] (binaryOp op a b)) := by rfl) : wpC M A (eval (.BinOp l op r pos) env) Q E s := by
  rw [he]
  refine wpC_bind (wpC_mono h (fun a s₁ q => ?_) fun _ _ x => x)
  exact wpC_bindA (wpAny_holding (wpAny_mono q (fun b s₂ q' => wpC_any (wpAny_bind (wpAny_standAt q'))) fun _ _ x => x))
end
end Mine

end
noncomputable section
open PySem PySem.W PySem.Calls PyProof.Rows
open PySem.Sem (wp)
set_option Elab.async false
set_option maxRecDepth 100000
namespace Mine
section
variable {prog : Program} {w : World} {A : Around} {s : Shared} {R : Result → Shared → Prop}
theorem codeC_func {body : List Stmt} {env : Env}
    (h : wpC (model prog w) (A.deeper env) (execs body env) (fun f s' => R (.ok (.ret (match f with | .ret v => v | _ => .none))) s')
      (fun e s' => wpAny (model prog w) (A.deeper env) («leaving» env e) (fun _ s'' => R (.error e) s'') (fun e' s'' => R (.error e') s'') s') s) :
    codeC (model prog w) A (.func body env) R s := by
  refine codeC_of_tree ?_
  show wpC _ (A.deeper env) (do point; match ← (execs body env).onRaise («leaving» env) with | .ret v => ret v | _ => ret .none) _ _ s
  refine wpC_bindA (wpAny_point (wpC_bind (wpC_onRaise (wpC_mono h (fun f s' h' => ?_) fun _ _ h' => wpC_any h'))))
  cases f <;> exact wpC_pure h'
theorem codeC_call_function {a : Addr} {args : Args} {o : Obj} {fd : FuncData} {body : List Stmt} (hroom : A.depth < recursionLimit)
    (ho : s.heap.get? a = some o)
    (hd' : o.data = .func fd) (hco : fd.scope.isCoroutine = false) (hgen : fd.scope.isGenerator = false) (hbody : fd.body = .stmts body) (hcd : s.heap.CodeRec fd.code fd.qualname)
    (h : wpAny (model prog w) A.in1 (bindArgs fd args) (fun binds s₁ =>
      wpAny (model prog w) A.in1 (newFunctionEnv fd.scope fd.globals fd.closure binds (fd.qualname ++ ".<locals>.") (some a) fd.code none fd.builtins)
        (fun env s₂ => s₂.heap.NoLimit ∧ codeC (model prog w) A (.func body env) R s₂) (fun e s' => R (.error e) s') s₁) (fun e s' => R (.error e) s') s) :
    codeC (model prog w) A (.call (.ref a) args) R s := by
  refine codeC_of_tree ?_
  show wpC _ A.in1 (callAny (.ref a) args) _ _ s
  simp only [callAny]
  refine wpC_bindA (wpAny_load ho ?_)
  obtain ⟨c, oc, vs, tq, hc, hoc, hdc, hq⟩ := hcd
  simp only [hd', callFunction, hco, hgen, hbody, hc]
  rw [hc] at h
  refine wpC_bindA (m := field (.ref c) 1) (wpAny_field hoc hdc hq ?_)
  refine wpC_bindA (wpAny_pure ?_)
  refine wpC_bindA (wpAny_mono h (fun binds s₁ h₁ => ?_) fun _ _ h' => h')
  refine wpC_bindA (wpAny_mono h₁ (fun env s₂ h₂ => ?_) fun _ _ h' => h')
  exact wpC_bindA (wpAny_enterFrame h₂.1 hroom (wpC_pure ⟨rfl, rfl, h₂.2⟩))
theorem codeC_call_def {a : Addr} {o : Obj} {fd : FuncData} {body : List Stmt} {args : Args} {binds : List (Str × Value)}
    (hroom : A.depth < recursionLimit) (ho : s.heap.get? a = some o) (hdata : o.data = .func fd) (hlim : s.heap.NoLimit) (hcd : s.heap.CodeRec fd.code fd.qualname)
    (hbody : fd.body = .stmts body) (hbind : BindsTo s fd args binds)
    (hcell : ∀ x ∈ fd.scope.names, x.2 ≠ .cell) (hloc : ∀ x ∈ binds, fd.scope.names.lookup x.1 = some .local)
    (h : ∀ h₀, h₀.Ns s.heap.objs.size (fun x => binds.reverse.lookup x) → (∀ b o, s.heap.get? b = some o → h₀.get? b = some o) →
      wpC (model prog w) (A.deeper (callEnv fd s.heap.objs.size a)) (execs body (callEnv fd s.heap.objs.size a)) (fun f s' => R (.ok (.ret (match f with | .ret v => v | _ => .none))) s')
        (fun e s' => wpAny (model prog w) (A.deeper (callEnv fd s.heap.objs.size a)) («leaving» (callEnv fd s.heap.objs.size a) e) (fun _ s'' => R (.error e) s'') (fun e' s'' => R (.error e') s'') s')
        { s with heap := h₀, toks := s.toks + binds.length })
    (hco : fd.scope.isCoroutine = false) (hgen : fd.scope.isGenerator = false) (hk : fd.scope.kind = .function) :
    codeC (model prog w) A (.call (.ref a) args) R s := by
  refine codeC_call_function hroom ho hdata hco hgen hbody hcd (hbind _ _ _ _ ?_)
  refine wpAny_newFunctionEnv hcell hloc (fun h₀ hns₀ hsb₀ => ⟨hlim.fresh _ hsb₀, codeC_func (h h₀ hns₀ fun b o e => ?_)⟩) hk
  exact hsb₀.extBut b o (Nat.ne_of_lt (Heap.lt_size e)) (Heap.get?_push_of_some _ e)
end
section
variable {prog : Program} {w : World} {A₀ A : Around} {s : Shared} {base h₀ : Heap} {outer : List Env} {L : Addr} {m : Str → Option Value} {env : Env} {as : List (Addr × Obj)} {K : Frag} {p : Program} {loose : List Str} {mean : ExcName → Option Value} {mg mb : Str → Option Value}
  {R : Result → Shared → Prop} {name qual : Str} {params : Arguments} {body : List Stmt} {scope : Scope} {dV kV doc pm cdv ct oc : Value} {an od : Option Addr} {osl : Array (Option Value)} {f : Addr} {args : Args} {binds : List (Str × Value)}
theorem enterW (B : Below A₀ base outer h₀) (F : Fr h₀ L s.heap m) (X₀ : K.In h₀) (N : News h₀ L s.heap as) (T : Top p loose mean mg mb h₀) (hA : A.frames = some (env :: outer)) (hf : env.frame = some L) (hke : env.scope.kind = .function)
    (ho : K.lookup f = some ⟨oc, od, .func (fnOf name qual params body scope dV kV doc pm an cdv ct), osl⟩) (hcd : codeIn K cdv qual = true) (hroom : A.depth < recursionLimit)
    (hbind : BindsTo s (fnOf name qual params body scope dV kV doc pm an cdv ct) args binds) (hloc : ∀ y ∈ binds, scope.names.lookup y.1 = some .local)
    (h : ∀ g L' h₁ tk₁, Agree as s.heap g → Fr h₀ L g m → Fr g L' h₁ (fun y => binds.reverse.lookup y) → News g L' h₁ as → Below A base (env :: outer) g → K.In g → Top p loose mean mg mb g → (∀ p ∈ as, p.1 < L') →
      wpC (model prog w) (A.deeper (envOf qual scope L' f cdv)) (execs body (envOf qual scope L' f cdv))
        (fun fl s' => LeaveK h₀ L m g R (match fl with | .ret v => v | _ => .none) s')
        (fun e s' => wpAny (model prog w) (A.deeper (envOf qual scope L' f cdv)) («leaving» (envOf qual scope L' f cdv) e) (fun _ s'' => R (.error e) s'') (fun e' s'' => R (.error e') s'') s')
        { s with heap := h₁, toks := tk₁ })
    (hco : scope.isCoroutine = false) (hgen : scope.isGenerator = false) (hk : scope.kind = .function)
    (hcell : ∀ x ∈ scope.names, x.2 ≠ .cell) : codeC (model prog w) A (.call (.ref f) args) R s := by
  obtain ⟨FG, BG, st, lv⟩ := groundX (R := R) B F N hA hf hke
  refine codeC_call_def (fd := fnOf name qual params body scope dV kV doc pm an cdv ct) (body := body) (binds := binds) hroom ((X₀.keeps F.keep) _ _ ho) rfl (T.nolimit.keeps F.keep) (codeRec_of (X₀.keeps F.keep) hcd) rfl hbind hcell hloc (fun h₁ hns hk₁ => ?_) hco hgen hk
  exact wpC_mono (h _ s.heap.objs.size h₁ (s.toks + binds.length) (fun b o e n => hideAll_get _ e n) FG ⟨hns, fun b o e => hk₁ b o (of_hideAll _ e), Nat.le_of_eq (hideAll_size _ _)⟩
    (fun p hp => ⟨hk₁ _ _ (N p hp).1, Nat.ne_of_lt (Heap.lt_size (N p hp).1), hideAll_none _ (List.mem_map_of_mem hp)⟩) BG (X₀.keeps st) (T.keeps st) (fun p hp => Heap.lt_size (N p hp).1)) (fun fl s' hl => lv _ _ hl) fun _ _ y => y
end
end Mine

end
noncomputable section
open PySem PySem.W PySem.Calls PyProof.Rows
open PySem.Sem (wp)
set_option Elab.async false
set_option maxRecDepth 100000
namespace Mine
section
variable {M : Model} {A : Around} {E : Value → Shared → Prop} {s : Shared} {env : Env}
theorem wpC_runOwn {c : Code} {h : Option Value} {Q : Flow → Shared → Prop} (hh : holds c = false)
    (hc : codeC M (A.mark h) c (fun r s' => match r with | .ok f => Q f s' | .error e => cameBackBy M A env E e s') s) (hnb : h ≠ some byPass := by intro x; cases x) : wpC M A (runOwn c env h) Q E s := by
  unfold runOwn
  exact wpC_onRaise (wpC_mono (wpC_run hh hc hnb) (fun _ _ x => x) fun e s' x => wpC_any x)
theorem wpC_While {test : PySem.Expr} {body orelse : List Stmt} {pos : Pos} {Q : Flow → Shared → Prop}
    (h : codeC M A (.whileLoop test body orelse env) (fun r s' => match r with | .ok f => Q f s' | .error e => cameBackBy M A env E e s') s) :
    wpC M A (exec (.While test body orelse pos) env) Q E s := by
  rw [exec_While]; exact wpC_bindA (wpAny_standAt (wpC_runOwn rfl h))
end
end Mine

end
noncomputable section
open PySem PySem.W PySem.Calls PyProof.Rows
open PySem.Sem (wp)
set_option Elab.async false
set_option maxRecDepth 100000
namespace Mine
section
variable {M : Model} {A : Around} {E : Value → Shared → Prop} {s : Shared} {env : Env}
theorem wpC_IfExp {test body orelse : PySem.Expr} {pos : Pos} {Q : Value → Shared → Prop}
    (h : wpAny M A (isTrue test env (eval test env)) (fun b s₁ => WhlIf b (wpC M A (eval body env) Q E s₁) (wpC M A (eval orelse env) Q E s₁)) E s) :
    wpC M A (eval (.IfExp test body orelse pos) env) Q E s := by
  rw [arm_eval_IfExp]
  refine wpC_bindA (wpAny_mono h (fun b s₁ h₁ => ?_) fun _ _ x => x)
  cases b <;> exact h₁
theorem wpC_If {test : PySem.Expr} {body orelse : List Stmt} {pos : Pos} {Q : Flow → Shared → Prop}
    (h : wpC M A (isTrue test env (eval test env)) (fun b s₁ => WhlIf b (wpC M A (execs body env) Q E s₁) (wpC M A (execs orelse env) Q E s₁)) E s) :
    wpC M A (exec (.If test body orelse pos) env) Q E s := by
  rw [exec_If]
  refine wpC_bindA (wpAny_standAt (wpC_bind (wpC_mono h (fun b s₁ h₁ => ?_) fun _ _ x => x)))
  cases b <;> exact h₁
theorem wpC_isTrue_Compare {l r : PySem.Expr} {op : CmpOp} {pos : Pos} {whole : Sem Value} {Q : Bool → Shared → Prop}
    (h : wpC M A (eval l env) (fun a s₁ => wpAny M A (eval r env) (fun b s₂ => wpAny M A (compareOp op a b) (fun c s₃ => wpAny M A (truthy c) Q E s₃) E s₂) E s₁) E s)
    (hm : behindInMarks op r = false := by with_unfolding_all rfl) : wpC M A (isTrue (.Compare l [op] [r] pos) env whole) Q E s := by
  rw [isTrue_Compare1, markedBehindIn_of_false hm]
  refine wpC_bind (wpC_mono h (fun a s₁ q => ?_) fun _ _ x => x)
  refine wpC_any (wpAny_bind (wpAny_holding (wpAny_mono q (fun b s₂ q' => ?_) fun _ _ x => x)))
  intro Γ p hΓ
  simp only [Sem.wp_bind', Sem.wp_holding, Sem.wp_cmd_standAt, Sem.wp_operate]
  exact Sem.wp_mono M Γ _ (fun c p₃ s₃ h₃ => h₃ Γ p₃ hΓ) (fun _ _ _ h' => h') _ _ (q' Γ _ hΓ)
theorem wpC_Try {body orelse : List Stmt} {h₀ : ExceptHandler} {hs : List ExceptHandler} {pos : Pos} {Q : Flow → Shared → Prop}
    (h : wpC M A (execs body env) (fun f s₁ => match f with | .next => wpC M A (execs orelse env) Q E s₁ | f => Q f s₁)
      (fun e s₁ => wpAny M A (noteFrame e env) (fun _ s₂ => wpAny M A (setFlight e none) (fun _ s₃ => wpAny M A (handleBy e env (h₀ :: hs)) Q E s₃) E s₂) E s₁) s) :
    wpC M A (exec (.Try body (h₀ :: hs) orelse [] pos) env) Q E s := by
  rw [arm_exec_Try]
  refine wpC_bindA (wpAny_standAt ?_)
  unfold tryStmt
  simp only [List.isEmpty_nil, if_true, List.isEmpty_cons, Bool.false_and, Bool.false_eq_true, if_false]
  refine wpC_bind (wpC_attempt (wpC_mono h (fun f s₁ h₁ => ?_) fun e s₁ h₁ => ?_))
  · cases f <;> first | exact h₁ | exact wpC_pure h₁
  · exact wpC_any (wpAny_bind (wpAny_mono h₁ (fun _ _ h₂ => wpAny_bind h₂) fun _ _ x => x))
theorem wpC_noted {α : Type} {m : Sem α} {Q : α → Shared → Prop} (h : wpC M A m Q (notedBy M A env E) s) : wpC M A (m.onRaise fun x => do noteFrame x env; theTreesLotGoes x) Q E s :=
  wpC_onRaise (wpC_mono h (fun _ _ q => q) fun _ _ hx => wpC_any (wpAny_bind (wpAny_mono hx (fun _ _ e => wpAny_theTreesLotGoes e) fun _ _ e => e)))
end
section
variable {prog : Program} {w : World} {A : Around} {E : Value → Shared → Prop} {R : Result → Shared → Prop} {s : Shared} {env : Env}
noncomputable def WhlRestC (prog : Program) (w : World) (A : Around) (E : Value → Shared → Prop) (env : Env) (test : PySem.Expr) (body orelse : List Stmt) (Q : Flow → Shared → Prop) (s : Shared) : Prop :=
  codeC (model prog w) A (.whileLoop test body orelse env) (fun r s' => match r with | .ok f => Q f s' | .error e => cameBackBy (model prog w) A env E e s') s
noncomputable def WhlPostC (prog : Program) (w : World) (A : Around) (E : Value → Shared → Prop) (env : Env) (test : PySem.Expr) (body orelse : List Stmt) (Q : Flow → Shared → Prop) (f : Flow) (s : Shared) : Prop :=
  match f with
  | .next => WhlRestC prog w A E env test body orelse Q s
  | .cont => WhlRestC prog w A E env test body orelse Q s
  | .brk => Q .next s
  | .ret v => Q (.ret v) s
theorem whlC_turn {test : PySem.Expr} {body orelse : List Stmt} {Q : Flow → Shared → Prop} (hE : PassesOwn (model prog w) A env E)
    (h : wpAny (model prog w) A (isTrue test env (eval test env)) (fun b s₂ => WhlIf b (wpC (model prog w) A (execs body env) (WhlPostC prog w A E env test body orelse Q) E s₂) (wpC (model prog w) A (execs orelse env) Q E s₂)) E s) :
    WhlRestC prog w A E env test body orelse Q s := by
  refine codeC_of_tree ?_
  show wpC _ A ((whileTurn test body orelse env).onRaise (fun x => do noteFrame x env; theTreesLotGoes x)) _ _ s
  refine wpC_noted ?_
  simp only [whileTurn]
  refine wpC_bindA (wpAny_mono h (fun b s₂ h₂ => ?_) hE)
  cases b with
  | false =>
    have h₃ : wpC (model prog w) A (execs orelse env) Q E s₂ := h₂
    simp only [Bool.false_eq_true, if_false]
    exact wpC_bind (wpC_mono h₃ (fun f s₃ h₄ => wpC_pure h₄) hE)
  | true =>
    have h₃ : wpC (model prog w) A (execs body env) (WhlPostC prog w A E env test body orelse Q) E s₂ := h₂
    simp only [if_true]
    refine wpC_bind (wpC_mono h₃ (fun f s₃ h₄ => ?_) hE)
    cases f with
    | next => exact wpC_pure ⟨rfl, rfl, h₄⟩
    | cont => exact wpC_pure ⟨rfl, rfl, h₄⟩
    | brk => exact wpC_pure h₄
    | ret v => exact wpC_pure h₄
theorem whlC_start {test : PySem.Expr} {body orelse : List Stmt} {pos : Pos} {Q : Flow → Shared → Prop} (h : WhlRestC prog w A E env test body orelse Q s) : wpC (model prog w) A (exec (.While test body orelse pos) env) Q E s := wpC_While h
theorem codeC_block {stmts : List Stmt}
    (h : wpC (model prog w) A (execs stmts env) (fun f s' => R (.ok f) s') (notedBy (model prog w) A env fun e s' => R (.error e) s') s) : codeC (model prog w) A (.block stmts env) R s := by
  refine codeC_of_tree ?_
  show wpC _ _ (do return Fin.done (← (execs stmts env).onRaise (fun x => do noteFrame x env; theTreesLotGoes x))) _ _ s
  exact wpC_bind (wpC_noted (wpC_mono h (fun f s' h' => wpC_pure h') fun _ _ h' => h'))
theorem codeC_forLoop {target : PySem.Expr} {it : Value} {body orelse : List Stmt} (I : Nat → Shared → Prop)
    (turn : ∀ n s, I n s → wpAny (model prog w) A (pyNext it) (fun r s₁ => match r with
      | none => wpC (model prog w) A (execs orelse env) (fun f s₃ => R (.ok f) s₃) (notedBy (model prog w) A env fun e s' => R (.error e) s') s₁
      | some v => wpAny (model prog w) A (assign target env v) (fun _ s₂ => wpC (model prog w) A (execs body env) (fun f s₃ => match f with
          | .next | .cont => ∃ m, m < n ∧ I m s₃
          | .brk => R (.ok .next) s₃
          | .ret v => R (.ok (.ret v)) s₃) (notedBy (model prog w) A env fun e s' => R (.error e) s') s₂) (notedBy (model prog w) A env fun e s' => R (.error e) s') s₁) (notedBy (model prog w) A env fun e s' => R (.error e) s') s)
    (n : Nat) (h : I n s) (ht : ∀ v, letOwnedTupleGo target it v = pure () := by intro _; rfl) : codeC (model prog w) A (.forLoop target it body orelse env) R s := by
  induction n using Nat.strongRecOn generalizing s with
  | ind n ih =>
  refine codeC_of_tree ?_
  show wpC _ _ ((forTurn target it body orelse env).onRaise (fun x => do noteFrame x env; theTreesLotGoes x)) _ _ s
  refine wpC_noted ?_
  simp only [forTurn]
  refine wpC_bindA (wpAny_standAt (wpC_bindA (wpAny_onRaise (wpAny_mono (turn n s h) (fun r s₁ h₁ => ?_) fun _ _ h' => wpAny_standAt h'))))
  cases r with
  | none => exact wpC_pure ⟨rfl, rfl, codeC_block h₁⟩
  | some v =>
    refine wpC_bindA (wpAny_of_eq (ht v) ?_)
    refine wpC_bindA (wpAny_mono h₁ (fun _ s₂ h₂ => wpC_bind (wpC_mono h₂ (fun f s₃ h₃ => ?_) fun _ _ h' => h')) fun _ _ h' => h')
    cases f with
    | next => obtain ⟨m, hm, hI⟩ := h₃; exact wpC_pure ⟨rfl, rfl, ih m hm hI⟩
    | cont => obtain ⟨m, hm, hI⟩ := h₃; exact wpC_pure ⟨rfl, rfl, ih m hm hI⟩
    | brk => exact wpC_pure h₃
    | ret v => exact wpC_pure h₃
theorem wpC_For {target iter : PySem.Expr} {body orelse : List Stmt} {pos : Pos} {Q : Flow → Shared → Prop} {M : Model}
    (h : wpAny M A (eval iter env) (fun x s₁ => wpAny M A (pyIter x) (fun it s₂ =>
      codeC M A (.forLoop target it body orelse env) (fun r s' => match r with | .ok f => Q f s' | .error e => cameBackBy M A env E e s') s₂) E s₁) E s)
    (hs : ∀ x, foldedSetIterable iter env x = pure x := by intro _; rfl) :
    wpC M A (exec (.For target iter body orelse pos) env) Q E s := by
  rw [exec_For]
  exact wpC_bindA (wpAny_standAt (wpC_bindA (wpAny_mono h (fun x s₁ h₁ => wpC_bindA (wpAny_of_eq (hs x) (wpC_bindA (wpAny_standAt (wpC_bindA (wpAny_holding
    (wpAny_mono h₁ (fun it s₂ h₂ => wpC_runOwn rfl h₂) fun _ _ h' => h'))))))) fun _ _ h' => h')))
end
end Mine

end
noncomputable section
open PySem PySem.W PySem.Calls PyProof.Rows
set_option Elab.async false
set_option maxRecDepth 100000
namespace Mine
/-- the same among clean contexts: it is made with the objects as, turns them alone, and Post tells of what comes back -/
noncomputable def SpC (w : World) (f : Addr) (args : List Value) (as : List (Addr × Obj)) (d u : Nat) (Post : Heap → Value → Heap → Prop) : Prop :=
  ∀ (p : Program) (loose : List Str) (mean : ExcName → Option Value) (mg mb : Str → Option Value) (dp un : Nat) (gd : Option (List Code)) (cn : Str) (cs : Scope) (a : Addr) (ccd : Value) (cl : List (Str × Addr)) (outer : List Env) (A₀ : Around) (base h₀ : Heap) (L : Addr) (m : Str → Option Value) (s : Shared) (Q E : Value → Shared → Prop),
    Below A₀ base outer h₀ → Fr h₀ L s.heap m → (KF w.params).In h₀ → News h₀ L s.heap as → Top p loose mean mg mb h₀ → cs.kind = .function → dp + d < recursionLimit → un + u < cLine →
    (∀ v h' tk', Agree as s.heap h' → Post s.heap v h' → Q v { s with heap := h', toks := tk' }) →
    wpC (model PR w) (ktrTop dp un gd cn cs L a ccd cl outer) (call (.ref f) args) Q E s

theorem useC {w : World} {f : Addr} {args : List Value} {as : List (Addr × Obj)} {d u : Nat} {Post : Heap → Value → Heap → Prop} (H : SpC w f args as d u Post)
    {p : Program} {loose : List Str} {mean : ExcName → Option Value} {mg mb : Str → Option Value} {dp un : Nat} {gd : Option (List Code)} {cn : Str} {cs : Scope} {a : Addr} {ccd : Value} {cl : List (Str × Addr)} {outer : List Env} {A₀ : Around} {base h₀ : Heap} {L : Addr} {m : Str → Option Value} {s : Shared} {Q E : Value → Shared → Prop} {news : List (Addr × Obj)}
    (B : Below A₀ base outer h₀) (F : Fr h₀ L s.heap m) (X : (KF w.params).In h₀) (N : News h₀ L s.heap news) (T : Top p loose mean mg mb h₀) (hk : cs.kind = .function) (hd : dp + d < recursionLimit) (hu : un + u < cLine)
    (rest : List (Addr × Obj)) (hs : ∀ q ∈ as, q ∈ news) (hr : ∀ q ∈ rest, q ∈ news ∧ q.1 ∉ as.map (·.1))
    (k : ∀ v h' tk', Fr h₀ L h' m → News h₀ L h' rest → (∀ l, s.heap.get? l = none → ∀ q ∈ news, q.1 ≠ l) → (∀ b o r, (b ∈ as.map (·.1) ∨ s.heap.get? b = none) → h'.get? b = some o → News h₀ L h' r → News h₀ L h' ((b, o) :: r)) → Post s.heap v h' → Q v { s with heap := h', toks := tk' }) :
    wpC (model PR w) (ktrTop dp un gd cn cs L a ccd cl outer) (call (.ref f) args) Q E s := by
  have N' : News h₀ L s.heap as := fun q hq => N q (hs q hq)
  refine H p loose mean mg mb dp un gd cn cs a ccd cl outer A₀ base h₀ L m s Q E B F X N' T hk hd hu fun v h' tk' hA hP => ?_
  refine k v h' tk' (fr_agree F N' hA) (fun q hq => ?_) (fun l hl q hq e => by have := (N q hq).1; rw [e, hl] at this; cases this) (fun b o r hb e hn q hq => ?_) hP
  · obtain ⟨h1, h2⟩ := hr q hq
    have := N q h1
    exact ⟨hA _ _ this.1 h2, this.2⟩
  · rcases List.mem_cons.mp hq with rfl | hq
    · refine ⟨e, ?_⟩
      rcases hb with hb | hb
      · obtain ⟨z, hz, ez⟩ := List.mem_map.mp hb
        have := N' z hz
        exact ez ▸ this.2
      · obtain ⟨oL, es, ep, hL, r⟩ := F.ns
        refine ⟨fun q => ?_, ?_⟩
        · have q' : b = L := q
          rw [q', hL] at hb; cases hb
        · show h₀.get? b = none
          cases q : h₀.get? b with
          | none => rfl
          | some o' => have := F.keep _ _ q; rw [this] at hb; cases hb
    · exact hn q hq

/-- the same for a call that turns nothing -/
theorem useC0 {w : World} {f : Addr} {args : List Value} {d u : Nat} {Post : Heap → Value → Heap → Prop} {as : List (Addr × Obj)} (H : SpC w f args as d u Post)
    {p : Program} {loose : List Str} {mean : ExcName → Option Value} {mg mb : Str → Option Value} {dp un : Nat} {gd : Option (List Code)} {cn : Str} {cs : Scope} {a : Addr} {ccd : Value} {cl : List (Str × Addr)} {outer : List Env} {A₀ : Around} {base h₀ : Heap} {L : Addr} {m : Str → Option Value} {s : Shared} {Q E : Value → Shared → Prop} {news : List (Addr × Obj)}
    (B : Below A₀ base outer h₀) (F : Fr h₀ L s.heap m) (X : (KF w.params).In h₀) (N : News h₀ L s.heap news) (T : Top p loose mean mg mb h₀) (hk : cs.kind = .function) (hd : dp + d < recursionLimit) (hu : un + u < cLine) (hs : ∀ q ∈ as, q ∈ news)
    (hst : ∀ g v h', Post g v h' → ∀ q ∈ as, h'.get? q.1 = some q.2)
    (k : ∀ v h' tk', Fr h₀ L h' m → News h₀ L h' news → Post s.heap v h' → Q v { s with heap := h', toks := tk' }) :
    wpC (model PR w) (ktrTop dp un gd cn cs L a ccd cl outer) (call (.ref f) args) Q E s := by
  have N' : News h₀ L s.heap as := fun q hq => N q (hs q hq)
  refine H p loose mean mg mb dp un gd cn cs a ccd cl outer A₀ base h₀ L m s Q E B F X N' T hk hd hu fun v h' tk' hA hP => ?_
  refine k v h' tk' (fr_agree F N' hA) (fun q hq => ?_) hP
  have h0 := N q hq
  refine ⟨?_, h0.2⟩
  by_cases hm : q.1 ∈ as.map (·.1)
  · obtain ⟨z, hz, ez⟩ := List.mem_map.mp hm
    have h1 := hst _ v h' hP z hz
    have h2 := (N' z hz).1
    rw [ez, h0.1] at h2
    rw [← ez, h1, ← h2]
  · exact hA _ _ h0.1 hm

/-- a call that gives bytes -/
theorem useCB {w : World} {f : Addr} {args : List Value} {d u K : Nat} {V : Array UInt8} (H : SpC w f args [] d u (fun _ v _ => ∃ b tk, v = .bytes b tk ∧ b = V ∧ b.size ≤ K))
    {p : Program} {loose : List Str} {mean : ExcName → Option Value} {mg mb : Str → Option Value} {dp un : Nat} {gd : Option (List Code)} {cn : Str} {cs : Scope} {a : Addr} {ccd : Value} {cl : List (Str × Addr)} {outer : List Env} {A₀ : Around} {base h₀ : Heap} {L : Addr} {m : Str → Option Value} {s : Shared} {Q E : Value → Shared → Prop} {news : List (Addr × Obj)}
    (B : Below A₀ base outer h₀) (F : Fr h₀ L s.heap m) (X : (KF w.params).In h₀) (N : News h₀ L s.heap news) (T : Top p loose mean mg mb h₀) (hk : cs.kind = .function) (hd : dp + d < recursionLimit) (hu : un + u < cLine)
    (k : ∀ tk h' tk', Fr h₀ L h' m → News h₀ L h' news → V.size ≤ K → Q (.bytes V tk) { s with heap := h', toks := tk' }) :
    wpC (model PR w) (ktrTop dp un gd cn cs L a ccd cl outer) (call (.ref f) args) Q E s :=
  useC0 H B F X N T hk hd hu (List.forall_mem_nil _) (fun _ _ _ _ => List.forall_mem_nil _) fun v h' tk' F' N' hP => by
    obtain ⟨b, tk, rfl, rfl, hz⟩ := hP
    exact k tk h' tk' F' N' hz
end Mine

end
noncomputable section
open PySem PySem.W PySem.Calls PyProof.Rows
set_option Elab.async false
set_option maxRecDepth 100000
namespace Mine
section
variable {M : Model} {A : Around} {E : Value → Shared → Prop} {s : Shared} {K : Frag} {env : Env} {pos : Pos} {f : Value} {first : List Value} {Q : Value → Shared → Prop} {h₀ : Heap}
theorem keeps_mach (hf : ∀ a, f ≠ .ref a) (h : Heap) (_ : True) : ∃ k, (k = Keeper.frame ∨ k = Keeper.machine ∨ k = Keeper.boundFrame) ∧ Looks M h (keeperOf f) k := by
  refine ⟨.machine, .inr (.inl rfl), ?_⟩
  cases f <;> first | exact .now | exact absurd rfl (hf _)
theorem wpC_callWith_K {e : Expr} {rest : List Expr} (_X : K.In h₀) (hk : keepIn K f = true) (h : wpAny M A (spliced (backTo pos (starEach (e :: rest) env))) (fun vs s₁ => K.In s₁.heap ∧ wpC M A (call f (first ++ vs)) Q E s₁) E s)
    (he : starEach (e :: rest) env = (false, eval e env) :: starEach rest env := by rfl) (hplain : (backTo pos (starEach rest env)).any (·.1) = false := by rfl) :
    wpC M A (callWith pos f first (backTo pos (starEach (e :: rest) env)) []) Q E s := by
  rw [he] at h ⊢
  exact wpC_callWith (by show ((false || (backTo pos (starEach rest env)).any (·.1)) || false) = false; rw [hplain]; rfl) (keeps_K hk) (evalArgs_plain h)
theorem wpC_callWith_K0 (X : K.In s.heap) (hk : keepIn K f = true) (h : wpC M A (call f (first ++ [])) Q E s) : wpC M A (callWith pos f first (backTo pos (starEach [] env)) []) Q E s :=
  wpC_callWith rfl (keeps_K hk) (evalArgs_nil3 ⟨X, h⟩)
theorem wpC_callWith_M {e : Expr} {rest : List Expr} (hf : ∀ a, f ≠ .ref a) (h : wpAny M A (spliced (backTo pos (starEach (e :: rest) env))) (fun vs s₁ => True ∧ wpC M A (call f (first ++ vs)) Q E s₁) E s)
    (he : starEach (e :: rest) env = (false, eval e env) :: starEach rest env := by rfl) (hplain : (backTo pos (starEach rest env)).any (·.1) = false := by rfl) :
    wpC M A (callWith pos f first (backTo pos (starEach (e :: rest) env)) []) Q E s := by
  rw [he] at h ⊢
  exact wpC_callWith (by show ((false || (backTo pos (starEach rest env)).any (·.1)) || false) = false; rw [hplain]; rfl) (keeps_mach hf) (evalArgs_plain h)
theorem wpC_callWith_M0 (hf : ∀ a, f ≠ .ref a) (h : wpC M A (call f (first ++ [])) Q E s) : wpC M A (callWith pos f first (backTo pos (starEach [] env)) []) Q E s :=
  wpC_callWith rfl (keeps_mach hf) (evalArgs_nil3 ⟨trivial, h⟩)
end
end Mine

end
noncomputable section
open PySem PySem.W PySem.Calls PyProof.Rows
set_option Elab.async false
set_option maxRecDepth 100000
namespace Mine
section
variable {prog : Program} {w : World} {A : Around} {E : Value → Shared → Prop} {s : Shared} {Q : Value → Shared → Prop} {h₀ : Heap} {L : Addr} {m : Str → Option Value} {news : List (Addr × Obj)}
theorem news_agree {h h' : Heap} {as : List (Addr × Obj)} (N : News h₀ L h news) (hn : ∀ q ∈ news, q.1 ∉ as.map (·.1)) (hA : Agree as h h') : News h₀ L h' news :=
  fun q hq => ⟨hA _ _ (N q hq).1 (hn q hq), (N q hq).2⟩
theorem agree_same {a : Addr} {o : Obj} {h h' : Heap} (hs : Heap.SameBut a h h') : Agree [(a, o)] h h' := fun b o' e hn => by
  have hb : b ≠ a := fun q => hn (by rw [q]; exact .head _)
  exact (hs.2 b hb).trans e
theorem wpC_baF (F : Fr h₀ L s.heap m) (N : News h₀ L s.heap news) (h : ∀ l h', Fr h₀ L h' m → News h₀ L h' ((l, baObj #[]) :: news) → (∀ p ∈ news, p.1 < l) → Q (.ref l) { s with heap := h' }) :
    wpC (model prog w) A (call (.type "bytearray") []) Q E s := by
  have lt : ∀ p ∈ news, p.1 < s.heap.objs.size := fun p hp => Heap.lt_size (N p hp).1
  have N1 := N.push F (baObj #[])
  have F1 := F.push (baObj #[])
  refine wpC_ba fun h' hs ho => h _ h' (fr_agree F1 (fun q hq => N1 q (List.mem_singleton.mp hq ▸ .head _)) (agree_same hs)) (fun q hq => ?_) lt
  rcases List.mem_cons.mp hq with rfl | hq'
  · exact ⟨ho, (N1 _ (.head _)).2⟩
  · exact news_agree (fun q hq => N1 q (.tail _ hq)) (fun q hq hm => absurd (List.mem_singleton.mp hm) (Nat.ne_of_lt (lt q hq))) (agree_same (o := baObj #[]) hs) q hq'
theorem wpC_appendF {a : Addr} {b : Array UInt8} {n : Int} {t : Tok} (F : Fr h₀ L s.heap m) (N : News h₀ L s.heap ((a, baObj b) :: news)) (hne : ∀ q ∈ news, q.1 ≠ a) (h0 : 0 ≤ n) (h1 : n < 256) (hz : b.size + 1 ≤ sizeLine)
    (h : ∀ h', Fr h₀ L h' m → News h₀ L h' ((a, baObj (b.push n.toNat.toUInt8)) :: news) → Q .none { s with heap := h' }) : wpC (model prog w) A (call (.builtin "bytearray.append") [.ref a, .int n t]) Q E s := by
  refine wpC_ba_append (N _ (.head _)).1 h0 h1 hz fun h' hs ho => h h' (fr_agree F (fun q hq => N q (List.mem_singleton.mp hq ▸ .head _)) (agree_same (o := baObj b) hs)) (fun q hq => ?_)
  rcases List.mem_cons.mp hq with rfl | hq'
  · exact ⟨ho, (N _ (.head _)).2⟩
  · exact news_agree (as := [(a, baObj b)]) (fun q hq => N q (.tail _ hq)) (fun q hq hm => hne q hq (List.mem_singleton.mp hm)) (agree_same (o := baObj b) hs) q hq'
theorem ba_method {a : Addr} {b : Array UInt8} {pl : Sem Bool} {M : Model} {Q : Value × List Value → Shared → Prop} (N : News h₀ L s.heap news) (hm : (a, baObj b) ∈ news) (h : Q (.builtin "bytearray.append", [.ref a]) s) :
    wpAny M A (getMethod (.ref a) "append" pl) Q E s :=
  getMethod_builtin ⟨_, (N _ hm).1, rfl⟩ BA.plainAttrs BA.slot_append BA.type_append (fun c e => by cases e; exact ⟨_, (N _ hm).1, rfl⟩) h
end
end Mine

end
noncomputable section
open PySem PySem.W PySem.Calls PyProof.Rows
set_option Elab.async false
set_option maxRecDepth 100000
namespace Mine
section
variable {prog : Program} {w : World} {A : Around} {E : Value → Shared → Prop} {s : Shared} {env : Env}
theorem wpC_ExprS {e : PySem.Expr} {pos : Pos} {Q : Flow → Shared → Prop} (h : wpC (model prog w) A (eval e env) (fun _ s₁ => Q .next s₁) E s) (he : exec (.Expr e pos) env = (do standAt pos; let v ← eval e env; dropValue e pos v) := by rfl) :
    wpC (model prog w) A (exec (.Expr e pos) env) Q E s :=
  wpC_ExprStmt (wpC_mono h (fun v s₁ q => wpAny_dropValue q) fun _ _ x => x) he
theorem wpC_BinOpS {l r : PySem.Expr} {op : Operator} {pos : Pos} {Q : Value → Shared → Prop} (h : wpC (model prog w) A (eval l env) (fun a s₁ => wpAny (model prog w) A (eval r env) (fun b s₂ => wpAny (model prog w) A (binaryOp op a b) Q E s₂) E s₁) E s)
    (he : eval (.BinOp l op r pos) env = (do let a ← eval l env; let b ← holding [a] (eval r env); standAt pos; operate [a, b] (binaryOp op a b)) := by rfl) : wpC (model prog w) A (eval (.BinOp l op r pos) env) Q E s :=
  wpC_BinOpL (wpC_mono h (fun _ _ q => wpAny_mono q (fun _ _ q' => wpAny_operate' q') fun _ _ x => x) fun _ _ x => x) he
end
end Mine

end
noncomputable section
open PySem PySem.W PySem.Calls PyProof.Rows
open PySem.Sem (wp)
set_option Elab.async false
set_option maxRecDepth 100000
namespace Mine
section
variable {w : World} {A : Around} {E : Value → Shared → Prop} {s : Shared} {h₀ : Heap} {L l l' : Addr} {news : List (Addr × Obj)} {xs ys : Array Value} {n n' : Nat}
theorem ne_nil {Q : Value → Shared → Prop} (N : News h₀ L s.heap news) (hm : (l, ({ cls := .type "list", data := .seq xs n } : Obj)) ∈ news) (hm' : (l', ({ cls := .type "list", data := .seq #[] n' } : Obj)) ∈ news) (hu : A.units < cLine)
    (h : Q (.bool (decide (xs.size ≠ 0))) s) : wpAny (model PR w) A (compareOp .NotEq (.ref l) (.ref l')) Q E s := by
  have hl : s.heap.IsList l xs := ⟨_, (N _ hm).1, rfl, n, rfl⟩
  have hl' : s.heap.IsList l' #[] := ⟨_, (N _ hm').1, rfl, n', rfl⟩
  show wpAny _ _ (richCompare .NotEq (.ref l) (.ref l')) _ _ _
  by_cases hz : xs.size = 0
  · refine SeqAt.RcNeAt.lists hl hl' (by rw [hz]; rfl) hu (e := fun _ => true) (fun j h1 _ => absurd h1 (by omega)) PR w E Q ?_
    rw [hz] at h ⊢
    exact h
  · refine SeqAt.RcNeAt.lists_lengths hl hl' (by simpa using hz) hu PR w E Q ?_
    rw [decide_eq_true hz] at h
    exact h
theorem idx0 (z : Value) (vs : List Value) : seqIndex? 0 (z :: vs).toArray.size = some 0 := by
  unfold seqIndex?
  simp
theorem pop0 {m : Str → Option Value} {news' : List (Addr × Obj)} {z : Value} {vs : List Value} {u : Tok} {Q : Value → Shared → Prop} (F : Fr h₀ L s.heap m) (N : News h₀ L s.heap news) (U : Upd l (listOf (z :: vs).toArray n) (listOf vs.toArray (n + 1)) news news') (hz : (z :: vs).length ≤ 16777216)
    (h : ∀ h' k', Fr h₀ L h' m → News h₀ L h' news' → Q z { s with heap := h', toks := k' }) : wpAny (model PR w) A (call (.builtin "list.pop") [.ref l, .int 0 u]) Q E s :=
  kl_popAt (p := []) (k := 0) F N rfl (idx0 z vs) rfl U (by rw [sizeLine_eq]; exact hz) fun h' F' N' => h h' _ F' N'
theorem di_tailS {K : Type} [DecidableEq K] {knd : KeyKind PR w K} {d : Addr} {o : Obj} {kvs : List (K × Value)} {k : K} {key v : Value} {value slice : PySem.Expr} {Q : Value → Shared → Prop} (N : News h₀ L s.heap news) (hm : (d, o) ∈ news) (D : DI knd d o kvs) (hkey : knd.is k key = true) (hv : valueAt kvs k = some v) (h : ∀ k', Q v { s with toks := k' })
    (hs : subscripted slice false (.ref d) key = operate [.ref d, key] (getItem (.ref d) key) := by with_unfolding_all rfl) :
    wpAny (model PR w) A (subscriptTail value slice (.ref d) key) Q E s := di_tail N hm D hkey hv (h _) hs
end
end Mine

end
noncomputable section
open PySem PySem.W PySem.Calls PyProof.Rows
set_option Elab.async false
set_option maxRecDepth 100000
namespace Mine
/-- two objects of the ledger that stand side by side are turned together -/
inductive Upd2 (d : Addr) (o : Obj) (e : Addr) (q : Obj) : List (Addr × Obj) → (Obj → Obj → List (Addr × Obj)) → Prop
  | both {r} : (∀ p ∈ r, p.1 ≠ d ∧ p.1 ≠ e) → Upd2 d o e q ((d, o) :: (e, q) :: r) (fun o' q' => (d, o') :: (e, q') :: r)
  | tail {p r g} : p.1 ≠ d ∧ p.1 ≠ e → Upd2 d o e q r g → Upd2 d o e q (p :: r) (fun o' q' => p :: g o' q')
theorem Upd2.mem {d e : Addr} {o q : Obj} : ∀ {l : List (Addr × Obj)} {g : Obj → Obj → List (Addr × Obj)}, Upd2 d o e q l g → (d, o) ∈ l ∧ (e, q) ∈ l
  | _, _, .both _ => ⟨.head _, .tail _ (.head _)⟩
  | _, _, .tail _ r => ⟨.tail _ r.mem.1, .tail _ r.mem.2⟩
theorem Upd2.put {h₀ h h' : Heap} {L d e : Addr} {o q o' q' : Obj} (hd : h'.get? d = some o') (he : h'.get? e = some q') (hk : ∀ b x, h.get? b = some x → b ≠ d → b ≠ e → h'.get? b = some x) :
    ∀ {l : List (Addr × Obj)} {g : Obj → Obj → List (Addr × Obj)}, Upd2 d o e q l g → News h₀ L h l → News h₀ L h' (g o' q')
  | _, _, .both hr, N => fun p hp => by
    rcases List.mem_cons.mp hp with rfl | hp
    · exact ⟨hd, (N _ (.head _)).2⟩
    rcases List.mem_cons.mp hp with rfl | hp
    · exact ⟨he, (N _ (.tail _ (.head _))).2⟩
    · have := N p (.tail _ (.tail _ hp))
      exact ⟨hk _ _ this.1 (hr p hp).1 (hr p hp).2, this.2⟩
  | _, _, .tail hp r, N => fun p hm => by
    rcases List.mem_cons.mp hm with rfl | hm
    · exact ⟨hk _ _ (N _ (.head _)).1 hp.1 hp.2, (N _ (.head _)).2⟩
    · exact Upd2.put hd he hk r (fun x hx => N x (.tail _ hx)) p hm
section
variable {w : World} {A : Around} {E : Value → Shared → Prop} {s : Shared} {h₀ : Heap} {L l : Addr} {news : List (Addr × Obj)} {xs : List Value} {n : Nat} {r : Int} {t : Tok} {value slice : PySem.Expr} {Q : Value → Shared → Prop}
/-- an item of a written list at a place that is not known: one of its items -/
theorem ls_item (N : News h₀ L s.heap news) (hm : (l, ({ cls := .type "list", data := .seq xs.toArray n } : Obj)) ∈ news) (h0 : 0 ≤ r) (h1 : r < (xs.length : Int)) (h2 : xs.length ≤ 1000) (h : ∀ v k', v ∈ xs → Q v { s with toks := k' })
    (hs : subscripted slice false (.ref l) (.int r t) = operate [.ref l, .int r t] (getItem (.ref l) (.int r t)) := by with_unfolding_all rfl) :
    wpAny (model PR w) A (subscriptTail value slice (.ref l) (.int r t)) Q E s := by
  have hl : s.heap.IsList l xs.toArray := ⟨_, (N _ hm).1, rfl, n, rfl⟩
  have hlt : r.toNat < xs.length := by omega
  have hx : xs.toArray[r.toNat]? = some xs[r.toNat] := by simp [hlt]
  exact tail_any hl.typeIs slot_list_getitem.lookup (wpAny_getItem_list hl h0 (by omega) hx (h _ s.toks (List.getElem_mem hlt))) hs
theorem ls_bytes (k : Nat) (N : News h₀ L s.heap news) (hm : (l, ({ cls := .type "list", data := .seq xs.toArray n } : Obj)) ∈ news) (h0 : 0 ≤ r) (h1 : r < (xs.length : Int)) (h2 : xs.length ≤ 1000) (ha : ∀ v ∈ xs, ∃ b t, v = .bytes b t ∧ b.size ≤ k) (h : ∀ b t k', b.size ≤ k → Q (.bytes b t) { s with toks := k' })
    (hs : subscripted slice false (.ref l) (.int r t) = operate [.ref l, .int r t] (getItem (.ref l) (.int r t)) := by with_unfolding_all rfl) :
    wpAny (model PR w) A (subscriptTail value slice (.ref l) (.int r t)) Q E s :=
  ls_item N hm h0 h1 h2 (fun v k' hv => by obtain ⟨b, t, rfl, hb⟩ := ha v hv; exact h b t k' hb) hs
theorem ls_ints (lo hi : Int) (N : News h₀ L s.heap news) (hm : (l, ({ cls := .type "list", data := .seq xs.toArray n } : Obj)) ∈ news) (h0 : 0 ≤ r) (h1 : r < (xs.length : Int)) (h2 : xs.length ≤ 1000) (ha : ∀ v ∈ xs, ∃ i t, v = .int i t ∧ lo ≤ i ∧ i ≤ hi) (h : ∀ i t k', lo ≤ i → i ≤ hi → Q (.int i t) { s with toks := k' })
    (hs : subscripted slice false (.ref l) (.int r t) = operate [.ref l, .int r t] (getItem (.ref l) (.int r t)) := by with_unfolding_all rfl) :
    wpAny (model PR w) A (subscriptTail value slice (.ref l) (.int r t)) Q E s :=
  ls_item N hm h0 h1 h2 (fun v k' hv => by obtain ⟨b, t, rfl, hb, hb'⟩ := ha v hv; exact h b t k' hb hb') hs
theorem mul_bytes {b : List UInt8} {i : Int} {t u : Tok} (hb : b ≠ []) (h0 : 0 ≤ i) (h1 : i ≤ 1000) (hs : b.length ≤ 16) (h : ∀ c t' k', c.size = b.length * i.toNat → Q (.bytes c t') { s with toks := k' }) :
    wpAny (model PR w) A (binaryOp .Mult (.bytes b.toArray t) (.int i u)) Q E s := by
  refine bytes_mul_any hb (by omega) (by omega) hs fun t' k' => h _ t' k' ?_
  simp [List.length_flatten, Nat.mul_comm]
end
end Mine

end
noncomputable section
open PySem PySem.W PySem.Calls PyProof.Rows
set_option Elab.async false
set_option maxRecDepth 100000
namespace Mine
/-- the sorts of entries -/
noncomputable def sorts : List (List UInt8 × Int) := [([99, 111, 109, 109, 105, 116], 1), ([116, 114, 101, 101], 2), ([98, 108, 111, 98], 3), ([116, 97, 103], 4)]
section
variable {w : World} {A : Around} {E : Value → Shared → Prop} {s : Shared} {h₀ : Heap} {L : Addr} {m : Str → Option Value} {news : List (Addr × Obj)} {env : Env} {p1 p2 p3 p4 q1 q2 q3 q4 pos : Pos} {k1 k2 k3 k4 j1 j2 j3 j4 : Nat}
theorem Constant_int' {M : Model} {x : Int} {k pos} {Q : Value → Shared → Prop} (h : Q (.int x s.toks) { s with toks := s.toks + 1 }) : wpAny M A (eval (.Constant (.int x) k pos) env) Q E s := wpAny_Constant_int h
theorem pair_const {k1 j1 : Nat} {b : List UInt8} {i : Int} {rest : List (Sem Value × Sem Value)} {Q : List (Value × Value) → Shared → Prop} (h : ∀ t u k', wpAny (model PR w) A (evalPairs rest) (fun vs s₃ => Q ((.bytes b.toArray t, .int i u) :: vs) s₃) E { s with toks := k' }) :
    wpAny (model PR w) A (evalPairs ((eval (.Constant (.bytes b) k1 p1) env, do let x ← eval (.Constant (.int i) j1 q1) env; standAt pos; pure x) :: rest)) Q E s :=
  evalPairs_cons (Constant_bytes (wpAny_bind (wpAny_Constant_int (wpAny_bind (wpAny_standAt (wpAny_pure (h _ _ _)))))))
theorem sorts_display {Q : Value → Shared → Prop} (F : Fr h₀ L s.heap m) (N : News h₀ L s.heap news) (hbig : h₀.NoLimit)
    (h : ∀ d h' o' k', Fr h₀ L h' m → News h₀ L h' ((d, o') :: news) → (∀ p ∈ news, p.1 < d) → Pl w d o' sorts → Q (.ref d) { s with heap := h', toks := k' }) :
    wpAny (model PR w) A (eval (.Dict [some (.Constant (.bytes [99, 111, 109, 109, 105, 116]) k1 p1), some (.Constant (.bytes [116, 114, 101, 101]) k2 p2), some (.Constant (.bytes [98, 108, 111, 98]) k3 p3), some (.Constant (.bytes [116, 97, 103]) k4 p4)]
      [.Constant (.int 1) j1 q1, .Constant (.int 2) j2 q2, .Constant (.int 3) j3 q3, .Constant (.int 4) j4 q4] pos) env) Q E s := by
  refine di_display (bytesKind PR w) (pairs := [(eval (.Constant (.bytes [99, 111, 109, 109, 105, 116]) k1 p1) env, do let x ← eval (.Constant (.int 1) j1 q1) env; standAt pos; pure x), (eval (.Constant (.bytes [116, 114, 101, 101]) k2 p2) env, do let x ← eval (.Constant (.int 2) j2 q2) env; standAt pos; pure x),
    (eval (.Constant (.bytes [98, 108, 111, 98]) k3 p3) env, do let x ← eval (.Constant (.int 3) j3 q3) env; standAt pos; pure x), (eval (.Constant (.bytes [116, 97, 103]) k4 p4) env, do let x ← eval (.Constant (.int 4) j4 q4) env; standAt pos; pure x)]) F N hbig rfl (by simp) (by simp) fun d h' F' N' l1 lo => ?_
  refine pair_const fun t1 u1 k1 => pair_const fun t2 u2 k2 => pair_const fun t3 u3 k3 => pair_const fun t4 u4 k4 => evalPairs_nil ?_
  refine ⟨news, m, [([99, 111, 109, 109, 105, 116], .int 1 u1), ([116, 114, 101, 101], .int 2 u2), ([98, 108, 111, 98], .int 3 u3), ([116, 97, 103], .int 4 u4)], F', N', fun p hp => Nat.ne_of_lt (l1 p hp), ?_, fun h'' o' k' F2 N2 D => h d h'' o' k' F2 N2 l1 ⟨_, D, ?_⟩⟩
  · exact ⟨bk_is _ _, rfl, bk_is _ _, rfl, bk_is _ _, rfl, bk_is _ _, rfl, trivial⟩
  · exact ⟨rfl, ⟨u1, rfl⟩, rfl, ⟨u2, rfl⟩, rfl, ⟨u3, rfl⟩, rfl, ⟨u4, rfl⟩, trivial⟩
end
/-- the places are counted within the pack -/
noncomputable def PlOk (pl : List (List UInt8 × Int)) (len : Int) : Prop := pl.length ≤ 100 ∧ ∀ p ∈ pl, 0 ≤ p.2 ∧ p.2 ≤ len
theorem PlOk.at {pl : List (List UInt8 × Int)} {len n : Int} {k : List UInt8} (h : PlOk pl len) (e : plAt pl k = some n) : 0 ≤ n ∧ n ≤ len := h.2 _ (plAt_in e)
theorem sorts_ok {k : List UInt8} {n : Int} (h : plAt sorts k = some n) : 1 ≤ n ∧ n ≤ 7 := by
  have := plAt_in h
  simp only [sorts, List.mem_cons, Prod.mk.injEq, List.not_mem_nil, or_false] at this
  omega
end Mine

end
noncomputable section
open PySem PySem.W PySem.Calls PyProof.Rows
open PySem.Sem (wp)
set_option Elab.async false
set_option maxRecDepth 100000
namespace Mine
noncomputable abbrev bmE : List Value := [.type "Exception", .type "BaseException", .type "object"]
noncomputable abbrev bmG : List Value := [.ref 39, .type "Exception", .type "BaseException", .type "object"]
theorem bmG_has (x : String) : bmG.contains (.type x) = bmE.contains (.type x) := by
  show ([Value.ref 39, .type "Exception", .type "BaseException", .type "object"]).contains (.type x) = _
  rw [List.contains_cons]; rfl
section
variable {M : Model} {A : Around} {E : Value → Shared → Prop} {h : Heap} {g : Array GenState} {d : Drawn} {t : Nat} {os : OsState}
variable {nm q : Str} {C N : Addr} {bs : List Value} {hdct : Bool} {sn : List Str} {sub : List Value} {ab : Bool} {col : Option Bool} {dd : Option Addr} {k0 k1 k2 k3 k5 : Option Value}
theorem exc_check_new {rest : List Value} {Q : Unit → Shared → Prop} (hC : h.get? C = some (excClassObj nm q C N bs bmG hdct sn sub ab col dd k0 k1 k2 k3 k5 "Exception.__new__"))
    (hq : Q () ⟨h, g, d, t, os⟩) : wpAny M A (checkBuiltinCall "Exception.__new__" ⟨.ref C :: rest, []⟩) Q E ⟨h, g, d, t, os⟩ := by
  have F := PySem.F.excBase_Exception
  have hcont : (Value.ref C :: bmG).contains (.type "Exception") = true := by rw [List.contains_cons, bmG_has, F.hasB, Bool.or_true]
  have hstar := F.noStar
  simp only [checkBuiltinCall, F.newKind, F.newSplit, F.newRow]
  repeat (first | refine wpAny_loadPart_at hC ?_ | (refine wpAny_isSubtype_exc hC ?_; rw [hcont]) | refine wpAny_staticBase_exc hC ?_ | refine wpAny_madeBy_exc hC ?_ | simp only [bne_self_eq_false, Bool.false_eq_true, if_false] | wp_step)
  exact hq
end
section
variable {prog : Program} {w : World} {A : Around} {E : Value → Shared → Prop} {R : Result → Shared → Prop} {h : Heap} {g : Array GenState} {d : Drawn} {t : Nat} {os : OsState}
variable {nm q : Str} {C N : Addr} {bs : List Value} {hdct : Bool} {sn : List Str} {sub : List Value} {ab : Bool} {col : Option Bool} {dd : Option Addr} {k0 k1 k2 k3 k5 : Option Value}
theorem exc_new {rest : List Value} (hC : h.get? C = some (excClassObj nm q C N bs bmG hdct sn sub ab col dd k0 k1 k2 k3 k5 "Exception.__new__")) (hrest : rest.length ≤ sizeLine)
    (hq : R (.ok (.ret (.ref (h.objs.size + 1)))) ⟨(h.push { cls := .type "tuple", data := .seq rest.toArray }).push
      { cls := .ref C, data := .fields #[.ref h.objs.size, .none, .none, .none, .bool false, .none] }, g, d, t, os⟩) :
    codeAny (model prog w) A (.builtin "Exception.__new__" ⟨.ref C :: rest, []⟩) R ⟨h, g, d, t, os⟩ := by
  have F := PySem.F.excBase_Exception
  have hends := F.ends
  have hcB : (Value.ref C :: bmG).contains (.type "Exception") = true := by rw [List.contains_cons, bmG_has, F.hasB, Bool.or_true]
  have hcA : (Value.ref C :: bmG).contains (.type "AttributeError") = false := by rw [List.contains_cons, bmG_has, F.noAttr]; rfl
  have hcN : (Value.ref C :: bmG).contains (.type "NameError") = false := by rw [List.contains_cons, bmG_has, F.noName]; rfl
  refine codeAny_builtinAt F.entry ?_
  unfold Builtin.«BaseException.__new__»
  refine PySem.wpAt_bind ?_
  show PySem.wpAt _ _ _ (stack >>= _) _ _ _
  refine PySem.wpAt_bind (PySem.wpAt_stack fun p below => PySem.wpAt_of_wpAny ?_)
  wp_walk
  refine PySem.wpAt_of_wpAny ?_
  rw [F.owner]
  repeat (first | with_reducible refine wpAny_madeHere_exc F.canon hC ?_ | with_reducible refine wpAny_loadPart_at hC ?_ | (with_reducible refine wpAny_isSubtype_exc hC ?_; first | rw [hcB] | rw [hcA] | rw [hcN]) | wp_step)
  show R _ _
  rw [Heap.size_push]
  exact hq
theorem exc_type_call {rest : List Value} {fI : Addr} {oI : Obj} {Q : Fin → Shared → Prop}
    (hC : h.get? C = some (excClassObj nm q C N bs bmG hdct sn sub ab col dd k0 k1 k2 k3 k5 "Exception.__new__")) (hi : Looks (model prog w) h (typeLookup (.ref C) "__init__") (some (.ref fI)))
    (hfI : h.get? fI = some oI) (hfc : oI.cls = .type "function") (hrest : rest.length ≤ sizeLine)
    (hq : ∀ h' e, Heap.MadeExcOf h h' e (.ref C) rest →
      wpAny (model prog w) A (call (.ref fI) (.ref e :: rest)) (fun r s' => r = .none ∧ Q (.done (.ret (.ref e))) s') E ⟨h', g, d, t, os⟩) :
    wpAny (model prog w) A (Builtin.«type.__call__» ⟨.ref C :: rest, []⟩) Q E ⟨h, g, d, t, os⟩ := by
  repeat (first | with_reducible refine wpAny_loadPart_at hC ?_ | with_reducible refine wpAny_madeBy_exc hC ?_ | wp_step)
  refine codeAny_call_builtin_code (Code.quiet_builtin _ PySem.F.excBase_Exception.quiet) (exc_check_new hC ?_)
  refine exc_new hC hrest ?_
  show wpAny _ _ _ _ _ _
  generalize hh₁ : (h.push { cls := .type "tuple", data := .seq rest.toArray }).push { cls := .ref C, data := .fields #[.ref h.objs.size, .none, .none, .none, .bool false, .none] } = h₁
  have kp : ∀ b o, h.get? b = some o → h₁.get? b = some o := fun b o e => by rw [← hh₁]; exact Heap.get?_push_of_some _ (Heap.get?_push_of_some _ e)
  have hC₁ := kp _ _ hC
  have hfI₁ := kp _ _ hfI
  have hi₁ := hi.keeps kp
  have hget : h₁.get? (h.objs.size + 1) = some { cls := .ref C, data := .fields #[.ref h.objs.size, .none, .none, .none, .bool false, .none] } := by rw [← hh₁]; heap_get
  have htup : h₁.get? h.objs.size = some { cls := .type "tuple", data := .seq rest.toArray } := by rw [← hh₁]; exact Heap.get?_push_of_some _ (Heap.get?_push_at rfl rfl)
  have hcC : (Value.ref C :: bmG).contains (.ref C) = true := by simp
  unfold isInstance
  repeat (first | with_reducible refine wpAny_loadPart_at hget ?_ | (with_reducible refine wpAny_isSubtype_exc hC₁ ?_; rw [hcC]) | wp_step)
  show wpAny _ _ (typeLookup (.ref C) _) _ _ _
  refine hi₁.here ?_
  refine wpAny_holding (wpAny_bind ?_)
  unfold bindSpecial
  refine wpAny_bind (wpAny_typeOf (T := "function") ⟨_, hfI₁, hfc⟩ ?_)
  rw [if_pos (by decide)]
  refine wpAny_pure (wpAny_bind (wpAny_mono (hq _ (h.objs.size + 1) ⟨kp, Heap.get?_none_of_le (Nat.le_succ _), h.objs.size, hget, Heap.get?_none_of_le (Nat.le_refl _), htup⟩) (fun r s' hr => ?_) fun _ _ x => x))
  obtain ⟨rfl, hQ⟩ := hr
  wp_walk
  exact hQ
theorem exc_call {rest : List Value} {fI : Addr} {oI : Obj} {Q : Value → Shared → Prop}
    (hC : h.get? C = some (excClassObj nm q C N bs bmG hdct sn sub ab col dd k0 k1 k2 k3 k5 "Exception.__new__")) (hi : Looks (model prog w) h (typeLookup (.ref C) "__init__") (some (.ref fI)))
    (hfI : h.get? fI = some oI) (hfc : oI.cls = .type "function") (hrest : rest.length ≤ sizeLine)
    (hq : ∀ h' e, Heap.MadeExcOf h h' e (.ref C) rest →
      wpAny (model prog w) (A.under (.builtin "type.__call__" ⟨.ref C :: rest, []⟩)) (call (.ref fI) (.ref e :: rest)) (fun r s' => r = .none ∧ Q (.ref e) s') E ⟨h', g, d, t, os⟩) :
    wpAny (model prog w) A (call (.ref C) rest) Q E ⟨h, g, d, t, os⟩ := by
  have f1 := tc_lookup
  have f2 := tc_bind (.ref C)
  have hT : (⟨h, g, d, t, os⟩ : Shared).TypeIs (.ref C) "type" := ⟨_, hC, rfl⟩
  refine wpAny_call (codeAny_of_tree ?_)
  show wpAny _ _ (callAny (.ref C) _) _ _ _
  repeat (any_goals (first | assumption | with_reducible refine wpAny_loadPart_at hC ?_ | wp_step))
  refine ⟨rfl, ?_⟩
  refine codeAny_call_builtin_at (Code.quiet_builtin _ (by decide +kernel)) entry_typeCall (wpAny_check_type_call_sub hC (exc_type_call hC hi hfI hfc hrest fun h' e hm => ?_))
  exact hq h' e hm
end
end Mine

end
noncomputable section
open PySem PySem.W PySem.Calls PyProof.Rows
open PySem.Sem (wp)
open Builtin Builtin.ObjectAttr
set_option Elab.async false
set_option maxRecDepth 100000
namespace Mine
section
variable {prog : Program} {w : World} {A : Around} {E : Value → Shared → Prop} {h : Heap} {g : Array GenState} {d : Drawn} {t : Nat} {os : OsState}
variable {nm q : Str} {C N x : Addr} {bs : List Value} {sn : List Str} {sub : List Value} {ab : Bool} {col : Option Bool} {dd : Option Addr} {k0 k1 k2 k3 k5 : Option Value} {name : Str} {v : Value}
/-- a first store on an object without a dict: the dict is made -/
theorem exc_store_entry {tk : Tok} {Q : Fin → Shared → Prop} {o : Obj}
    (hC : h.get? C = some (excClassObj nm q C N bs bmG true sn sub ab col dd k0 k1 k2 k3 k5 "Exception.__new__")) (hn : Looks (model prog w) h (typeLookup (.ref C) name) none)
    (hx : h.get? x = some o) (hc : o.cls = .ref C) (hnc : ∀ c, o.data ≠ .cls c) (hdn : o.dict = none)
    (hq : ∀ h' tk' dx, (∀ b o, b ≠ x → h.get? b = some o → h'.get? b = some o) → h'.get? x = some { cls := o.cls, dict := some dx, data := o.data, slots := o.slots } → Q (.done (.ret .none)) ⟨h', g, d, tk', os⟩) :
    wpAny (model prog w) A (Builtin.«object.__setattr__» ⟨[.ref x, .str name tk, v], []⟩) Q E ⟨h, g, d, t, os⟩ := by
  have hpass := PySem.F.store_Exception.passes (.ref x)
  unfold Builtin.«object.__setattr__»
  repeat (first | rw [refuse_eq] | (rw [refuseLoop_ref, refuseLoop_ref, hpass]) | (with_reducible refine wpAny_loadPart_at hx ?_; rw [hc]) | with_reducible refine wpAny_mroOf_exc hC ?_ | (with_reducible refine hn.here ?_) | wp_step)
  rw [hdn, if_neg (by simp [typeHasDict])]
  split
  · rename_i hcd
    cases hcd
  split
  · rename_i c hcd
    exact absurd hcd (hnc c)
  have hx₁ : (h.push { cls := .type "dict", data := .dict #[] }).get? x = some o := Heap.get?_push_of_some _ hx
  have hxs : x ≠ h.objs.size := Nat.ne_of_lt (Heap.lt_size hx)
  refine wpAny_bind (wpAny_alloc' ?_)
  refine wpAny_bind (wpAny_update' hx₁ ?_)
  refine wpAny_pure ?_
  have hgd : ((h.push { cls := .type "dict", data := .dict #[] }).update x fun o => { cls := o.cls, dict := some h.objs.size, data := o.data, slots := o.slots }).get? h.objs.size
      = some { cls := .type "dict", data := .dict #[] } :=
    (Heap.get?_update_ne _ _ _ _ hxs.symm).trans (Heap.get?_push_at rfl rfl)
  have hnd : ((h.push { cls := .type "dict", data := .dict #[] }).update x fun o => { cls := o.cls, dict := some h.objs.size, data := o.data, slots := o.slots }).Ns h.objs.size (fun _ => none) :=
    ⟨_, #[], _, hgd, rfl, fun e he => absurd he (by simp), fun _ => rfl⟩
  show wpAny _ _ (storeInDict h.objs.size (.str name tk) name v) _ _ _
  unfold storeInDict newKeyGuard
  refine wpAny_bind (wpAny_pure (wpAny_bind (wpAny_nsSet1 (Heap.Ns1.of_empty hnd) fun h' hn' hs => ?_)))
  obtain ⟨oD, esD, epD, hoD, hdD, hcD⟩ := hn'.count (Within.cons name v Within.nil)
  refine wpAny_bind (wpAny_lookBehind hoD (by rw [hdD]; exact pastItsLine_dict (Nat.le_trans hcD (by rw [List.length_cons, List.length_nil, sizeLine_eq]; omega))) ?_)
  wp_walk
  refine hq h' _ h.objs.size (fun b ob hbx hb => ?_) ?_
  · exact (hs.2 b (Nat.ne_of_lt (Heap.lt_size hb))).trans ((Heap.get?_update_ne _ _ _ _ hbx).trans (Heap.get?_push_of_some _ hb))
  · refine (hs.2 x hxs).trans (Heap.get?_update_self _ hx₁ ?_)
    have hfr := (Heap.get?_some_iff.mp hx).2
    obtain ⟨oc, od, odt, osl⟩ := o
    cases odt <;> first | rfl | exact hfr
theorem exc_check_sa {M : Model} {o : Obj} {nameV : Value} {Q : Unit → Shared → Prop}
    (hC : h.get? C = some (excClassObj nm q C N bs bmG true sn sub ab col dd k0 k1 k2 k3 k5 "Exception.__new__")) (hx : h.get? x = some o) (hc : o.cls = .ref C) (hq : Q () ⟨h, g, d, t, os⟩) :
    wpAny M A (checkBuiltinCall "object.__setattr__" ⟨[.ref x, nameV, v], []⟩) Q E ⟨h, g, d, t, os⟩ := by
  have SF := PySem.F.store_Exception
  have hcB : (Value.ref C :: bmG).contains (.type "object") = true := by rw [List.contains_cons, bmG_has, SF.hasOwner, Bool.or_true]
  simp only [checkBuiltinCall, SF.kind, SF.split]
  refine wpAny_bind ?_
  · unfold isInstance
    repeat (first | (with_reducible refine wpAny_loadPart_at hx ?_; rw [hc]) | (with_reducible refine wpAny_isSubtype_exc hC ?_; rw [hcB]) | wp_step)
    exact hq
theorem exc_setattr {Q : Unit → Shared → Prop} {o : Obj}
    (hC : h.get? C = some (excClassObj nm q C N bs bmG true sn sub ab col dd k0 k1 k2 k3 k5 "Exception.__new__")) (hs : Looks (model prog w) h (typeLookup (.ref C) "__setattr__") (some (.builtin "object.__setattr__"))) (hn : Looks (model prog w) h (typeLookup (.ref C) name) none)
    (hx : h.get? x = some o) (hc : o.cls = .ref C) (hnc : ∀ c, o.data ≠ .cls c) (hdn : o.dict = none)
    (hq : ∀ h' tk' dx, (∀ b o, b ≠ x → h.get? b = some o → h'.get? b = some o) → h'.get? x = some { cls := o.cls, dict := some dx, data := o.data, slots := o.slots } → Q () ⟨h', g, d, tk', os⟩) :
    wpAny (model prog w) A (setAttr (.ref x) name v) Q E ⟨h, g, d, t, os⟩ := by
  have SF := PySem.F.store_Exception
  have f3 := SF.slot.bind (.ref x)
  have key : ∀ {R : Result → Shared → Prop} {tk t}, (∀ h' tk' dx, (∀ b o, b ≠ x → h.get? b = some o → h'.get? b = some o) → h'.get? x = some { cls := o.cls, dict := some dx, data := o.data, slots := o.slots } → R (.ok (.ret .none)) ⟨h', g, d, tk', os⟩) →
      codeAny (model prog w) A (.call (.builtin "object.__setattr__") ⟨[.ref x, .str name tk, v], []⟩) R ⟨h, g, d, t, os⟩ := fun hR =>
    codeAny_call_builtin SF.slot.plain SF.entry (exc_check_sa hC hx hc (exc_store_entry hC hn hx hc hnc hdn hR))
  unfold setAttr callSpecial? specialOf
  repeat (any_goals (first | assumption | (with_reducible refine wpAny_loadPart_at hx ?_; rw [hc]) | (with_reducible refine hs.here ?_) | wp_step))
  refine key fun h' tk' dx hk hsame => ?_
  repeat (any_goals (first | assumption | wp_step))
  exact hq h' tk' dx hk hsame
end
end Mine

end
section
open PySem PySem.W PySem.Calls PyProof.Rows
namespace Mine
set_option compiler.extract_closed false
local macro_rules | `(tactic| k_room) => `(tactic| ktr_room)
local macro_rules | `(tactic| k_units) => `(tactic| ktr_units)
local macro_rules | `(tactic| k_lt $h) => `(tactic| (replace $h:ident := allLt_of $h; simp only [AllLt, and_true] at $h:ident; repeat (have hl9 := And.left $h; replace $h:ident := And.right $h)))
local macro_rules | `(tactic| walk_at "MINE_BF") => `(tactic| first | exact .d | exact .f | exact .i at0 | exact .i at1 | exact .i at2 | exact .i at3 | exact .i at4 | exact .i at5 | exact .i at6 | exact .i at7 | exact .i at8 | exact .i at9 | exact .i at10 | exact .i at11 | exact .i at12 | exact .i at13 | exact .i at14 | exact .i at15)
local macro_rules | `(tactic| walk_at "MINE_CJ") => `(tactic| first | exact id | exact Ne.symm | (refine cjL ?_; walk_at "MINE_CJ") | (refine cjR ?_; walk_at "MINE_CJ"))
local macro_rules | `(tactic| walk_at "MINE_CJS") => `(tactic| (rename _ ∧ _ => hc; first | (revert hc; walk_at "MINE_CJ") | (clear hc; walk_at "MINE_CJS")))
local macro_rules | `(tactic| walk_at "MINE_NE0") => `(tactic| first | (with_reducible first | assumption | exact Ne.symm (by assumption) | exact Nat.ne_of_lt (by assumption) | exact Nat.ne_of_gt (by assumption) | (refine' ord_ne ?h ?a ?b ?c; (case h => assumption); (case a => walk_at "MINE_BF"); (case b => walk_at "MINE_BF"); (case c => decide)) | walk_at "MINE_CJS") | omega | (simp_all; done))
local macro_rules | `(tactic| k_ne) => `(tactic| (refine neN ?_; (try dsimp only); walk_at "MINE_NE0"))
local macro_rules | `(tactic| walk_at "MINE_FOLD") => `(tactic| first | k_fold | ((with_reducible show wpAny _ _ _ _ _ _); k_fold) | skip)
local macro_rules | `(tactic| walk_at "MINE_AGREE") => `(tactic| exact agree_end (by assumption) (by assumption))
local macro_rules | `(tactic| walk_at "MINE_USE0") => `(tactic| ((case k1 => k_asm); (case k2 => k_asm); (case k3 => k_asm); (case k4 => k_asm); (case k5 => k_asm); (case kK => first | exact rfl | assumption); (case kd => ktr_room); (case ku => ktr_units)))
local macro_rules | `(tactic| walk_at "MINE_NE1") => `(tactic| (refine ⟨neN ?_, neN ?_⟩ <;> (try dsimp only) <;> walk_at "MINE_NE0"))
local macro_rules | `(tactic| walk_at "MINE_NE2") => `(tactic| first | exact List.forall_mem_nil _ | (refine fa2 ?_ ?_; (· walk_at "MINE_NE1"); (· walk_at "MINE_NE2")))
local macro_rules | `(tactic| k_all) => `(tactic| first | exact List.forall_mem_nil _ | (refine fa2 ?_ ?_; (· k_ne); (· k_all)))
local macro_rules | `(tactic| walk_at "MINE_UPD2") => `(tactic| first | (refine' Upd2.both ?a; (case a => walk_at "MINE_NE2")) | (refine' Upd2.tail ?a ?b; (case a => walk_at "MINE_NE1"); (case b => walk_at "MINE_UPD2")))
theorem walk_reset0 : True ∧ True := by first | (walk1 <;> trivial) | exact ⟨trivial, trivial⟩
section
open PySem PySem.W PySem.Calls PyProof.Rows
set_option Elab.async false
set_option maxRecDepth 100000
/-- a size's pieces: one or two -/
theorem use_pc {w : World} {c n : Int} {args : List Value} {d u : Nat} (H : Sp w 244 args [] d u (fun g v h2 => PcPost c n g v h2))
    {p : Program} {loose : List Str} {mean : ExcName → Option Value} {mg mb : Str → Option Value} {dp un : Nat} {gd : Option (List Code)} {cn : Str} {cs : Scope} {a : Addr} {ccd : Value} {cl : List (Str × Addr)} {outer : List Env} {A₀ : Around} {base h₀ : Heap} {L : Addr} {m : Str → Option Value} {s : Shared} {Q E : Value → Shared → Prop} {news : List (Addr × Obj)}
    (B : Below A₀ base outer h₀) (F : Fr h₀ L s.heap m) (X : (KF w.params).In h₀) (N : News h₀ L s.heap news) (T : Top p loose mean mg mb h₀) (hk : cs.kind = .function) (hd : dp + d < recursionLimit) (hu : un + u < cLine)
    (k1 : ∀ l k t1 (_ : Tok) h' tk', n / c = 0 → Fr h₀ L h' m → News h₀ L h' ((l, listOf #[.int (n % c) t1] k) :: news) → (∀ q ∈ news, q.1 ≠ l) → Q (.ref l) { s with heap := h', toks := tk' })
    (k2 : ∀ l k t1 t2 h' tk', 0 < n / c → Fr h₀ L h' m → News h₀ L h' ((l, listOf #[.int (n % c) t1, .int (n / c % 128) t2] k) :: news) → (∀ q ∈ news, q.1 ≠ l) → Q (.ref l) { s with heap := h', toks := tk' }) :
    wpAny (model PR w) (ktrTop dp un gd cn cs L a ccd cl outer) (call (.ref 244) args) Q E s :=
  use H B F X N T hk hd hu _ (List.forall_mem_nil _) (fun q hq => ⟨hq, List.not_mem_nil⟩) fun v' h' tk' F' N' hne hput hP => by
    obtain ⟨l', k', rfl, hl, hP⟩ := hP
    rcases hP with ⟨hB, t1', hg⟩ | ⟨hB, t1', t2', hg⟩
    · exact k1 _ _ _ t1' _ _ hB F' (hput l' _ _ (.inr hl) hg N') (hne l' hl)
    · exact k2 _ _ _ _ _ _ hB F' (hput l' _ _ (.inr hl) hg N') (hne l' hl)

set_option maxHeartbeats 1000000 in
theorem c_put_size (w : World) (n : Int) (t : Tok) (h0 : 0 ≤ n) (h1 : n < 16384) : Sp w 73 [.int n t] [] 1 8 (fun _ v _ => ∃ b tk, v = .bytes b tk ∧ b = byteArr (sz n) ∧ b.size ≤ 2) := by
  have hfill : Fill PySem.Challenge.rw_pb0104_01 KF := by k_fill; trivial
  unfold Sp
  intro p loose mean mg mb dp un gd cn cs a ccd cl outer A₀ base h₀ L m s Q E B F X N T hk hd hu hret
  (refine wpAny_call ?_; k_dflt (refine' enter ?k1 ?k2 ?k3 ?k4 ?k5 ?kA ?kF ?kK ?k6 ?k7 ?k8 ?k9 ?kB ?_ ?c2 ?c3 ?c4 ?c5; (case kA => exact rfl); (case kF => exact rfl); (case kK => assumption); (case k1 => k_asm); (case k2 => k_asm); (case k3 => k_asm); (case k4 => k_asm); (case k5 => k_asm); (case k6 => k_is); (case k7 => k_is); (case k8 => ktr_room); (case k9 => first | exact BindsTo.of_eq rfl | exact binds_K (by k_in) rfl (by k_is) rfl rfl rfl); (case c5 => decide); (case kB => exact locs rfl); (case c2 => exact rfl); (case c3 => exact rfl); (case c4 => exact rfl); k_whole; intro g' L' h' tk' hG' FG' F' N' B' X' T' l1'; (try k_lt l1'); (try dsimp only); walk_at "MINE_FOLD"))
  (repeat' (first | (k_unfold; (try dsimp only)) | (k_end; wrow_close) | ((with_reducible show wpAny _ _ _ _ _ _); first | (with_reducible (first | ((with_reducible show wpAny _ _ (subscriptTail _ _ (Value.ref _) (Value.str _ _)) _ _ _); k_dflt (refine' di_tailS (knd := strKind PR _) ?N ?m ?D (strKind_is _ _ _ _) ?v ?_; (case N => k_asm); (case m => k_mem); (case D => assumption); (case v => exact rfl)); intro _) | ((with_reducible show wpAny _ _ (call (Value.builtin "len") [Value.ref _]) _ _ _); k_dflt (refine' len_seq ?N ?m ?z ?_; (case N => k_asm); (case m => k_mem); (case z => omega)); intro _ _) | ((with_reducible show wpAny _ _ (call (Value.type _) [Value.bytes _ _]) _ _ _); refine call_bytes_bytes ?_) | ((with_reducible show wpAny _ _ (call (Value.builtin "len") [Value.ref _]) _ _ _); k_dflt (refine' pl_len ?N ?m ?D ?z ?_; (case N => k_asm); (case m => k_mem); (case D => assumption); (case z => omega)); intro _ _) | ((with_reducible show wpAny _ _ (subscriptTail _ _ (Value.ref _) (Value.bytes _ _)) _ _ _); k_dflt (refine' pl_tailS ?N ?m ?D ?v ?_; (case N => k_asm); (case m => k_mem); (case D => assumption); (case v => first | assumption | exact plAt_snoc_some _ _ _ | (simp_all; done))); intro n8 t8 k8 hn8; (try (have hb8 := PlOk.at (by assumption) hn8; obtain ⟨hb8a, hb8b⟩ := hb8))) | ((with_reducible show wpAny _ _ (binaryOp Operator.Pow (Value.int _ _) (Value.int _ _)) _ _ _); refine pow_ii (c := 16) (by decide) (by decide +kernel) (by decide) ?_) | ((with_reducible show wpAny _ _ (binaryOp Operator.Pow (Value.int _ _) (Value.int _ _)) _ _ _); refine pow_ii (c := 128) (by decide) (by decide +kernel) (by decide) ?_) | ((with_reducible show wpAny _ _ (call (Value.builtin "len") [Value.bytes _ _]) _ _ _); (refine len_bytes (by (try simp only [Array.size_append]); omega) ?_)) | ((with_reducible show wpAny _ _ (binaryOp Operator.Add (Value.bytes _ _) (Value.bytes _ _)) _ _ _); refine KBy.add_bytes (by first | omega | (simp only [Array.size_append]; omega) | ((try simp only [Array.size_append, List.size_toArray, List.length_map, List.length_cons, List.length_nil, byteArr_size, List.length_append, Array.length_toList]); omega)) ?_; intro _ _) | ((with_reducible show wpAny _ _ (call (Value.type _) [Value.ref _]) _ _ _); k_dflt (refine' bytes_K ?F ?N ?l ?i ?r ?z ?h ?_; (case F => k_asm); (case N => k_asm); (case l => is_list); (case i => first | l_ints | l_intsW); (case r => first | by_in | ((simp only [Int.reduceToNat, List.getD_cons_zero, List.getD_cons_succ]); by_in)); (case z => first | size_fits | (rw [sizeLine_eq]; simp)); (case h => with_unfolding_all rfl); k_whole); intro h' t' k' F' N' hB'; (clear hB'); (try k_sweep)) | ((with_reducible show wpAny _ _ (binaryOp Operator.Mod (Value.int _ _) (Value.int _ _)) _ _ _); refine fmod_ii (by decide) ?_) | ((with_reducible show wpAny _ _ (binaryOp Operator.FloorDiv (Value.int _ _) (Value.int _ _)) _ _ _); refine fdiv_ii (by decide) (by decide) ?_) | ((with_reducible show wpAny _ _ (binaryOp Operator.BitOr (Value.int _ _) (Value.int _ _)) _ _ _); refine or_iir 7 1 (by omega) (by omega) (by decide) ?_) | ((with_reducible show wpAny _ _ (binaryOp Operator.BitOr (Value.int _ _) (Value.int _ _)) _ _ _); refine or_ii 7 1 (by omega) (by omega) (by decide) ?_) | ((with_reducible show wpAny _ _ (binaryOp Operator.BitAnd (Value.int _ _) (Value.int _ _)) _ _ _); refine and_ii (c := 16) 4 (by omega) (by decide) (by decide) ?_) | ((with_reducible show wpAny _ _ (binaryOp Operator.BitAnd (Value.int _ _) (Value.int _ _)) _ _ _); refine and_ii (c := 128) 7 (by omega) (by decide) (by decide) ?_) | ((with_reducible show wpAny _ _ (binaryOp Operator.RShift (Value.int _ _) (Value.int _ _)) _ _ _); refine shr_ii (c := 16) (by decide) (by decide) (by decide) ?_) | ((with_reducible show wpAny _ _ (binaryOp Operator.RShift (Value.int _ _) (Value.int _ _)) _ _ _); refine shr_ii (c := 128) (by decide) (by decide) (by decide) ?_) | ((with_reducible show wpAny _ _ (exec (PySem.Stmt.While _ _ _ _) _) _ _ _); k_dflt (refine whl_start 4 ?_))))) | ((with_reducible show WhlIf _ _ _); refine whlIf_cases (fun hB => ?_) (fun hB => ?_) <;> simp only [decide_eq_true_eq, decide_eq_false_iff_not] at hB <;> first | (exfalso; omega) | skip) | walk1 | (leave1; (try dsimp only)) | dsimp only | fail "no step"))
  all_goals (refine hret _ _ _ ?_ ⟨_, _, rfl, ?_, ?_⟩; (walk_at "MINE_AGREE"); (first | (refine sz_two ?_ ?_ ?_ <;> (try simp only [Int.reduceToNat, List.getD_cons_zero]) <;> omega) | (refine sz_one ?_ ?_ <;> (try simp only [Int.reduceToNat, List.getD_cons_zero]) <;> omega)); (first | (simp; done) | (simp only [Array.size_append, List.size_toArray, List.length_map, List.length_cons, List.length_nil]; omega) | omega))


set_option maxHeartbeats 1000000 in
theorem c_pack (w : World) (C : Addr) (b0 : Array UInt8) (t : Tok) (hs0 : b0.size < 16384) : Sp w 210 [.ref C, .bytes b0 t] [] 2 16 (fun _ v _ => ∃ b tk, v = .bytes b tk ∧ b = stored b0 ∧ b.size ≤ (b0.size + 2)) := by
  have hfill : Fill PySem.Challenge.rw_pb0104_01 KF := by k_fill; trivial
  unfold Sp
  intro p loose mean mg mb dp un gd cn cs a ccd cl outer A₀ base h₀ L m s Q E B F X N T hk hd hu hret
  (refine wpAny_call ?_; k_dflt (refine' enter ?k1 ?k2 ?k3 ?k4 ?k5 ?kA ?kF ?kK ?k6 ?k7 ?k8 ?k9 ?kB ?_ ?c2 ?c3 ?c4 ?c5; (case kA => exact rfl); (case kF => exact rfl); (case kK => assumption); (case k1 => k_asm); (case k2 => k_asm); (case k3 => k_asm); (case k4 => k_asm); (case k5 => k_asm); (case k6 => k_is); (case k7 => k_is); (case k8 => ktr_room); (case k9 => first | exact BindsTo.of_eq rfl | exact binds_K (by k_in) rfl (by k_is) rfl rfl rfl); (case c5 => decide); (case kB => exact locs rfl); (case c2 => exact rfl); (case c3 => exact rfl); (case c4 => exact rfl); k_whole; intro g' L' h' tk' hG' FG' F' N' B' X' T' l1'; (try k_lt l1'); (try dsimp only); walk_at "MINE_FOLD"))
  (repeat' (first | (k_unfold; (try dsimp only)) | (k_end; wrow_close) | ((with_reducible show wpAny _ _ _ _ _ _); first | (with_reducible (first | ((with_reducible show wpAny _ _ (call (Value.ref 73) [Value.int _ _]) _ _ _); k_dflt (refine' useB (c_put_size _ _ _ ?a ?b) ?k1 ?k2 ?k3 ?k4 ?k5 ?kK ?kd ?ku ?_; (walk_at "MINE_USE0"); (case a => omega); (case b => omega)); intro tk9 h' tk' F' N' hz9; (try k_sweep)) | ((with_reducible show wpAny _ _ (subscriptTail _ _ (Value.ref _) (Value.str _ _)) _ _ _); k_dflt (refine' di_tailS (knd := strKind PR _) ?N ?m ?D (strKind_is _ _ _ _) ?v ?_; (case N => k_asm); (case m => k_mem); (case D => assumption); (case v => exact rfl)); intro _) | ((with_reducible show wpAny _ _ (call (Value.builtin "len") [Value.ref _]) _ _ _); k_dflt (refine' len_seq ?N ?m ?z ?_; (case N => k_asm); (case m => k_mem); (case z => omega)); intro _ _) | ((with_reducible show wpAny _ _ (call (Value.type _) [Value.bytes _ _]) _ _ _); refine call_bytes_bytes ?_) | ((with_reducible show wpAny _ _ (call (Value.builtin "len") [Value.ref _]) _ _ _); k_dflt (refine' pl_len ?N ?m ?D ?z ?_; (case N => k_asm); (case m => k_mem); (case D => assumption); (case z => omega)); intro _ _) | ((with_reducible show wpAny _ _ (subscriptTail _ _ (Value.ref _) (Value.bytes _ _)) _ _ _); k_dflt (refine' pl_tailS ?N ?m ?D ?v ?_; (case N => k_asm); (case m => k_mem); (case D => assumption); (case v => first | assumption | exact plAt_snoc_some _ _ _ | (simp_all; done))); intro n8 t8 k8 hn8; (try (have hb8 := PlOk.at (by assumption) hn8; obtain ⟨hb8a, hb8b⟩ := hb8))) | ((with_reducible show wpAny _ _ (binaryOp Operator.Pow (Value.int _ _) (Value.int _ _)) _ _ _); refine pow_ii (c := 16) (by decide) (by decide +kernel) (by decide) ?_) | ((with_reducible show wpAny _ _ (binaryOp Operator.Pow (Value.int _ _) (Value.int _ _)) _ _ _); refine pow_ii (c := 128) (by decide) (by decide +kernel) (by decide) ?_) | ((with_reducible show wpAny _ _ (call (Value.builtin "len") [Value.bytes _ _]) _ _ _); (refine len_bytes (by (try simp only [Array.size_append]); omega) ?_)) | ((with_reducible show wpAny _ _ (binaryOp Operator.Add (Value.bytes _ _) (Value.bytes _ _)) _ _ _); refine KBy.add_bytes (by first | omega | (simp only [Array.size_append]; omega) | ((try simp only [Array.size_append, List.size_toArray, List.length_map, List.length_cons, List.length_nil, byteArr_size, List.length_append, Array.length_toList]); omega)) ?_; intro _ _) | ((with_reducible show wpAny _ _ (call (Value.type _) [Value.ref _]) _ _ _); k_dflt (refine' bytes_K ?F ?N ?l ?i ?r ?z ?h ?_; (case F => k_asm); (case N => k_asm); (case l => is_list); (case i => first | l_ints | l_intsW); (case r => first | by_in | ((simp only [Int.reduceToNat, List.getD_cons_zero, List.getD_cons_succ]); by_in)); (case z => first | size_fits | (rw [sizeLine_eq]; simp)); (case h => with_unfolding_all rfl); k_whole); intro h' t' k' F' N' hB'; (clear hB'); (try k_sweep)) | ((with_reducible show wpAny _ _ (binaryOp Operator.Mod (Value.int _ _) (Value.int _ _)) _ _ _); refine fmod_ii (by decide) ?_) | ((with_reducible show wpAny _ _ (binaryOp Operator.FloorDiv (Value.int _ _) (Value.int _ _)) _ _ _); refine fdiv_ii (by decide) (by decide) ?_) | ((with_reducible show wpAny _ _ (binaryOp Operator.BitOr (Value.int _ _) (Value.int _ _)) _ _ _); refine or_iir 7 1 (by omega) (by omega) (by decide) ?_) | ((with_reducible show wpAny _ _ (binaryOp Operator.BitOr (Value.int _ _) (Value.int _ _)) _ _ _); refine or_ii 7 1 (by omega) (by omega) (by decide) ?_) | ((with_reducible show wpAny _ _ (binaryOp Operator.BitAnd (Value.int _ _) (Value.int _ _)) _ _ _); refine and_ii (c := 16) 4 (by omega) (by decide) (by decide) ?_) | ((with_reducible show wpAny _ _ (binaryOp Operator.BitAnd (Value.int _ _) (Value.int _ _)) _ _ _); refine and_ii (c := 128) 7 (by omega) (by decide) (by decide) ?_) | ((with_reducible show wpAny _ _ (binaryOp Operator.RShift (Value.int _ _) (Value.int _ _)) _ _ _); refine shr_ii (c := 16) (by decide) (by decide) (by decide) ?_) | ((with_reducible show wpAny _ _ (binaryOp Operator.RShift (Value.int _ _) (Value.int _ _)) _ _ _); refine shr_ii (c := 128) (by decide) (by decide) (by decide) ?_) | ((with_reducible show wpAny _ _ (exec (PySem.Stmt.While _ _ _ _) _) _ _ _); k_dflt (refine whl_start 4 ?_))))) | ((with_reducible show WhlIf _ _ _); refine whlIf_cases (fun hB => ?_) (fun hB => ?_) <;> simp only [decide_eq_true_eq, decide_eq_false_iff_not] at hB <;> first | (exfalso; omega) | skip) | walk1 | (leave1; (try dsimp only)) | dsimp only | fail "no step"))
  all_goals (refine hret _ _ _ ?_ ?_; (walk_at "MINE_AGREE"); exact ⟨_, _, rfl, by simp [stored, byteArr, *], by (first | (simp; done) | (rw [Array.size_append]; omega) | omega)⟩)

set_option maxHeartbeats 1000000 in
theorem c_put_offset (w : World) (n : Int) (t : Tok) (h0 : 0 ≤ n) (h1 : n < 16384) : Sp w 80 [.int n t] [] 1 8 (fun _ v _ => ∃ b tk, v = .bytes b tk ∧ b = byteArr (bk n) ∧ b.size ≤ 2) := by
  have hfill : Fill PySem.Challenge.rw_pb0104_01 KF := by k_fill; trivial
  unfold Sp
  intro p loose mean mg mb dp un gd cn cs a ccd cl outer A₀ base h₀ L m s Q E B F X N T hk hd hu hret
  (refine wpAny_call ?_; k_dflt (refine' enter ?k1 ?k2 ?k3 ?k4 ?k5 ?kA ?kF ?kK ?k6 ?k7 ?k8 ?k9 ?kB ?_ ?c2 ?c3 ?c4 ?c5; (case kA => exact rfl); (case kF => exact rfl); (case kK => assumption); (case k1 => k_asm); (case k2 => k_asm); (case k3 => k_asm); (case k4 => k_asm); (case k5 => k_asm); (case k6 => k_is); (case k7 => k_is); (case k8 => ktr_room); (case k9 => first | exact BindsTo.of_eq rfl | exact binds_K (by k_in) rfl (by k_is) rfl rfl rfl); (case c5 => decide); (case kB => exact locs rfl); (case c2 => exact rfl); (case c3 => exact rfl); (case c4 => exact rfl); k_whole; intro g' L' h' tk' hG' FG' F' N' B' X' T' l1'; (try k_lt l1'); (try dsimp only); walk_at "MINE_FOLD"))
  (repeat' (first | (k_unfold; (try dsimp only)) | (k_end; wrow_close) | ((with_reducible show wpAny _ _ _ _ _ _); first | (with_reducible (first | ((with_reducible show wpAny _ _ (call (Value.ref 73) [Value.int _ _]) _ _ _); k_dflt (refine' useB (c_put_size _ _ _ ?a ?b) ?k1 ?k2 ?k3 ?k4 ?k5 ?kK ?kd ?ku ?_; (walk_at "MINE_USE0"); (case a => omega); (case b => omega)); intro tk9 h' tk' F' N' hz9; (try k_sweep)) | ((with_reducible show wpAny _ _ (subscriptTail _ _ (Value.ref _) (Value.str _ _)) _ _ _); k_dflt (refine' di_tailS (knd := strKind PR _) ?N ?m ?D (strKind_is _ _ _ _) ?v ?_; (case N => k_asm); (case m => k_mem); (case D => assumption); (case v => exact rfl)); intro _) | ((with_reducible show wpAny _ _ (call (Value.builtin "len") [Value.ref _]) _ _ _); k_dflt (refine' len_seq ?N ?m ?z ?_; (case N => k_asm); (case m => k_mem); (case z => omega)); intro _ _) | ((with_reducible show wpAny _ _ (call (Value.type _) [Value.bytes _ _]) _ _ _); refine call_bytes_bytes ?_) | ((with_reducible show wpAny _ _ (call (Value.builtin "len") [Value.ref _]) _ _ _); k_dflt (refine' pl_len ?N ?m ?D ?z ?_; (case N => k_asm); (case m => k_mem); (case D => assumption); (case z => omega)); intro _ _) | ((with_reducible show wpAny _ _ (subscriptTail _ _ (Value.ref _) (Value.bytes _ _)) _ _ _); k_dflt (refine' pl_tailS ?N ?m ?D ?v ?_; (case N => k_asm); (case m => k_mem); (case D => assumption); (case v => first | assumption | exact plAt_snoc_some _ _ _ | (simp_all; done))); intro n8 t8 k8 hn8; (try (have hb8 := PlOk.at (by assumption) hn8; obtain ⟨hb8a, hb8b⟩ := hb8))) | ((with_reducible show wpAny _ _ (binaryOp Operator.Pow (Value.int _ _) (Value.int _ _)) _ _ _); refine pow_ii (c := 16) (by decide) (by decide +kernel) (by decide) ?_) | ((with_reducible show wpAny _ _ (binaryOp Operator.Pow (Value.int _ _) (Value.int _ _)) _ _ _); refine pow_ii (c := 128) (by decide) (by decide +kernel) (by decide) ?_) | ((with_reducible show wpAny _ _ (call (Value.builtin "len") [Value.bytes _ _]) _ _ _); (refine len_bytes (by (try simp only [Array.size_append]); omega) ?_)) | ((with_reducible show wpAny _ _ (binaryOp Operator.Add (Value.bytes _ _) (Value.bytes _ _)) _ _ _); refine KBy.add_bytes (by first | omega | (simp only [Array.size_append]; omega) | ((try simp only [Array.size_append, List.size_toArray, List.length_map, List.length_cons, List.length_nil, byteArr_size, List.length_append, Array.length_toList]); omega)) ?_; intro _ _) | ((with_reducible show wpAny _ _ (call (Value.type _) [Value.ref _]) _ _ _); k_dflt (refine' bytes_K ?F ?N ?l ?i ?r ?z ?h ?_; (case F => k_asm); (case N => k_asm); (case l => is_list); (case i => first | l_ints | l_intsW); (case r => first | by_in | ((simp only [Int.reduceToNat, List.getD_cons_zero, List.getD_cons_succ]); by_in)); (case z => first | size_fits | (rw [sizeLine_eq]; simp)); (case h => with_unfolding_all rfl); k_whole); intro h' t' k' F' N' hB'; (clear hB'); (try k_sweep)) | ((with_reducible show wpAny _ _ (binaryOp Operator.Mod (Value.int _ _) (Value.int _ _)) _ _ _); refine fmod_ii (by decide) ?_) | ((with_reducible show wpAny _ _ (binaryOp Operator.FloorDiv (Value.int _ _) (Value.int _ _)) _ _ _); refine fdiv_ii (by decide) (by decide) ?_) | ((with_reducible show wpAny _ _ (binaryOp Operator.BitOr (Value.int _ _) (Value.int _ _)) _ _ _); refine or_iir 7 1 (by omega) (by omega) (by decide) ?_) | ((with_reducible show wpAny _ _ (binaryOp Operator.BitOr (Value.int _ _) (Value.int _ _)) _ _ _); refine or_ii 7 1 (by omega) (by omega) (by decide) ?_) | ((with_reducible show wpAny _ _ (binaryOp Operator.BitAnd (Value.int _ _) (Value.int _ _)) _ _ _); refine and_ii (c := 16) 4 (by omega) (by decide) (by decide) ?_) | ((with_reducible show wpAny _ _ (binaryOp Operator.BitAnd (Value.int _ _) (Value.int _ _)) _ _ _); refine and_ii (c := 128) 7 (by omega) (by decide) (by decide) ?_) | ((with_reducible show wpAny _ _ (binaryOp Operator.RShift (Value.int _ _) (Value.int _ _)) _ _ _); refine shr_ii (c := 16) (by decide) (by decide) (by decide) ?_) | ((with_reducible show wpAny _ _ (binaryOp Operator.RShift (Value.int _ _) (Value.int _ _)) _ _ _); refine shr_ii (c := 128) (by decide) (by decide) (by decide) ?_) | ((with_reducible show wpAny _ _ (exec (PySem.Stmt.While _ _ _ _) _) _ _ _); k_dflt (refine whl_start 4 ?_))))) | ((with_reducible show WhlIf _ _ _); refine whlIf_cases (fun hB => ?_) (fun hB => ?_) <;> simp only [decide_eq_true_eq, decide_eq_false_iff_not] at hB <;> first | (exfalso; omega) | skip) | walk1 | (leave1; (try dsimp only)) | dsimp only | fail "no step"))
  all_goals (refine hret _ _ _ ?_ ⟨_, _, rfl, ?_, ?_⟩; (walk_at "MINE_AGREE"); (first | (refine bk_two ?_ ?_ ?_ <;> (try simp only [Int.reduceToNat, List.getD_cons_zero]) <;> omega) | (refine bk_one ?_ ?_ <;> (try simp only [Int.reduceToNat, List.getD_cons_zero]) <;> omega)); (first | (simp; done) | (simp only [Array.size_append, List.size_toArray, List.length_map, List.length_cons, List.length_nil]; omega) | omega))

set_option maxHeartbeats 1000000 in
theorem c_pieces7 (w : World) (n : Int) (t u : Tok) (h0 : 0 ≤ n) (h1 : n < 16384) : Sp w 244 [.int n t, .int 7 u] [] 1 8 (fun g v h2 => PcPost 128 n g v h2) := by
  have hfill : Fill PySem.Challenge.rw_pb0104_01 KF := by k_fill; trivial
  unfold Sp
  intro p loose mean mg mb dp un gd cn cs a ccd cl outer A₀ base h₀ L m s Q E B F X N T hk hd hu hret
  (refine wpAny_call ?_; k_dflt (refine' enter ?k1 ?k2 ?k3 ?k4 ?k5 ?kA ?kF ?kK ?k6 ?k7 ?k8 ?k9 ?kB ?_ ?c2 ?c3 ?c4 ?c5; (case kA => exact rfl); (case kF => exact rfl); (case kK => assumption); (case k1 => k_asm); (case k2 => k_asm); (case k3 => k_asm); (case k4 => k_asm); (case k5 => k_asm); (case k6 => k_is); (case k7 => k_is); (case k8 => ktr_room); (case k9 => first | exact BindsTo.of_eq rfl | exact binds_K (by k_in) rfl (by k_is) rfl rfl rfl); (case c5 => decide); (case kB => exact locs rfl); (case c2 => exact rfl); (case c3 => exact rfl); (case c4 => exact rfl); k_whole; intro g' L' h' tk' hG' FG' F' N' B' X' T' l1'; (try k_lt l1'); (try dsimp only); walk_at "MINE_FOLD"))
  (repeat' (first | (k_unfold; (try dsimp only)) | (k_end; wrow_close) | ((with_reducible show wpAny _ _ _ _ _ _); first | (with_reducible (first | ((with_reducible show wpAny _ _ (call (Value.ref 73) [Value.int _ _]) _ _ _); k_dflt (refine' useB (c_put_size _ _ _ ?a ?b) ?k1 ?k2 ?k3 ?k4 ?k5 ?kK ?kd ?ku ?_; (walk_at "MINE_USE0"); (case a => omega); (case b => omega)); intro tk9 h' tk' F' N' hz9; (try k_sweep)) | ((with_reducible show wpAny _ _ (subscriptTail _ _ (Value.ref _) (Value.str _ _)) _ _ _); k_dflt (refine' di_tailS (knd := strKind PR _) ?N ?m ?D (strKind_is _ _ _ _) ?v ?_; (case N => k_asm); (case m => k_mem); (case D => assumption); (case v => exact rfl)); intro _) | ((with_reducible show wpAny _ _ (call (Value.builtin "len") [Value.ref _]) _ _ _); k_dflt (refine' len_seq ?N ?m ?z ?_; (case N => k_asm); (case m => k_mem); (case z => omega)); intro _ _) | ((with_reducible show wpAny _ _ (call (Value.type _) [Value.bytes _ _]) _ _ _); refine call_bytes_bytes ?_) | ((with_reducible show wpAny _ _ (call (Value.builtin "len") [Value.ref _]) _ _ _); k_dflt (refine' pl_len ?N ?m ?D ?z ?_; (case N => k_asm); (case m => k_mem); (case D => assumption); (case z => omega)); intro _ _) | ((with_reducible show wpAny _ _ (subscriptTail _ _ (Value.ref _) (Value.bytes _ _)) _ _ _); k_dflt (refine' pl_tailS ?N ?m ?D ?v ?_; (case N => k_asm); (case m => k_mem); (case D => assumption); (case v => first | assumption | exact plAt_snoc_some _ _ _ | (simp_all; done))); intro n8 t8 k8 hn8; (try (have hb8 := PlOk.at (by assumption) hn8; obtain ⟨hb8a, hb8b⟩ := hb8))) | ((with_reducible show wpAny _ _ (binaryOp Operator.Pow (Value.int _ _) (Value.int _ _)) _ _ _); refine pow_ii (c := 16) (by decide) (by decide +kernel) (by decide) ?_) | ((with_reducible show wpAny _ _ (binaryOp Operator.Pow (Value.int _ _) (Value.int _ _)) _ _ _); refine pow_ii (c := 128) (by decide) (by decide +kernel) (by decide) ?_) | ((with_reducible show wpAny _ _ (call (Value.builtin "len") [Value.bytes _ _]) _ _ _); (refine len_bytes (by (try simp only [Array.size_append]); omega) ?_)) | ((with_reducible show wpAny _ _ (binaryOp Operator.Add (Value.bytes _ _) (Value.bytes _ _)) _ _ _); refine KBy.add_bytes (by first | omega | (simp only [Array.size_append]; omega) | ((try simp only [Array.size_append, List.size_toArray, List.length_map, List.length_cons, List.length_nil, byteArr_size, List.length_append, Array.length_toList]); omega)) ?_; intro _ _) | ((with_reducible show wpAny _ _ (call (Value.type _) [Value.ref _]) _ _ _); k_dflt (refine' bytes_K ?F ?N ?l ?i ?r ?z ?h ?_; (case F => k_asm); (case N => k_asm); (case l => is_list); (case i => first | l_ints | l_intsW); (case r => first | by_in | ((simp only [Int.reduceToNat, List.getD_cons_zero, List.getD_cons_succ]); by_in)); (case z => first | size_fits | (rw [sizeLine_eq]; simp)); (case h => with_unfolding_all rfl); k_whole); intro h' t' k' F' N' hB'; (clear hB'); (try k_sweep)) | ((with_reducible show wpAny _ _ (binaryOp Operator.Mod (Value.int _ _) (Value.int _ _)) _ _ _); refine fmod_ii (by decide) ?_) | ((with_reducible show wpAny _ _ (binaryOp Operator.FloorDiv (Value.int _ _) (Value.int _ _)) _ _ _); refine fdiv_ii (by decide) (by decide) ?_) | ((with_reducible show wpAny _ _ (binaryOp Operator.BitOr (Value.int _ _) (Value.int _ _)) _ _ _); refine or_iir 7 1 (by omega) (by omega) (by decide) ?_) | ((with_reducible show wpAny _ _ (binaryOp Operator.BitOr (Value.int _ _) (Value.int _ _)) _ _ _); refine or_ii 7 1 (by omega) (by omega) (by decide) ?_) | ((with_reducible show wpAny _ _ (binaryOp Operator.BitAnd (Value.int _ _) (Value.int _ _)) _ _ _); refine and_ii (c := 16) 4 (by omega) (by decide) (by decide) ?_) | ((with_reducible show wpAny _ _ (binaryOp Operator.BitAnd (Value.int _ _) (Value.int _ _)) _ _ _); refine and_ii (c := 128) 7 (by omega) (by decide) (by decide) ?_) | ((with_reducible show wpAny _ _ (binaryOp Operator.RShift (Value.int _ _) (Value.int _ _)) _ _ _); refine shr_ii (c := 16) (by decide) (by decide) (by decide) ?_) | ((with_reducible show wpAny _ _ (binaryOp Operator.RShift (Value.int _ _) (Value.int _ _)) _ _ _); refine shr_ii (c := 128) (by decide) (by decide) (by decide) ?_) | ((with_reducible show wpAny _ _ (exec (PySem.Stmt.While _ _ _ _) _) _ _ _); k_dflt (refine whl_start 4 ?_))))) | ((with_reducible show WhlIf _ _ _); refine whlIf_cases (fun hB => ?_) (fun hB => ?_) <;> simp only [decide_eq_true_eq, decide_eq_false_iff_not] at hB <;> first | (exfalso; omega) | skip) | walk1 | (leave1; (try dsimp only)) | dsimp only | fail "no step"))
  all_goals (refine' hret _ _ _ ?x1 ?x2; (case x1 => walk_at "MINE_AGREE"); (case x2 => first | (refine' pc_two ?a ?b ?m ?c; (case a => assumption); (case b => assumption); (case m => k_mem); (case c => omega)) | (refine' pc_one ?a ?b ?m ?c; (case a => assumption); (case b => assumption); (case m => k_mem); (case c => omega))))


set_option maxHeartbeats 1000000 in
theorem c_pieces4 (w : World) (n : Int) (t u : Tok) (h0 : 0 ≤ n) (h1 : n < 2048) : Sp w 244 [.int n t, .int 4 u] [] 1 8 (fun g v h2 => PcPost 16 n g v h2) := by
  have hfill : Fill PySem.Challenge.rw_pb0104_01 KF := by k_fill; trivial
  unfold Sp
  intro p loose mean mg mb dp un gd cn cs a ccd cl outer A₀ base h₀ L m s Q E B F X N T hk hd hu hret
  (refine wpAny_call ?_; k_dflt (refine' enter ?k1 ?k2 ?k3 ?k4 ?k5 ?kA ?kF ?kK ?k6 ?k7 ?k8 ?k9 ?kB ?_ ?c2 ?c3 ?c4 ?c5; (case kA => exact rfl); (case kF => exact rfl); (case kK => assumption); (case k1 => k_asm); (case k2 => k_asm); (case k3 => k_asm); (case k4 => k_asm); (case k5 => k_asm); (case k6 => k_is); (case k7 => k_is); (case k8 => ktr_room); (case k9 => first | exact BindsTo.of_eq rfl | exact binds_K (by k_in) rfl (by k_is) rfl rfl rfl); (case c5 => decide); (case kB => exact locs rfl); (case c2 => exact rfl); (case c3 => exact rfl); (case c4 => exact rfl); k_whole; intro g' L' h' tk' hG' FG' F' N' B' X' T' l1'; (try k_lt l1'); (try dsimp only); walk_at "MINE_FOLD"))
  (repeat' (first | (k_unfold; (try dsimp only)) | (k_end; wrow_close) | ((with_reducible show wpAny _ _ _ _ _ _); first | (with_reducible (first | ((with_reducible show wpAny _ _ (call (Value.ref 244) [Value.int _ _, Value.int 7 _]) _ _ _); (k_dflt (refine' use_pc (c_pieces7 _ _ _ _ ?a ?b) ?k1 ?k2 ?k3 ?k4 ?k5 ?kK ?kd ?ku ?_ ?_; (walk_at "MINE_USE0"); (case a => omega); (case b => omega))) <;> (intro l' k' t1' t2' h' tk' hB F' N2 hne'; (try simp only [List.forall_mem_cons, List.not_mem_nil, false_implies, implies_true, and_true] at hne'); (try k_sweep))) | ((with_reducible show wpAny _ _ (call (Value.ref 73) [Value.int _ _]) _ _ _); k_dflt (refine' useB (c_put_size _ _ _ ?a ?b) ?k1 ?k2 ?k3 ?k4 ?k5 ?kK ?kd ?ku ?_; (walk_at "MINE_USE0"); (case a => omega); (case b => omega)); intro tk9 h' tk' F' N' hz9; (try k_sweep)) | ((with_reducible show wpAny _ _ (subscriptTail _ _ (Value.ref _) (Value.str _ _)) _ _ _); k_dflt (refine' di_tailS (knd := strKind PR _) ?N ?m ?D (strKind_is _ _ _ _) ?v ?_; (case N => k_asm); (case m => k_mem); (case D => assumption); (case v => exact rfl)); intro _) | ((with_reducible show wpAny _ _ (call (Value.builtin "len") [Value.ref _]) _ _ _); k_dflt (refine' len_seq ?N ?m ?z ?_; (case N => k_asm); (case m => k_mem); (case z => omega)); intro _ _) | ((with_reducible show wpAny _ _ (call (Value.type _) [Value.bytes _ _]) _ _ _); refine call_bytes_bytes ?_) | ((with_reducible show wpAny _ _ (call (Value.builtin "len") [Value.ref _]) _ _ _); k_dflt (refine' pl_len ?N ?m ?D ?z ?_; (case N => k_asm); (case m => k_mem); (case D => assumption); (case z => omega)); intro _ _) | ((with_reducible show wpAny _ _ (subscriptTail _ _ (Value.ref _) (Value.bytes _ _)) _ _ _); k_dflt (refine' pl_tailS ?N ?m ?D ?v ?_; (case N => k_asm); (case m => k_mem); (case D => assumption); (case v => first | assumption | exact plAt_snoc_some _ _ _ | (simp_all; done))); intro n8 t8 k8 hn8; (try (have hb8 := PlOk.at (by assumption) hn8; obtain ⟨hb8a, hb8b⟩ := hb8))) | ((with_reducible show wpAny _ _ (binaryOp Operator.Pow (Value.int _ _) (Value.int _ _)) _ _ _); refine pow_ii (c := 16) (by decide) (by decide +kernel) (by decide) ?_) | ((with_reducible show wpAny _ _ (binaryOp Operator.Pow (Value.int _ _) (Value.int _ _)) _ _ _); refine pow_ii (c := 128) (by decide) (by decide +kernel) (by decide) ?_) | ((with_reducible show wpAny _ _ (call (Value.builtin "len") [Value.bytes _ _]) _ _ _); (refine len_bytes (by (try simp only [Array.size_append]); omega) ?_)) | ((with_reducible show wpAny _ _ (binaryOp Operator.Add (Value.bytes _ _) (Value.bytes _ _)) _ _ _); refine KBy.add_bytes (by first | omega | (simp only [Array.size_append]; omega) | ((try simp only [Array.size_append, List.size_toArray, List.length_map, List.length_cons, List.length_nil, byteArr_size, List.length_append, Array.length_toList]); omega)) ?_; intro _ _) | ((with_reducible show wpAny _ _ (call (Value.type _) [Value.ref _]) _ _ _); k_dflt (refine' bytes_K ?F ?N ?l ?i ?r ?z ?h ?_; (case F => k_asm); (case N => k_asm); (case l => is_list); (case i => first | l_ints | l_intsW); (case r => first | by_in | ((simp only [Int.reduceToNat, List.getD_cons_zero, List.getD_cons_succ]); by_in)); (case z => first | size_fits | (rw [sizeLine_eq]; simp)); (case h => with_unfolding_all rfl); k_whole); intro h' t' k' F' N' hB'; (clear hB'); (try k_sweep)) | ((with_reducible show wpAny _ _ (binaryOp Operator.Mod (Value.int _ _) (Value.int _ _)) _ _ _); refine fmod_ii (by decide) ?_) | ((with_reducible show wpAny _ _ (binaryOp Operator.FloorDiv (Value.int _ _) (Value.int _ _)) _ _ _); refine fdiv_ii (by decide) (by decide) ?_) | ((with_reducible show wpAny _ _ (binaryOp Operator.BitOr (Value.int _ _) (Value.int _ _)) _ _ _); refine or_iir 7 1 (by omega) (by omega) (by decide) ?_) | ((with_reducible show wpAny _ _ (binaryOp Operator.BitOr (Value.int _ _) (Value.int _ _)) _ _ _); refine or_ii 7 1 (by omega) (by omega) (by decide) ?_) | ((with_reducible show wpAny _ _ (binaryOp Operator.BitAnd (Value.int _ _) (Value.int _ _)) _ _ _); refine and_ii (c := 16) 4 (by omega) (by decide) (by decide) ?_) | ((with_reducible show wpAny _ _ (binaryOp Operator.BitAnd (Value.int _ _) (Value.int _ _)) _ _ _); refine and_ii (c := 128) 7 (by omega) (by decide) (by decide) ?_) | ((with_reducible show wpAny _ _ (binaryOp Operator.RShift (Value.int _ _) (Value.int _ _)) _ _ _); refine shr_ii (c := 16) (by decide) (by decide) (by decide) ?_) | ((with_reducible show wpAny _ _ (binaryOp Operator.RShift (Value.int _ _) (Value.int _ _)) _ _ _); refine shr_ii (c := 128) (by decide) (by decide) (by decide) ?_) | ((with_reducible show wpAny _ _ (exec (PySem.Stmt.While _ _ _ _) _) _ _ _); k_dflt (refine whl_start 4 ?_))))) | ((with_reducible show WhlIf _ _ _); refine whlIf_cases (fun hB => ?_) (fun hB => ?_) <;> simp only [decide_eq_true_eq, decide_eq_false_iff_not] at hB <;> first | (exfalso; omega) | skip) | walk1 | (leave1; (try dsimp only)) | dsimp only | fail "no step"))
  all_goals (refine' hret _ _ _ ?x1 ?x2; (case x1 => walk_at "MINE_AGREE"); (case x2 => first | (refine' pc_two ?a ?b ?m ?c; (case a => assumption); (case b => assumption); (case m => k_mem); (case c => omega)) | (refine' pc_one ?a ?b ?m ?c; (case a => assumption); (case b => assumption); (case m => k_mem); (case c => omega))))


set_option maxHeartbeats 1000000 in
theorem c_law_stored (w : World) (b0 : Array UInt8) (t : Tok) (hs0 : b0.size < 16384) : Sp w 254 [.bytes b0 t] [] 2 16 (fun _ v _ => ∃ b tk, v = .bytes b tk ∧ b = stored b0 ∧ b.size ≤ (b0.size + 2)) := by
  have hfill : Fill PySem.Challenge.rw_pb0104_01 KF := by k_fill; trivial
  unfold Sp
  intro p loose mean mg mb dp un gd cn cs a ccd cl outer A₀ base h₀ L m s Q E B F X N T hk hd hu hret
  (refine wpAny_call ?_; k_dflt (refine' enter ?k1 ?k2 ?k3 ?k4 ?k5 ?kA ?kF ?kK ?k6 ?k7 ?k8 ?k9 ?kB ?_ ?c2 ?c3 ?c4 ?c5; (case kA => exact rfl); (case kF => exact rfl); (case kK => assumption); (case k1 => k_asm); (case k2 => k_asm); (case k3 => k_asm); (case k4 => k_asm); (case k5 => k_asm); (case k6 => k_is); (case k7 => k_is); (case k8 => ktr_room); (case k9 => first | exact BindsTo.of_eq rfl | exact binds_K (by k_in) rfl (by k_is) rfl rfl rfl); (case c5 => decide); (case kB => exact locs rfl); (case c2 => exact rfl); (case c3 => exact rfl); (case c4 => exact rfl); k_whole; intro g' L' h' tk' hG' FG' F' N' B' X' T' l1'; (try k_lt l1'); (try dsimp only); walk_at "MINE_FOLD"))
  (repeat' (first | (k_unfold; (try dsimp only)) | (k_end; wrow_close) | ((with_reducible show wpAny _ _ _ _ _ _); first | (with_reducible (first | ((with_reducible show wpAny _ _ (call (Value.ref 244) [Value.int _ _, Value.int 4 _]) _ _ _); (k_dflt (refine' use_pc (c_pieces4 _ _ _ _ ?a ?b) ?k1 ?k2 ?k3 ?k4 ?k5 ?kK ?kd ?ku ?_ ?_; (walk_at "MINE_USE0"); (case a => omega); (case b => omega))) <;> (intro l' k' t1' t2' h' tk' hB F' N2 hne'; (try simp only [List.forall_mem_cons, List.not_mem_nil, false_implies, implies_true, and_true] at hne'); (try k_sweep))) | ((with_reducible show wpAny _ _ (call (Value.ref 244) [Value.int _ _, Value.int 7 _]) _ _ _); (k_dflt (refine' use_pc (c_pieces7 _ _ _ _ ?a ?b) ?k1 ?k2 ?k3 ?k4 ?k5 ?kK ?kd ?ku ?_ ?_; (walk_at "MINE_USE0"); (case a => omega); (case b => omega))) <;> (intro l' k' t1' t2' h' tk' hB F' N2 hne'; (try simp only [List.forall_mem_cons, List.not_mem_nil, false_implies, implies_true, and_true] at hne'); (try k_sweep))) | ((with_reducible show wpAny _ _ (call (Value.ref 73) [Value.int _ _]) _ _ _); k_dflt (refine' useB (c_put_size _ _ _ ?a ?b) ?k1 ?k2 ?k3 ?k4 ?k5 ?kK ?kd ?ku ?_; (walk_at "MINE_USE0"); (case a => omega); (case b => omega)); intro tk9 h' tk' F' N' hz9; (try k_sweep)) | ((with_reducible show wpAny _ _ (subscriptTail _ _ (Value.ref _) (Value.str _ _)) _ _ _); k_dflt (refine' di_tailS (knd := strKind PR _) ?N ?m ?D (strKind_is _ _ _ _) ?v ?_; (case N => k_asm); (case m => k_mem); (case D => assumption); (case v => exact rfl)); intro _) | ((with_reducible show wpAny _ _ (call (Value.builtin "len") [Value.ref _]) _ _ _); k_dflt (refine' len_seq ?N ?m ?z ?_; (case N => k_asm); (case m => k_mem); (case z => omega)); intro _ _) | ((with_reducible show wpAny _ _ (call (Value.type _) [Value.bytes _ _]) _ _ _); refine call_bytes_bytes ?_) | ((with_reducible show wpAny _ _ (call (Value.builtin "len") [Value.ref _]) _ _ _); k_dflt (refine' pl_len ?N ?m ?D ?z ?_; (case N => k_asm); (case m => k_mem); (case D => assumption); (case z => omega)); intro _ _) | ((with_reducible show wpAny _ _ (subscriptTail _ _ (Value.ref _) (Value.bytes _ _)) _ _ _); k_dflt (refine' pl_tailS ?N ?m ?D ?v ?_; (case N => k_asm); (case m => k_mem); (case D => assumption); (case v => first | assumption | exact plAt_snoc_some _ _ _ | (simp_all; done))); intro n8 t8 k8 hn8; (try (have hb8 := PlOk.at (by assumption) hn8; obtain ⟨hb8a, hb8b⟩ := hb8))) | ((with_reducible show wpAny _ _ (binaryOp Operator.Pow (Value.int _ _) (Value.int _ _)) _ _ _); refine pow_ii (c := 16) (by decide) (by decide +kernel) (by decide) ?_) | ((with_reducible show wpAny _ _ (binaryOp Operator.Pow (Value.int _ _) (Value.int _ _)) _ _ _); refine pow_ii (c := 128) (by decide) (by decide +kernel) (by decide) ?_) | ((with_reducible show wpAny _ _ (call (Value.builtin "len") [Value.bytes _ _]) _ _ _); (refine len_bytes (by (try simp only [Array.size_append]); omega) ?_)) | ((with_reducible show wpAny _ _ (binaryOp Operator.Add (Value.bytes _ _) (Value.bytes _ _)) _ _ _); refine KBy.add_bytes (by first | omega | (simp only [Array.size_append]; omega) | ((try simp only [Array.size_append, List.size_toArray, List.length_map, List.length_cons, List.length_nil, byteArr_size, List.length_append, Array.length_toList]); omega)) ?_; intro _ _) | ((with_reducible show wpAny _ _ (call (Value.type _) [Value.ref _]) _ _ _); k_dflt (refine' bytes_K ?F ?N ?l ?i ?r ?z ?h ?_; (case F => k_asm); (case N => k_asm); (case l => is_list); (case i => first | l_ints | l_intsW); (case r => first | by_in | ((simp only [Int.reduceToNat, List.getD_cons_zero, List.getD_cons_succ]); by_in)); (case z => first | size_fits | (rw [sizeLine_eq]; simp)); (case h => with_unfolding_all rfl); k_whole); intro h' t' k' F' N' hB'; (clear hB'); (try k_sweep)) | ((with_reducible show wpAny _ _ (binaryOp Operator.Mod (Value.int _ _) (Value.int _ _)) _ _ _); refine fmod_ii (by decide) ?_) | ((with_reducible show wpAny _ _ (binaryOp Operator.FloorDiv (Value.int _ _) (Value.int _ _)) _ _ _); refine fdiv_ii (by decide) (by decide) ?_) | ((with_reducible show wpAny _ _ (binaryOp Operator.BitOr (Value.int _ _) (Value.int _ _)) _ _ _); refine or_iir 7 1 (by omega) (by omega) (by decide) ?_) | ((with_reducible show wpAny _ _ (binaryOp Operator.BitOr (Value.int _ _) (Value.int _ _)) _ _ _); refine or_ii 7 1 (by omega) (by omega) (by decide) ?_) | ((with_reducible show wpAny _ _ (binaryOp Operator.BitAnd (Value.int _ _) (Value.int _ _)) _ _ _); refine and_ii (c := 16) 4 (by omega) (by decide) (by decide) ?_) | ((with_reducible show wpAny _ _ (binaryOp Operator.BitAnd (Value.int _ _) (Value.int _ _)) _ _ _); refine and_ii (c := 128) 7 (by omega) (by decide) (by decide) ?_) | ((with_reducible show wpAny _ _ (binaryOp Operator.RShift (Value.int _ _) (Value.int _ _)) _ _ _); refine shr_ii (c := 16) (by decide) (by decide) (by decide) ?_) | ((with_reducible show wpAny _ _ (binaryOp Operator.RShift (Value.int _ _) (Value.int _ _)) _ _ _); refine shr_ii (c := 128) (by decide) (by decide) (by decide) ?_) | ((with_reducible show wpAny _ _ (exec (PySem.Stmt.While _ _ _ _) _) _ _ _); k_dflt (refine whl_start 4 ?_))))) | ((with_reducible show WhlIf _ _ _); refine whlIf_cases (fun hB => ?_) (fun hB => ?_) <;> simp only [decide_eq_true_eq, decide_eq_false_iff_not] at hB <;> first | (exfalso; omega) | skip) | walk1 | (leave1; (try dsimp only)) | dsimp only | fail "no step"))
  all_goals (refine hret _ _ _ ?_ ⟨_, _, rfl, ?_, ?_⟩; (walk_at "MINE_AGREE"); (unfold stored; congr 1; first | (refine sz_two ?_ ?_ ?_ <;> omega) | (refine sz_one ?_ ?_ <;> omega)); (first | (simp; done) | (simp only [Array.size_append, List.size_toArray, List.length_map, List.length_cons, List.length_nil]; omega) | omega))

set_option maxHeartbeats 1000000 in
theorem c_law_back (w : World) (n : Int) (t : Tok) (h0 : 0 ≤ n) (h1 : n < 16384) : Sp w 261 [.int n t] [] 1 8 (fun _ v _ => ∃ b tk, v = .bytes b tk ∧ b = byteArr (bk n) ∧ b.size ≤ 2) := by
  have hfill : Fill PySem.Challenge.rw_pb0104_01 KF := by k_fill; trivial
  unfold Sp
  intro p loose mean mg mb dp un gd cn cs a ccd cl outer A₀ base h₀ L m s Q E B F X N T hk hd hu hret
  (refine wpAny_call ?_; k_dflt (refine' enter ?k1 ?k2 ?k3 ?k4 ?k5 ?kA ?kF ?kK ?k6 ?k7 ?k8 ?k9 ?kB ?_ ?c2 ?c3 ?c4 ?c5; (case kA => exact rfl); (case kF => exact rfl); (case kK => assumption); (case k1 => k_asm); (case k2 => k_asm); (case k3 => k_asm); (case k4 => k_asm); (case k5 => k_asm); (case k6 => k_is); (case k7 => k_is); (case k8 => ktr_room); (case k9 => first | exact BindsTo.of_eq rfl | exact binds_K (by k_in) rfl (by k_is) rfl rfl rfl); (case c5 => decide); (case kB => exact locs rfl); (case c2 => exact rfl); (case c3 => exact rfl); (case c4 => exact rfl); k_whole; intro g' L' h' tk' hG' FG' F' N' B' X' T' l1'; (try k_lt l1'); (try dsimp only); walk_at "MINE_FOLD"))
  (repeat' (first | (k_unfold; (try dsimp only)) | (k_end; wrow_close) | ((with_reducible show wpAny _ _ _ _ _ _); first | (with_reducible (first | ((with_reducible show wpAny _ _ (call (Value.ref 244) [Value.int _ _, Value.int 4 _]) _ _ _); (k_dflt (refine' use_pc (c_pieces4 _ _ _ _ ?a ?b) ?k1 ?k2 ?k3 ?k4 ?k5 ?kK ?kd ?ku ?_ ?_; (walk_at "MINE_USE0"); (case a => omega); (case b => omega))) <;> (intro l' k' t1' t2' h' tk' hB F' N2 hne'; (try simp only [List.forall_mem_cons, List.not_mem_nil, false_implies, implies_true, and_true] at hne'); (try k_sweep))) | ((with_reducible show wpAny _ _ (call (Value.ref 244) [Value.int _ _, Value.int 7 _]) _ _ _); (k_dflt (refine' use_pc (c_pieces7 _ _ _ _ ?a ?b) ?k1 ?k2 ?k3 ?k4 ?k5 ?kK ?kd ?ku ?_ ?_; (walk_at "MINE_USE0"); (case a => omega); (case b => omega))) <;> (intro l' k' t1' t2' h' tk' hB F' N2 hne'; (try simp only [List.forall_mem_cons, List.not_mem_nil, false_implies, implies_true, and_true] at hne'); (try k_sweep))) | ((with_reducible show wpAny _ _ (call (Value.ref 73) [Value.int _ _]) _ _ _); k_dflt (refine' useB (c_put_size _ _ _ ?a ?b) ?k1 ?k2 ?k3 ?k4 ?k5 ?kK ?kd ?ku ?_; (walk_at "MINE_USE0"); (case a => omega); (case b => omega)); intro tk9 h' tk' F' N' hz9; (try k_sweep)) | ((with_reducible show wpAny _ _ (subscriptTail _ _ (Value.ref _) (Value.str _ _)) _ _ _); k_dflt (refine' di_tailS (knd := strKind PR _) ?N ?m ?D (strKind_is _ _ _ _) ?v ?_; (case N => k_asm); (case m => k_mem); (case D => assumption); (case v => exact rfl)); intro _) | ((with_reducible show wpAny _ _ (call (Value.builtin "len") [Value.ref _]) _ _ _); k_dflt (refine' len_seq ?N ?m ?z ?_; (case N => k_asm); (case m => k_mem); (case z => omega)); intro _ _) | ((with_reducible show wpAny _ _ (call (Value.type _) [Value.bytes _ _]) _ _ _); refine call_bytes_bytes ?_) | ((with_reducible show wpAny _ _ (call (Value.builtin "len") [Value.ref _]) _ _ _); k_dflt (refine' pl_len ?N ?m ?D ?z ?_; (case N => k_asm); (case m => k_mem); (case D => assumption); (case z => omega)); intro _ _) | ((with_reducible show wpAny _ _ (subscriptTail _ _ (Value.ref _) (Value.bytes _ _)) _ _ _); k_dflt (refine' pl_tailS ?N ?m ?D ?v ?_; (case N => k_asm); (case m => k_mem); (case D => assumption); (case v => first | assumption | exact plAt_snoc_some _ _ _ | (simp_all; done))); intro n8 t8 k8 hn8; (try (have hb8 := PlOk.at (by assumption) hn8; obtain ⟨hb8a, hb8b⟩ := hb8))) | ((with_reducible show wpAny _ _ (binaryOp Operator.Pow (Value.int _ _) (Value.int _ _)) _ _ _); refine pow_ii (c := 16) (by decide) (by decide +kernel) (by decide) ?_) | ((with_reducible show wpAny _ _ (binaryOp Operator.Pow (Value.int _ _) (Value.int _ _)) _ _ _); refine pow_ii (c := 128) (by decide) (by decide +kernel) (by decide) ?_) | ((with_reducible show wpAny _ _ (call (Value.builtin "len") [Value.bytes _ _]) _ _ _); (refine len_bytes (by (try simp only [Array.size_append]); omega) ?_)) | ((with_reducible show wpAny _ _ (binaryOp Operator.Add (Value.bytes _ _) (Value.bytes _ _)) _ _ _); refine KBy.add_bytes (by first | omega | (simp only [Array.size_append]; omega) | ((try simp only [Array.size_append, List.size_toArray, List.length_map, List.length_cons, List.length_nil, byteArr_size, List.length_append, Array.length_toList]); omega)) ?_; intro _ _) | ((with_reducible show wpAny _ _ (call (Value.type _) [Value.ref _]) _ _ _); k_dflt (refine' bytes_K ?F ?N ?l ?i ?r ?z ?h ?_; (case F => k_asm); (case N => k_asm); (case l => is_list); (case i => first | l_ints | l_intsW); (case r => first | by_in | ((simp only [Int.reduceToNat, List.getD_cons_zero, List.getD_cons_succ]); by_in)); (case z => first | size_fits | (rw [sizeLine_eq]; simp)); (case h => with_unfolding_all rfl); k_whole); intro h' t' k' F' N' hB'; (clear hB'); (try k_sweep)) | ((with_reducible show wpAny _ _ (binaryOp Operator.Mod (Value.int _ _) (Value.int _ _)) _ _ _); refine fmod_ii (by decide) ?_) | ((with_reducible show wpAny _ _ (binaryOp Operator.FloorDiv (Value.int _ _) (Value.int _ _)) _ _ _); refine fdiv_ii (by decide) (by decide) ?_) | ((with_reducible show wpAny _ _ (binaryOp Operator.BitOr (Value.int _ _) (Value.int _ _)) _ _ _); refine or_iir 7 1 (by omega) (by omega) (by decide) ?_) | ((with_reducible show wpAny _ _ (binaryOp Operator.BitOr (Value.int _ _) (Value.int _ _)) _ _ _); refine or_ii 7 1 (by omega) (by omega) (by decide) ?_) | ((with_reducible show wpAny _ _ (binaryOp Operator.BitAnd (Value.int _ _) (Value.int _ _)) _ _ _); refine and_ii (c := 16) 4 (by omega) (by decide) (by decide) ?_) | ((with_reducible show wpAny _ _ (binaryOp Operator.BitAnd (Value.int _ _) (Value.int _ _)) _ _ _); refine and_ii (c := 128) 7 (by omega) (by decide) (by decide) ?_) | ((with_reducible show wpAny _ _ (binaryOp Operator.RShift (Value.int _ _) (Value.int _ _)) _ _ _); refine shr_ii (c := 16) (by decide) (by decide) (by decide) ?_) | ((with_reducible show wpAny _ _ (binaryOp Operator.RShift (Value.int _ _) (Value.int _ _)) _ _ _); refine shr_ii (c := 128) (by decide) (by decide) (by decide) ?_) | ((with_reducible show wpAny _ _ (exec (PySem.Stmt.While _ _ _ _) _) _ _ _); k_dflt (refine whl_start 4 ?_))))) | ((with_reducible show WhlIf _ _ _); refine whlIf_cases (fun hB => ?_) (fun hB => ?_) <;> simp only [decide_eq_true_eq, decide_eq_false_iff_not] at hB <;> first | (exfalso; omega) | skip) | walk1 | (leave1; (try dsimp only)) | dsimp only | fail "no step"))
  all_goals (refine hret _ _ _ ?_ ⟨_, _, rfl, ?_, ?_⟩; (walk_at "MINE_AGREE"); (first | (refine bk_two ?_ ?_ ?_ <;> (try simp only [Int.reduceToNat, List.getD_cons_zero]) <;> omega) | (refine bk_one ?_ ?_ <;> (try simp only [Int.reduceToNat, List.getD_cons_zero]) <;> omega)); (first | (simp; done) | (simp only [Array.size_append, List.size_toArray, List.length_map, List.length_cons, List.length_nil]; omega) | omega))

set_option maxHeartbeats 1000000 in
theorem c_law_entry_head (w : World) (k n : Int) (t u : Tok) (hk0 : 1 ≤ k) (hk1 : k ≤ 7) (h0 : 0 ≤ n) (h1 : n < 2048) : Sp w 249 [.int k u, .int n t] [] 2 16 (fun _ v _ => ∃ b tk, v = .bytes b tk ∧ b = byteArr (eh k n) ∧ b.size ≤ 2) := by
  have hfill : Fill PySem.Challenge.rw_pb0104_01 KF := by k_fill; trivial
  unfold Sp
  intro p loose mean mg mb dp un gd cn cs a ccd cl outer A₀ base h₀ L m s Q E B F X N T hk hd hu hret
  (refine wpAny_call ?_; k_dflt (refine' enter ?k1 ?k2 ?k3 ?k4 ?k5 ?kA ?kF ?kK ?k6 ?k7 ?k8 ?k9 ?kB ?_ ?c2 ?c3 ?c4 ?c5; (case kA => exact rfl); (case kF => exact rfl); (case kK => assumption); (case k1 => k_asm); (case k2 => k_asm); (case k3 => k_asm); (case k4 => k_asm); (case k5 => k_asm); (case k6 => k_is); (case k7 => k_is); (case k8 => ktr_room); (case k9 => first | exact BindsTo.of_eq rfl | exact binds_K (by k_in) rfl (by k_is) rfl rfl rfl); (case c5 => decide); (case kB => exact locs rfl); (case c2 => exact rfl); (case c3 => exact rfl); (case c4 => exact rfl); k_whole; intro g' L' h' tk' hG' FG' F' N' B' X' T' l1'; (try k_lt l1'); (try dsimp only); walk_at "MINE_FOLD"))
  (repeat' (first | (k_unfold; (try dsimp only)) | (k_end; wrow_close) | ((with_reducible show wpAny _ _ _ _ _ _); first | (with_reducible (first | ((with_reducible show wpAny _ _ (call (Value.ref 244) [Value.int _ _, Value.int 4 _]) _ _ _); (k_dflt (refine' use_pc (c_pieces4 _ _ _ _ ?a ?b) ?k1 ?k2 ?k3 ?k4 ?k5 ?kK ?kd ?ku ?_ ?_; (walk_at "MINE_USE0"); (case a => omega); (case b => omega))) <;> (intro l' k' t1' t2' h' tk' hB F' N2 hne'; (try simp only [List.forall_mem_cons, List.not_mem_nil, false_implies, implies_true, and_true] at hne'); (try k_sweep))) | ((with_reducible show wpAny _ _ (call (Value.ref 244) [Value.int _ _, Value.int 7 _]) _ _ _); (k_dflt (refine' use_pc (c_pieces7 _ _ _ _ ?a ?b) ?k1 ?k2 ?k3 ?k4 ?k5 ?kK ?kd ?ku ?_ ?_; (walk_at "MINE_USE0"); (case a => omega); (case b => omega))) <;> (intro l' k' t1' t2' h' tk' hB F' N2 hne'; (try simp only [List.forall_mem_cons, List.not_mem_nil, false_implies, implies_true, and_true] at hne'); (try k_sweep))) | ((with_reducible show wpAny _ _ (call (Value.ref 73) [Value.int _ _]) _ _ _); k_dflt (refine' useB (c_put_size _ _ _ ?a ?b) ?k1 ?k2 ?k3 ?k4 ?k5 ?kK ?kd ?ku ?_; (walk_at "MINE_USE0"); (case a => omega); (case b => omega)); intro tk9 h' tk' F' N' hz9; (try k_sweep)) | ((with_reducible show wpAny _ _ (subscriptTail _ _ (Value.ref _) (Value.str _ _)) _ _ _); k_dflt (refine' di_tailS (knd := strKind PR _) ?N ?m ?D (strKind_is _ _ _ _) ?v ?_; (case N => k_asm); (case m => k_mem); (case D => assumption); (case v => exact rfl)); intro _) | ((with_reducible show wpAny _ _ (call (Value.builtin "len") [Value.ref _]) _ _ _); k_dflt (refine' len_seq ?N ?m ?z ?_; (case N => k_asm); (case m => k_mem); (case z => omega)); intro _ _) | ((with_reducible show wpAny _ _ (call (Value.type _) [Value.bytes _ _]) _ _ _); refine call_bytes_bytes ?_) | ((with_reducible show wpAny _ _ (call (Value.builtin "len") [Value.ref _]) _ _ _); k_dflt (refine' pl_len ?N ?m ?D ?z ?_; (case N => k_asm); (case m => k_mem); (case D => assumption); (case z => omega)); intro _ _) | ((with_reducible show wpAny _ _ (subscriptTail _ _ (Value.ref _) (Value.bytes _ _)) _ _ _); k_dflt (refine' pl_tailS ?N ?m ?D ?v ?_; (case N => k_asm); (case m => k_mem); (case D => assumption); (case v => first | assumption | exact plAt_snoc_some _ _ _ | (simp_all; done))); intro n8 t8 k8 hn8; (try (have hb8 := PlOk.at (by assumption) hn8; obtain ⟨hb8a, hb8b⟩ := hb8))) | ((with_reducible show wpAny _ _ (binaryOp Operator.Pow (Value.int _ _) (Value.int _ _)) _ _ _); refine pow_ii (c := 16) (by decide) (by decide +kernel) (by decide) ?_) | ((with_reducible show wpAny _ _ (binaryOp Operator.Pow (Value.int _ _) (Value.int _ _)) _ _ _); refine pow_ii (c := 128) (by decide) (by decide +kernel) (by decide) ?_) | ((with_reducible show wpAny _ _ (call (Value.builtin "len") [Value.bytes _ _]) _ _ _); (refine len_bytes (by (try simp only [Array.size_append]); omega) ?_)) | ((with_reducible show wpAny _ _ (binaryOp Operator.Add (Value.bytes _ _) (Value.bytes _ _)) _ _ _); refine KBy.add_bytes (by first | omega | (simp only [Array.size_append]; omega) | ((try simp only [Array.size_append, List.size_toArray, List.length_map, List.length_cons, List.length_nil, byteArr_size, List.length_append, Array.length_toList]); omega)) ?_; intro _ _) | ((with_reducible show wpAny _ _ (call (Value.type _) [Value.ref _]) _ _ _); k_dflt (refine' bytes_K ?F ?N ?l ?i ?r ?z ?h ?_; (case F => k_asm); (case N => k_asm); (case l => is_list); (case i => first | l_ints | l_intsW); (case r => first | by_in | ((simp only [Int.reduceToNat, List.getD_cons_zero, List.getD_cons_succ]); by_in)); (case z => first | size_fits | (rw [sizeLine_eq]; simp)); (case h => with_unfolding_all rfl); k_whole); intro h' t' k' F' N' hB'; (clear hB'); (try k_sweep)) | ((with_reducible show wpAny _ _ (binaryOp Operator.Mod (Value.int _ _) (Value.int _ _)) _ _ _); refine fmod_ii (by decide) ?_) | ((with_reducible show wpAny _ _ (binaryOp Operator.FloorDiv (Value.int _ _) (Value.int _ _)) _ _ _); refine fdiv_ii (by decide) (by decide) ?_) | ((with_reducible show wpAny _ _ (binaryOp Operator.BitOr (Value.int _ _) (Value.int _ _)) _ _ _); refine or_iir 7 1 (by omega) (by omega) (by decide) ?_) | ((with_reducible show wpAny _ _ (binaryOp Operator.BitOr (Value.int _ _) (Value.int _ _)) _ _ _); refine or_ii 7 1 (by omega) (by omega) (by decide) ?_) | ((with_reducible show wpAny _ _ (binaryOp Operator.BitAnd (Value.int _ _) (Value.int _ _)) _ _ _); refine and_ii (c := 16) 4 (by omega) (by decide) (by decide) ?_) | ((with_reducible show wpAny _ _ (binaryOp Operator.BitAnd (Value.int _ _) (Value.int _ _)) _ _ _); refine and_ii (c := 128) 7 (by omega) (by decide) (by decide) ?_) | ((with_reducible show wpAny _ _ (binaryOp Operator.RShift (Value.int _ _) (Value.int _ _)) _ _ _); refine shr_ii (c := 16) (by decide) (by decide) (by decide) ?_) | ((with_reducible show wpAny _ _ (binaryOp Operator.RShift (Value.int _ _) (Value.int _ _)) _ _ _); refine shr_ii (c := 128) (by decide) (by decide) (by decide) ?_) | ((with_reducible show wpAny _ _ (exec (PySem.Stmt.While _ _ _ _) _) _ _ _); k_dflt (refine whl_start 4 ?_))))) | ((with_reducible show WhlIf _ _ _); refine whlIf_cases (fun hB => ?_) (fun hB => ?_) <;> simp only [decide_eq_true_eq, decide_eq_false_iff_not] at hB <;> first | (exfalso; omega) | skip) | walk1 | (leave1; (try dsimp only)) | dsimp only | fail "no step"))
  all_goals (refine hret _ _ _ ?_ ⟨_, _, rfl, ?_, ?_⟩; (walk_at "MINE_AGREE"); (first | (refine eh_two ?_ ?_ ?_ <;> (try simp only [Int.reduceToNat, List.getD_cons_zero]) <;> omega) | (refine eh_one ?_ ?_ <;> (try simp only [Int.reduceToNat, List.getD_cons_zero]) <;> omega)); (first | (simp; done) | (simp only [Array.size_append, List.size_toArray, List.length_map, List.length_cons, List.length_nil]; omega) | omega))



end
theorem walk_reset1 : True ∧ True := by first | (walk1 <;> trivial) | exact ⟨trivial, trivial⟩
section
open PySem PySem.W PySem.Calls PyProof.Rows
set_option Elab.async false
set_option maxRecDepth 100000
theorem and255 {n : Int} (h0 : 0 ≤ n) (h1 : n < 256) : Builtin.bitAnd n 255 = n := by
  obtain ⟨k, rfl⟩ := Int.eq_ofNat_of_zero_le h0
  have hk : k < 256 := by omega
  have : Nat.land k 255 = k := by
    have := Nat.and_two_pow_sub_one_eq_mod k 8
    simp only [show (2 : Nat) ^ 8 - 1 = 255 from rfl] at this
    rw [show Nat.land k 255 = k &&& 255 from rfl, this]
    exact Nat.mod_eq_of_lt hk
  show ((Nat.land k 255 : Nat) : Int) = k
  rw [this]
theorem be_list {n : Int} (h0 : 0 ≤ n) (h1 : n < 256) : List.map (fun k' : Int => Builtin.bitAnd (n.fdiv (2 ^ (8 * (4 - 1 - k')).toNat)) 255) (rangeKs 0 ((4 : Int) - 0).toNat) = [0, 0, 0, n] := by
  have e : rangeKs 0 ((4 : Int) - 0).toNat = [0, 1, 2, 3] := by decide
  rw [e]
  simp only [List.map_cons, List.map_nil]
  have d (m : Int) (hm : 256 ≤ m) : n.fdiv m = 0 := by
    rw [Int.fdiv_eq_ediv_of_nonneg _ (by omega)]
    exact Int.ediv_eq_zero_of_lt h0 (by omega)
  rw [d _ (by decide), d _ (by decide), d _ (by decide)]
  have e1 : n.fdiv (2 ^ ((8 : Int) * (4 - 1 - 3)).toNat) = n := by
    rw [show (2 : Int) ^ ((8 : Int) * (4 - 1 - 3)).toNat = 1 from rfl, Int.fdiv_one]
  rw [e1, and255 h0 h1]
  rfl
set_option maxHeartbeats 2000000 in
theorem c_big_endian (w : World) (n : Int) (t u : Tok) (h0 : 0 ≤ n) (h1 : n < 256) : Sp w 59 [.int n t, .int 4 u] [] 2 16 (fun _ v _ => ∃ b tk, v = .bytes b tk ∧ b = byteArr [0, 0, 0, n]) := by
  have hfill : Fill PySem.Challenge.rw_pb0104_01 KF := by k_fill; trivial
  unfold Sp
  intro p loose mean mg mb dp un gd cn cs a ccd cl outer A₀ base h₀ L m s Q E B F X N T hk hd hu hret
  (refine wpAny_call ?_; k_dflt (refine' enterC ?k1 ?k2 ?k3 ?k4 ?k5 ?kA ?kF ?kK ?k6 ?k7 ?k8 ?k9 ?kB ?kD ?_ ?c2 ?c3 ?c4; (case kA => exact rfl); (case kF => exact rfl); (case kK => assumption); (case k1 => k_asm); (case k2 => k_asm); (case k3 => k_asm); (case k4 => k_asm); (case k5 => k_asm); (case k6 => k_is); (case k7 => k_is); (case k8 => ktr_room); (case k9 => first | exact BindsTo.of_eq rfl | exact binds_K (by k_in) rfl (by k_is) rfl rfl rfl); (case kB => exact rfl); (case kD => decide +kernel); (case c2 => exact rfl); (case c3 => exact rfl); (case c4 => exact rfl); k_whole; intro g' L' h' tk' cells' hG' FG' F' N' Y' B' X' T' l1; (try k_lt l1); k_cells Y'; (try simp only [List.cons_append, List.nil_append] at N'); (try dsimp only); walk_at "MINE_FOLD"))
  (repeat' (first | (k_unfold; (try dsimp only)) | (k_end; wrow_close) | ((with_reducible show wpAny _ _ _ _ _ _); first | (with_reducible (first | ((with_reducible show wpAny _ _ (subscriptTail _ _ (Value.ref _) (Value.str _ _)) _ _ _); k_dflt (refine' di_tailS (knd := strKind PR _) ?N ?m ?D (strKind_is _ _ _ _) ?v ?_; (case N => k_asm); (case m => k_mem); (case D => assumption); (case v => exact rfl)); intro _) | ((with_reducible show wpAny _ _ (call (Value.builtin "len") [Value.ref _]) _ _ _); k_dflt (refine' len_seq ?N ?m ?z ?_; (case N => k_asm); (case m => k_mem); (case z => omega)); intro _ _) | ((with_reducible show wpAny _ _ (call (Value.type _) [Value.bytes _ _]) _ _ _); refine call_bytes_bytes ?_) | ((with_reducible show wpAny _ _ (call (Value.builtin "len") [Value.ref _]) _ _ _); k_dflt (refine' pl_len ?N ?m ?D ?z ?_; (case N => k_asm); (case m => k_mem); (case D => assumption); (case z => omega)); intro _ _) | ((with_reducible show wpAny _ _ (setItem (Value.ref _) (Value.bytes _ _) _) _ _ _); k_dflt (refine' pl_set ?F ?N ?U ?D ?v ?z ?_; (case F => k_asm); (case N => k_asm); (case U => k_updF); (case D => assumption); (case v => first | assumption | (simp_all; done)); (case z => (rw [sizeLine_eq]; omega))); intro h' o' k' F' N' D'; (try dsimp only at N'); (try k_sweep)) | ((with_reducible show wpAny _ _ (subscriptTail _ _ (Value.ref _) (Value.bytes _ _)) _ _ _); k_dflt (refine' pl_tailS ?N ?m ?D ?v ?_; (case N => k_asm); (case m => k_mem); (case D => assumption); (case v => first | assumption | exact plAt_snoc_some _ _ _ | (simp_all; done))); intro n8 t8 k8 hn8; (try (have hb8 := PlOk.at (by assumption) hn8; obtain ⟨hb8a, hb8b⟩ := hb8))) | ((with_reducible show wpAny _ _ (compareOp CmpOp.NotIn (Value.bytes _ _) (Value.ref _)) _ _ _); k_dflt (refine' pl_notin ?N ?m ?D ?_; (case N => k_asm); (case m => k_mem); (case D => assumption)); intro _) | ((with_reducible show wpAny _ _ (call (Value.builtin "len") [Value.bytes _ _]) _ _ _); (refine len_bytes (by (try simp only [Array.size_append]); omega) ?_)) | ((with_reducible show wpAny _ _ (call (Value.type _) [Value.ref _]) _ _ _); k_dflt (refine' bytes_K ?F ?N ?l ?i ?r ?z ?h ?_; (case F => k_asm); (case N => k_asm); (case l => is_list); (case i => first | l_ints | l_intsW); (case r => first | by_in | ((simp only [Int.reduceToNat, List.getD_cons_zero, List.getD_cons_succ]); by_in)); (case z => first | size_fits | (rw [sizeLine_eq]; simp)); (case h => with_unfolding_all rfl); k_whole); intro h' t' k' F' N' hB'; (clear hB'); (try k_sweep)) | ((with_reducible show wpAny _ _ (binaryOp Operator.BitAnd (Value.int _ _) (Value.int _ _)) _ _ _); refine and_ii (c := 16) 4 (by omega) (by decide) (by decide) ?_) | ((with_reducible show wpAny _ _ (binaryOp Operator.BitAnd (Value.int _ _) (Value.int _ _)) _ _ _); refine and_ii (c := 128) 7 (by omega) (by decide) (by decide) ?_) | ((with_reducible show wpAny _ _ (binaryOp Operator.RShift (Value.int _ _) (Value.int _ _)) _ _ _); refine shr_ii (c := 16) (by decide) (by decide) (by decide) ?_) | ((with_reducible show wpAny _ _ (binaryOp Operator.RShift (Value.int _ _) (Value.int _ _)) _ _ _); refine shr_ii (c := 128) (by decide) (by decide) (by decide) ?_)))) | walk1 | (leave1; (try dsimp only)) | dsimp only | fail "no step"))
  all_goals (rename IntsAre _ _ => hI; rw [be_list h0 h1] at hI; (repeat' (first | (k_unfold; (try dsimp only)) | (k_end; wrow_close) | ((with_reducible show wpAny _ _ _ _ _ _); first | (with_reducible (first | ((with_reducible show wpAny _ _ (subscriptTail _ _ (Value.ref _) (Value.str _ _)) _ _ _); k_dflt (refine' di_tailS (knd := strKind PR _) ?N ?m ?D (strKind_is _ _ _ _) ?v ?_; (case N => k_asm); (case m => k_mem); (case D => assumption); (case v => exact rfl)); intro _) | ((with_reducible show wpAny _ _ (call (Value.builtin "len") [Value.ref _]) _ _ _); k_dflt (refine' len_seq ?N ?m ?z ?_; (case N => k_asm); (case m => k_mem); (case z => omega)); intro _ _) | ((with_reducible show wpAny _ _ (call (Value.type _) [Value.bytes _ _]) _ _ _); refine call_bytes_bytes ?_) | ((with_reducible show wpAny _ _ (call (Value.builtin "len") [Value.ref _]) _ _ _); k_dflt (refine' pl_len ?N ?m ?D ?z ?_; (case N => k_asm); (case m => k_mem); (case D => assumption); (case z => omega)); intro _ _) | ((with_reducible show wpAny _ _ (setItem (Value.ref _) (Value.bytes _ _) _) _ _ _); k_dflt (refine' pl_set ?F ?N ?U ?D ?v ?z ?_; (case F => k_asm); (case N => k_asm); (case U => k_updF); (case D => assumption); (case v => first | assumption | (simp_all; done)); (case z => (rw [sizeLine_eq]; omega))); intro h' o' k' F' N' D'; (try dsimp only at N'); (try k_sweep)) | ((with_reducible show wpAny _ _ (subscriptTail _ _ (Value.ref _) (Value.bytes _ _)) _ _ _); k_dflt (refine' pl_tailS ?N ?m ?D ?v ?_; (case N => k_asm); (case m => k_mem); (case D => assumption); (case v => first | assumption | exact plAt_snoc_some _ _ _ | (simp_all; done))); intro n8 t8 k8 hn8; (try (have hb8 := PlOk.at (by assumption) hn8; obtain ⟨hb8a, hb8b⟩ := hb8))) | ((with_reducible show wpAny _ _ (compareOp CmpOp.NotIn (Value.bytes _ _) (Value.ref _)) _ _ _); k_dflt (refine' pl_notin ?N ?m ?D ?_; (case N => k_asm); (case m => k_mem); (case D => assumption)); intro _) | ((with_reducible show wpAny _ _ (call (Value.builtin "len") [Value.bytes _ _]) _ _ _); (refine len_bytes (by (try simp only [Array.size_append]); omega) ?_)) | ((with_reducible show wpAny _ _ (call (Value.type _) [Value.ref _]) _ _ _); k_dflt (refine' bytes_K ?F ?N ?l ?i ?r ?z ?h ?_; (case F => k_asm); (case N => k_asm); (case l => is_list); (case i => first | l_ints | l_intsW); (case r => first | by_in | ((simp only [Int.reduceToNat, List.getD_cons_zero, List.getD_cons_succ]); by_in)); (case z => first | size_fits | (rw [sizeLine_eq]; simp)); (case h => with_unfolding_all rfl); k_whole); intro h' t' k' F' N' hB'; (clear hB'); (try k_sweep)) | ((with_reducible show wpAny _ _ (binaryOp Operator.BitAnd (Value.int _ _) (Value.int _ _)) _ _ _); refine and_ii (c := 16) 4 (by omega) (by decide) (by decide) ?_) | ((with_reducible show wpAny _ _ (binaryOp Operator.BitAnd (Value.int _ _) (Value.int _ _)) _ _ _); refine and_ii (c := 128) 7 (by omega) (by decide) (by decide) ?_) | ((with_reducible show wpAny _ _ (binaryOp Operator.RShift (Value.int _ _) (Value.int _ _)) _ _ _); refine shr_ii (c := 16) (by decide) (by decide) (by decide) ?_) | ((with_reducible show wpAny _ _ (binaryOp Operator.RShift (Value.int _ _) (Value.int _ _)) _ _ _); refine shr_ii (c := 128) (by decide) (by decide) (by decide) ?_)))) | walk1 | (leave1; (try dsimp only)) | dsimp only | fail "no step")))
  all_goals (refine hret _ _ _ ?_ ⟨_, _, rfl, rfl⟩; walk_at "MINE_AGREE")


set_option maxHeartbeats 1000000 in
theorem c_be32 (w : World) (n : Int) (t : Tok) (h0 : 0 ≤ n) (h1 : n < 256) : Sp w 66 [.int n t] [] 3 24 (fun _ v _ => ∃ b tk, v = .bytes b tk ∧ b = byteArr [0, 0, 0, n]) := by
  have hfill : Fill PySem.Challenge.rw_pb0104_01 KF := by k_fill; trivial
  unfold Sp
  intro p loose mean mg mb dp un gd cn cs a ccd cl outer A₀ base h₀ L m s Q E B F X N T hk hd hu hret
  (refine wpAny_call ?_; k_dflt (refine' enter ?k1 ?k2 ?k3 ?k4 ?k5 ?kA ?kF ?kK ?k6 ?k7 ?k8 ?k9 ?kB ?_ ?c2 ?c3 ?c4 ?c5; (case kA => exact rfl); (case kF => exact rfl); (case kK => assumption); (case k1 => k_asm); (case k2 => k_asm); (case k3 => k_asm); (case k4 => k_asm); (case k5 => k_asm); (case k6 => k_is); (case k7 => k_is); (case k8 => ktr_room); (case k9 => first | exact BindsTo.of_eq rfl | exact binds_K (by k_in) rfl (by k_is) rfl rfl rfl); (case c5 => decide); (case kB => exact locs rfl); (case c2 => exact rfl); (case c3 => exact rfl); (case c4 => exact rfl); k_whole; intro g' L' h' tk' hG' FG' F' N' B' X' T' l1'; (try k_lt l1'); (try dsimp only); walk_at "MINE_FOLD"))
  (repeat' (first | (k_unfold; (try dsimp only)) | (k_end; wrow_close) | ((with_reducible show wpAny _ _ _ _ _ _); first | (with_reducible (first | ((with_reducible show wpAny _ _ (call (Value.ref 59) [Value.int _ _, Value.int 4 _]) _ _ _); k_dflt (refine' use0 (c_big_endian _ _ _ _ ?a ?b) ?k1 ?k2 ?k3 ?k4 ?k5 ?kK ?kd ?ku (List.forall_mem_nil _) (fun _ _ _ _ => List.forall_mem_nil _) ?_; (walk_at "MINE_USE0"); (case a => first | omega | exact (kn_num (by assumption) (by assumption)).1 | exact (kn_num1 (by assumption) (by assumption)).1); (case b => first | omega | exact (kn_num (by assumption) (by assumption)).2 | exact (kn_num1 (by assumption) (by assumption)).2)); intro v' h' tk' F' N' hP; obtain ⟨b9, tk9, hv, hb9⟩ := hP; subst hv; (try k_sweep)) | ((with_reducible show wpAny _ _ (subscriptTail _ _ (Value.ref _) (Value.str _ _)) _ _ _); k_dflt (refine' di_tailS (knd := strKind PR _) ?N ?m ?D (strKind_is _ _ _ _) ?v ?_; (case N => k_asm); (case m => k_mem); (case D => assumption); (case v => exact rfl)); intro _) | ((with_reducible show wpAny _ _ (call (Value.builtin "len") [Value.ref _]) _ _ _); k_dflt (refine' len_seq ?N ?m ?z ?_; (case N => k_asm); (case m => k_mem); (case z => omega)); intro _ _) | ((with_reducible show wpAny _ _ (call (Value.type _) [Value.bytes _ _]) _ _ _); refine call_bytes_bytes ?_) | ((with_reducible show wpAny _ _ (call (Value.builtin "len") [Value.ref _]) _ _ _); k_dflt (refine' pl_len ?N ?m ?D ?z ?_; (case N => k_asm); (case m => k_mem); (case D => assumption); (case z => omega)); intro _ _) | ((with_reducible show wpAny _ _ (setItem (Value.ref _) (Value.bytes _ _) _) _ _ _); k_dflt (refine' pl_set ?F ?N ?U ?D ?v ?z ?_; (case F => k_asm); (case N => k_asm); (case U => k_updF); (case D => assumption); (case v => first | assumption | (simp_all; done)); (case z => (rw [sizeLine_eq]; omega))); intro h' o' k' F' N' D'; (try dsimp only at N'); (try k_sweep)) | ((with_reducible show wpAny _ _ (subscriptTail _ _ (Value.ref _) (Value.bytes _ _)) _ _ _); k_dflt (refine' pl_tailS ?N ?m ?D ?v ?_; (case N => k_asm); (case m => k_mem); (case D => assumption); (case v => first | assumption | exact plAt_snoc_some _ _ _ | (simp_all; done))); intro n8 t8 k8 hn8; (try (have hb8 := PlOk.at (by assumption) hn8; obtain ⟨hb8a, hb8b⟩ := hb8))) | ((with_reducible show wpAny _ _ (compareOp CmpOp.NotIn (Value.bytes _ _) (Value.ref _)) _ _ _); k_dflt (refine' pl_notin ?N ?m ?D ?_; (case N => k_asm); (case m => k_mem); (case D => assumption)); intro _) | ((with_reducible show wpAny _ _ (call (Value.builtin "len") [Value.bytes _ _]) _ _ _); (refine len_bytes (by (try simp only [Array.size_append]); omega) ?_)) | ((with_reducible show wpAny _ _ (call (Value.type _) [Value.ref _]) _ _ _); k_dflt (refine' bytes_K ?F ?N ?l ?i ?r ?z ?h ?_; (case F => k_asm); (case N => k_asm); (case l => is_list); (case i => first | l_ints | l_intsW); (case r => first | by_in | ((simp only [Int.reduceToNat, List.getD_cons_zero, List.getD_cons_succ]); by_in)); (case z => first | size_fits | (rw [sizeLine_eq]; simp)); (case h => with_unfolding_all rfl); k_whole); intro h' t' k' F' N' hB'; (clear hB'); (try k_sweep)) | ((with_reducible show wpAny _ _ (binaryOp Operator.BitAnd (Value.int _ _) (Value.int _ _)) _ _ _); refine and_ii (c := 16) 4 (by omega) (by decide) (by decide) ?_) | ((with_reducible show wpAny _ _ (binaryOp Operator.BitAnd (Value.int _ _) (Value.int _ _)) _ _ _); refine and_ii (c := 128) 7 (by omega) (by decide) (by decide) ?_) | ((with_reducible show wpAny _ _ (binaryOp Operator.RShift (Value.int _ _) (Value.int _ _)) _ _ _); refine shr_ii (c := 16) (by decide) (by decide) (by decide) ?_) | ((with_reducible show wpAny _ _ (binaryOp Operator.RShift (Value.int _ _) (Value.int _ _)) _ _ _); refine shr_ii (c := 128) (by decide) (by decide) (by decide) ?_)))) | walk1 | (leave1; (try dsimp only)) | dsimp only | fail "no step"))
  all_goals (refine hret _ _ _ ?_ ⟨_, _, rfl, ?_⟩; (walk_at "MINE_AGREE"); assumption)
/-- a hasher: its octets and the dict of what it knows -/
noncomputable abbrev hsObj (w : World) (ts t4 tk : Tok) (D : Addr) : Obj := dictOf [⟨PyData.keyHash w.params (Str.ofString "size"), .str (Str.ofString "size") ts, .int 4 t4⟩, ⟨PyData.keyHash w.params (Str.ofString "known"), .str (Str.ofString "known") tk, .ref D⟩] 2
noncomputable def DigPost (w : World) (x dx D : Addr) (ts t4 tk : Tok) (kn : List (List UInt8 × Int)) (c : Array UInt8) (v : Value) (h' : Heap) : Prop :=
  ∃ b tk' n o', v = .bytes b tk' ∧ b = byteArr [0, 0, 0, n] ∧ plAt (dig kn c.toList) c.toList = some n ∧ Pl w D o' (dig kn c.toList) ∧
      h'.get? x = some (instObj 105 dx) ∧ h'.get? dx = some (hsObj w ts t4 tk D) ∧ h'.get? D = some o'
theorem digest_post {w : World} {h₀ h' : Heap} {L x dx D : Addr} {ts t4 tk tc tk' : Tok} {o' : Obj} {kn : List (List UInt8 × Int)} {b c : Array UInt8} {n : Int} (N : News h₀ L h' [(x, instObj 105 dx), (dx, hsObj w ts t4 tk D), (D, o')]) (hb : b = byteArr [0, 0, 0, n])
    (hn : plAt (dig kn c.toList) c.toList = some n) (hP : Pl w D o' (dig kn c.toList)) : DigPost w x dx D ts t4 tk kn c (.bytes b tk') h' :=
  ⟨b, tk', n, o', rfl, hb, hn, hP, (N _ (.head _)).1, (N _ (.tail _ (.head _))).1, (N _ (.tail _ (.tail _ (.head _)))).1⟩
set_option maxHeartbeats 2000000 in
theorem c_digest (w : World) (x dx D : Addr) (ts t4 tk : Tok) (o : Obj) (kn : List (List UInt8 × Int)) (c : Array UInt8) (tc : Tok) (hxd : x ≠ dx) (hxD : x ≠ D) (hdD : dx ≠ D) (hP : Pl w D o kn) (hK : Kn kn) (hc : c.size ≤ 10000) :
    Sp w 102 [.ref x, .bytes c tc] [(x, instObj 105 dx), (dx, dictOf [⟨PyData.keyHash w.params (Str.ofString "size"), .str (Str.ofString "size") ts, .int 4 t4⟩, ⟨PyData.keyHash w.params (Str.ofString "known"), .str (Str.ofString "known") tk, .ref D⟩] 2), (D, o)] 4 40
    (fun _ v h' => DigPost w x dx D ts t4 tk kn c v h') := by
  have hfill : Fill PySem.Challenge.rw_pb0104_01 KF := by k_fill; trivial
  have hK1 := hK.1
  unfold Sp
  intro p loose mean mg mb dp un gd cn cs a ccd cl outer A₀ base h₀ L m s Q E B F X N T hk hd hu hret
  (refine wpAny_call ?_; k_dflt (refine' enter ?k1 ?k2 ?k3 ?k4 ?k5 ?kA ?kF ?kK ?k6 ?k7 ?k8 ?k9 ?kB ?_ ?c2 ?c3 ?c4 ?c5; (case kA => exact rfl); (case kF => exact rfl); (case kK => assumption); (case k1 => k_asm); (case k2 => k_asm); (case k3 => k_asm); (case k4 => k_asm); (case k5 => k_asm); (case k6 => k_is); (case k7 => k_is); (case k8 => ktr_room); (case k9 => first | exact BindsTo.of_eq rfl | exact binds_K (by k_in) rfl (by k_is) rfl rfl rfl); (case c5 => decide); (case kB => exact locs rfl); (case c2 => exact rfl); (case c3 => exact rfl); (case c4 => exact rfl); k_whole; intro g' L' h' tk' hG' FG' F' N' B' X' T' l1'; (try k_lt l1'); (try dsimp only); walk_at "MINE_FOLD"))
  (repeat' (first | (k_unfold; (try dsimp only)) | (k_end; wrow_close) | ((with_reducible show wpAny _ _ _ _ _ _); first | (with_reducible (first | ((with_reducible show wpAny _ _ (call (Value.ref 66) [Value.int _ _]) _ _ _); k_dflt (refine' use0 (c_be32 _ _ _ ?a ?b) ?k1 ?k2 ?k3 ?k4 ?k5 ?kK ?kd ?ku (List.forall_mem_nil _) (fun _ _ _ _ => List.forall_mem_nil _) ?_; (walk_at "MINE_USE0"); (case a => omega); (case b => omega)); intro v' h' tk' F' N' hP; obtain ⟨b9, tk9, hv, hb9⟩ := hP; subst hv; (try k_sweep)) | ((with_reducible show wpAny _ _ (call (Value.ref 59) [Value.int _ _, Value.int 4 _]) _ _ _); k_dflt (refine' use0 (c_big_endian _ _ _ _ ?a ?b) ?k1 ?k2 ?k3 ?k4 ?k5 ?kK ?kd ?ku (List.forall_mem_nil _) (fun _ _ _ _ => List.forall_mem_nil _) ?_; (walk_at "MINE_USE0"); (case a => first | omega | exact (kn_num (by assumption) (by assumption)).1 | exact (kn_num1 (by assumption) (by assumption)).1); (case b => first | omega | exact (kn_num (by assumption) (by assumption)).2 | exact (kn_num1 (by assumption) (by assumption)).2)); intro v' h' tk' F' N' hP; obtain ⟨b9, tk9, hv, hb9⟩ := hP; subst hv; (try k_sweep)) | ((with_reducible show wpAny _ _ (subscriptTail _ _ (Value.ref _) (Value.str _ _)) _ _ _); k_dflt (refine' di_tailS (knd := strKind PR _) ?N ?m ?D (strKind_is _ _ _ _) ?v ?_; (case N => k_asm); (case m => k_mem); (case D => assumption); (case v => exact rfl)); intro _) | ((with_reducible show wpAny _ _ (call (Value.builtin "len") [Value.ref _]) _ _ _); k_dflt (refine' len_seq ?N ?m ?z ?_; (case N => k_asm); (case m => k_mem); (case z => omega)); intro _ _) | ((with_reducible show wpAny _ _ (call (Value.type _) [Value.bytes _ _]) _ _ _); refine call_bytes_bytes ?_) | ((with_reducible show wpAny _ _ (call (Value.builtin "len") [Value.ref _]) _ _ _); k_dflt (refine' pl_len ?N ?m ?D ?z ?_; (case N => k_asm); (case m => k_mem); (case D => assumption); (case z => omega)); intro _ _) | ((with_reducible show wpAny _ _ (setItem (Value.ref _) (Value.bytes _ _) _) _ _ _); k_dflt (refine' pl_set ?F ?N ?U ?D ?v ?z ?_; (case F => k_asm); (case N => k_asm); (case U => k_updF); (case D => assumption); (case v => first | assumption | (simp_all; done)); (case z => (rw [sizeLine_eq]; omega))); intro h' o' k' F' N' D'; (try dsimp only at N'); (try k_sweep)) | ((with_reducible show wpAny _ _ (subscriptTail _ _ (Value.ref _) (Value.bytes _ _)) _ _ _); k_dflt (refine' pl_tailS ?N ?m ?D ?v ?_; (case N => k_asm); (case m => k_mem); (case D => assumption); (case v => first | assumption | exact plAt_snoc_some _ _ _ | (simp_all; done))); intro n8 t8 k8 hn8; (try (have hb8 := PlOk.at (by assumption) hn8; obtain ⟨hb8a, hb8b⟩ := hb8))) | ((with_reducible show wpAny _ _ (compareOp CmpOp.NotIn (Value.bytes _ _) (Value.ref _)) _ _ _); k_dflt (refine' pl_notin ?N ?m ?D ?_; (case N => k_asm); (case m => k_mem); (case D => assumption)); intro _) | ((with_reducible show wpAny _ _ (call (Value.builtin "len") [Value.bytes _ _]) _ _ _); (refine len_bytes (by (try simp only [Array.size_append]); omega) ?_)) | ((with_reducible show wpAny _ _ (call (Value.type _) [Value.ref _]) _ _ _); k_dflt (refine' bytes_K ?F ?N ?l ?i ?r ?z ?h ?_; (case F => k_asm); (case N => k_asm); (case l => is_list); (case i => first | l_ints | l_intsW); (case r => first | by_in | ((simp only [Int.reduceToNat, List.getD_cons_zero, List.getD_cons_succ]); by_in)); (case z => first | size_fits | (rw [sizeLine_eq]; simp)); (case h => with_unfolding_all rfl); k_whole); intro h' t' k' F' N' hB'; (clear hB'); (try k_sweep)) | ((with_reducible show wpAny _ _ (binaryOp Operator.BitAnd (Value.int _ _) (Value.int _ _)) _ _ _); refine and_ii (c := 16) 4 (by omega) (by decide) (by decide) ?_) | ((with_reducible show wpAny _ _ (binaryOp Operator.BitAnd (Value.int _ _) (Value.int _ _)) _ _ _); refine and_ii (c := 128) 7 (by omega) (by decide) (by decide) ?_) | ((with_reducible show wpAny _ _ (binaryOp Operator.RShift (Value.int _ _) (Value.int _ _)) _ _ _); refine shr_ii (c := 16) (by decide) (by decide) (by decide) ?_) | ((with_reducible show wpAny _ _ (binaryOp Operator.RShift (Value.int _ _) (Value.int _ _)) _ _ _); refine shr_ii (c := 128) (by decide) (by decide) (by decide) ?_)))) | walk1 | (leave1; (try dsimp only)) | dsimp only | fail "no step"))
  all_goals (rename (plAt kn c.toList).isSome = _ => hq; rename plAt _ _ = some _ => hn8; (first | have e8 := dig_old hq | have e8 := dig_new hq); refine' hret _ _ _ ?x1 (digest_post (tc := tc) (c := c) (n := _) ?N ?b ?n ?P); (case x1 => walk_at "MINE_AGREE"); (case N => assumption); (case b => assumption); (case n => rw [e8]; exact hn8); (case P => rw [e8]; assumption))


end
theorem walk_reset2 : True ∧ True := by first | (walk1 <;> trivial) | exact ⟨trivial, trivial⟩
section
open PySem PySem.W PySem.Calls PyProof.Rows
set_option Elab.async false
set_option maxRecDepth 100000
/-- the octets of a pack but its sum -/
noncomputable def packHead (n : Int) (body : Array UInt8) : Array UInt8 := #[80, 65, 67, 75] ++ byteArr [0, 0, 0, 2] ++ byteArr [0, 0, 0, n] ++ body
noncomputable def ClosePost (w : World) (x dx D : Addr) (ts t4 tk : Tok) (kn : List (List UInt8 × Int)) (c : Array UInt8) (v : Value) (h' : Heap) : Prop :=
  ∃ b tk' n o', v = .bytes b tk' ∧ b = c ++ byteArr [0, 0, 0, n] ∧ plAt (dig kn c.toList) c.toList = some n ∧ Pl w D o' (dig kn c.toList) ∧
      h'.get? x = some (instObj 105 dx) ∧ h'.get? dx = some (hsObj w ts t4 tk D) ∧ h'.get? D = some o'
theorem close_post {w : World} {h₀ h' : Heap} {L x dx D : Addr} {ts t4 tk tc tk' : Tok} {o' : Obj} {kn : List (List UInt8 × Int)} {b c : Array UInt8} {n : Int} (N : News h₀ L h' [(x, instObj 105 dx), (dx, hsObj w ts t4 tk D), (D, o')]) (hb : b = c ++ byteArr [0, 0, 0, n])
    (hn : plAt (dig kn c.toList) c.toList = some n) (hP : Pl w D o' (dig kn c.toList)) : ClosePost w x dx D ts t4 tk kn c (.bytes b tk') h' :=
  ⟨b, tk', n, o', rfl, hb, hn, hP, (N _ (.head _)).1, (N _ (.tail _ (.head _))).1, (N _ (.tail _ (.tail _ (.head _)))).1⟩
set_option maxHeartbeats 2000000 in
theorem c_pack_closed (w : World) (x dx D : Addr) (u1 u2 u3 : Tok) (o : Obj) (kn : List (List UInt8 × Int)) (n : Int) (tn : Tok) (body : Array UInt8) (tb : Tok) (hxd : x ≠ dx) (hxD : x ≠ D) (hdD : dx ≠ D) (hP : Pl w D o kn) (hK : Kn kn) (hb : body.size ≤ 9000) (h0 : 0 ≤ n) (h1 : n < 256) :
    Sp w 196 [.int n tn, .bytes body tb, .ref x] [(x, instObj 105 dx), (dx, dictOf [⟨PyData.keyHash w.params (Str.ofString "size"), .str (Str.ofString "size") u1, .int 4 u2⟩, ⟨PyData.keyHash w.params (Str.ofString "known"), .str (Str.ofString "known") u3, .ref D⟩] 2), (D, o)] 6 60
    (fun _ v h' => ClosePost w x dx D u1 u2 u3 kn (packHead n body) v h') := by
  have hfill : Fill PySem.Challenge.rw_pb0104_01 KF := by k_fill; trivial
  unfold Sp
  intro p loose mean mg mb dp un gd cn cs a ccd cl outer A₀ base h₀ L m s Q E B F X N T hk hd hu hret
  (refine wpAny_call ?_; k_dflt (refine' enter ?k1 ?k2 ?k3 ?k4 ?k5 ?kA ?kF ?kK ?k6 ?k7 ?k8 ?k9 ?kB ?_ ?c2 ?c3 ?c4 ?c5; (case kA => exact rfl); (case kF => exact rfl); (case kK => assumption); (case k1 => k_asm); (case k2 => k_asm); (case k3 => k_asm); (case k4 => k_asm); (case k5 => k_asm); (case k6 => k_is); (case k7 => k_is); (case k8 => ktr_room); (case k9 => first | exact BindsTo.of_eq rfl | exact binds_K (by k_in) rfl (by k_is) rfl rfl rfl); (case c5 => decide); (case kB => exact locs rfl); (case c2 => exact rfl); (case c3 => exact rfl); (case c4 => exact rfl); k_whole; intro g' L' h' tk' hG' FG' F' N' B' X' T' l1'; (try k_lt l1'); (try dsimp only); walk_at "MINE_FOLD"))
  (repeat' (first | (k_unfold; (try dsimp only)) | (k_end; wrow_close) | ((with_reducible show wpAny _ _ _ _ _ _); first | (with_reducible (first | ((with_reducible show wpAny _ _ (call (Value.ref 102) _) _ _ _); refine halt ?_) | ((with_reducible show wpAny _ _ (call (Value.ref 66) [Value.int _ _]) _ _ _); k_dflt (refine' use0 (c_be32 _ _ _ ?a ?b) ?k1 ?k2 ?k3 ?k4 ?k5 ?kK ?kd ?ku (List.forall_mem_nil _) (fun _ _ _ _ => List.forall_mem_nil _) ?_; (walk_at "MINE_USE0"); (case a => omega); (case b => omega)); intro v' h' tk' F' N' hP; obtain ⟨b9, tk9, hv, hb9⟩ := hP; subst hv hb9; (try k_sweep)) | ((with_reducible show wpAny _ _ (binaryOp Operator.Add (Value.bytes _ _) (Value.bytes _ _)) _ _ _); refine KBy.add_bytes (by first | omega | (simp only [Array.size_append]; omega) | ((try simp only [Array.size_append, List.size_toArray, List.length_map, List.length_cons, List.length_nil, byteArr_size, List.length_append, Array.length_toList]); omega)) ?_; intro _ _)))) | walk1 | (leave1; (try dsimp only)) | dsimp only | fail "no step"))
  all_goals unfold Halt
  refine' use (c_digest w x dx D u1 u2 u3 o kn (packHead n body) _ hxd hxD hdD hP hK ?z) ?k1 ?k2 ?k3 ?k4 ?k5 ?kK ?kd ?ku [] ?hs ?hr ?_
  walk_at "MINE_USE0"
  case z => unfold packHead; simp only [Array.size_append, List.size_toArray, List.length_cons, List.length_nil, byteArr_size]; omega
  case hs => exact fun q hq => hq
  case hr => exact fun _ h => nomatch h
  intro v' h' tk' F' N' hne hput hP'
  obtain ⟨b9, tk9, n9, o9, hv, hb9, hn9, hP9, g1, g2, g3⟩ := hP'
  subst hv
  have N1 := hput D _ _ (.inl (by simp)) g3 N'
  have N2 := hput dx _ _ (.inl (by simp)) g2 N1
  have N3 := hput x _ _ (.inl (by simp)) g1 N2
  clear hput hne N' N1 N2 g1 g2 g3
  have hbz : b9.size = 4 := by rw [hb9, byteArr_size]; rfl
  k_sweep
  (repeat' (first | (k_unfold; (try dsimp only)) | (k_end; wrow_close) | ((with_reducible show wpAny _ _ _ _ _ _); first | (with_reducible (first | ((with_reducible show wpAny _ _ (call (Value.ref 102) _) _ _ _); refine halt ?_) | ((with_reducible show wpAny _ _ (call (Value.ref 66) [Value.int _ _]) _ _ _); k_dflt (refine' use0 (c_be32 _ _ _ ?a ?b) ?k1 ?k2 ?k3 ?k4 ?k5 ?kK ?kd ?ku (List.forall_mem_nil _) (fun _ _ _ _ => List.forall_mem_nil _) ?_; (walk_at "MINE_USE0"); (case a => omega); (case b => omega)); intro v' h' tk' F' N' hP; obtain ⟨b9, tk9, hv, hb9⟩ := hP; subst hv hb9; (try k_sweep)) | ((with_reducible show wpAny _ _ (binaryOp Operator.Add (Value.bytes _ _) (Value.bytes _ _)) _ _ _); refine KBy.add_bytes (by first | omega | (simp only [Array.size_append]; omega) | ((try simp only [Array.size_append, List.size_toArray, List.length_map, List.length_cons, List.length_nil, byteArr_size, List.length_append, Array.length_toList]); omega)) ?_; intro _ _)))) | walk1 | (leave1; (try dsimp only)) | dsimp only | fail "no step"))
  all_goals (refine' hret _ _ _ ?x1 (close_post (tc := tb) (c := packHead n body) ?N ?b ?n ?P); (case x1 => walk_at "MINE_AGREE"); (case N => assumption); (case b => rw [hb9]; rfl); (case n => exact hn9); (case P => exact hP9))

/-- a builder, its pieces and its places -/
noncomputable abbrev bdObj (w : World) (v1 v2 v3 v4 v5 v6 v7 : Tok) (H C P D : Addr) (bp : Bool) (len : Int) : Obj := dictOf [⟨PyData.keyHash w.params (Str.ofString "hasher"), .str (Str.ofString "hasher") v1, .ref H⟩, ⟨PyData.keyHash w.params (Str.ofString "codec"), .str (Str.ofString "codec") v2, .ref C⟩, ⟨PyData.keyHash w.params (Str.ofString "by_offset"), .str (Str.ofString "by_offset") v3, .bool bp⟩, ⟨PyData.keyHash w.params (Str.ofString "pieces"), .str (Str.ofString "pieces") v4, .ref P⟩, ⟨PyData.keyHash w.params (Str.ofString "length"), .str (Str.ofString "length") v5, .int len v7⟩, ⟨PyData.keyHash w.params (Str.ofString "places"), .str (Str.ofString "places") v6, .ref D⟩] 6


end
theorem walk_reset3 : True ∧ True := by first | (walk1 <;> trivial) | exact ⟨trivial, trivial⟩
section
open PySem PySem.W PySem.Calls PyProof.Rows
set_option Elab.async false
set_option maxRecDepth 100000
theorem fa1 {α : Type} {P : α → Prop} {a : α} {l : List α} (h1 : P a) (h2 : ∀ q ∈ l, P q) : ∀ q ∈ a :: l, P q := List.forall_mem_cons.mpr ⟨h1, h2⟩
noncomputable abbrev lsObj (vs : List Value) (n : Nat) : Obj := { cls := .type "list", data := .seq vs.toArray n }
theorem closed_post {w : World} {v1 v2 v3 v4 v5 v6 v7 u1 u2 u3 tk' : Tok} {bx bdx Pc C PlA x dx D L : Addr} {bp : Bool} {len : Int} {vs : List Value} {np : Nat} {o' : Obj} {kn : List (List UInt8 × Int)} {b c : Array UInt8} {n : Int} {h₀ h' : Heap}
    (N : News h₀ L h' [(x, instObj 105 dx), (dx, hsObj w u1 u2 u3 D), (D, o'), (bx, instObj 185 bdx), (bdx, bdObj w v1 v2 v3 v4 v5 v6 v7 x C Pc PlA bp len), (Pc, lsObj vs np)]) (hb : b = c ++ byteArr [0, 0, 0, n])
    (hn : plAt (dig kn c.toList) c.toList = some n) (hP : Pl w D o' (dig kn c.toList)) :
    ClosePost w x dx D u1 u2 u3 kn c (.bytes b tk') h' ∧ h'.get? bx = some (instObj 185 bdx) ∧ h'.get? bdx = some (bdObj w v1 v2 v3 v4 v5 v6 v7 x C Pc PlA bp len) ∧ h'.get? Pc = some (lsObj vs np) :=
  ⟨⟨b, tk', n, o', rfl, hb, hn, hP, (N _ (.head _)).1, (N _ (.tail _ (.head _))).1, (N _ (.tail _ (.tail _ (.head _)))).1⟩, (N _ (.tail _ (.tail _ (.tail _ (.head _))))).1, (N _ (.tail _ (.tail _ (.tail _ (.tail _ (.head _)))))).1, (N _ (.tail _ (.tail _ (.tail _ (.tail _ (.tail _ (.head _))))))).1⟩
set_option maxHeartbeats 2000000 in
theorem c_close (w : World) (v1 v2 v3 v4 v5 v6 v7 u1 u2 u3 : Tok) (bx bdx Pc C PlA x dx D : Addr) (bp : Bool) (len : Int) (vs : List Value) (np : Nat) (ps : List (Array UInt8)) (o : Obj) (kn : List (List UInt8 × Int))
    (hnd : [bx, bdx, Pc, x, dx, D].Nodup) (hV : BV vs ps) (hz : (cat ps).size ≤ 9000) (hl : ps.length < 256) (hP : Pl w D o kn) (hK : Kn kn) :
    Sp w 182 [.ref bx] [(bx, instObj 185 bdx), (bdx, dictOf [⟨PyData.keyHash w.params (Str.ofString "hasher"), .str (Str.ofString "hasher") v1, .ref x⟩, ⟨PyData.keyHash w.params (Str.ofString "codec"), .str (Str.ofString "codec") v2, .ref C⟩, ⟨PyData.keyHash w.params (Str.ofString "by_offset"), .str (Str.ofString "by_offset") v3, .bool bp⟩, ⟨PyData.keyHash w.params (Str.ofString "pieces"), .str (Str.ofString "pieces") v4, .ref Pc⟩, ⟨PyData.keyHash w.params (Str.ofString "length"), .str (Str.ofString "length") v5, .int len v7⟩, ⟨PyData.keyHash w.params (Str.ofString "places"), .str (Str.ofString "places") v6, .ref PlA⟩] 6),
      (Pc, { cls := .type "list", data := .seq vs.toArray np }), (x, instObj 105 dx), (dx, dictOf [⟨PyData.keyHash w.params (Str.ofString "size"), .str (Str.ofString "size") u1, .int 4 u2⟩, ⟨PyData.keyHash w.params (Str.ofString "known"), .str (Str.ofString "known") u3, .ref D⟩] 2), (D, o)] 8 80
    (fun _ v h' => ClosePost w x dx D u1 u2 u3 kn (packHead ps.length (cat ps)) v h' ∧ h'.get? bx = some (instObj 185 bdx) ∧ h'.get? bdx = some (bdObj w v1 v2 v3 v4 v5 v6 v7 x C Pc PlA bp len) ∧ h'.get? Pc = some { cls := .type "list", data := .seq vs.toArray np }) := by
  have hfill : Fill PySem.Challenge.rw_pb0104_01 KF := by k_fill; trivial
  have hlen := hV.length
  unfold Sp
  intro p loose mean mg mb dp un gd cn cs a ccd cl outer A₀ base h₀ L m s Q E B F X N T hk hd hu hret
  (refine wpAny_call ?_; k_dflt (refine' enter ?k1 ?k2 ?k3 ?k4 ?k5 ?kA ?kF ?kK ?k6 ?k7 ?k8 ?k9 ?kB ?_ ?c2 ?c3 ?c4 ?c5; (case kA => exact rfl); (case kF => exact rfl); (case kK => assumption); (case k1 => k_asm); (case k2 => k_asm); (case k3 => k_asm); (case k4 => k_asm); (case k5 => k_asm); (case k6 => k_is); (case k7 => k_is); (case k8 => ktr_room); (case k9 => first | exact BindsTo.of_eq rfl | exact binds_K (by k_in) rfl (by k_is) rfl rfl rfl); (case c5 => decide); (case kB => exact locs rfl); (case c2 => exact rfl); (case c3 => exact rfl); (case c4 => exact rfl); k_whole; intro g' L' h' tk' hG' FG' F' N' B' X' T' l1'; (try k_lt l1'); (try dsimp only); walk_at "MINE_FOLD"))
  (repeat' (first | (k_unfold; (try dsimp only)) | (k_end; wrow_close) | ((with_reducible show wpAny _ _ _ _ _ _); first | (with_reducible (first | ((with_reducible show wpAny _ _ (call (Value.builtin "bytes.join") [Value.bytes _ _, Value.ref _]) _ _ _); k_dflt (refine' call_join ?o ?v ?z ?_; (case o => exact News.get (by k_asm) (by k_mem)); (case v => assumption); (case z => (rw [sizeLine_eq]; omega))); intro _ _) | ((with_reducible show wpAny _ _ (call (Value.ref 196) _) _ _ _); refine halt ?_) | ((with_reducible show wpAny _ _ (getMethod (Value.bytes _ _) _ _) _ _ _); (with_reducible refine BJ.method ?_)) | ((with_reducible show wpAny _ _ (call (Value.builtin "len") [Value.ref _]) _ _ _); k_dflt (refine' len_seq ?N ?m ?z ?_; (case N => k_asm); (case m => k_mem); (case z => omega)); intro _ _) | ((with_reducible show wpAny _ _ (call (Value.builtin "len") [Value.ref _]) _ _ _); k_dflt (refine' pl_len ?N ?m ?D ?z ?_; (case N => k_asm); (case m => k_mem); (case D => assumption); (case z => omega)); intro _ _) | ((with_reducible show wpAny _ _ (call (Value.builtin "len") [Value.bytes _ _]) _ _ _); (refine len_bytes (by (try simp only [Array.size_append]); omega) ?_))))) | walk1 | (leave1; (try dsimp only)) | dsimp only | fail "no step"))
  unfold Halt
  simp only [List.nodup_cons, List.mem_cons, List.not_mem_nil, or_false, not_or, not_false_eq_true, List.nodup_nil, and_true] at hnd
  obtain ⟨⟨n1, n2, n3, n4, n5⟩, ⟨n6, n7, n8, n9⟩, ⟨n10, n11, n12⟩, ⟨n13, n14⟩, n15⟩ := hnd
  rw [hlen]
  refine' use (c_pack_closed w x dx D u1 u2 u3 o kn ps.length _ (cat ps) _ n13 n14 n15 hP hK hz (by omega) (by omega)) ?k1 ?k2 ?k3 ?k4 ?k5 ?kK ?kd ?ku [(bx, instObj 185 bdx), (bdx, bdObj w v1 v2 v3 v4 v5 v6 v7 x C Pc PlA bp len), (Pc, { cls := .type "list", data := .seq vs.toArray np })] ?hs ?hr ?_
  walk_at "MINE_USE0"
  case hs => exact fun q hq => List.mem_cons_of_mem _ (List.mem_cons_of_mem _ (List.mem_cons_of_mem _ hq))
  case hr =>
    exact fa1 ⟨.head _, by simp [n3, n4, n5]⟩ (fa1 ⟨.tail _ (.head _), by simp [n7, n8, n9]⟩ (fa1 ⟨.tail _ (.tail _ (.head _)), by simp [n10, n11, n12]⟩ (fun _ h => nomatch h)))
  intro v' h' tk' F' N' hne hput hP'
  obtain ⟨b9, tk9, n9', o9, hv, hb9, hn9, hP9, g1, g2, g3⟩ := hP'
  subst hv
  have N1 := hput D _ _ (.inl (by simp)) g3 N'
  have N2 := hput dx _ _ (.inl (by simp)) g2 N1
  have N3 := hput x _ _ (.inl (by simp)) g1 N2
  clear hput hne N' N1 N2 g1 g2 g3
  k_sweep
  (repeat' (first | (k_unfold; (try dsimp only)) | (k_end; wrow_close) | ((with_reducible show wpAny _ _ _ _ _ _); first | (with_reducible (first | ((with_reducible show wpAny _ _ (call (Value.builtin "bytes.join") [Value.bytes _ _, Value.ref _]) _ _ _); k_dflt (refine' call_join ?o ?v ?z ?_; (case o => exact News.get (by k_asm) (by k_mem)); (case v => assumption); (case z => (rw [sizeLine_eq]; omega))); intro _ _) | ((with_reducible show wpAny _ _ (call (Value.ref 196) _) _ _ _); refine halt ?_) | ((with_reducible show wpAny _ _ (getMethod (Value.bytes _ _) _ _) _ _ _); (with_reducible refine BJ.method ?_)) | ((with_reducible show wpAny _ _ (call (Value.builtin "len") [Value.ref _]) _ _ _); k_dflt (refine' len_seq ?N ?m ?z ?_; (case N => k_asm); (case m => k_mem); (case z => omega)); intro _ _) | ((with_reducible show wpAny _ _ (call (Value.builtin "len") [Value.ref _]) _ _ _); k_dflt (refine' pl_len ?N ?m ?D ?z ?_; (case N => k_asm); (case m => k_mem); (case D => assumption); (case z => omega)); intro _ _) | ((with_reducible show wpAny _ _ (call (Value.builtin "len") [Value.bytes _ _]) _ _ _); (refine len_bytes (by (try simp only [Array.size_append]); omega) ?_))))) | walk1 | (leave1; (try dsimp only)) | dsimp only | fail "no step"))
  refine' hret _ _ _ ?x1 (closed_post ?N hb9 hn9 hP9)
  case x1 => walk_at "MINE_AGREE"
  case N => assumption


end
theorem walk_reset4 : True ∧ True := by first | (walk1 <;> trivial) | exact ⟨trivial, trivial⟩
section
open PySem PySem.W PySem.Calls PyProof.Rows
set_option Elab.async false
set_option maxRecDepth 100000
/-- the deck: what is left of the script, and the mixer -/
noncomputable def Deck (w : World) (dk Lf : Addr) (od ol : Obj) : Prop := ∃ (ys : List Value) (ns : List Int) (nl : Nat) (mx : Int) (tm : Tok), DI (strKind PR w) dk od [(Str.ofString "left", .ref Lf), (Str.ofString "mixed", .int mx tm)] ∧ ol = { cls := .type "list", data := .seq ys.toArray nl } ∧ IntsAre ys ns ∧ ys.length ≤ 64 ∧ 0 ≤ mx ∧ mx < 1000003
noncomputable def DrawPost (w : World) (dk Lf : Addr) (many : Int) (v : Value) (h' : Heap) : Prop := ∃ r tr od' ol', v = .int r tr ∧ 0 ≤ r ∧ r < many ∧ Deck w dk Lf od' ol' ∧ h'.get? dk = some od' ∧ h'.get? Lf = some ol'
theorem draw_post {w : World} {dk Lf L : Addr} {many z : Int} {tr tm : Tok} {h₀ h' : Heap} {od : Obj} {ys : List Value} {ns : List Int} {nl : Nat} {mx : Int} {news : List (Addr × Obj)} (hm : 0 < many) (N : News h₀ L h' news) (m1 : (dk, od) ∈ news) (m2 : (Lf, ({ cls := .type "list", data := .seq ys.toArray nl } : Obj)) ∈ news)
    (hD : DI (strKind PR w) dk od [(Str.ofString "left", .ref Lf), (Str.ofString "mixed", .int mx tm)]) (hI : IntsAre ys ns) (hy : ys.length ≤ 64) (hx0 : 0 ≤ mx) (hx1 : mx < 1000003) : DrawPost w dk Lf many (.int (z.fmod many) tr) h' :=
  ⟨_, _, _, _, rfl, Int.fmod_nonneg_of_pos _ hm, Int.fmod_lt_of_pos _ hm, ⟨ys, ns, nl, mx, tm, hD, rfl, hI, hy, hx0, hx1⟩, (N _ m1).1, (N _ m2).1⟩
set_option maxHeartbeats 2000000 in
theorem c_draw (w : World) (dk Lf : Addr) (od ol : Obj) (many : Int) (tma : Tok) (hne : dk ≠ Lf) (hm : 0 < many) (hm2 : many < 100) (hK : Deck w dk Lf od ol) : Sp w 237 [.ref dk, .int many tma] [(dk, od), (Lf, ol)] 2 16
    (fun _ v h' => DrawPost w dk Lf many v h') := by
  have hfill : Fill PySem.Challenge.rw_pb0104_01 KF := by k_fill; trivial
  have hne' : Lf ≠ dk := fun e => hne e.symm
  obtain ⟨ys, ns, nl, mx, tm, hD, hol, hI, hy, hx0, hx1⟩ := hK
  subst hol
  unfold Sp
  intro p loose mean mg mb dp un gd cn cs a ccd cl outer A₀ base h₀ L m s Q E B F X N T hk hd hu hret
  (refine wpAny_call ?_; k_dflt (refine' enter ?k1 ?k2 ?k3 ?k4 ?k5 ?kA ?kF ?kK ?k6 ?k7 ?k8 ?k9 ?kB ?_ ?c2 ?c3 ?c4 ?c5; (case kA => exact rfl); (case kF => exact rfl); (case kK => assumption); (case k1 => k_asm); (case k2 => k_asm); (case k3 => k_asm); (case k4 => k_asm); (case k5 => k_asm); (case k6 => k_is); (case k7 => k_is); (case k8 => ktr_room); (case k9 => first | exact BindsTo.of_eq rfl | exact binds_K (by k_in) rfl (by k_is) rfl rfl rfl); (case c5 => decide); (case kB => exact locs rfl); (case c2 => exact rfl); (case c3 => exact rfl); (case c4 => exact rfl); k_whole; intro g' L' h' tk' hG' FG' F' N' B' X' T' l1'; (try k_lt l1'); (try dsimp only); walk_at "MINE_FOLD"))
  cases hI with
  | nil =>
    (repeat' (first | (k_unfold; (try dsimp only)) | (k_end; wrow_close) | ((with_reducible show wpAny _ _ _ _ _ _); first | (with_reducible (first | ((with_reducible show wpAny _ _ (call (Value.builtin _) [Value.ref _, Value.int 0 _]) _ _ _); k_dflt (refine' pop0 ?F ?N ?U ?z ?_; (case F => k_asm); (case N => k_asm); (case U => k_upd); (case z => (simp only [List.length_cons] at *; omega))); intro h' k' F' N'; (try dsimp only [List.nil_append, List.cons_append] at N'); (try k_sweep)) | ((with_reducible show wpAny _ _ (compareOp CmpOp.NotEq (Value.ref _) (Value.ref _)) _ _ _); k_dflt (refine' ne_nil ?N ?m ?m2 ?u ?_; (case N => k_asm); (case m => k_mem); (case m2 => k_mem); (case u => ktr_units)); (try dsimp only)) | ((with_reducible show wpAny _ _ (setItem (Value.ref _) (Value.str _ _) _) _ _ _); k_dflt (refine' di_set (knd := strKind PR _) ?F ?N ?U ?D (strKind_is _ _ _ _) ?z ?_; (case F => k_asm); (case N => k_asm); (case U => k_updF); (case D => assumption); (case z => exact Nat.le_of_ble_eq_true rfl)); intro h' o' k' F' N' D'; (try dsimp only at N'); (try simp (config := { decide := true }) only [PySem.stored, List.any_cons, List.any_nil, Bool.or_false, Bool.or_true, Bool.true_or, Bool.false_or, if_true, if_false, List.map_cons, List.map_nil] at D'); (try k_sweep)) | ((with_reducible show wpAny _ _ (subscriptTail _ _ (Value.ref _) (Value.str _ _)) _ _ _); k_dflt (refine' di_tailS (knd := strKind PR _) ?N ?m ?D (strKind_is _ _ _ _) ?v ?_; (case N => k_asm); (case m => k_mem); (case D => assumption); (case v => exact rfl)); intro _) | ((with_reducible show wpAny _ _ (subscriptTail _ _ (Value.ref _) (Value.bytes _ _)) _ _ _); k_dflt (refine' pl_tailS ?N ?m ?D ?v ?_; (case N => k_asm); (case m => k_mem); (case D => assumption); (case v => first | assumption | exact plAt_snoc_some _ _ _ | (simp_all; done))); intro n8 t8 k8 hn8; (try (have hb8 := PlOk.at (by assumption) hn8; obtain ⟨hb8a, hb8b⟩ := hb8))) | ((with_reducible show wpAny _ _ (binaryOp Operator.Mod (Value.int _ _) (Value.int _ _)) _ _ _); refine fmod_ii (by decide) ?_) | ((with_reducible show wpAny _ _ (binaryOp Operator.FloorDiv (Value.int _ _) (Value.int _ _)) _ _ _); refine fdiv_ii (by decide) (by decide) ?_)))) | walk1 | (leave1; (try dsimp only)) | dsimp only | fail "no step"))
    all_goals (refine' hret _ _ _ ?x1 (draw_post (mx := _) (tm := _) hm ?N ?m1 ?m2 ?D .nil (by simp) ?a ?b); (case x1 => walk_at "MINE_AGREE"); (case N => k_asm); (case m1 => k_mem); (case m2 => k_mem); (case D => assumption); (case a => omega); (case b => omega))
  | cons z0 t0 hI =>
    simp only [List.length_cons] at hy
    (repeat' (first | (k_unfold; (try dsimp only)) | (k_end; wrow_close) | ((with_reducible show wpAny _ _ _ _ _ _); first | (with_reducible (first | ((with_reducible show wpAny _ _ (call (Value.builtin _) [Value.ref _, Value.int 0 _]) _ _ _); k_dflt (refine' pop0 ?F ?N ?U ?z ?_; (case F => k_asm); (case N => k_asm); (case U => k_upd); (case z => (simp only [List.length_cons] at *; omega))); intro h' k' F' N'; (try dsimp only [List.nil_append, List.cons_append] at N'); (try k_sweep)) | ((with_reducible show wpAny _ _ (compareOp CmpOp.NotEq (Value.ref _) (Value.ref _)) _ _ _); k_dflt (refine' ne_nil ?N ?m ?m2 ?u ?_; (case N => k_asm); (case m => k_mem); (case m2 => k_mem); (case u => ktr_units)); (try dsimp only)) | ((with_reducible show wpAny _ _ (setItem (Value.ref _) (Value.str _ _) _) _ _ _); k_dflt (refine' di_set (knd := strKind PR _) ?F ?N ?U ?D (strKind_is _ _ _ _) ?z ?_; (case F => k_asm); (case N => k_asm); (case U => k_updF); (case D => assumption); (case z => exact Nat.le_of_ble_eq_true rfl)); intro h' o' k' F' N' D'; (try dsimp only at N'); (try simp (config := { decide := true }) only [PySem.stored, List.any_cons, List.any_nil, Bool.or_false, Bool.or_true, Bool.true_or, Bool.false_or, if_true, if_false, List.map_cons, List.map_nil] at D'); (try k_sweep)) | ((with_reducible show wpAny _ _ (subscriptTail _ _ (Value.ref _) (Value.str _ _)) _ _ _); k_dflt (refine' di_tailS (knd := strKind PR _) ?N ?m ?D (strKind_is _ _ _ _) ?v ?_; (case N => k_asm); (case m => k_mem); (case D => assumption); (case v => exact rfl)); intro _) | ((with_reducible show wpAny _ _ (subscriptTail _ _ (Value.ref _) (Value.bytes _ _)) _ _ _); k_dflt (refine' pl_tailS ?N ?m ?D ?v ?_; (case N => k_asm); (case m => k_mem); (case D => assumption); (case v => first | assumption | exact plAt_snoc_some _ _ _ | (simp_all; done))); intro n8 t8 k8 hn8; (try (have hb8 := PlOk.at (by assumption) hn8; obtain ⟨hb8a, hb8b⟩ := hb8))) | ((with_reducible show wpAny _ _ (binaryOp Operator.Mod (Value.int _ _) (Value.int _ _)) _ _ _); refine fmod_ii (by decide) ?_) | ((with_reducible show wpAny _ _ (binaryOp Operator.FloorDiv (Value.int _ _) (Value.int _ _)) _ _ _); refine fdiv_ii (by decide) (by decide) ?_)))) | walk1 | (leave1; (try dsimp only)) | dsimp only | fail "no step"))
    all_goals (first
      | (refine' hret _ _ _ ?x1 (draw_post (mx := _) (tm := _) hm ?N ?m1 ?m2 ?D hI ?hy ?a ?b); (case x1 => walk_at "MINE_AGREE"); (case N => k_asm); (case m1 => k_mem); (case m2 => k_mem); (case D => assumption); (case hy => omega); (case a => omega); (case b => omega))
      | (refine' hret _ _ _ ?x1 (draw_post (mx := _) (tm := _) hm ?N ?m1 ?m2 ?D (.cons z0 t0 hI) ?hy ?a ?b); (case x1 => walk_at "MINE_AGREE"); (case N => k_asm); (case m1 => k_mem); (case m2 => k_mem); (case D => assumption); (case hy => (simp only [List.length_cons]; omega)); (case a => omega); (case b => omega)))


end
theorem walk_reset5 : True ∧ True := by first | (walk1 <;> trivial) | exact ⟨trivial, trivial⟩
section
open PySem PySem.W PySem.Calls PyProof.Rows
set_option Elab.async false
set_option maxRecDepth 100000
theorem use_draw {w : World} {dk Lf : Addr} {od ol : Obj} {many : Int} {tma : Tok} (hne : dk ≠ Lf) (hm : 0 < many) (hm2 : many < 100) (hK : Deck w dk Lf od ol)
    {p : Program} {loose : List Str} {mean : ExcName → Option Value} {mg mb : Str → Option Value} {dp un : Nat} {gd : Option (List Code)} {cn : Str} {cs : Scope} {a : Addr} {ccd : Value} {cl : List (Str × Addr)} {outer : List Env} {A₀ : Around} {base h₀ : Heap} {L : Addr} {m : Str → Option Value} {s : Shared} {Q E : Value → Shared → Prop} {news : List (Addr × Obj)} {g : Obj → Obj → List (Addr × Obj)}
    (B : Below A₀ base outer h₀) (F : Fr h₀ L s.heap m) (X : (KF w.params).In h₀) (N : News h₀ L s.heap news) (T : Top p loose mean mg mb h₀) (hk : cs.kind = .function) (hd : dp + 2 < recursionLimit) (hu : un + 16 < cLine) (U : Upd2 dk od Lf ol news g)
    (k : ∀ r tr od' ol' h' tk', Fr h₀ L h' m → News h₀ L h' (g od' ol') → 0 ≤ r → r < many → Deck w dk Lf od' ol' → Q (.int r tr) { s with heap := h', toks := tk' }) :
    wpAny (model PR w) (ktrTop dp un gd cn cs L a ccd cl outer) (call (.ref 237) [.ref dk, .int many tma]) Q E s := by
  have N' : News h₀ L s.heap [(dk, od), (Lf, ol)] := fun q hq => by
    rcases List.mem_cons.mp hq with rfl | hq
    · exact N _ U.mem.1
    · rw [List.mem_singleton.mp hq]; exact N _ U.mem.2
  refine c_draw w dk Lf od ol many tma hne hm hm2 hK p loose mean mg mb dp un gd cn cs a ccd cl outer A₀ base h₀ L m s Q E B F X N' T hk hd hu fun v h' tk' hA hP => ?_
  obtain ⟨r, tr, od', ol', rfl, r0, r1, hK', e1, e2⟩ := hP
  exact k r tr od' ol' h' tk' (fr_agree F N' hA) (U.put e1 e2 (fun b x hb n1 n2 => hA b x hb (by simp [n1, n2])) N) r0 r1 hK'


end
theorem walk_reset6 : True ∧ True := by first | (walk1 <;> trivial) | exact ⟨trivial, trivial⟩
section
open PySem PySem.W PySem.Calls PyProof.Rows
set_option Elab.async false
set_option maxRecDepth 100000
structure Row where
  oid : Array UInt8
  kind : Array UInt8
  ct : Option (Array UInt8)
  base : Option (Array UInt8)
  dl : Option (Array UInt8)
noncomputable def Row.shape (r : Row) : Prop := (∃ b d, r.base = some b ∧ r.dl = some d) ∨ (r.base = none ∧ r.dl = none ∧ ∃ c, r.ct = some c) ∨ (∃ b, r.base = some b ∧ r.dl = none ∧ r.ct = none)
noncomputable def Row.ok (r : Row) : Prop := r.oid.size ≤ 4 ∧ r.kind.size ≤ 6 ∧ (∀ c, r.ct = some c → c.size ≤ 301) ∧ (∀ b, r.base = some b → b.size ≤ 4) ∧ (∀ d, r.dl = some d → d.size ≤ 130) ∧ r.shape
noncomputable def ov (v : Value) : Option (Array UInt8) → Prop
  | none => v = .none
  | some b => ∃ t, v = .bytes b t
noncomputable def RowV (r : Row) (vo vk vc vb vd : Value) : Prop := (∃ t, vo = .bytes r.oid t) ∧ (∃ t, vk = .bytes r.kind t) ∧ ov vc r.ct ∧ ov vb r.base ∧ ov vd r.dl
noncomputable abbrev tupObj (vs : List Value) : Obj := { cls := .type "tuple", data := .seq vs.toArray }
noncomputable def RowPost (w : World) (dk Lf : Addr) (g : Heap) (v : Value) (h' : Heap) : Prop :=
  ∃ tp vo vk vc vb vd row od' ol', v = .ref tp ∧ g.get? tp = none ∧ h'.get? tp = some (tupObj [vo, vk, vc, vb, vd]) ∧ RowV row vo vk vc vb vd ∧ row.ok ∧ Deck w dk Lf od' ol' ∧ h'.get? dk = some od' ∧ h'.get? Lf = some ol'
theorem fresh_of {as : List (Addr × Obj)} {h g h' : Heap} {L tp : Addr} {o : Obj} {news : List (Addr × Obj)} (hG : Agree as h g) (N : News g L h' news) (m : (tp, o) ∈ news) (hn : tp ∉ as.map (·.1)) : h.get? tp = none := by
  cases e : h.get? tp with
  | none => rfl
  | some x =>
    have h1 := hG _ _ e hn
    have h2 := (N _ m).2.2
    rw [h1] at h2; cases h2
theorem row_post {w : World} {dk Lf tp L : Addr} {vo vk vc vb vd : Value} {row : Row} {od' ol' : Obj} {h g h' : Heap} {as news : List (Addr × Obj)} (hG : Agree as h g) (N : News g L h' news) (m : (tp, tupObj [vo, vk, vc, vb, vd]) ∈ news) (m1 : (dk, od') ∈ news) (m2 : (Lf, ol') ∈ news) (hn : tp ∉ as.map (·.1))
    (hK : Deck w dk Lf od' ol') (hV : RowV row vo vk vc vb vd) (ho : row.ok) : RowPost w dk Lf h (.ref tp) h' :=
  ⟨tp, vo, vk, vc, vb, vd, row, od', ol', rfl, fresh_of hG N m hn, (N _ m).1, hV, ho, hK, (N _ m1).1, (N _ m2).1⟩
theorem ok_some {b : Array UInt8} {k : Nat} (h : b.size ≤ k) : ∀ c, some b = some c → c.size ≤ k := fun c e => by cases e; exact h
theorem ok_none {k : Nat} : ∀ c : Array UInt8, none = some c → c.size ≤ k := fun c e => nomatch e
theorem row_a {w : World} {dk Lf tp L : Addr} {od' ol' : Obj} {h g h' : Heap} {as news : List (Addr × Obj)} {ob kb : Array UInt8} {to tk : Tok} {cb : Array UInt8} {tc : Tok} (hG : Agree as h g) (N : News g L h' news) (m : (tp, tupObj [.bytes ob to, .bytes kb tk, (.bytes cb tc), .none, .none]) ∈ news) (m1 : (dk, od') ∈ news) (m2 : (Lf, ol') ∈ news) (hn : tp ∉ as.map (·.1))
    (hK : Deck w dk Lf od' ol') (h1 : ob.size ≤ 4) (h2 : kb.size ≤ 6) (h3 : cb.size ≤ 301) : RowPost w dk Lf h (.ref tp) h' :=
  row_post (row := ⟨ob, kb, some cb, none, none⟩) hG N m m1 m2 hn hK ⟨⟨to, rfl⟩, ⟨tk, rfl⟩, ⟨tc, rfl⟩, rfl, rfl⟩ ⟨h1, h2, ok_some h3, ok_none, ok_none, .inr (.inl ⟨rfl, rfl, cb, rfl⟩)⟩
theorem row_b {w : World} {dk Lf tp L : Addr} {od' ol' : Obj} {h g h' : Heap} {as news : List (Addr × Obj)} {ob kb : Array UInt8} {to tk : Tok} {cb bb db : Array UInt8} {tc tb td : Tok} (hG : Agree as h g) (N : News g L h' news) (m : (tp, tupObj [.bytes ob to, .bytes kb tk, (.bytes cb tc), (.bytes bb tb), (.bytes db td)]) ∈ news) (m1 : (dk, od') ∈ news) (m2 : (Lf, ol') ∈ news) (hn : tp ∉ as.map (·.1))
    (hK : Deck w dk Lf od' ol') (h1 : ob.size ≤ 4) (h2 : kb.size ≤ 6) (h3 : cb.size ≤ 301) (h4 : bb.size ≤ 4) (h5 : db.size ≤ 130) : RowPost w dk Lf h (.ref tp) h' :=
  row_post (row := ⟨ob, kb, some cb, some bb, some db⟩) hG N m m1 m2 hn hK ⟨⟨to, rfl⟩, ⟨tk, rfl⟩, ⟨tc, rfl⟩, ⟨tb, rfl⟩, ⟨td, rfl⟩⟩ ⟨h1, h2, ok_some h3, ok_some h4, ok_some h5, .inl ⟨bb, db, rfl, rfl⟩⟩
theorem row_c {w : World} {dk Lf tp L : Addr} {od' ol' : Obj} {h g h' : Heap} {as news : List (Addr × Obj)} {ob kb : Array UInt8} {to tk : Tok} {bb db : Array UInt8} {tb td : Tok} (hG : Agree as h g) (N : News g L h' news) (m : (tp, tupObj [.bytes ob to, .bytes kb tk, .none, (.bytes bb tb), (.bytes db td)]) ∈ news) (m1 : (dk, od') ∈ news) (m2 : (Lf, ol') ∈ news) (hn : tp ∉ as.map (·.1))
    (hK : Deck w dk Lf od' ol') (h1 : ob.size ≤ 4) (h2 : kb.size ≤ 6) (h4 : bb.size ≤ 4) (h5 : db.size ≤ 130) : RowPost w dk Lf h (.ref tp) h' :=
  row_post (row := ⟨ob, kb, none, some bb, some db⟩) hG N m m1 m2 hn hK ⟨⟨to, rfl⟩, ⟨tk, rfl⟩, rfl, ⟨tb, rfl⟩, ⟨td, rfl⟩⟩ ⟨h1, h2, ok_none, ok_some h4, ok_some h5, .inl ⟨bb, db, rfl, rfl⟩⟩
theorem row_d {w : World} {dk Lf tp L : Addr} {od' ol' : Obj} {h g h' : Heap} {as news : List (Addr × Obj)} {ob kb : Array UInt8} {to tk : Tok} {bb : Array UInt8} {tb : Tok} (hG : Agree as h g) (N : News g L h' news) (m : (tp, tupObj [.bytes ob to, .bytes kb tk, .none, (.bytes bb tb), .none]) ∈ news) (m1 : (dk, od') ∈ news) (m2 : (Lf, ol') ∈ news) (hn : tp ∉ as.map (·.1))
    (hK : Deck w dk Lf od' ol') (h1 : ob.size ≤ 4) (h2 : kb.size ≤ 6) (h4 : bb.size ≤ 4) : RowPost w dk Lf h (.ref tp) h' :=
  row_post (row := ⟨ob, kb, none, some bb, none⟩) hG N m m1 m2 hn hK ⟨⟨to, rfl⟩, ⟨tk, rfl⟩, rfl, ⟨tb, rfl⟩, rfl⟩ ⟨h1, h2, ok_none, ok_some h4, ok_none, .inr (.inr ⟨bb, rfl, rfl, rfl⟩)⟩
set_option maxHeartbeats 4000000 in
theorem c_row (w : World) (dk Lf W : Addr) (od ol : Obj) (hne : dk ≠ Lf) (hK : Deck w dk Lf od ol) : Sp w 273 [.ref dk, .ref W] [(dk, od), (Lf, ol)] 4 40
    (fun g v h' => RowPost w dk Lf g v h') := by
  have hfill : Fill PySem.Challenge.rw_pb0104_01 KF := by k_fill; trivial
  have hne' : Lf ≠ dk := fun e => hne e.symm
  unfold Sp
  intro p loose mean mg mb dp un gd cn cs a ccd cl outer A₀ base h₀ L m s Q E B F X N T hk hd hu hret
  (refine wpAny_call ?_; k_dflt (refine' enter ?k1 ?k2 ?k3 ?k4 ?k5 ?kA ?kF ?kK ?k6 ?k7 ?k8 ?k9 ?kB ?_ ?c2 ?c3 ?c4 ?c5; (case kA => exact rfl); (case kF => exact rfl); (case kK => assumption); (case k1 => k_asm); (case k2 => k_asm); (case k3 => k_asm); (case k4 => k_asm); (case k5 => k_asm); (case k6 => k_is); (case k7 => k_is); (case k8 => ktr_room); (case k9 => first | exact BindsTo.of_eq rfl | exact binds_K (by k_in) rfl (by k_is) rfl rfl rfl); (case c5 => decide); (case kB => exact locs rfl); (case c2 => exact rfl); (case c3 => exact rfl); (case c4 => exact rfl); k_whole; intro g' L' h' tk' hG' FG' F' N' B' X' T' l1'; (try k_lt l1'); (try dsimp only); walk_at "MINE_FOLD"))
  (repeat' (first | (k_unfold; (try dsimp only)) | (k_end; wrow_close) | ((with_reducible show wpAny _ _ _ _ _ _); first | (with_reducible (first | ((with_reducible show wpAny _ _ (binaryOp Operator.Mult (Value.bytes _ _) (Value.int _ _)) _ _ _); k_dflt (refine' mul_bytes ?a ?b ?c ?d ?_; (case a => (simp; done)); (case b => omega); (case c => omega); (case d => decide)); intro c8 t8 k8 z8; (try simp only [List.length_cons, List.length_nil] at z8)) | ((with_reducible show wpAny _ _ (subscriptTail _ _ (Value.ref _) (Value.int _ _)) _ _ _); k_dflt (first | (refine' ls_bytes 4 ?N ?m ?a ?b ?c ?d ?_; (case N => k_asm); (case m => k_mem); (case a => omega); (case b => (simp only [List.length_cons, List.length_nil]; omega)); (case c => (simp; done)); (case d => ((repeat (refine List.forall_mem_cons.mpr ⟨⟨_, _, rfl, ?_⟩, ?_⟩; (· first | decide | (simp; done) | omega))); exact List.forall_mem_nil _)); k_whole; intro b8 t8 k8 z8) | (refine' ls_bytes 6 ?N ?m ?a ?b ?c ?d ?_; (case N => k_asm); (case m => k_mem); (case a => omega); (case b => (simp only [List.length_cons, List.length_nil]; omega)); (case c => (simp; done)); (case d => ((repeat (refine List.forall_mem_cons.mpr ⟨⟨_, _, rfl, ?_⟩, ?_⟩; (· first | decide | (simp; done) | omega))); exact List.forall_mem_nil _)); k_whole; intro b8 t8 k8 z8) | (refine' ls_ints 0 43 ?N ?m ?a ?b ?c ?d ?_; (case N => k_asm); (case m => k_mem); (case a => omega); (case b => (simp only [List.length_cons, List.length_nil]; omega)); (case c => (simp; done)); (case d => ((repeat (refine List.forall_mem_cons.mpr ⟨⟨_, _, rfl, ?_⟩, ?_⟩; (· first | decide | (simp; done) | omega))); exact List.forall_mem_nil _)); k_whole; intro i8 t8 k8 z8 z9) | (refine' ls_ints 1 130 ?N ?m ?a ?b ?c ?d ?_; (case N => k_asm); (case m => k_mem); (case a => omega); (case b => (simp only [List.length_cons, List.length_nil]; omega)); (case c => (simp; done)); (case d => ((repeat (refine List.forall_mem_cons.mpr ⟨⟨_, _, rfl, ?_⟩, ?_⟩; (· first | decide | (simp; done) | omega))); exact List.forall_mem_nil _)); k_whole; intro i8 t8 k8 z8 z9))) | ((with_reducible show wpAny _ _ (call (Value.ref 237) [Value.ref _, Value.int _ _]) _ _ _); k_dflt (refine' use_draw ?hne ?hm ?hm2 ?hK ?k1 ?k2 ?k3 ?k4 ?k5 ?kK ?kd ?ku ?U ?_; (walk_at "MINE_USE0"); (case hK => assumption); (case hne => first | assumption | omega); (case hm => decide); (case hm2 => decide); (case U => walk_at "MINE_UPD2")); intro r8 t8 od8 ol8 h8 k8 F8 N8 r0 r1 hK8; (try dsimp only at N8); (try k_sweep)) | ((with_reducible show wpAny _ _ (subscriptTail _ _ (Value.ref _) (Value.str _ _)) _ _ _); k_dflt (refine' di_tailS (knd := strKind PR _) ?N ?m ?D (strKind_is _ _ _ _) ?v ?_; (case N => k_asm); (case m => k_mem); (case D => assumption); (case v => exact rfl)); intro _) | ((with_reducible show wpAny _ _ (call (Value.type _) [Value.bytes _ _]) _ _ _); refine call_bytes_bytes ?_) | ((with_reducible show wpAny _ _ (subscriptTail _ _ (Value.ref _) (Value.bytes _ _)) _ _ _); k_dflt (refine' pl_tailS ?N ?m ?D ?v ?_; (case N => k_asm); (case m => k_mem); (case D => assumption); (case v => first | assumption | exact plAt_snoc_some _ _ _ | (simp_all; done))); intro n8 t8 k8 hn8; (try (have hb8 := PlOk.at (by assumption) hn8; obtain ⟨hb8a, hb8b⟩ := hb8))) | ((with_reducible show wpAny _ _ (call (Value.type _) [Value.ref _]) _ _ _); k_dflt (refine' bytes_K ?F ?N ?l ?i ?r ?z ?h ?_; (case F => k_asm); (case N => k_asm); (case l => is_list); (case i => first | l_ints | l_intsW); (case r => first | by_in | ((simp only [Int.reduceToNat, List.getD_cons_zero, List.getD_cons_succ]); by_in)); (case z => first | size_fits | (rw [sizeLine_eq]; simp)); (case h => with_unfolding_all rfl); k_whole); intro h' t' k' F' N' hB'; (clear hB'); (try k_sweep)))) | ((with_reducible first | show wpAny _ _ (exec (PySem.Stmt.Assign [PySem.Expr.Tuple (PySem.Expr.Name (Str.ofString "way") _ :: _) _ _] _ _) _) _ _ _ | show wpAny _ _ (exec (PySem.Stmt.Assign _ (PySem.Expr.BinOp _ _ _ _) _) _) _ _ _ | show wpAny _ _ (exec (PySem.Stmt.Assign _ (PySem.Expr.Subscript _ _ _) _) _) _ _ _); (with_reducible rename News _ _ _ _ => NT); (replace NT := news_last3 NT); (try simp only [List.length_cons, List.length_nil, List.drop_succ_cons, List.drop_zero, Nat.reduceAdd, Nat.reduceSub, Nat.zero_add] at NT); walk1) | ((with_reducible show wpAny _ _ (exec (PySem.Stmt.Assign [PySem.Expr.Tuple (PySem.Expr.Name (Str.ofString "oid") _ :: _) _ _] _ _) _) _ _ _); (with_reducible rename News _ _ _ _ => NT); (replace NT := news_first NT); (try simp only [List.length_cons, List.length_nil, List.drop_succ_cons, List.drop_zero, Nat.reduceAdd, Nat.reduceSub, Nat.zero_add] at NT); walk1)) | walk1 | (leave1; (try dsimp only)) | dsimp only | fail "no step"))
  all_goals (first
    | (exfalso; omega)
    | (refine' hret _ _ _ ?x1 (row_a ?G ?N ?m ?m1 ?m2 ?n ?K ?h1 ?h2 ?h3); (case G => assumption); (case N => assumption); (case m => k_mem); (case K => assumption); (case m1 => k_mem); (case m2 => k_mem); (case x1 => walk_at "MINE_AGREE"); (case h1 => omega); (case h2 => omega); (case h3 => omega); (case n => (simp only [List.map_cons, List.map_nil, List.mem_cons, List.not_mem_nil, or_false, not_or]; refine ⟨?_, ?_⟩ <;> k_ne)))
    | (refine' hret _ _ _ ?x1 (row_b ?G ?N ?m ?m1 ?m2 ?n ?K ?h1 ?h2 ?h3 ?h4 ?h5); (case G => assumption); (case N => assumption); (case m => k_mem); (case K => assumption); (case m1 => k_mem); (case m2 => k_mem); (case x1 => walk_at "MINE_AGREE"); (case h1 => omega); (case h2 => omega); (case h3 => omega); (case h4 => omega); (case h5 => omega); (case n => (simp only [List.map_cons, List.map_nil, List.mem_cons, List.not_mem_nil, or_false, not_or]; refine ⟨?_, ?_⟩ <;> k_ne)))
    | (refine' hret _ _ _ ?x1 (row_c ?G ?N ?m ?m1 ?m2 ?n ?K ?h1 ?h2 ?h4 ?h5); (case G => assumption); (case N => assumption); (case m => k_mem); (case K => assumption); (case m1 => k_mem); (case m2 => k_mem); (case x1 => walk_at "MINE_AGREE"); (case h1 => omega); (case h2 => omega); (case h4 => omega); (case h5 => omega); (case n => (simp only [List.map_cons, List.map_nil, List.mem_cons, List.not_mem_nil, or_false, not_or]; refine ⟨?_, ?_⟩ <;> k_ne)))
    | (refine' hret _ _ _ ?x1 (row_d ?G ?N ?m ?m1 ?m2 ?n ?K ?h1 ?h2 ?h4); (case G => assumption); (case N => assumption); (case m => k_mem); (case K => assumption); (case m1 => k_mem); (case m2 => k_mem); (case x1 => walk_at "MINE_AGREE"); (case h1 => omega); (case h2 => omega); (case h4 => omega); (case n => (simp only [List.map_cons, List.map_nil, List.mem_cons, List.not_mem_nil, or_false, not_or]; refine ⟨?_, ?_⟩ <;> k_ne))))


end
theorem walk_reset7 : True ∧ True := by first | (walk1 <;> trivial) | exact ⟨trivial, trivial⟩
section
open PySem PySem.W PySem.Calls PyProof.Rows
set_option Elab.async false
set_option maxRecDepth 100000
/-- an entry's octets in the pack, as the law and the builder both count them -/
noncomputable def pieceOf (bp : Bool) (pl : List (List UInt8 × Int)) (len : Int) (r : Row) : Option (Array UInt8) :=
  match r.base, r.dl with
  | some b, some d => if bp = true ∧ (plAt pl b.toList).isSome = true then some (byteArr (eh 6 d.size) ++ byteArr (bk (len - (plAt pl b.toList).getD 0)) ++ stored d) else some (byteArr (eh 7 d.size) ++ b ++ stored d)
  | _, _ => match r.ct, plAt sorts r.kind.toList with
    | some c, some k => some (byteArr (eh k c.size) ++ stored c)
    | _, _ => none
noncomputable def PiecePost (x : Option (Array UInt8)) (as : List (Addr × Obj)) (v : Value) (h' : Heap) : Prop := ov v x ∧ (∀ b, x = some b → b.size ≤ 400) ∧ ∀ q ∈ as, h'.get? q.1 = some q.2
theorem piece_some {as news : List (Addr × Obj)} {h₀ h' : Heap} {L : Addr} {b : Array UInt8} {t : Tok} {x : Option (Array UInt8)} (N : News h₀ L h' news) (hs : ∀ q ∈ as, q ∈ news) (e : x = some b) (hz : b.size ≤ 400) : PiecePost x as (.bytes b t) h' := by
  subst e
  exact ⟨⟨t, rfl⟩, fun c e => by cases e; exact hz, fun q hq => (N q (hs q hq)).1⟩
theorem piece_none {as news : List (Addr × Obj)} {h₀ h' : Heap} {L : Addr} {x : Option (Array UInt8)} (N : News h₀ L h' news) (hs : ∀ q ∈ as, q ∈ news) (e : x = none) : PiecePost x as .none h' := by
  subst e
  exact ⟨rfl, (fun c e => nomatch e), fun q hq => (N q (hs q hq)).1⟩
theorem piece_back {bp : Bool} {pl : List (List UInt8 × Int)} {len n : Int} {ob kb bb db : Array UInt8} {ct : Option (Array UInt8)} (h1 : bp = true) (h2 : plAt pl bb.toList = some n) :
    pieceOf bp pl len ⟨ob, kb, ct, some bb, some db⟩ = some (byteArr (eh 6 db.size) ++ byteArr (bk (len - n)) ++ stored db) := by
  simp [pieceOf, h1, h2]
theorem piece_id {bp : Bool} {pl : List (List UInt8 × Int)} {len : Int} {ob kb bb db : Array UInt8} {ct : Option (Array UInt8)} (h : bp = false ∨ (plAt pl bb.toList).isSome = false) :
    pieceOf bp pl len ⟨ob, kb, ct, some bb, some db⟩ = some (byteArr (eh 7 db.size) ++ bb ++ stored db) := by
  rcases h with h | h <;> simp [pieceOf, h]
theorem piece_ct {bp : Bool} {pl : List (List UInt8 × Int)} {len k : Int} {ob kb cb : Array UInt8} {base : Option (Array UInt8)} (h : plAt sorts kb.toList = some k) :
    pieceOf bp pl len ⟨ob, kb, some cb, base, none⟩ = some (byteArr (eh k cb.size) ++ stored cb) := by
  cases base <;> simp [pieceOf, h]
theorem piece_odd {bp : Bool} {pl : List (List UInt8 × Int)} {len : Int} {ob kb cb : Array UInt8} {base : Option (Array UInt8)} (h : (plAt sorts kb.toList).isSome = false) :
    pieceOf bp pl len ⟨ob, kb, some cb, base, none⟩ = none := by
  rw [Option.isSome_eq_false_iff, Option.isNone_iff_eq_none] at h
  cases base <;> simp [pieceOf, h]
theorem piece_no {bp : Bool} {pl : List (List UInt8 × Int)} {len : Int} {ob kb : Array UInt8} {base : Option (Array UInt8)} : pieceOf bp pl len ⟨ob, kb, none, base, none⟩ = none := by
  cases base <;> simp [pieceOf]
set_option maxHeartbeats 1500000 in
theorem c_piece1 (w : World) (W PlW PcW tp : Addr) (ow opl : Obj) (bp : Bool) (pl : List (List UInt8 × Int)) (len : Int) (tl to tk tb td : Tok) (ob kb : Array UInt8) (bb db : Array UInt8) (ct : Option (Array UInt8)) (vc : Value) (hn1 : W ≠ PlW) (hn2 : W ≠ tp) (hn3 : PlW ≠ tp)
    (hW : DI (strKind PR w) W ow [(Str.ofString "by_place", .bool bp), (Str.ofString "pieces", .ref PcW), (Str.ofString "places", .ref PlW), (Str.ofString "length", .int len tl)]) (hP : Pl w PlW opl pl) (hO : PlOk pl len) (hl0 : 0 ≤ len) (hl1 : len ≤ 9000)
    (h4 : bb.size ≤ 4) (h5 : db.size ≤ 130) :
    Sp w 268 [.ref W, .ref tp] [(W, ow), (PlW, opl), (tp, tupObj [.bytes ob to, .bytes kb tk, vc, .bytes bb tb, .bytes db td])] 6 60
    (fun _ v h' => PiecePost (pieceOf bp pl len ⟨ob, kb, ct, some bb, some db⟩) [(W, ow), (PlW, opl), (tp, tupObj [.bytes ob to, .bytes kb tk, vc, .bytes bb tb, .bytes db td])] v h') := by
  have hfill : Fill PySem.Challenge.rw_pb0104_01 KF := by k_fill; trivial
  unfold Sp
  intro p loose mean mg mb dp un gd cn cs a ccd cl outer A₀ base h₀ L m s Q E B F X N T hk hd hu hret
  (refine wpAny_call ?_; k_dflt (refine' enter ?k1 ?k2 ?k3 ?k4 ?k5 ?kA ?kF ?kK ?k6 ?k7 ?k8 ?k9 ?kB ?_ ?c2 ?c3 ?c4 ?c5; (case kA => exact rfl); (case kF => exact rfl); (case kK => assumption); (case k1 => k_asm); (case k2 => k_asm); (case k3 => k_asm); (case k4 => k_asm); (case k5 => k_asm); (case k6 => k_is); (case k7 => k_is); (case k8 => ktr_room); (case k9 => first | exact BindsTo.of_eq rfl | exact binds_K (by k_in) rfl (by k_is) rfl rfl rfl); (case c5 => decide); (case kB => exact locs rfl); (case c2 => exact rfl); (case c3 => exact rfl); (case c4 => exact rfl); k_whole; intro g' L' h' tk' hG' FG' F' N' B' X' T' l1'; (try k_lt l1'); (try dsimp only); walk_at "MINE_FOLD"))
  (repeat' (first | (k_unfold; (try dsimp only)) | (k_end; wrow_close) | ((with_reducible show wpAny _ _ _ _ _ _); first | (with_reducible (first | ((with_reducible show wpAny _ _ (call (Value.ref 254) [Value.bytes _ _]) _ _ _); first | (k_dflt (refine' use0 (c_law_stored _ _ _ ?a) ?k1 ?k2 ?k3 ?k4 ?k5 ?kK ?kd ?ku (List.forall_mem_nil _) (fun _ _ _ _ => List.forall_mem_nil _) ?_; (walk_at "MINE_USE0"); (case a => omega)); intro v' h' tk' F' N' hP; obtain ⟨b9, tk9, hv, hb9, hz9⟩ := hP; subst hv; subst hb9; (try k_sweep)) | refine halt ?_) | ((with_reducible show wpAny _ _ (call (Value.ref 261) [Value.int _ _]) _ _ _); first | (k_dflt (refine' use0 (c_law_back _ _ _ ?a ?b) ?k1 ?k2 ?k3 ?k4 ?k5 ?kK ?kd ?ku (List.forall_mem_nil _) (fun _ _ _ _ => List.forall_mem_nil _) ?_; (walk_at "MINE_USE0"); (case a => omega); (case b => omega)); intro v' h' tk' F' N' hP; obtain ⟨b9, tk9, hv, hb9, hz9⟩ := hP; subst hv; subst hb9; (try k_sweep)) | refine halt ?_) | ((with_reducible show wpAny _ _ (call (Value.ref 249) [Value.int _ _, Value.int _ _]) _ _ _); first | (k_dflt (refine' use0 (c_law_entry_head _ _ _ _ _ (by first | omega | exact (sorts_ok (by assumption)).1) (by first | omega | exact (sorts_ok (by assumption)).2) (by omega) (by omega)) ?k1 ?k2 ?k3 ?k4 ?k5 ?kK ?kd ?ku (List.forall_mem_nil _) (fun _ _ _ _ => List.forall_mem_nil _) ?_; (walk_at "MINE_USE0")); intro v' h' tk' F' N' hP; obtain ⟨b9, tk9, hv, hb9, hz9⟩ := hP; subst hv; subst hb9; (try k_sweep)) | refine halt ?_) | ((with_reducible show wpAny _ _ (eval (PySem.Expr.Dict (some (PySem.Expr.Constant (Const.bytes _) _ _) :: _) _ _) _) _ _ _); (with_reducible refine' sorts_display ?F ?N ?b ?_); k_dflt ((case F => k_asm); (case N => k_asm); (case b => exact TopRead.nolimit (by k_asm))); intro d' h' o' k' F' N' l1 D'; (try k_lt l1); (try k_sweep)) | ((with_reducible show wpAny _ _ (subscriptTail _ _ (Value.ref _) (Value.str _ _)) _ _ _); k_dflt (refine' di_tailS (knd := strKind PR _) ?N ?m ?D (strKind_is _ _ _ _) ?v ?_; (case N => k_asm); (case m => k_mem); (case D => assumption); (case v => exact rfl)); intro _) | ((with_reducible show wpAny _ _ (call (Value.builtin "len") [Value.ref _]) _ _ _); k_dflt (refine' len_seq ?N ?m ?z ?_; (case N => k_asm); (case m => k_mem); (case z => omega)); intro _ _) | ((with_reducible show wpAny _ _ (call (Value.builtin "len") [Value.ref _]) _ _ _); k_dflt (refine' pl_len ?N ?m ?D ?z ?_; (case N => k_asm); (case m => k_mem); (case D => assumption); (case z => omega)); intro _ _) | ((with_reducible show wpAny _ _ (subscriptTail _ _ (Value.ref _) (Value.bytes _ _)) _ _ _); k_dflt (refine' pl_tailS ?N ?m ?D ?v ?_; (case N => k_asm); (case m => k_mem); (case D => assumption); (case v => first | assumption | exact plAt_snoc_some _ _ _ | (simp_all; done))); intro n8 t8 k8 hn8; (try (have hb8 := PlOk.at (by assumption) hn8; obtain ⟨hb8a, hb8b⟩ := hb8))) | ((with_reducible show wpAny _ _ (compareOp CmpOp.NotIn (Value.bytes _ _) (Value.ref _)) _ _ _); k_dflt (refine' pl_notin ?N ?m ?D ?_; (case N => k_asm); (case m => k_mem); (case D => assumption)); intro _) | ((with_reducible show wpAny _ _ (compareOp CmpOp.In (Value.bytes _ _) (Value.ref _)) _ _ _); k_dflt (refine' pl_in ?N ?m ?D ?_; (case N => k_asm); (case m => k_mem); (case D => assumption)); intro _) | ((with_reducible show wpAny _ _ (call (Value.builtin "len") [Value.bytes _ _]) _ _ _); (refine len_bytes (by (try simp only [Array.size_append]); omega) ?_)) | ((with_reducible show wpAny _ _ (binaryOp Operator.Add (Value.bytes _ _) (Value.bytes _ _)) _ _ _); refine KBy.add_bytes (by first | omega | (simp only [Array.size_append]; omega) | ((try simp only [Array.size_append, List.size_toArray, List.length_map, List.length_cons, List.length_nil, byteArr_size, List.length_append, Array.length_toList]); omega)) ?_; intro _ _)))) | walk1 | (leave1; (try dsimp only)) | dsimp only | fail "no step"))
  all_goals (first
    | (refine' hret _ _ _ ?x1 (piece_some ?N ?S (piece_back (by assumption) (by assumption)) ?z); (case x1 => walk_at "MINE_AGREE"); (case N => assumption); (case S => intro q hq; exact List.mem_cons_of_mem _ hq); (case z => first | omega | (simp only [Array.size_append] at *; omega)))
    | (refine' hret _ _ _ ?x1 (piece_some ?N ?S (piece_id (.inl (by assumption))) ?z); (case x1 => walk_at "MINE_AGREE"); (case N => assumption); (case S => intro q hq; exact List.mem_cons_of_mem _ hq); (case z => first | omega | (simp only [Array.size_append] at *; omega)))
    | (refine' hret _ _ _ ?x1 (piece_some ?N ?S (piece_id (.inr (by assumption))) ?z); (case x1 => walk_at "MINE_AGREE"); (case N => assumption); (case S => intro q hq; exact List.mem_cons_of_mem _ hq); (case z => first | omega | (simp only [Array.size_append] at *; omega)))
)
set_option maxHeartbeats 1500000 in
theorem c_piece2 (w : World) (W PlW PcW tp : Addr) (ow opl : Obj) (bp : Bool) (pl : List (List UInt8 × Int)) (len : Int) (tl to tk tb td : Tok) (ob kb : Array UInt8) (cb : Array UInt8) (tc : Tok) (hn1 : W ≠ PlW) (hn2 : W ≠ tp) (hn3 : PlW ≠ tp)
    (hW : DI (strKind PR w) W ow [(Str.ofString "by_place", .bool bp), (Str.ofString "pieces", .ref PcW), (Str.ofString "places", .ref PlW), (Str.ofString "length", .int len tl)]) (hP : Pl w PlW opl pl) (hO : PlOk pl len) (hl0 : 0 ≤ len) (hl1 : len ≤ 9000)
    (h3 : cb.size ≤ 301) :
    Sp w 268 [.ref W, .ref tp] [(W, ow), (PlW, opl), (tp, tupObj [.bytes ob to, .bytes kb tk, .bytes cb tc, .none, .none])] 6 60
    (fun _ v h' => PiecePost (pieceOf bp pl len ⟨ob, kb, some cb, none, none⟩) [(W, ow), (PlW, opl), (tp, tupObj [.bytes ob to, .bytes kb tk, .bytes cb tc, .none, .none])] v h') := by
  have hfill : Fill PySem.Challenge.rw_pb0104_01 KF := by k_fill; trivial
  unfold Sp
  intro p loose mean mg mb dp un gd cn cs a ccd cl outer A₀ base h₀ L m s Q E B F X N T hk hd hu hret
  (refine wpAny_call ?_; k_dflt (refine' enter ?k1 ?k2 ?k3 ?k4 ?k5 ?kA ?kF ?kK ?k6 ?k7 ?k8 ?k9 ?kB ?_ ?c2 ?c3 ?c4 ?c5; (case kA => exact rfl); (case kF => exact rfl); (case kK => assumption); (case k1 => k_asm); (case k2 => k_asm); (case k3 => k_asm); (case k4 => k_asm); (case k5 => k_asm); (case k6 => k_is); (case k7 => k_is); (case k8 => ktr_room); (case k9 => first | exact BindsTo.of_eq rfl | exact binds_K (by k_in) rfl (by k_is) rfl rfl rfl); (case c5 => decide); (case kB => exact locs rfl); (case c2 => exact rfl); (case c3 => exact rfl); (case c4 => exact rfl); k_whole; intro g' L' h' tk' hG' FG' F' N' B' X' T' l1'; (try k_lt l1'); (try dsimp only); walk_at "MINE_FOLD"))
  (repeat' (first | (k_unfold; (try dsimp only)) | (k_end; wrow_close) | ((with_reducible show wpAny _ _ _ _ _ _); first | (with_reducible (first | ((with_reducible show wpAny _ _ (call (Value.ref 254) [Value.bytes _ _]) _ _ _); first | (k_dflt (refine' use0 (c_law_stored _ _ _ ?a) ?k1 ?k2 ?k3 ?k4 ?k5 ?kK ?kd ?ku (List.forall_mem_nil _) (fun _ _ _ _ => List.forall_mem_nil _) ?_; (walk_at "MINE_USE0"); (case a => omega)); intro v' h' tk' F' N' hP; obtain ⟨b9, tk9, hv, hb9, hz9⟩ := hP; subst hv; subst hb9; (try k_sweep)) | refine halt ?_) | ((with_reducible show wpAny _ _ (call (Value.ref 261) [Value.int _ _]) _ _ _); first | (k_dflt (refine' use0 (c_law_back _ _ _ ?a ?b) ?k1 ?k2 ?k3 ?k4 ?k5 ?kK ?kd ?ku (List.forall_mem_nil _) (fun _ _ _ _ => List.forall_mem_nil _) ?_; (walk_at "MINE_USE0"); (case a => omega); (case b => omega)); intro v' h' tk' F' N' hP; obtain ⟨b9, tk9, hv, hb9, hz9⟩ := hP; subst hv; subst hb9; (try k_sweep)) | refine halt ?_) | ((with_reducible show wpAny _ _ (call (Value.ref 249) [Value.int _ _, Value.int _ _]) _ _ _); first | (k_dflt (refine' use0 (c_law_entry_head _ _ _ _ _ (by first | omega | exact (sorts_ok (by assumption)).1) (by first | omega | exact (sorts_ok (by assumption)).2) (by omega) (by omega)) ?k1 ?k2 ?k3 ?k4 ?k5 ?kK ?kd ?ku (List.forall_mem_nil _) (fun _ _ _ _ => List.forall_mem_nil _) ?_; (walk_at "MINE_USE0")); intro v' h' tk' F' N' hP; obtain ⟨b9, tk9, hv, hb9, hz9⟩ := hP; subst hv; subst hb9; (try k_sweep)) | refine halt ?_) | ((with_reducible show wpAny _ _ (eval (PySem.Expr.Dict (some (PySem.Expr.Constant (Const.bytes _) _ _) :: _) _ _) _) _ _ _); (with_reducible refine' sorts_display ?F ?N ?b ?_); k_dflt ((case F => k_asm); (case N => k_asm); (case b => exact TopRead.nolimit (by k_asm))); intro d' h' o' k' F' N' l1 D'; (try k_lt l1); (try k_sweep)) | ((with_reducible show wpAny _ _ (subscriptTail _ _ (Value.ref _) (Value.str _ _)) _ _ _); k_dflt (refine' di_tailS (knd := strKind PR _) ?N ?m ?D (strKind_is _ _ _ _) ?v ?_; (case N => k_asm); (case m => k_mem); (case D => assumption); (case v => exact rfl)); intro _) | ((with_reducible show wpAny _ _ (call (Value.builtin "len") [Value.ref _]) _ _ _); k_dflt (refine' len_seq ?N ?m ?z ?_; (case N => k_asm); (case m => k_mem); (case z => omega)); intro _ _) | ((with_reducible show wpAny _ _ (call (Value.builtin "len") [Value.ref _]) _ _ _); k_dflt (refine' pl_len ?N ?m ?D ?z ?_; (case N => k_asm); (case m => k_mem); (case D => assumption); (case z => omega)); intro _ _) | ((with_reducible show wpAny _ _ (subscriptTail _ _ (Value.ref _) (Value.bytes _ _)) _ _ _); k_dflt (refine' pl_tailS ?N ?m ?D ?v ?_; (case N => k_asm); (case m => k_mem); (case D => assumption); (case v => first | assumption | exact plAt_snoc_some _ _ _ | (simp_all; done))); intro n8 t8 k8 hn8; (try (have hb8 := PlOk.at (by assumption) hn8; obtain ⟨hb8a, hb8b⟩ := hb8))) | ((with_reducible show wpAny _ _ (compareOp CmpOp.NotIn (Value.bytes _ _) (Value.ref _)) _ _ _); k_dflt (refine' pl_notin ?N ?m ?D ?_; (case N => k_asm); (case m => k_mem); (case D => assumption)); intro _) | ((with_reducible show wpAny _ _ (compareOp CmpOp.In (Value.bytes _ _) (Value.ref _)) _ _ _); k_dflt (refine' pl_in ?N ?m ?D ?_; (case N => k_asm); (case m => k_mem); (case D => assumption)); intro _) | ((with_reducible show wpAny _ _ (call (Value.builtin "len") [Value.bytes _ _]) _ _ _); (refine len_bytes (by (try simp only [Array.size_append]); omega) ?_)) | ((with_reducible show wpAny _ _ (binaryOp Operator.Add (Value.bytes _ _) (Value.bytes _ _)) _ _ _); refine KBy.add_bytes (by first | omega | (simp only [Array.size_append]; omega) | ((try simp only [Array.size_append, List.size_toArray, List.length_map, List.length_cons, List.length_nil, byteArr_size, List.length_append, Array.length_toList]); omega)) ?_; intro _ _)))) | walk1 | (leave1; (try dsimp only)) | dsimp only | fail "no step"))
  all_goals (first
    | (refine' hret _ _ _ ?x1 (piece_some ?N ?S (piece_ct (by assumption)) ?z); (case x1 => walk_at "MINE_AGREE"); (case N => assumption); (case S => intro q hq; exact List.mem_cons_of_mem _ hq); (case z => first | omega | (simp only [Array.size_append] at *; omega)))
    | (refine' hret _ _ _ ?x1 (piece_none ?N ?S (piece_odd (by assumption))); (case x1 => walk_at "MINE_AGREE"); (case N => assumption); (case S => intro q hq; exact List.mem_cons_of_mem _ hq)))
set_option maxHeartbeats 1500000 in
theorem c_piece3 (w : World) (W PlW PcW tp : Addr) (ow opl : Obj) (bp : Bool) (pl : List (List UInt8 × Int)) (len : Int) (tl to tk tb td : Tok) (ob kb : Array UInt8) (bb : Array UInt8) (hn1 : W ≠ PlW) (hn2 : W ≠ tp) (hn3 : PlW ≠ tp)
    (hW : DI (strKind PR w) W ow [(Str.ofString "by_place", .bool bp), (Str.ofString "pieces", .ref PcW), (Str.ofString "places", .ref PlW), (Str.ofString "length", .int len tl)]) (hP : Pl w PlW opl pl) (hO : PlOk pl len) (hl0 : 0 ≤ len) (hl1 : len ≤ 9000)
    (h4 : bb.size ≤ 4) :
    Sp w 268 [.ref W, .ref tp] [(W, ow), (PlW, opl), (tp, tupObj [.bytes ob to, .bytes kb tk, .none, .bytes bb tb, .none])] 6 60
    (fun _ v h' => PiecePost (pieceOf bp pl len ⟨ob, kb, none, some bb, none⟩) [(W, ow), (PlW, opl), (tp, tupObj [.bytes ob to, .bytes kb tk, .none, .bytes bb tb, .none])] v h') := by
  have hfill : Fill PySem.Challenge.rw_pb0104_01 KF := by k_fill; trivial
  unfold Sp
  intro p loose mean mg mb dp un gd cn cs a ccd cl outer A₀ base h₀ L m s Q E B F X N T hk hd hu hret
  (refine wpAny_call ?_; k_dflt (refine' enter ?k1 ?k2 ?k3 ?k4 ?k5 ?kA ?kF ?kK ?k6 ?k7 ?k8 ?k9 ?kB ?_ ?c2 ?c3 ?c4 ?c5; (case kA => exact rfl); (case kF => exact rfl); (case kK => assumption); (case k1 => k_asm); (case k2 => k_asm); (case k3 => k_asm); (case k4 => k_asm); (case k5 => k_asm); (case k6 => k_is); (case k7 => k_is); (case k8 => ktr_room); (case k9 => first | exact BindsTo.of_eq rfl | exact binds_K (by k_in) rfl (by k_is) rfl rfl rfl); (case c5 => decide); (case kB => exact locs rfl); (case c2 => exact rfl); (case c3 => exact rfl); (case c4 => exact rfl); k_whole; intro g' L' h' tk' hG' FG' F' N' B' X' T' l1'; (try k_lt l1'); (try dsimp only); walk_at "MINE_FOLD"))
  (repeat' (first | (k_unfold; (try dsimp only)) | (k_end; wrow_close) | ((with_reducible show wpAny _ _ _ _ _ _); first | (with_reducible (first | ((with_reducible show wpAny _ _ (call (Value.ref 254) [Value.bytes _ _]) _ _ _); first | (k_dflt (refine' use0 (c_law_stored _ _ _ ?a) ?k1 ?k2 ?k3 ?k4 ?k5 ?kK ?kd ?ku (List.forall_mem_nil _) (fun _ _ _ _ => List.forall_mem_nil _) ?_; (walk_at "MINE_USE0"); (case a => omega)); intro v' h' tk' F' N' hP; obtain ⟨b9, tk9, hv, hb9, hz9⟩ := hP; subst hv; subst hb9; (try k_sweep)) | refine halt ?_) | ((with_reducible show wpAny _ _ (call (Value.ref 261) [Value.int _ _]) _ _ _); first | (k_dflt (refine' use0 (c_law_back _ _ _ ?a ?b) ?k1 ?k2 ?k3 ?k4 ?k5 ?kK ?kd ?ku (List.forall_mem_nil _) (fun _ _ _ _ => List.forall_mem_nil _) ?_; (walk_at "MINE_USE0"); (case a => omega); (case b => omega)); intro v' h' tk' F' N' hP; obtain ⟨b9, tk9, hv, hb9, hz9⟩ := hP; subst hv; subst hb9; (try k_sweep)) | refine halt ?_) | ((with_reducible show wpAny _ _ (call (Value.ref 249) [Value.int _ _, Value.int _ _]) _ _ _); first | (k_dflt (refine' use0 (c_law_entry_head _ _ _ _ _ (by first | omega | exact (sorts_ok (by assumption)).1) (by first | omega | exact (sorts_ok (by assumption)).2) (by omega) (by omega)) ?k1 ?k2 ?k3 ?k4 ?k5 ?kK ?kd ?ku (List.forall_mem_nil _) (fun _ _ _ _ => List.forall_mem_nil _) ?_; (walk_at "MINE_USE0")); intro v' h' tk' F' N' hP; obtain ⟨b9, tk9, hv, hb9, hz9⟩ := hP; subst hv; subst hb9; (try k_sweep)) | refine halt ?_) | ((with_reducible show wpAny _ _ (eval (PySem.Expr.Dict (some (PySem.Expr.Constant (Const.bytes _) _ _) :: _) _ _) _) _ _ _); (with_reducible refine' sorts_display ?F ?N ?b ?_); k_dflt ((case F => k_asm); (case N => k_asm); (case b => exact TopRead.nolimit (by k_asm))); intro d' h' o' k' F' N' l1 D'; (try k_lt l1); (try k_sweep)) | ((with_reducible show wpAny _ _ (subscriptTail _ _ (Value.ref _) (Value.str _ _)) _ _ _); k_dflt (refine' di_tailS (knd := strKind PR _) ?N ?m ?D (strKind_is _ _ _ _) ?v ?_; (case N => k_asm); (case m => k_mem); (case D => assumption); (case v => exact rfl)); intro _) | ((with_reducible show wpAny _ _ (call (Value.builtin "len") [Value.ref _]) _ _ _); k_dflt (refine' len_seq ?N ?m ?z ?_; (case N => k_asm); (case m => k_mem); (case z => omega)); intro _ _) | ((with_reducible show wpAny _ _ (call (Value.builtin "len") [Value.ref _]) _ _ _); k_dflt (refine' pl_len ?N ?m ?D ?z ?_; (case N => k_asm); (case m => k_mem); (case D => assumption); (case z => omega)); intro _ _) | ((with_reducible show wpAny _ _ (subscriptTail _ _ (Value.ref _) (Value.bytes _ _)) _ _ _); k_dflt (refine' pl_tailS ?N ?m ?D ?v ?_; (case N => k_asm); (case m => k_mem); (case D => assumption); (case v => first | assumption | exact plAt_snoc_some _ _ _ | (simp_all; done))); intro n8 t8 k8 hn8; (try (have hb8 := PlOk.at (by assumption) hn8; obtain ⟨hb8a, hb8b⟩ := hb8))) | ((with_reducible show wpAny _ _ (compareOp CmpOp.NotIn (Value.bytes _ _) (Value.ref _)) _ _ _); k_dflt (refine' pl_notin ?N ?m ?D ?_; (case N => k_asm); (case m => k_mem); (case D => assumption)); intro _) | ((with_reducible show wpAny _ _ (compareOp CmpOp.In (Value.bytes _ _) (Value.ref _)) _ _ _); k_dflt (refine' pl_in ?N ?m ?D ?_; (case N => k_asm); (case m => k_mem); (case D => assumption)); intro _) | ((with_reducible show wpAny _ _ (call (Value.builtin "len") [Value.bytes _ _]) _ _ _); (refine len_bytes (by (try simp only [Array.size_append]); omega) ?_)) | ((with_reducible show wpAny _ _ (binaryOp Operator.Add (Value.bytes _ _) (Value.bytes _ _)) _ _ _); refine KBy.add_bytes (by first | omega | (simp only [Array.size_append]; omega) | ((try simp only [Array.size_append, List.size_toArray, List.length_map, List.length_cons, List.length_nil, byteArr_size, List.length_append, Array.length_toList]); omega)) ?_; intro _ _)))) | walk1 | (leave1; (try dsimp only)) | dsimp only | fail "no step"))
  all_goals (first
    | (refine' hret _ _ _ ?x1 (piece_none ?N ?S (piece_no)); (case x1 => walk_at "MINE_AGREE"); (case N => assumption); (case S => intro q hq; exact List.mem_cons_of_mem _ hq)))


end
theorem walk_reset8 : True ∧ True := by first | (walk1 <;> trivial) | exact ⟨trivial, trivial⟩
section
open PySem PySem.W PySem.Calls PyProof.Rows
set_option Elab.async false
set_option maxRecDepth 100000
theorem head_eq (n : Int) (b : Array UInt8) : #[80, 65, 67, 75] ++ byteArr [0, 0, 0, 2, 0, 0, 0, n] ++ b = packHead n b := by
  simp [packHead, byteArr]
theorem whole_post {w : World} {u1 u2 u3 tk' : Tok} {W PcW x dx D L : Addr} {ow : Obj} {vs : List Value} {np : Nat} {o' : Obj} {kn : List (List UInt8 × Int)} {b c : Array UInt8} {n : Int} {h₀ h' : Heap}
    (N : News h₀ L h' [(x, instObj 105 dx), (dx, hsObj w u1 u2 u3 D), (D, o'), (W, ow), (PcW, lsObj vs np)]) (hb : b = c ++ byteArr [0, 0, 0, n])
    (hn : plAt (dig kn c.toList) c.toList = some n) (hP : Pl w D o' (dig kn c.toList)) :
    ClosePost w x dx D u1 u2 u3 kn c (.bytes b tk') h' ∧ h'.get? W = some ow ∧ h'.get? PcW = some (lsObj vs np) :=
  ⟨⟨b, tk', n, o', rfl, hb, hn, hP, (N _ (.head _)).1, (N _ (.tail _ (.head _))).1, (N _ (.tail _ (.tail _ (.head _)))).1⟩, (N _ (.tail _ (.tail _ (.tail _ (.head _))))).1, (N _ (.tail _ (.tail _ (.tail _ (.tail _ (.head _)))))).1⟩
set_option maxHeartbeats 1500000 in
theorem c_whole (w : World) (u1 u2 u3 : Tok) (W PcW PlW x dx D : Addr) (ow : Obj) (bp : Bool) (len : Int) (tl : Tok) (vs : List Value) (np : Nat) (ps : List (Array UInt8)) (o : Obj) (kn : List (List UInt8 × Int))
    (hnd : [W, PcW, x, dx, D].Nodup) (hW : DI (strKind PR w) W ow [(Str.ofString "by_place", .bool bp), (Str.ofString "pieces", .ref PcW), (Str.ofString "places", .ref PlW), (Str.ofString "length", .int len tl)]) (hV : BV vs ps) (hz : (cat ps).size ≤ 9000) (hl : ps.length < 256) (hP : Pl w D o kn) (hK : Kn kn) :
    Sp w 287 [.ref W, .ref x] [(W, ow), (PcW, { cls := .type "list", data := .seq vs.toArray np }), (x, instObj 105 dx), (dx, dictOf [⟨PyData.keyHash w.params (Str.ofString "size"), .str (Str.ofString "size") u1, .int 4 u2⟩, ⟨PyData.keyHash w.params (Str.ofString "known"), .str (Str.ofString "known") u3, .ref D⟩] 2), (D, o)] 8 80
    (fun _ v h' => ClosePost w x dx D u1 u2 u3 kn (packHead ps.length (cat ps)) v h' ∧ h'.get? W = some ow ∧ h'.get? PcW = some (lsObj vs np)) := by
  have hfill : Fill PySem.Challenge.rw_pb0104_01 KF := by k_fill; trivial
  have hlen := hV.length
  unfold Sp
  intro p loose mean mg mb dp un gd cn cs a ccd cl outer A₀ base h₀ L m s Q E B F X N T hk hd hu hret
  (refine wpAny_call ?_; k_dflt (refine' enter ?k1 ?k2 ?k3 ?k4 ?k5 ?kA ?kF ?kK ?k6 ?k7 ?k8 ?k9 ?kB ?_ ?c2 ?c3 ?c4 ?c5; (case kA => exact rfl); (case kF => exact rfl); (case kK => assumption); (case k1 => k_asm); (case k2 => k_asm); (case k3 => k_asm); (case k4 => k_asm); (case k5 => k_asm); (case k6 => k_is); (case k7 => k_is); (case k8 => ktr_room); (case k9 => first | exact BindsTo.of_eq rfl | exact binds_K (by k_in) rfl (by k_is) rfl rfl rfl); (case c5 => decide); (case kB => exact locs rfl); (case c2 => exact rfl); (case c3 => exact rfl); (case c4 => exact rfl); k_whole; intro g' L' h' tk' hG' FG' F' N' B' X' T' l1'; (try k_lt l1'); (try dsimp only); walk_at "MINE_FOLD"))
  (repeat' (first | (k_unfold; (try dsimp only)) | (k_end; wrow_close) | ((with_reducible show wpAny _ _ _ _ _ _); first | (with_reducible (first | ((with_reducible show wpAny _ _ (call (Value.builtin "bytes.join") [Value.bytes _ _, Value.ref _]) _ _ _); k_dflt (refine' call_join ?o ?v ?z ?_; (case o => exact News.get (by k_asm) (by k_mem)); (case v => assumption); (case z => (rw [sizeLine_eq]; omega))); intro _ _) | ((with_reducible show wpAny _ _ (call (Value.ref 102) _) _ _ _); refine halt ?_) | ((with_reducible show wpAny _ _ (subscriptTail _ _ (Value.ref _) (Value.str _ _)) _ _ _); k_dflt (refine' di_tailS (knd := strKind PR _) ?N ?m ?D (strKind_is _ _ _ _) ?v ?_; (case N => k_asm); (case m => k_mem); (case D => assumption); (case v => exact rfl)); intro _) | ((with_reducible show wpAny _ _ (getMethod (Value.bytes _ _) _ _) _ _ _); (with_reducible refine BJ.method ?_)) | ((with_reducible show wpAny _ _ (call (Value.builtin "len") [Value.ref _]) _ _ _); k_dflt (refine' len_seq ?N ?m ?z ?_; (case N => k_asm); (case m => k_mem); (case z => omega)); intro _ _) | ((with_reducible show wpAny _ _ (call (Value.type _) [Value.bytes _ _]) _ _ _); refine call_bytes_bytes ?_) | ((with_reducible show wpAny _ _ (call (Value.builtin "len") [Value.ref _]) _ _ _); k_dflt (refine' pl_len ?N ?m ?D ?z ?_; (case N => k_asm); (case m => k_mem); (case D => assumption); (case z => omega)); intro _ _) | ((with_reducible show wpAny _ _ (subscriptTail _ _ (Value.ref _) (Value.bytes _ _)) _ _ _); k_dflt (refine' pl_tailS ?N ?m ?D ?v ?_; (case N => k_asm); (case m => k_mem); (case D => assumption); (case v => first | assumption | exact plAt_snoc_some _ _ _ | (simp_all; done))); intro n8 t8 k8 hn8; (try (have hb8 := PlOk.at (by assumption) hn8; obtain ⟨hb8a, hb8b⟩ := hb8))) | ((with_reducible show wpAny _ _ (call (Value.builtin "len") [Value.bytes _ _]) _ _ _); (refine len_bytes (by (try simp only [Array.size_append]); omega) ?_)) | ((with_reducible show wpAny _ _ (binaryOp Operator.Add (Value.bytes _ _) (Value.bytes _ _)) _ _ _); refine KBy.add_bytes (by first | omega | (simp only [Array.size_append]; omega) | ((try simp only [Array.size_append, List.size_toArray, List.length_map, List.length_cons, List.length_nil, byteArr_size, List.length_append, Array.length_toList]); omega)) ?_; intro _ _) | ((with_reducible show wpAny _ _ (call (Value.type _) [Value.ref _]) _ _ _); k_dflt (refine' bytes_K ?F ?N ?l ?i ?r ?z ?h ?_; (case F => k_asm); (case N => k_asm); (case l => is_list); (case i => first | l_ints | l_intsW); (case r => first | by_in | ((simp only [Int.reduceToNat, List.getD_cons_zero, List.getD_cons_succ]); by_in)); (case z => first | size_fits | (rw [sizeLine_eq]; simp)); (case h => with_unfolding_all rfl); k_whole); intro h' t' k' F' N' hB'; (clear hB'); (try k_sweep))))) | walk1 | (leave1; (try dsimp only)) | dsimp only | fail "no step"))
  unfold Halt
  simp only [List.nodup_cons, List.mem_cons, List.not_mem_nil, or_false, not_or, not_false_eq_true, List.nodup_nil, and_true] at hnd
  obtain ⟨⟨n1, n2, n3, n4⟩, ⟨n6, n7, n8⟩, ⟨n10, n11⟩, n12⟩ := hnd
  rw [hlen, show (#[80, 65, 67, 75] ++ (List.map (fun n : Int => n.toNat.toUInt8) [0, 0, 0, 2, 0, 0, 0, (ps.length : Int)]).toArray ++ cat ps : Array UInt8) = packHead ps.length (cat ps) from head_eq _ _]
  refine' use (c_digest w x dx D u1 u2 u3 o kn (packHead ps.length (cat ps)) _ n10 n11 n12 hP hK ?z) ?k1 ?k2 ?k3 ?k4 ?k5 ?kK ?kd ?ku [(W, ow), (PcW, lsObj vs np)] ?hs ?hr ?_
  walk_at "MINE_USE0"
  case z => unfold packHead; simp only [Array.size_append, List.size_toArray, List.length_cons, List.length_nil, byteArr_size]; omega
  case hs => intro q hq; first | exact List.mem_cons_of_mem _ (List.mem_cons_of_mem _ hq) | exact List.mem_cons_of_mem _ (List.mem_cons_of_mem _ (List.mem_cons_of_mem _ hq))
  case hr => exact fa1 ⟨by k_mem, by simp [n2, n3, n4]⟩ (fa1 ⟨by k_mem, by simp [n6, n7, n8]⟩ (fun _ h => nomatch h))
  intro v' h' tk' F' N' hne hput hP'
  obtain ⟨b9, tk9, n9, o9, hv, hb9, hn9, hP9, g1, g2, g3⟩ := hP'
  subst hv
  have N1 := hput D _ _ (.inl (by simp)) g3 N'
  have N2 := hput dx _ _ (.inl (by simp)) g2 N1
  have N3 := hput x _ _ (.inl (by simp)) g1 N2
  clear hput hne N' N1 N2 g1 g2 g3
  have hbz : b9.size = 4 := by rw [hb9, byteArr_size]; rfl
  have hpz : (packHead ps.length (cat ps)).size ≤ 9100 := by unfold packHead; simp only [Array.size_append, List.size_toArray, List.length_cons, List.length_nil, byteArr_size]; omega
  k_sweep
  (repeat' (first | (k_unfold; (try dsimp only)) | (k_end; wrow_close) | ((with_reducible show wpAny _ _ _ _ _ _); first | (with_reducible (first | ((with_reducible show wpAny _ _ (call (Value.builtin "bytes.join") [Value.bytes _ _, Value.ref _]) _ _ _); k_dflt (refine' call_join ?o ?v ?z ?_; (case o => exact News.get (by k_asm) (by k_mem)); (case v => assumption); (case z => (rw [sizeLine_eq]; omega))); intro _ _) | ((with_reducible show wpAny _ _ (call (Value.ref 102) _) _ _ _); refine halt ?_) | ((with_reducible show wpAny _ _ (subscriptTail _ _ (Value.ref _) (Value.str _ _)) _ _ _); k_dflt (refine' di_tailS (knd := strKind PR _) ?N ?m ?D (strKind_is _ _ _ _) ?v ?_; (case N => k_asm); (case m => k_mem); (case D => assumption); (case v => exact rfl)); intro _) | ((with_reducible show wpAny _ _ (getMethod (Value.bytes _ _) _ _) _ _ _); (with_reducible refine BJ.method ?_)) | ((with_reducible show wpAny _ _ (call (Value.builtin "len") [Value.ref _]) _ _ _); k_dflt (refine' len_seq ?N ?m ?z ?_; (case N => k_asm); (case m => k_mem); (case z => omega)); intro _ _) | ((with_reducible show wpAny _ _ (call (Value.type _) [Value.bytes _ _]) _ _ _); refine call_bytes_bytes ?_) | ((with_reducible show wpAny _ _ (call (Value.builtin "len") [Value.ref _]) _ _ _); k_dflt (refine' pl_len ?N ?m ?D ?z ?_; (case N => k_asm); (case m => k_mem); (case D => assumption); (case z => omega)); intro _ _) | ((with_reducible show wpAny _ _ (subscriptTail _ _ (Value.ref _) (Value.bytes _ _)) _ _ _); k_dflt (refine' pl_tailS ?N ?m ?D ?v ?_; (case N => k_asm); (case m => k_mem); (case D => assumption); (case v => first | assumption | exact plAt_snoc_some _ _ _ | (simp_all; done))); intro n8 t8 k8 hn8; (try (have hb8 := PlOk.at (by assumption) hn8; obtain ⟨hb8a, hb8b⟩ := hb8))) | ((with_reducible show wpAny _ _ (call (Value.builtin "len") [Value.bytes _ _]) _ _ _); (refine len_bytes (by (try simp only [Array.size_append]); omega) ?_)) | ((with_reducible show wpAny _ _ (binaryOp Operator.Add (Value.bytes _ _) (Value.bytes _ _)) _ _ _); refine KBy.add_bytes (by first | omega | (simp only [Array.size_append]; omega) | ((try simp only [Array.size_append, List.size_toArray, List.length_map, List.length_cons, List.length_nil, byteArr_size, List.length_append, Array.length_toList]); omega)) ?_; intro _ _) | ((with_reducible show wpAny _ _ (call (Value.type _) [Value.ref _]) _ _ _); k_dflt (refine' bytes_K ?F ?N ?l ?i ?r ?z ?h ?_; (case F => k_asm); (case N => k_asm); (case l => is_list); (case i => first | l_ints | l_intsW); (case r => first | by_in | ((simp only [Int.reduceToNat, List.getD_cons_zero, List.getD_cons_succ]); by_in)); (case z => first | size_fits | (rw [sizeLine_eq]; simp)); (case h => with_unfolding_all rfl); k_whole); intro h' t' k' F' N' hB'; (clear hB'); (try k_sweep))))) | walk1 | (leave1; (try dsimp only)) | dsimp only | fail "no step"))
  refine' hret _ _ _ ?x1 (whole_post ?N (by rw [hb9]) hn9 hP9)
  case x1 => walk_at "MINE_AGREE"
  case N => assumption


end
theorem walk_reset9 : True ∧ True := by first | (walk1 <;> trivial) | exact ⟨trivial, trivial⟩
section
open PySem PySem.W PySem.Calls PyProof.Rows
set_option Elab.async false
set_option maxRecDepth 100000
section
variable {w : World} {A : Around} {E : Value → Shared → Prop} {s : Shared}
theorem bad_cls {h : Heap} (X : (KF w.params).In h) : h.get? 52 = some (excClassObj (Str.ofString "BadPack") (Str.ofString "BadPack") 52 51 [.ref 39] bmG true [] [] false none none (some (.ref 43)) none (some (.str (Str.ofString "BadPack") 226)) (some (.str (Str.ofString "BadPack") 234)) (some (.bool true)) "Exception.__new__") :=
  X 52 _ rfl
theorem bad_set {h : Heap} (X : (KF w.params).In h) : Looks (model PR w) h (typeLookup (.ref 52) "__setattr__") (some (.builtin "object.__setattr__")) := by
  have hfill : Fill PySem.Challenge.rw_pb0104_01 KF := by k_fill; trivial
  exact looks_findIn X (by k_is)
theorem bad_told {h : Heap} (X : (KF w.params).In h) : Looks (model PR w) h (typeLookup (.ref 52) "told") none := by
  have hfill : Fill PySem.Challenge.rw_pb0104_01 KF := by k_fill; trivial
  exact looks_findIn X (by k_is)
theorem bad_init {h : Heap} (X : (KF w.params).In h) : Looks (model PR w) h (typeLookup (.ref 52) "__init__") (some (.ref 36)) := by
  have hfill : Fill PySem.Challenge.rw_pb0104_01 KF := by k_fill; trivial
  exact looks_findIn X (by k_is)
theorem bad_setattr {e : Addr} {o : Obj} {v : Value} {Q : Unit → Shared → Prop} (X : (KF w.params).In s.heap) (he : s.heap.get? e = some o) (hc : o.cls = .ref 52) (hnc : ∀ c, o.data ≠ .cls c) (hdn : o.dict = none)
    (hq : ∀ h' tk' dx, (∀ b o, b ≠ e → s.heap.get? b = some o → h'.get? b = some o) → h'.get? e = some { cls := o.cls, dict := some dx, data := o.data, slots := o.slots } → Q () { s with heap := h', toks := tk' }) :
    wpAny (model PR w) A (setAttr (.ref e) "told" v) Q E s :=
  exc_setattr (bad_cls X) (bad_set X) (bad_told X) he hc hnc hdn hq
end
noncomputable abbrev excObj (C t : Addr) : Obj := { cls := .ref C, data := .fields #[.ref t, .none, .none, .none, .bool false, .none] }
section
variable {w : World} {A : Around} {E : Value → Shared → Prop} {s : Shared} {h₀ : Heap} {L : Addr} {m : Str → Option Value} {news : List (Addr × Obj)}
theorem bad_setF {e tt : Addr} {v : Value} {Q : Unit → Shared → Prop} (F : Fr h₀ L s.heap m) (X : (KF w.params).In h₀) (N : News h₀ L s.heap ((e, excObj 52 tt) :: news)) (hne : ∀ q ∈ news, q.1 ≠ e)
    (h : ∀ h' tk' dx, Fr h₀ L h' m → News h₀ L h' ((e, { excObj 52 tt with dict := some dx }) :: news) → Q () { s with heap := h', toks := tk' }) : wpAny (model PR w) A (setAttr (.ref e) "told" v) Q E s := by
  have hag : ∀ h' : Heap, (∀ b o, b ≠ e → s.heap.get? b = some o → h'.get? b = some o) → Agree [(e, excObj 52 tt)] s.heap h' := fun h' hk b o q hn => hk b o (fun x => hn (by rw [x]; exact .head _)) q
  refine bad_setattr (X.keeps F.keep) (N _ (.head _)).1 rfl (fun c q => by cases q) rfl fun h' tk' dx hk he => h h' tk' dx (fr_agree F (fun q hq => N q (List.mem_singleton.mp hq ▸ .head _)) (hag h' hk)) (fun q hq => ?_)
  rcases List.mem_cons.mp hq with rfl | hq'
  · exact ⟨he, (N _ (.head _)).2⟩
  · exact news_agree (as := [(e, excObj 52 tt)]) (fun q hq => N q (.tail _ hq)) (fun q hq hm => hne q hq (List.mem_singleton.mp hm)) (hag h' hk) q hq'
end
set_option maxHeartbeats 1000000 in
theorem c_exc_init (w : World) (e tt : Addr) (x : Str) (tx : Tok) : Sp w 36 [.ref e, .str x tx] [(e, excObj 52 tt)] 1 8 (fun _ v h' => v = .none ∧ ∃ dx, h'.get? e = some { excObj 52 tt with dict := some dx }) := by
  have hfill : Fill PySem.Challenge.rw_pb0104_01 KF := by k_fill; trivial
  unfold Sp
  intro p loose mean mg mb dp un gd cn cs a ccd cl outer A₀ base h₀ L m s Q E B F X N T hk hd hu hret
  (refine wpAny_call ?_; k_dflt (refine' enter ?k1 ?k2 ?k3 ?k4 ?k5 ?kA ?kF ?kK ?k6 ?k7 ?k8 ?k9 ?kB ?_ ?c2 ?c3 ?c4 ?c5; (case kA => exact rfl); (case kF => exact rfl); (case kK => assumption); (case k1 => k_asm); (case k2 => k_asm); (case k3 => k_asm); (case k4 => k_asm); (case k5 => k_asm); (case k6 => k_is); (case k7 => k_is); (case k8 => ktr_room); (case k9 => first | exact BindsTo.of_eq rfl | exact binds_K (by k_in) rfl (by k_is) rfl rfl rfl); (case c5 => decide); (case kB => exact locs rfl); (case c2 => exact rfl); (case c3 => exact rfl); (case c4 => exact rfl); k_whole; intro g' L' h' tk' hG' FG' F' N' B' X' T' l1'; (try k_lt l1'); (try dsimp only); walk_at "MINE_FOLD"))
  (repeat' (first | (k_unfold; (try dsimp only)) | (k_end; wrow_close) | ((with_reducible show wpAny _ _ _ _ _ _); first | (with_reducible (first | ((with_reducible show wpAny _ _ (setAttr (Value.ref _) _ _) _ _ _); k_dflt (refine' bad_setF ?F ?X ?N ?n ?_; (case F => k_asm); (case X => k_asm); (case N => k_asm); (case n => exact List.forall_mem_nil _)); intro h' k' dx' F' N'; (try k_sweep))))) | walk1 | (leave1; (try dsimp only)) | dsimp only | fail "no step"))
  refine' hret _ _ _ ?x1 ⟨rfl, _, (News.get (by k_asm) (.head _))⟩
  case x1 => walk_at "MINE_AGREE"


end
theorem walk_reset10 : True ∧ True := by first | (walk1 <;> trivial) | exact ⟨trivial, trivial⟩
section
open PySem PySem.W PySem.Calls PyProof.Rows
open PySem.Sem (wp)
set_option Elab.async false
set_option maxRecDepth 100000
section
variable {M : Model} {A : Around} {E : Value → Shared → Prop} {env : Env} {w : World}
/-- a BadPack stands at v, and may fly -/
noncomputable def BadHere (w : World) (E : Value → Shared → Prop) (v : Value) (s₁ : Shared) : Prop := ∃ e t dx, v = .ref e ∧ (KF w.params).In s₁.heap ∧ s₁.heap.get? e = some { excObj 52 t with dict := some dx } ∧ E (.ref e) s₁
theorem bad_raiseStmt {s : Shared} {x : Sem Value} {Q : Flow → Shared → Prop} (hh : A.handled = none)
    (h : wpAny M A x (BadHere w E) E s) :
    wpAny M A (raiseStmt env (some x) none) Q E s := by
  have hcB : (Value.ref 52 :: bmG).contains (.type "BaseException") = true := by rw [List.contains_cons, bmG_has]; rfl
  unfold raiseStmt
  refine wpAny_bind (wpAny_mono h (fun v s₁ h₁ => ?_) fun _ _ x => x)
  obtain ⟨e, t, dx, rfl, hX, he, hE⟩ := h₁
  have hC := bad_cls hX
  obtain ⟨hp, g, d, tk, os⟩ := s₁
  repeat (first | with_reducible refine wpAny_loadPart_at he ?_ | with_reducible refine wpAny_loadPart_at hC ?_ | (with_reducible refine wpAny_isSubtype_exc hC ?_; rw [hcB]) | wp_step)
  exact wpAny_raiseNew_none hh hE
theorem bad_raise {s : Shared} {ex : PySem.Expr} {pos : Pos} {Q : Flow → Shared → Prop} (hh : A.handled = none)
    (h : wpAny (model PR w) A (eval ex env) (BadHere w E) E s) :
    wpAny (model PR w) A (exec (.Raise (some ex) none pos) env) Q E s := by
  rw [arm_exec_Raise]
  refine wpAny_bind (wpAny_standAt (bad_raiseStmt (w := w) hh ?_))
  exact wpAny_bind (wpAny_mono h (fun v s₃ h₃ => wpAny_bind (wpAny_standAt (wpAny_pure h₃))) fun _ _ x => x)
end
section
variable {w : World} {p : Program} {loose : List Str} {mean : ExcName → Option Value} {mg mb : Str → Option Value} {dp un : Nat} {gd : Option (List Code)} {cn : Str} {cs : Scope} {a : Addr} {ccd : Value} {cl : List (Str × Addr)} {outer : List Env} {A₀ : Around} {base h₀ : Heap} {L : Addr} {m : Str → Option Value} {s : Shared} {Q E : Value → Shared → Prop}
/-- a new BadPack: nothing that stood is turned -/
noncomputable def BadNew (h h' : Heap) (e : Addr) : Prop := (∀ b o, h.get? b = some o → h'.get? b = some o) ∧ h.get? e = none ∧ ∃ t dx, h'.get? e = some { excObj 52 t with dict := some dx }
theorem make_bad {x : Str} {tx : Tok} (B : Below A₀ base outer h₀) (F : Fr h₀ L s.heap m) (X : (KF w.params).In h₀) (T : Top p loose mean mg mb h₀) (hk : cs.kind = .function) (hd : dp + 2 < recursionLimit) (hu : un + 40 < cLine)
    (k : ∀ h' tk' e, BadNew s.heap h' e → Q (.ref e) { s with heap := h', toks := tk' }) : wpAny (model PR w) (ktrTop dp un gd cn cs L a ccd cl outer) (call (.ref 52) [.str x tx]) Q E s := by
  have X₁ := X.keeps F.keep
  obtain ⟨hp, g, d, tk, os⟩ := s
  refine exc_call (bad_cls X₁) (bad_init X₁) (X₁ 36 _ rfl) rfl (by rw [sizeLine_eq]; exact Nat.le_of_ble_eq_true rfl) fun h' e hm => ?_
  obtain ⟨t, he, ht, htup⟩ := hm.there
  have hA : Agree [] hp h' := fun b o q _ => hm.keeps b o q
  have F' : Fr h₀ L h' m := fr_agree F (fun q hq => by cases hq) hA
  have hne : e ≠ L := fun q => by
    obtain ⟨oL, es, ep, hL, r⟩ := F.ns
    have := hm.new
    rw [q, hL] at this; cases this
  have h0 : h₀.get? e = none := by
    cases q : h₀.get? e with
    | none => rfl
    | some o => have := F.keep _ _ q; rw [hm.new] at this; cases this
  refine c_exc_init w e t x tx p loose mean mg mb (dp + 1) _ _ cn cs a ccd cl outer A₀ base h₀ L m ⟨h', g, d, tk, os⟩ _ E B F' X (fun q hq => ?_) T hk (by omega) ?_ fun v h'' tk' hA' hP => ?_
  · rw [List.mem_singleton.mp hq]; exact ⟨he, hne, h0⟩
  · have hcu : (Code.builtin "type.__call__" ⟨[.ref 52, .str x tx], []⟩).cUnits ≤ 20 := Nat.le_of_ble_eq_true (by kernel_rfl)
    show un + _ + 8 < cLine
    omega
  · obtain ⟨rfl, dx, hx⟩ := hP
    exact ⟨rfl, k h'' tk' e ⟨fun b o q => hA' b o (hm.keeps b o q) (fun hb => by rw [List.mem_singleton.mp hb, hm.new] at q; cases q), hm.new, t, dx, hx⟩⟩
end
section
variable {M : Model} {A : Around} {E : Value → Shared → Prop} {s' : Shared} {base g h : Heap} {outer : List Env} {L a e : Addr} {m : Str → Option Value} {name : Str} {scope : Scope} {cd : Value} {Q : Unit → Shared → Prop} {news : List (Addr × Obj)}
/-- the frame that raised it is left: it flies towards the caller -/
theorem leave_bad (K : Below A base outer g) (hx : BadNew h s'.heap e) (F : Fr g L h m) (N : News g L h news)
    (hQ : ∀ h', RaisedSN base g outer e (.ref 52) news h' → g.UpToSlots h' → Q () { s' with heap := h' }) (hk : scope.kind = .function := by rfl) :
    wpAny M (A.deeper (envOf name scope L a cd)) («leaving» (envOf name scope L a cd) (.ref e)) Q E s' := by
  have K' := K.push (name := name) (a := a) (cd := cd) F hk
  have hin : ∀ env ∈ (envOf name scope L a cd :: outer), ∀ b, env.frame = some b → b ∈ (envOf name scope L a cd :: outer).filterMap (·.frame) := fun env he b hb => List.mem_filterMap.mpr ⟨env, he, hb⟩
  have hid : ∀ b o, h.get? b = some o → b ∉ (envOf name scope L a cd :: outer).filterMap (·.frame) → (hideAll h ((envOf name scope L a cd :: outer).filterMap (·.frame))).get? b = some o := fun b o q hm => hideAll_get _ q hm
  have st : base.StaysIn (hideAll h ((envOf name scope L a cd :: outer).filterMap (·.frame))) := fun b o q => hid b o (K'.stays b o q) fun hm => by
    rw [(K'.frames.mem hm).1] at q; cases q
  have sg : ∀ b o, g.get? b = some o → b ∉ outer.filterMap (·.frame) → (hideAll h ((envOf name scope L a cd :: outer).filterMap (·.frame))).get? b = some o := fun b o q nm => hid b o (F.keep b o q) fun hm => by
    rcases kts_mem hm with z | z
    · rw [z, kts_self F] at q
      cases q
    · exact nm z
  have hl : ∀ q ∈ news, (hideAll h ((envOf name scope L a cd :: outer).filterMap (·.frame))).get? q.1 = some q.2 ∧ g.get? q.1 = none ∧ base.get? q.1 = none := fun q hq => by
    refine ⟨hid _ _ (N q hq).1 fun hm => ?_, (N q hq).2.2, fresh_of_stays K.stays (N q hq).2.2⟩
    rcases kts_mem hm with z | z
    · exact (N q hq).2.1 z
    · obtain ⟨_, o, ho, _⟩ := K.frames.mem z
      rw [(N q hq).2.2] at ho; cases ho
  obtain ⟨hkeep, hnew, t, dx, he⟩ := hx
  have hen : (hideAll h ((envOf name scope L a cd :: outer).filterMap (·.frame))).get? e = none := by
    cases q : (hideAll h ((envOf name scope L a cd :: outer).filterMap (·.frame))).get? e with
    | none => rfl
    | some o => have := of_hideAll _ q; rw [hnew] at this; cases this
  refine wpAny_leaving_firstW (a0 := .ref t) K'.stack ((funFrames_hide K'.frames hin).of_keeps fun b o hb _ => ⟨o, hkeep b o hb, rfl⟩) rfl he (fun b o hb => hkeep b o (of_hideAll _ hb)) hen rfl rfl rfl fun h' hL => ?_
  obtain ⟨k1, ⟨_, _, k2⟩, k3, k4⟩ := hL
  exact hQ h' ⟨_, .ref t, st, sg, hl, k1, hen, k2, k3⟩ (((Heap.UpToSlots.of_keeps F.keep).trans (Heap.UpToSlots.of_keeps hkeep)).trans k4)
theorem raised_sub {base G : Heap} {l : List Env} {e : Addr} {cls : Value} {as news : List (Addr × Obj)} {h : Heap} (R : RaisedSN base G l e cls news h) (hs : ∀ q ∈ as, q ∈ news) : RaisedSN base G l e cls as h := by
  obtain ⟨B, a0, hB, hG, hl, hf⟩ := R
  exact ⟨B, a0, hB, hG, fun q hq => hl q (hs q hq), hf⟩
theorem bad_here {w : World} {E₀ : Value → Shared → Prop} {as : List (Addr × Obj)} (K : Below A base outer g) (F : Fr g L h m) (N : News g L h news) (X : (KF w.params).In g) (hB : BadNew h s'.heap e) (hs : ∀ q ∈ as, q ∈ news)
    (hQ : ∀ h', RaisedSN base g outer e (.ref 52) as h' → g.UpToSlots h' → E₀ (.ref e) { s' with heap := h' }) (hk : scope.kind = .function := by rfl) :
    BadHere w (fun x s₁ => wpAny M (A.deeper (envOf name scope L a cd)) («leaving» (envOf name scope L a cd) x) (fun _ s'' => E₀ x s'') (fun e' s'' => E₀ e' s'') s₁) (.ref e) s' := by
  obtain ⟨t, dx, he⟩ := hB.2.2
  exact ⟨e, t, dx, rfl, X.keeps fun b o q => hB.1 b o (F.keep b o q), he, leave_bad K hB F N (fun h' R U => hQ h' (raised_sub R hs) U) hk⟩
end


end
theorem walk_reset11 : True ∧ True := by first | (walk1 <;> trivial) | exact ⟨trivial, trivial⟩
section
open PySem PySem.W PySem.Calls PyProof.Rows
set_option Elab.async false
set_option maxRecDepth 100000
/-- a contract among clean contexts of a call that may raise BadPack (where Bad holds): then nothing that was handed in is turned -/
noncomputable def SpX (w : World) (f : Addr) (args : List Value) (as : List (Addr × Obj)) (d u : Nat) (Bad : Prop) (Post : Heap → Value → Heap → Prop) : Prop :=
  ∀ (p : Program) (loose : List Str) (mean : ExcName → Option Value) (mg mb : Str → Option Value) (dp un : Nat) (gd : Option (List Code)) (cn : Str) (cs : Scope) (a : Addr) (ccd : Value) (cl : List (Str × Addr)) (outer : List Env) (A₀ : Around) (base h₀ : Heap) (L : Addr) (m : Str → Option Value) (s : Shared) (Q E : Value → Shared → Prop),
    Below A₀ base outer h₀ → Fr h₀ L s.heap m → (KF w.params).In h₀ → News h₀ L s.heap as → Top p loose mean mg mb h₀ → cs.kind = .function → dp + d < recursionLimit → un + u < cLine →
    (∀ v h' tk', Agree as s.heap h' → Post s.heap v h' → Q v { s with heap := h', toks := tk' }) →
    (∀ e g h' tk', Bad → Agree as s.heap g → Fr h₀ L g m → RaisedSN base g (envX cn cs L a ccd cl :: outer) e (.ref 52) as h' → g.UpToSlots h' → E (.ref e) { s with heap := h', toks := tk' }) →
    wpC (model PR w) (ktrTop dp un gd cn cs L a ccd cl outer) (call (.ref f) args) Q E s
/-- using it where nothing that is handed in is turned -/
theorem useX0 {w : World} {f : Addr} {args : List Value} {d u : Nat} {Bad : Prop} {Post : Heap → Value → Heap → Prop} {as : List (Addr × Obj)} (H : SpX w f args as d u Bad Post)
    {p : Program} {loose : List Str} {mean : ExcName → Option Value} {mg mb : Str → Option Value} {dp un : Nat} {gd : Option (List Code)} {cn : Str} {cs : Scope} {a : Addr} {ccd : Value} {cl : List (Str × Addr)} {outer : List Env} {A₀ : Around} {base h₀ : Heap} {L : Addr} {m : Str → Option Value} {s : Shared} {Q E : Value → Shared → Prop} {news : List (Addr × Obj)}
    (B : Below A₀ base outer h₀) (F : Fr h₀ L s.heap m) (X : (KF w.params).In h₀) (N : News h₀ L s.heap news) (T : Top p loose mean mg mb h₀) (hk : cs.kind = .function) (hd : dp + d < recursionLimit) (hu : un + u < cLine) (hs : ∀ q ∈ as, q ∈ news)
    (hst : ∀ g v h', Post g v h' → ∀ q ∈ as, h'.get? q.1 = some q.2)
    (k : ∀ v h' tk', Fr h₀ L h' m → News h₀ L h' news → Post s.heap v h' → Q v { s with heap := h', toks := tk' })
    (kb : ∀ e g h' tk', Bad → Agree as s.heap g → Fr h₀ L g m → RaisedSN base g (envX cn cs L a ccd cl :: outer) e (.ref 52) as h' → g.UpToSlots h' → E (.ref e) { s with heap := h', toks := tk' }) :
    wpC (model PR w) (ktrTop dp un gd cn cs L a ccd cl outer) (call (.ref f) args) Q E s := by
  have N' : News h₀ L s.heap as := fun q hq => N q (hs q hq)
  refine H p loose mean mg mb dp un gd cn cs a ccd cl outer A₀ base h₀ L m s Q E B F X N' T hk hd hu (fun v h' tk' hA hP => ?_) kb
  refine k v h' tk' (fr_agree F N' hA) (fun q hq => ?_) hP
  have h0 := N q hq
  refine ⟨?_, h0.2⟩
  by_cases hm : q.1 ∈ as.map (·.1)
  · obtain ⟨z, hz, ez⟩ := List.mem_map.mp hm
    have h1 := hst _ v h' hP z hz
    have h2 := (N' z hz).1
    rw [ez, h0.1] at h2
    rw [← ez, h1, ← h2]
  · exact hA _ _ h0.1 hm


end
theorem walk_reset12 : True ∧ True := by first | (walk1 <;> trivial) | exact ⟨trivial, trivial⟩
section
open PySem PySem.W PySem.Calls PyProof.Rows
set_option Elab.async false
set_option maxRecDepth 100000
section
variable {prog : Program} {w : World} {A : Around} {E : Value → Shared → Prop} {s : Shared} {Q : Value → Shared → Prop} {k x : Int} {t u : Tok}
theorem shl4 (h0 : 0 ≤ k) (h1 : k < 1000) (h : Q (.int (k * 16) s.toks) { s with toks := s.toks + 1 }) : wpAny (model prog w) A (binaryOp .LShift (.int k t) (.int 4 u)) Q E s :=
  lshift_int_small (by decide) (by decide) (by omega) (by simpa using h)
theorem or4 (hk : 0 ≤ k) (h0 : 0 ≤ x) (hx : x < 16) (h : Q (.int (k * 16 + x) s.toks) { s with toks := s.toks + 1 }) : wpAny (model prog w) A (binaryOp .BitOr (.int (k * 16) t) (.int x u)) Q E s := by
  refine or_ii 4 k.toNat h0 (by omega) ?_ h
  omega
end
set_option maxHeartbeats 1000000 in
theorem c_entry_head (w : World) (k n : Int) (t u : Tok) (h0 : 0 ≤ n) (h1 : n < 2048) (hk0 : 0 ≤ k) (hk1 : k < 8) : SpC w 117 [.int k t, .int n u] [] 1 8 (fun _ v _ => ∃ b tk, v = .bytes b tk ∧ b = byteArr (eh k n) ∧ b.size ≤ 2) := by
  have hfill : Fill PySem.Challenge.rw_pb0104_01 KF := by k_fill; trivial
  unfold SpC
  intro p loose mean mg mb dp un gd cn cs a ccd cl outer A₀ base h₀ L m s Q E B F X N T hk hd hu hret
  (refine wpC_call ?_; k_dflt (refine' enterW ?k1 ?k2 ?k3 ?k4 ?k5 ?kA ?kF ?kK ?k6 ?k7 ?k8 ?k9 ?kB ?_ ?c2 ?c3 ?c4 ?c5; (case kA => exact rfl); (case kF => exact rfl); (case kK => assumption); (case k1 => k_asm); (case k2 => k_asm); (case k3 => k_asm); (case k4 => k_asm); (case k5 => k_asm); (case k6 => k_is); (case k7 => k_is); (case k8 => ktr_room); (case k9 => first | exact BindsTo.of_eq rfl | exact binds_K (by k_in) rfl (by k_is) rfl rfl rfl); (case c5 => decide); (case kB => exact locs rfl); (case c2 => exact rfl); (case c3 => exact rfl); (case c4 => exact rfl); k_whole; intro g' L' h' tk' hG' FG' F' N' B' X' T' l1'; (try k_lt l1'); (try dsimp only); (show (let qk9 : Flow → Shared → Prop := _; let ek9 : Value → Shared → Prop := _; wpC _ _ _ qk9 ek9 _)); intro qk9 ek9))
  refine wpC_execs_consA ?_
  (repeat' (first | (k_unfold; (try dsimp only)) | (k_end; wrow_close) | ((with_reducible show wpAny _ _ _ _ _ _); first | (with_reducible (first | ((with_reducible show wpAny _ _ (getMethod (Value.ref _) _ _) _ _ _); k_dflt (refine' ba_method ?N ?m ?_; (case N => k_asm); (case m => k_mem))) | ((with_reducible show wpAny _ _ (call (Value.type _) [Value.ref _]) _ _ _); k_dflt (refine' call_bytes_ba ?o ?z ?_; (case o => exact News.get (by k_asm) (by k_mem)); (case z => (rw [sizeLine_eq]; simp)))) | ((with_reducible show wpAny _ _ (binaryOp Operator.BitOr (Value.int _ _) (Value.int _ _)) _ _ _); refine or4 (by omega) (by omega) (by omega) ?_) | ((with_reducible show wpAny _ _ (binaryOp Operator.LShift (Value.int _ _) (Value.int _ _)) _ _ _); refine shl4 (by omega) (by omega) ?_) | ((with_reducible show wpAny _ _ (call (Value.type _) [Value.bytes _ _]) _ _ _); refine call_bytes_bytes ?_) | ((with_reducible show wpAny _ _ (call (Value.type _) [Value.ref _]) _ _ _); k_dflt (refine' bytes_K ?F ?N ?l ?i ?r ?z ?h ?_; (case F => k_asm); (case N => k_asm); (case l => is_list); (case i => first | l_ints | l_intsW); (case r => first | by_in | ((simp only [Int.reduceToNat, List.getD_cons_zero, List.getD_cons_succ]); by_in)); (case z => first | size_fits | (rw [sizeLine_eq]; simp)); (case h => with_unfolding_all rfl); k_whole); intro h' t' k' F' N' hB'; (clear hB'); (try k_sweep)) | ((with_reducible show wpAny _ _ (binaryOp Operator.BitOr (Value.int _ _) (Value.int _ _)) _ _ _); refine or_iir 7 1 (by omega) (by omega) (by decide) ?_) | ((with_reducible show wpAny _ _ (binaryOp Operator.BitOr (Value.int _ _) (Value.int _ _)) _ _ _); refine or_ii 7 1 (by omega) (by omega) (by decide) ?_) | ((with_reducible show wpAny _ _ (binaryOp Operator.BitAnd (Value.int _ _) (Value.int _ _)) _ _ _); refine and_ii (c := 16) 4 (by omega) (by decide) (by decide) ?_) | ((with_reducible show wpAny _ _ (binaryOp Operator.BitAnd (Value.int _ _) (Value.int _ _)) _ _ _); refine and_ii (c := 128) 7 (by omega) (by decide) (by decide) ?_) | ((with_reducible show wpAny _ _ (binaryOp Operator.RShift (Value.int _ _) (Value.int _ _)) _ _ _); refine shr_ii (c := 16) (by decide) (by decide) (by decide) ?_) | ((with_reducible show wpAny _ _ (binaryOp Operator.RShift (Value.int _ _) (Value.int _ _)) _ _ _); refine shr_ii (c := 128) (by decide) (by decide) (by decide) ?_)))) | ((with_reducible show WhlIf _ _ _); refine whlIf_cases (fun hB => ?_) (fun hB => ?_) <;> simp only [decide_eq_true_eq, decide_eq_false_iff_not] at hB <;> first | (exfalso; omega) | skip) | walk1 | (leave1; (try dsimp only)) | dsimp only | fail "no step"))
  try dsimp only
  refine wpC_execs_consA ?_
  (repeat' (first | (k_unfold; (try dsimp only)) | (k_end; wrow_close) | ((with_reducible show wpAny _ _ _ _ _ _); first | (with_reducible (first | ((with_reducible show wpAny _ _ (getMethod (Value.ref _) _ _) _ _ _); k_dflt (refine' ba_method ?N ?m ?_; (case N => k_asm); (case m => k_mem))) | ((with_reducible show wpAny _ _ (call (Value.type _) [Value.ref _]) _ _ _); k_dflt (refine' call_bytes_ba ?o ?z ?_; (case o => exact News.get (by k_asm) (by k_mem)); (case z => (rw [sizeLine_eq]; simp)))) | ((with_reducible show wpAny _ _ (binaryOp Operator.BitOr (Value.int _ _) (Value.int _ _)) _ _ _); refine or4 (by omega) (by omega) (by omega) ?_) | ((with_reducible show wpAny _ _ (binaryOp Operator.LShift (Value.int _ _) (Value.int _ _)) _ _ _); refine shl4 (by omega) (by omega) ?_) | ((with_reducible show wpAny _ _ (call (Value.type _) [Value.bytes _ _]) _ _ _); refine call_bytes_bytes ?_) | ((with_reducible show wpAny _ _ (call (Value.type _) [Value.ref _]) _ _ _); k_dflt (refine' bytes_K ?F ?N ?l ?i ?r ?z ?h ?_; (case F => k_asm); (case N => k_asm); (case l => is_list); (case i => first | l_ints | l_intsW); (case r => first | by_in | ((simp only [Int.reduceToNat, List.getD_cons_zero, List.getD_cons_succ]); by_in)); (case z => first | size_fits | (rw [sizeLine_eq]; simp)); (case h => with_unfolding_all rfl); k_whole); intro h' t' k' F' N' hB'; (clear hB'); (try k_sweep)) | ((with_reducible show wpAny _ _ (binaryOp Operator.BitOr (Value.int _ _) (Value.int _ _)) _ _ _); refine or_iir 7 1 (by omega) (by omega) (by decide) ?_) | ((with_reducible show wpAny _ _ (binaryOp Operator.BitOr (Value.int _ _) (Value.int _ _)) _ _ _); refine or_ii 7 1 (by omega) (by omega) (by decide) ?_) | ((with_reducible show wpAny _ _ (binaryOp Operator.BitAnd (Value.int _ _) (Value.int _ _)) _ _ _); refine and_ii (c := 16) 4 (by omega) (by decide) (by decide) ?_) | ((with_reducible show wpAny _ _ (binaryOp Operator.BitAnd (Value.int _ _) (Value.int _ _)) _ _ _); refine and_ii (c := 128) 7 (by omega) (by decide) (by decide) ?_) | ((with_reducible show wpAny _ _ (binaryOp Operator.RShift (Value.int _ _) (Value.int _ _)) _ _ _); refine shr_ii (c := 16) (by decide) (by decide) (by decide) ?_) | ((with_reducible show wpAny _ _ (binaryOp Operator.RShift (Value.int _ _) (Value.int _ _)) _ _ _); refine shr_ii (c := 128) (by decide) (by decide) (by decide) ?_)))) | ((with_reducible show WhlIf _ _ _); refine whlIf_cases (fun hB => ?_) (fun hB => ?_) <;> simp only [decide_eq_true_eq, decide_eq_false_iff_not] at hB <;> first | (exfalso; omega) | skip) | walk1 | (leave1; (try dsimp only)) | dsimp only | fail "no step"))
  try dsimp only
  refine wpC_execs_cons (wpC_Assign (wpC_Call ?_))
  (repeat' (first | (k_unfold; (try dsimp only)) | (k_end; wrow_close) | ((with_reducible show wpAny _ _ _ _ _ _); first | (with_reducible (first | ((with_reducible show wpAny _ _ (getMethod (Value.ref _) _ _) _ _ _); k_dflt (refine' ba_method ?N ?m ?_; (case N => k_asm); (case m => k_mem))) | ((with_reducible show wpAny _ _ (call (Value.type _) [Value.ref _]) _ _ _); k_dflt (refine' call_bytes_ba ?o ?z ?_; (case o => exact News.get (by k_asm) (by k_mem)); (case z => (rw [sizeLine_eq]; simp)))) | ((with_reducible show wpAny _ _ (binaryOp Operator.BitOr (Value.int _ _) (Value.int _ _)) _ _ _); refine or4 (by omega) (by omega) (by omega) ?_) | ((with_reducible show wpAny _ _ (binaryOp Operator.LShift (Value.int _ _) (Value.int _ _)) _ _ _); refine shl4 (by omega) (by omega) ?_) | ((with_reducible show wpAny _ _ (call (Value.type _) [Value.bytes _ _]) _ _ _); refine call_bytes_bytes ?_) | ((with_reducible show wpAny _ _ (call (Value.type _) [Value.ref _]) _ _ _); k_dflt (refine' bytes_K ?F ?N ?l ?i ?r ?z ?h ?_; (case F => k_asm); (case N => k_asm); (case l => is_list); (case i => first | l_ints | l_intsW); (case r => first | by_in | ((simp only [Int.reduceToNat, List.getD_cons_zero, List.getD_cons_succ]); by_in)); (case z => first | size_fits | (rw [sizeLine_eq]; simp)); (case h => with_unfolding_all rfl); k_whole); intro h' t' k' F' N' hB'; (clear hB'); (try k_sweep)) | ((with_reducible show wpAny _ _ (binaryOp Operator.BitOr (Value.int _ _) (Value.int _ _)) _ _ _); refine or_iir 7 1 (by omega) (by omega) (by decide) ?_) | ((with_reducible show wpAny _ _ (binaryOp Operator.BitOr (Value.int _ _) (Value.int _ _)) _ _ _); refine or_ii 7 1 (by omega) (by omega) (by decide) ?_) | ((with_reducible show wpAny _ _ (binaryOp Operator.BitAnd (Value.int _ _) (Value.int _ _)) _ _ _); refine and_ii (c := 16) 4 (by omega) (by decide) (by decide) ?_) | ((with_reducible show wpAny _ _ (binaryOp Operator.BitAnd (Value.int _ _) (Value.int _ _)) _ _ _); refine and_ii (c := 128) 7 (by omega) (by decide) (by decide) ?_) | ((with_reducible show wpAny _ _ (binaryOp Operator.RShift (Value.int _ _) (Value.int _ _)) _ _ _); refine shr_ii (c := 16) (by decide) (by decide) (by decide) ?_) | ((with_reducible show wpAny _ _ (binaryOp Operator.RShift (Value.int _ _) (Value.int _ _)) _ _ _); refine shr_ii (c := 128) (by decide) (by decide) (by decide) ?_)))) | ((with_reducible show WhlIf _ _ _); refine whlIf_cases (fun hB => ?_) (fun hB => ?_) <;> simp only [decide_eq_true_eq, decide_eq_false_iff_not] at hB <;> first | (exfalso; omega) | skip) | walk1 | (leave1; (try dsimp only)) | dsimp only | fail "no step"))
  refine wpC_callWith_M0 (by intro a; exact Value.noConfusion) ?_
  k_dflt (refine' wpC_baF ?F ?N ?_; (case F => k_asm); (case N => k_asm))
  intro l2 h2 F2 N2 l2'
  k_sweep
  (repeat' (first | (k_unfold; (try dsimp only)) | (k_end; wrow_close) | ((with_reducible show wpAny _ _ _ _ _ _); first | (with_reducible (first | ((with_reducible show wpAny _ _ (getMethod (Value.ref _) _ _) _ _ _); k_dflt (refine' ba_method ?N ?m ?_; (case N => k_asm); (case m => k_mem))) | ((with_reducible show wpAny _ _ (call (Value.type _) [Value.ref _]) _ _ _); k_dflt (refine' call_bytes_ba ?o ?z ?_; (case o => exact News.get (by k_asm) (by k_mem)); (case z => (rw [sizeLine_eq]; simp)))) | ((with_reducible show wpAny _ _ (binaryOp Operator.BitOr (Value.int _ _) (Value.int _ _)) _ _ _); refine or4 (by omega) (by omega) (by omega) ?_) | ((with_reducible show wpAny _ _ (binaryOp Operator.LShift (Value.int _ _) (Value.int _ _)) _ _ _); refine shl4 (by omega) (by omega) ?_) | ((with_reducible show wpAny _ _ (call (Value.type _) [Value.bytes _ _]) _ _ _); refine call_bytes_bytes ?_) | ((with_reducible show wpAny _ _ (call (Value.type _) [Value.ref _]) _ _ _); k_dflt (refine' bytes_K ?F ?N ?l ?i ?r ?z ?h ?_; (case F => k_asm); (case N => k_asm); (case l => is_list); (case i => first | l_ints | l_intsW); (case r => first | by_in | ((simp only [Int.reduceToNat, List.getD_cons_zero, List.getD_cons_succ]); by_in)); (case z => first | size_fits | (rw [sizeLine_eq]; simp)); (case h => with_unfolding_all rfl); k_whole); intro h' t' k' F' N' hB'; (clear hB'); (try k_sweep)) | ((with_reducible show wpAny _ _ (binaryOp Operator.BitOr (Value.int _ _) (Value.int _ _)) _ _ _); refine or_iir 7 1 (by omega) (by omega) (by decide) ?_) | ((with_reducible show wpAny _ _ (binaryOp Operator.BitOr (Value.int _ _) (Value.int _ _)) _ _ _); refine or_ii 7 1 (by omega) (by omega) (by decide) ?_) | ((with_reducible show wpAny _ _ (binaryOp Operator.BitAnd (Value.int _ _) (Value.int _ _)) _ _ _); refine and_ii (c := 16) 4 (by omega) (by decide) (by decide) ?_) | ((with_reducible show wpAny _ _ (binaryOp Operator.BitAnd (Value.int _ _) (Value.int _ _)) _ _ _); refine and_ii (c := 128) 7 (by omega) (by decide) (by decide) ?_) | ((with_reducible show wpAny _ _ (binaryOp Operator.RShift (Value.int _ _) (Value.int _ _)) _ _ _); refine shr_ii (c := 16) (by decide) (by decide) (by decide) ?_) | ((with_reducible show wpAny _ _ (binaryOp Operator.RShift (Value.int _ _) (Value.int _ _)) _ _ _); refine shr_ii (c := 128) (by decide) (by decide) (by decide) ?_)))) | ((with_reducible show WhlIf _ _ _); refine whlIf_cases (fun hB => ?_) (fun hB => ?_) <;> simp only [decide_eq_true_eq, decide_eq_false_iff_not] at hB <;> first | (exfalso; omega) | skip) | walk1 | (leave1; (try dsimp only)) | dsimp only | fail "no step"))
  try dsimp only
  refine wpC_execs_cons (whlC_start (whlC_turn (by passes_own) ?_))
  (repeat' (first | (k_unfold; (try dsimp only)) | (k_end; wrow_close) | ((with_reducible show wpAny _ _ _ _ _ _); first | (with_reducible (first | ((with_reducible show wpAny _ _ (getMethod (Value.ref _) _ _) _ _ _); k_dflt (refine' ba_method ?N ?m ?_; (case N => k_asm); (case m => k_mem))) | ((with_reducible show wpAny _ _ (call (Value.type _) [Value.ref _]) _ _ _); k_dflt (refine' call_bytes_ba ?o ?z ?_; (case o => exact News.get (by k_asm) (by k_mem)); (case z => (rw [sizeLine_eq]; simp)))) | ((with_reducible show wpAny _ _ (binaryOp Operator.BitOr (Value.int _ _) (Value.int _ _)) _ _ _); refine or4 (by omega) (by omega) (by omega) ?_) | ((with_reducible show wpAny _ _ (binaryOp Operator.LShift (Value.int _ _) (Value.int _ _)) _ _ _); refine shl4 (by omega) (by omega) ?_) | ((with_reducible show wpAny _ _ (call (Value.type _) [Value.bytes _ _]) _ _ _); refine call_bytes_bytes ?_) | ((with_reducible show wpAny _ _ (call (Value.type _) [Value.ref _]) _ _ _); k_dflt (refine' bytes_K ?F ?N ?l ?i ?r ?z ?h ?_; (case F => k_asm); (case N => k_asm); (case l => is_list); (case i => first | l_ints | l_intsW); (case r => first | by_in | ((simp only [Int.reduceToNat, List.getD_cons_zero, List.getD_cons_succ]); by_in)); (case z => first | size_fits | (rw [sizeLine_eq]; simp)); (case h => with_unfolding_all rfl); k_whole); intro h' t' k' F' N' hB'; (clear hB'); (try k_sweep)) | ((with_reducible show wpAny _ _ (binaryOp Operator.BitOr (Value.int _ _) (Value.int _ _)) _ _ _); refine or_iir 7 1 (by omega) (by omega) (by decide) ?_) | ((with_reducible show wpAny _ _ (binaryOp Operator.BitOr (Value.int _ _) (Value.int _ _)) _ _ _); refine or_ii 7 1 (by omega) (by omega) (by decide) ?_) | ((with_reducible show wpAny _ _ (binaryOp Operator.BitAnd (Value.int _ _) (Value.int _ _)) _ _ _); refine and_ii (c := 16) 4 (by omega) (by decide) (by decide) ?_) | ((with_reducible show wpAny _ _ (binaryOp Operator.BitAnd (Value.int _ _) (Value.int _ _)) _ _ _); refine and_ii (c := 128) 7 (by omega) (by decide) (by decide) ?_) | ((with_reducible show wpAny _ _ (binaryOp Operator.RShift (Value.int _ _) (Value.int _ _)) _ _ _); refine shr_ii (c := 16) (by decide) (by decide) (by decide) ?_) | ((with_reducible show wpAny _ _ (binaryOp Operator.RShift (Value.int _ _) (Value.int _ _)) _ _ _); refine shr_ii (c := 128) (by decide) (by decide) (by decide) ?_)))) | ((with_reducible show WhlIf _ _ _); refine whlIf_cases (fun hB => ?_) (fun hB => ?_) <;> simp only [decide_eq_true_eq, decide_eq_false_iff_not] at hB <;> first | (exfalso; omega) | skip) | walk1 | (leave1; (try dsimp only)) | dsimp only | fail "no step"))
  · refine wpC_execs_cons (wpC_ExprS (wpC_methodCall ?_))
    (repeat' (first | (k_unfold; (try dsimp only)) | (k_end; wrow_close) | ((with_reducible show wpAny _ _ _ _ _ _); first | (with_reducible (first | ((with_reducible show wpAny _ _ (getMethod (Value.ref _) _ _) _ _ _); k_dflt (refine' ba_method ?N ?m ?_; (case N => k_asm); (case m => k_mem))) | ((with_reducible show wpAny _ _ (call (Value.type _) [Value.ref _]) _ _ _); k_dflt (refine' call_bytes_ba ?o ?z ?_; (case o => exact News.get (by k_asm) (by k_mem)); (case z => (rw [sizeLine_eq]; simp)))) | ((with_reducible show wpAny _ _ (binaryOp Operator.BitOr (Value.int _ _) (Value.int _ _)) _ _ _); refine or4 (by omega) (by omega) (by omega) ?_) | ((with_reducible show wpAny _ _ (binaryOp Operator.LShift (Value.int _ _) (Value.int _ _)) _ _ _); refine shl4 (by omega) (by omega) ?_) | ((with_reducible show wpAny _ _ (call (Value.type _) [Value.bytes _ _]) _ _ _); refine call_bytes_bytes ?_) | ((with_reducible show wpAny _ _ (call (Value.type _) [Value.ref _]) _ _ _); k_dflt (refine' bytes_K ?F ?N ?l ?i ?r ?z ?h ?_; (case F => k_asm); (case N => k_asm); (case l => is_list); (case i => first | l_ints | l_intsW); (case r => first | by_in | ((simp only [Int.reduceToNat, List.getD_cons_zero, List.getD_cons_succ]); by_in)); (case z => first | size_fits | (rw [sizeLine_eq]; simp)); (case h => with_unfolding_all rfl); k_whole); intro h' t' k' F' N' hB'; (clear hB'); (try k_sweep)) | ((with_reducible show wpAny _ _ (binaryOp Operator.BitOr (Value.int _ _) (Value.int _ _)) _ _ _); refine or_iir 7 1 (by omega) (by omega) (by decide) ?_) | ((with_reducible show wpAny _ _ (binaryOp Operator.BitOr (Value.int _ _) (Value.int _ _)) _ _ _); refine or_ii 7 1 (by omega) (by omega) (by decide) ?_) | ((with_reducible show wpAny _ _ (binaryOp Operator.BitAnd (Value.int _ _) (Value.int _ _)) _ _ _); refine and_ii (c := 16) 4 (by omega) (by decide) (by decide) ?_) | ((with_reducible show wpAny _ _ (binaryOp Operator.BitAnd (Value.int _ _) (Value.int _ _)) _ _ _); refine and_ii (c := 128) 7 (by omega) (by decide) (by decide) ?_) | ((with_reducible show wpAny _ _ (binaryOp Operator.RShift (Value.int _ _) (Value.int _ _)) _ _ _); refine shr_ii (c := 16) (by decide) (by decide) (by decide) ?_) | ((with_reducible show wpAny _ _ (binaryOp Operator.RShift (Value.int _ _) (Value.int _ _)) _ _ _); refine shr_ii (c := 128) (by decide) (by decide) (by decide) ?_)))) | ((with_reducible show WhlIf _ _ _); refine whlIf_cases (fun hB => ?_) (fun hB => ?_) <;> simp only [decide_eq_true_eq, decide_eq_false_iff_not] at hB <;> first | (exfalso; omega) | skip) | walk1 | (leave1; (try dsimp only)) | dsimp only | fail "no step"))
    refine wpC_callWith_M (by intro a; exact Value.noConfusion) ?_
    (repeat' (first | (k_unfold; (try dsimp only)) | (k_end; wrow_close) | ((with_reducible show wpAny _ _ _ _ _ _); first | (with_reducible (first | ((with_reducible show wpAny _ _ (getMethod (Value.ref _) _ _) _ _ _); k_dflt (refine' ba_method ?N ?m ?_; (case N => k_asm); (case m => k_mem))) | ((with_reducible show wpAny _ _ (call (Value.type _) [Value.ref _]) _ _ _); k_dflt (refine' call_bytes_ba ?o ?z ?_; (case o => exact News.get (by k_asm) (by k_mem)); (case z => (rw [sizeLine_eq]; simp)))) | ((with_reducible show wpAny _ _ (binaryOp Operator.BitOr (Value.int _ _) (Value.int _ _)) _ _ _); refine or4 (by omega) (by omega) (by omega) ?_) | ((with_reducible show wpAny _ _ (binaryOp Operator.LShift (Value.int _ _) (Value.int _ _)) _ _ _); refine shl4 (by omega) (by omega) ?_) | ((with_reducible show wpAny _ _ (call (Value.type _) [Value.bytes _ _]) _ _ _); refine call_bytes_bytes ?_) | ((with_reducible show wpAny _ _ (call (Value.type _) [Value.ref _]) _ _ _); k_dflt (refine' bytes_K ?F ?N ?l ?i ?r ?z ?h ?_; (case F => k_asm); (case N => k_asm); (case l => is_list); (case i => first | l_ints | l_intsW); (case r => first | by_in | ((simp only [Int.reduceToNat, List.getD_cons_zero, List.getD_cons_succ]); by_in)); (case z => first | size_fits | (rw [sizeLine_eq]; simp)); (case h => with_unfolding_all rfl); k_whole); intro h' t' k' F' N' hB'; (clear hB'); (try k_sweep)) | ((with_reducible show wpAny _ _ (binaryOp Operator.BitOr (Value.int _ _) (Value.int _ _)) _ _ _); refine or_iir 7 1 (by omega) (by omega) (by decide) ?_) | ((with_reducible show wpAny _ _ (binaryOp Operator.BitOr (Value.int _ _) (Value.int _ _)) _ _ _); refine or_ii 7 1 (by omega) (by omega) (by decide) ?_) | ((with_reducible show wpAny _ _ (binaryOp Operator.BitAnd (Value.int _ _) (Value.int _ _)) _ _ _); refine and_ii (c := 16) 4 (by omega) (by decide) (by decide) ?_) | ((with_reducible show wpAny _ _ (binaryOp Operator.BitAnd (Value.int _ _) (Value.int _ _)) _ _ _); refine and_ii (c := 128) 7 (by omega) (by decide) (by decide) ?_) | ((with_reducible show wpAny _ _ (binaryOp Operator.RShift (Value.int _ _) (Value.int _ _)) _ _ _); refine shr_ii (c := 16) (by decide) (by decide) (by decide) ?_) | ((with_reducible show wpAny _ _ (binaryOp Operator.RShift (Value.int _ _) (Value.int _ _)) _ _ _); refine shr_ii (c := 128) (by decide) (by decide) (by decide) ?_)))) | ((with_reducible show WhlIf _ _ _); refine whlIf_cases (fun hB => ?_) (fun hB => ?_) <;> simp only [decide_eq_true_eq, decide_eq_false_iff_not] at hB <;> first | (exfalso; omega) | skip) | walk1 | (leave1; (try dsimp only)) | dsimp only | fail "no step"))
    try any_goals (with_reducible exact True.intro)
    k_dflt (refine' wpC_appendF ?F ?N ?n ?a ?b ?z ?_; (case F => k_asm); (case N => k_asm); (case n => exact List.forall_mem_nil _); (case a => omega); (case b => omega); (case z => (rw [sizeLine_eq]; simp)))
    intro h3 F3 N3
    k_sweep
    try dsimp only
    refine wpC_execs_consA ?_
    (repeat' (first | (k_unfold; (try dsimp only)) | (k_end; wrow_close) | ((with_reducible show wpAny _ _ _ _ _ _); first | (with_reducible (first | ((with_reducible show wpAny _ _ (getMethod (Value.ref _) _ _) _ _ _); k_dflt (refine' ba_method ?N ?m ?_; (case N => k_asm); (case m => k_mem))) | ((with_reducible show wpAny _ _ (call (Value.type _) [Value.ref _]) _ _ _); k_dflt (refine' call_bytes_ba ?o ?z ?_; (case o => exact News.get (by k_asm) (by k_mem)); (case z => (rw [sizeLine_eq]; simp)))) | ((with_reducible show wpAny _ _ (binaryOp Operator.BitOr (Value.int _ _) (Value.int _ _)) _ _ _); refine or4 (by omega) (by omega) (by omega) ?_) | ((with_reducible show wpAny _ _ (binaryOp Operator.LShift (Value.int _ _) (Value.int _ _)) _ _ _); refine shl4 (by omega) (by omega) ?_) | ((with_reducible show wpAny _ _ (call (Value.type _) [Value.bytes _ _]) _ _ _); refine call_bytes_bytes ?_) | ((with_reducible show wpAny _ _ (call (Value.type _) [Value.ref _]) _ _ _); k_dflt (refine' bytes_K ?F ?N ?l ?i ?r ?z ?h ?_; (case F => k_asm); (case N => k_asm); (case l => is_list); (case i => first | l_ints | l_intsW); (case r => first | by_in | ((simp only [Int.reduceToNat, List.getD_cons_zero, List.getD_cons_succ]); by_in)); (case z => first | size_fits | (rw [sizeLine_eq]; simp)); (case h => with_unfolding_all rfl); k_whole); intro h' t' k' F' N' hB'; (clear hB'); (try k_sweep)) | ((with_reducible show wpAny _ _ (binaryOp Operator.BitOr (Value.int _ _) (Value.int _ _)) _ _ _); refine or_iir 7 1 (by omega) (by omega) (by decide) ?_) | ((with_reducible show wpAny _ _ (binaryOp Operator.BitOr (Value.int _ _) (Value.int _ _)) _ _ _); refine or_ii 7 1 (by omega) (by omega) (by decide) ?_) | ((with_reducible show wpAny _ _ (binaryOp Operator.BitAnd (Value.int _ _) (Value.int _ _)) _ _ _); refine and_ii (c := 16) 4 (by omega) (by decide) (by decide) ?_) | ((with_reducible show wpAny _ _ (binaryOp Operator.BitAnd (Value.int _ _) (Value.int _ _)) _ _ _); refine and_ii (c := 128) 7 (by omega) (by decide) (by decide) ?_) | ((with_reducible show wpAny _ _ (binaryOp Operator.RShift (Value.int _ _) (Value.int _ _)) _ _ _); refine shr_ii (c := 16) (by decide) (by decide) (by decide) ?_) | ((with_reducible show wpAny _ _ (binaryOp Operator.RShift (Value.int _ _) (Value.int _ _)) _ _ _); refine shr_ii (c := 128) (by decide) (by decide) (by decide) ?_)))) | ((with_reducible show WhlIf _ _ _); refine whlIf_cases (fun hB => ?_) (fun hB => ?_) <;> simp only [decide_eq_true_eq, decide_eq_false_iff_not] at hB <;> first | (exfalso; omega) | skip) | walk1 | (leave1; (try dsimp only)) | dsimp only | fail "no step"))
    try dsimp only
    refine wpC_execs_consA ?_
    (repeat' (first | (k_unfold; (try dsimp only)) | (k_end; wrow_close) | ((with_reducible show wpAny _ _ _ _ _ _); first | (with_reducible (first | ((with_reducible show wpAny _ _ (getMethod (Value.ref _) _ _) _ _ _); k_dflt (refine' ba_method ?N ?m ?_; (case N => k_asm); (case m => k_mem))) | ((with_reducible show wpAny _ _ (call (Value.type _) [Value.ref _]) _ _ _); k_dflt (refine' call_bytes_ba ?o ?z ?_; (case o => exact News.get (by k_asm) (by k_mem)); (case z => (rw [sizeLine_eq]; simp)))) | ((with_reducible show wpAny _ _ (binaryOp Operator.BitOr (Value.int _ _) (Value.int _ _)) _ _ _); refine or4 (by omega) (by omega) (by omega) ?_) | ((with_reducible show wpAny _ _ (binaryOp Operator.LShift (Value.int _ _) (Value.int _ _)) _ _ _); refine shl4 (by omega) (by omega) ?_) | ((with_reducible show wpAny _ _ (call (Value.type _) [Value.bytes _ _]) _ _ _); refine call_bytes_bytes ?_) | ((with_reducible show wpAny _ _ (call (Value.type _) [Value.ref _]) _ _ _); k_dflt (refine' bytes_K ?F ?N ?l ?i ?r ?z ?h ?_; (case F => k_asm); (case N => k_asm); (case l => is_list); (case i => first | l_ints | l_intsW); (case r => first | by_in | ((simp only [Int.reduceToNat, List.getD_cons_zero, List.getD_cons_succ]); by_in)); (case z => first | size_fits | (rw [sizeLine_eq]; simp)); (case h => with_unfolding_all rfl); k_whole); intro h' t' k' F' N' hB'; (clear hB'); (try k_sweep)) | ((with_reducible show wpAny _ _ (binaryOp Operator.BitOr (Value.int _ _) (Value.int _ _)) _ _ _); refine or_iir 7 1 (by omega) (by omega) (by decide) ?_) | ((with_reducible show wpAny _ _ (binaryOp Operator.BitOr (Value.int _ _) (Value.int _ _)) _ _ _); refine or_ii 7 1 (by omega) (by omega) (by decide) ?_) | ((with_reducible show wpAny _ _ (binaryOp Operator.BitAnd (Value.int _ _) (Value.int _ _)) _ _ _); refine and_ii (c := 16) 4 (by omega) (by decide) (by decide) ?_) | ((with_reducible show wpAny _ _ (binaryOp Operator.BitAnd (Value.int _ _) (Value.int _ _)) _ _ _); refine and_ii (c := 128) 7 (by omega) (by decide) (by decide) ?_) | ((with_reducible show wpAny _ _ (binaryOp Operator.RShift (Value.int _ _) (Value.int _ _)) _ _ _); refine shr_ii (c := 16) (by decide) (by decide) (by decide) ?_) | ((with_reducible show wpAny _ _ (binaryOp Operator.RShift (Value.int _ _) (Value.int _ _)) _ _ _); refine shr_ii (c := 128) (by decide) (by decide) (by decide) ?_)))) | ((with_reducible show WhlIf _ _ _); refine whlIf_cases (fun hB => ?_) (fun hB => ?_) <;> simp only [decide_eq_true_eq, decide_eq_false_iff_not] at hB <;> first | (exfalso; omega) | skip) | walk1 | (leave1; (try dsimp only)) | dsimp only | fail "no step"))
    try dsimp only
    refine wpC_execs_nil ?_
    dsimp only [WhlPostC]
    refine whlC_turn (by passes_own) ?_
    (repeat' (first | (k_unfold; (try dsimp only)) | (k_end; wrow_close) | ((with_reducible show wpAny _ _ _ _ _ _); first | (with_reducible (first | ((with_reducible show wpAny _ _ (getMethod (Value.ref _) _ _) _ _ _); k_dflt (refine' ba_method ?N ?m ?_; (case N => k_asm); (case m => k_mem))) | ((with_reducible show wpAny _ _ (call (Value.type _) [Value.ref _]) _ _ _); k_dflt (refine' call_bytes_ba ?o ?z ?_; (case o => exact News.get (by k_asm) (by k_mem)); (case z => (rw [sizeLine_eq]; simp)))) | ((with_reducible show wpAny _ _ (binaryOp Operator.BitOr (Value.int _ _) (Value.int _ _)) _ _ _); refine or4 (by omega) (by omega) (by omega) ?_) | ((with_reducible show wpAny _ _ (binaryOp Operator.LShift (Value.int _ _) (Value.int _ _)) _ _ _); refine shl4 (by omega) (by omega) ?_) | ((with_reducible show wpAny _ _ (call (Value.type _) [Value.bytes _ _]) _ _ _); refine call_bytes_bytes ?_) | ((with_reducible show wpAny _ _ (call (Value.type _) [Value.ref _]) _ _ _); k_dflt (refine' bytes_K ?F ?N ?l ?i ?r ?z ?h ?_; (case F => k_asm); (case N => k_asm); (case l => is_list); (case i => first | l_ints | l_intsW); (case r => first | by_in | ((simp only [Int.reduceToNat, List.getD_cons_zero, List.getD_cons_succ]); by_in)); (case z => first | size_fits | (rw [sizeLine_eq]; simp)); (case h => with_unfolding_all rfl); k_whole); intro h' t' k' F' N' hB'; (clear hB'); (try k_sweep)) | ((with_reducible show wpAny _ _ (binaryOp Operator.BitOr (Value.int _ _) (Value.int _ _)) _ _ _); refine or_iir 7 1 (by omega) (by omega) (by decide) ?_) | ((with_reducible show wpAny _ _ (binaryOp Operator.BitOr (Value.int _ _) (Value.int _ _)) _ _ _); refine or_ii 7 1 (by omega) (by omega) (by decide) ?_) | ((with_reducible show wpAny _ _ (binaryOp Operator.BitAnd (Value.int _ _) (Value.int _ _)) _ _ _); refine and_ii (c := 16) 4 (by omega) (by decide) (by decide) ?_) | ((with_reducible show wpAny _ _ (binaryOp Operator.BitAnd (Value.int _ _) (Value.int _ _)) _ _ _); refine and_ii (c := 128) 7 (by omega) (by decide) (by decide) ?_) | ((with_reducible show wpAny _ _ (binaryOp Operator.RShift (Value.int _ _) (Value.int _ _)) _ _ _); refine shr_ii (c := 16) (by decide) (by decide) (by decide) ?_) | ((with_reducible show wpAny _ _ (binaryOp Operator.RShift (Value.int _ _) (Value.int _ _)) _ _ _); refine shr_ii (c := 128) (by decide) (by decide) (by decide) ?_)))) | ((with_reducible show WhlIf _ _ _); refine whlIf_cases (fun hB => ?_) (fun hB => ?_) <;> simp only [decide_eq_true_eq, decide_eq_false_iff_not] at hB <;> first | (exfalso; omega) | skip) | walk1 | (leave1; (try dsimp only)) | dsimp only | fail "no step"))
    refine wpC_execs_nil ?_
    try dsimp only
    refine wpC_execs_cons (wpC_ExprS (wpC_methodCall ?_))
    (repeat' (first | (k_unfold; (try dsimp only)) | (k_end; wrow_close) | ((with_reducible show wpAny _ _ _ _ _ _); first | (with_reducible (first | ((with_reducible show wpAny _ _ (getMethod (Value.ref _) _ _) _ _ _); k_dflt (refine' ba_method ?N ?m ?_; (case N => k_asm); (case m => k_mem))) | ((with_reducible show wpAny _ _ (call (Value.type _) [Value.ref _]) _ _ _); k_dflt (refine' call_bytes_ba ?o ?z ?_; (case o => exact News.get (by k_asm) (by k_mem)); (case z => (rw [sizeLine_eq]; simp)))) | ((with_reducible show wpAny _ _ (binaryOp Operator.BitOr (Value.int _ _) (Value.int _ _)) _ _ _); refine or4 (by omega) (by omega) (by omega) ?_) | ((with_reducible show wpAny _ _ (binaryOp Operator.LShift (Value.int _ _) (Value.int _ _)) _ _ _); refine shl4 (by omega) (by omega) ?_) | ((with_reducible show wpAny _ _ (call (Value.type _) [Value.bytes _ _]) _ _ _); refine call_bytes_bytes ?_) | ((with_reducible show wpAny _ _ (call (Value.type _) [Value.ref _]) _ _ _); k_dflt (refine' bytes_K ?F ?N ?l ?i ?r ?z ?h ?_; (case F => k_asm); (case N => k_asm); (case l => is_list); (case i => first | l_ints | l_intsW); (case r => first | by_in | ((simp only [Int.reduceToNat, List.getD_cons_zero, List.getD_cons_succ]); by_in)); (case z => first | size_fits | (rw [sizeLine_eq]; simp)); (case h => with_unfolding_all rfl); k_whole); intro h' t' k' F' N' hB'; (clear hB'); (try k_sweep)) | ((with_reducible show wpAny _ _ (binaryOp Operator.BitOr (Value.int _ _) (Value.int _ _)) _ _ _); refine or_iir 7 1 (by omega) (by omega) (by decide) ?_) | ((with_reducible show wpAny _ _ (binaryOp Operator.BitOr (Value.int _ _) (Value.int _ _)) _ _ _); refine or_ii 7 1 (by omega) (by omega) (by decide) ?_) | ((with_reducible show wpAny _ _ (binaryOp Operator.BitAnd (Value.int _ _) (Value.int _ _)) _ _ _); refine and_ii (c := 16) 4 (by omega) (by decide) (by decide) ?_) | ((with_reducible show wpAny _ _ (binaryOp Operator.BitAnd (Value.int _ _) (Value.int _ _)) _ _ _); refine and_ii (c := 128) 7 (by omega) (by decide) (by decide) ?_) | ((with_reducible show wpAny _ _ (binaryOp Operator.RShift (Value.int _ _) (Value.int _ _)) _ _ _); refine shr_ii (c := 16) (by decide) (by decide) (by decide) ?_) | ((with_reducible show wpAny _ _ (binaryOp Operator.RShift (Value.int _ _) (Value.int _ _)) _ _ _); refine shr_ii (c := 128) (by decide) (by decide) (by decide) ?_)))) | ((with_reducible show WhlIf _ _ _); refine whlIf_cases (fun hB => ?_) (fun hB => ?_) <;> simp only [decide_eq_true_eq, decide_eq_false_iff_not] at hB <;> first | (exfalso; omega) | skip) | walk1 | (leave1; (try dsimp only)) | dsimp only | fail "no step"))
    refine wpC_callWith_M (by intro a; exact Value.noConfusion) ?_
    (repeat' (first | (k_unfold; (try dsimp only)) | (k_end; wrow_close) | ((with_reducible show wpAny _ _ _ _ _ _); first | (with_reducible (first | ((with_reducible show wpAny _ _ (getMethod (Value.ref _) _ _) _ _ _); k_dflt (refine' ba_method ?N ?m ?_; (case N => k_asm); (case m => k_mem))) | ((with_reducible show wpAny _ _ (call (Value.type _) [Value.ref _]) _ _ _); k_dflt (refine' call_bytes_ba ?o ?z ?_; (case o => exact News.get (by k_asm) (by k_mem)); (case z => (rw [sizeLine_eq]; simp)))) | ((with_reducible show wpAny _ _ (binaryOp Operator.BitOr (Value.int _ _) (Value.int _ _)) _ _ _); refine or4 (by omega) (by omega) (by omega) ?_) | ((with_reducible show wpAny _ _ (binaryOp Operator.LShift (Value.int _ _) (Value.int _ _)) _ _ _); refine shl4 (by omega) (by omega) ?_) | ((with_reducible show wpAny _ _ (call (Value.type _) [Value.bytes _ _]) _ _ _); refine call_bytes_bytes ?_) | ((with_reducible show wpAny _ _ (call (Value.type _) [Value.ref _]) _ _ _); k_dflt (refine' bytes_K ?F ?N ?l ?i ?r ?z ?h ?_; (case F => k_asm); (case N => k_asm); (case l => is_list); (case i => first | l_ints | l_intsW); (case r => first | by_in | ((simp only [Int.reduceToNat, List.getD_cons_zero, List.getD_cons_succ]); by_in)); (case z => first | size_fits | (rw [sizeLine_eq]; simp)); (case h => with_unfolding_all rfl); k_whole); intro h' t' k' F' N' hB'; (clear hB'); (try k_sweep)) | ((with_reducible show wpAny _ _ (binaryOp Operator.BitOr (Value.int _ _) (Value.int _ _)) _ _ _); refine or_iir 7 1 (by omega) (by omega) (by decide) ?_) | ((with_reducible show wpAny _ _ (binaryOp Operator.BitOr (Value.int _ _) (Value.int _ _)) _ _ _); refine or_ii 7 1 (by omega) (by omega) (by decide) ?_) | ((with_reducible show wpAny _ _ (binaryOp Operator.BitAnd (Value.int _ _) (Value.int _ _)) _ _ _); refine and_ii (c := 16) 4 (by omega) (by decide) (by decide) ?_) | ((with_reducible show wpAny _ _ (binaryOp Operator.BitAnd (Value.int _ _) (Value.int _ _)) _ _ _); refine and_ii (c := 128) 7 (by omega) (by decide) (by decide) ?_) | ((with_reducible show wpAny _ _ (binaryOp Operator.RShift (Value.int _ _) (Value.int _ _)) _ _ _); refine shr_ii (c := 16) (by decide) (by decide) (by decide) ?_) | ((with_reducible show wpAny _ _ (binaryOp Operator.RShift (Value.int _ _) (Value.int _ _)) _ _ _); refine shr_ii (c := 128) (by decide) (by decide) (by decide) ?_)))) | ((with_reducible show WhlIf _ _ _); refine whlIf_cases (fun hB => ?_) (fun hB => ?_) <;> simp only [decide_eq_true_eq, decide_eq_false_iff_not] at hB <;> first | (exfalso; omega) | skip) | walk1 | (leave1; (try dsimp only)) | dsimp only | fail "no step"))
    try any_goals (with_reducible exact True.intro)
    k_dflt (refine' wpC_appendF ?F ?N ?n ?a ?b ?z ?_; (case F => k_asm); (case N => k_asm); (case n => exact List.forall_mem_nil _); (case a => omega); (case b => omega); (case z => (rw [sizeLine_eq]; simp)))
    intro h5 F5 N5
    k_sweep
    try dsimp only
    refine wpC_execs_consA ?_
    (repeat' (first | (k_unfold; (try dsimp only)) | (k_end; wrow_close) | ((with_reducible show wpAny _ _ _ _ _ _); first | (with_reducible (first | ((with_reducible show wpAny _ _ (getMethod (Value.ref _) _ _) _ _ _); k_dflt (refine' ba_method ?N ?m ?_; (case N => k_asm); (case m => k_mem))) | ((with_reducible show wpAny _ _ (call (Value.type _) [Value.ref _]) _ _ _); k_dflt (refine' call_bytes_ba ?o ?z ?_; (case o => exact News.get (by k_asm) (by k_mem)); (case z => (rw [sizeLine_eq]; simp)))) | ((with_reducible show wpAny _ _ (binaryOp Operator.BitOr (Value.int _ _) (Value.int _ _)) _ _ _); refine or4 (by omega) (by omega) (by omega) ?_) | ((with_reducible show wpAny _ _ (binaryOp Operator.LShift (Value.int _ _) (Value.int _ _)) _ _ _); refine shl4 (by omega) (by omega) ?_) | ((with_reducible show wpAny _ _ (call (Value.type _) [Value.bytes _ _]) _ _ _); refine call_bytes_bytes ?_) | ((with_reducible show wpAny _ _ (call (Value.type _) [Value.ref _]) _ _ _); k_dflt (refine' bytes_K ?F ?N ?l ?i ?r ?z ?h ?_; (case F => k_asm); (case N => k_asm); (case l => is_list); (case i => first | l_ints | l_intsW); (case r => first | by_in | ((simp only [Int.reduceToNat, List.getD_cons_zero, List.getD_cons_succ]); by_in)); (case z => first | size_fits | (rw [sizeLine_eq]; simp)); (case h => with_unfolding_all rfl); k_whole); intro h' t' k' F' N' hB'; (clear hB'); (try k_sweep)) | ((with_reducible show wpAny _ _ (binaryOp Operator.BitOr (Value.int _ _) (Value.int _ _)) _ _ _); refine or_iir 7 1 (by omega) (by omega) (by decide) ?_) | ((with_reducible show wpAny _ _ (binaryOp Operator.BitOr (Value.int _ _) (Value.int _ _)) _ _ _); refine or_ii 7 1 (by omega) (by omega) (by decide) ?_) | ((with_reducible show wpAny _ _ (binaryOp Operator.BitAnd (Value.int _ _) (Value.int _ _)) _ _ _); refine and_ii (c := 16) 4 (by omega) (by decide) (by decide) ?_) | ((with_reducible show wpAny _ _ (binaryOp Operator.BitAnd (Value.int _ _) (Value.int _ _)) _ _ _); refine and_ii (c := 128) 7 (by omega) (by decide) (by decide) ?_) | ((with_reducible show wpAny _ _ (binaryOp Operator.RShift (Value.int _ _) (Value.int _ _)) _ _ _); refine shr_ii (c := 16) (by decide) (by decide) (by decide) ?_) | ((with_reducible show wpAny _ _ (binaryOp Operator.RShift (Value.int _ _) (Value.int _ _)) _ _ _); refine shr_ii (c := 128) (by decide) (by decide) (by decide) ?_)))) | ((with_reducible show WhlIf _ _ _); refine whlIf_cases (fun hB => ?_) (fun hB => ?_) <;> simp only [decide_eq_true_eq, decide_eq_false_iff_not] at hB <;> first | (exfalso; omega) | skip) | walk1 | (leave1; (try dsimp only)) | dsimp only | fail "no step"))
    refine' hret _ _ _ ?x1 ⟨_, _, rfl, ?_, ?_⟩
    case x1 => walk_at "MINE_AGREE"
    · exact eh_two (by assumption) rfl (by omega)
    · simp
  · refine wpC_execs_nil ?_
    try dsimp only
    refine wpC_execs_cons (wpC_ExprS (wpC_methodCall ?_))
    (repeat' (first | (k_unfold; (try dsimp only)) | (k_end; wrow_close) | ((with_reducible show wpAny _ _ _ _ _ _); first | (with_reducible (first | ((with_reducible show wpAny _ _ (getMethod (Value.ref _) _ _) _ _ _); k_dflt (refine' ba_method ?N ?m ?_; (case N => k_asm); (case m => k_mem))) | ((with_reducible show wpAny _ _ (call (Value.type _) [Value.ref _]) _ _ _); k_dflt (refine' call_bytes_ba ?o ?z ?_; (case o => exact News.get (by k_asm) (by k_mem)); (case z => (rw [sizeLine_eq]; simp)))) | ((with_reducible show wpAny _ _ (binaryOp Operator.BitOr (Value.int _ _) (Value.int _ _)) _ _ _); refine or4 (by omega) (by omega) (by omega) ?_) | ((with_reducible show wpAny _ _ (binaryOp Operator.LShift (Value.int _ _) (Value.int _ _)) _ _ _); refine shl4 (by omega) (by omega) ?_) | ((with_reducible show wpAny _ _ (call (Value.type _) [Value.bytes _ _]) _ _ _); refine call_bytes_bytes ?_) | ((with_reducible show wpAny _ _ (call (Value.type _) [Value.ref _]) _ _ _); k_dflt (refine' bytes_K ?F ?N ?l ?i ?r ?z ?h ?_; (case F => k_asm); (case N => k_asm); (case l => is_list); (case i => first | l_ints | l_intsW); (case r => first | by_in | ((simp only [Int.reduceToNat, List.getD_cons_zero, List.getD_cons_succ]); by_in)); (case z => first | size_fits | (rw [sizeLine_eq]; simp)); (case h => with_unfolding_all rfl); k_whole); intro h' t' k' F' N' hB'; (clear hB'); (try k_sweep)) | ((with_reducible show wpAny _ _ (binaryOp Operator.BitOr (Value.int _ _) (Value.int _ _)) _ _ _); refine or_iir 7 1 (by omega) (by omega) (by decide) ?_) | ((with_reducible show wpAny _ _ (binaryOp Operator.BitOr (Value.int _ _) (Value.int _ _)) _ _ _); refine or_ii 7 1 (by omega) (by omega) (by decide) ?_) | ((with_reducible show wpAny _ _ (binaryOp Operator.BitAnd (Value.int _ _) (Value.int _ _)) _ _ _); refine and_ii (c := 16) 4 (by omega) (by decide) (by decide) ?_) | ((with_reducible show wpAny _ _ (binaryOp Operator.BitAnd (Value.int _ _) (Value.int _ _)) _ _ _); refine and_ii (c := 128) 7 (by omega) (by decide) (by decide) ?_) | ((with_reducible show wpAny _ _ (binaryOp Operator.RShift (Value.int _ _) (Value.int _ _)) _ _ _); refine shr_ii (c := 16) (by decide) (by decide) (by decide) ?_) | ((with_reducible show wpAny _ _ (binaryOp Operator.RShift (Value.int _ _) (Value.int _ _)) _ _ _); refine shr_ii (c := 128) (by decide) (by decide) (by decide) ?_)))) | ((with_reducible show WhlIf _ _ _); refine whlIf_cases (fun hB => ?_) (fun hB => ?_) <;> simp only [decide_eq_true_eq, decide_eq_false_iff_not] at hB <;> first | (exfalso; omega) | skip) | walk1 | (leave1; (try dsimp only)) | dsimp only | fail "no step"))
    refine wpC_callWith_M (by intro a; exact Value.noConfusion) ?_
    (repeat' (first | (k_unfold; (try dsimp only)) | (k_end; wrow_close) | ((with_reducible show wpAny _ _ _ _ _ _); first | (with_reducible (first | ((with_reducible show wpAny _ _ (getMethod (Value.ref _) _ _) _ _ _); k_dflt (refine' ba_method ?N ?m ?_; (case N => k_asm); (case m => k_mem))) | ((with_reducible show wpAny _ _ (call (Value.type _) [Value.ref _]) _ _ _); k_dflt (refine' call_bytes_ba ?o ?z ?_; (case o => exact News.get (by k_asm) (by k_mem)); (case z => (rw [sizeLine_eq]; simp)))) | ((with_reducible show wpAny _ _ (binaryOp Operator.BitOr (Value.int _ _) (Value.int _ _)) _ _ _); refine or4 (by omega) (by omega) (by omega) ?_) | ((with_reducible show wpAny _ _ (binaryOp Operator.LShift (Value.int _ _) (Value.int _ _)) _ _ _); refine shl4 (by omega) (by omega) ?_) | ((with_reducible show wpAny _ _ (call (Value.type _) [Value.bytes _ _]) _ _ _); refine call_bytes_bytes ?_) | ((with_reducible show wpAny _ _ (call (Value.type _) [Value.ref _]) _ _ _); k_dflt (refine' bytes_K ?F ?N ?l ?i ?r ?z ?h ?_; (case F => k_asm); (case N => k_asm); (case l => is_list); (case i => first | l_ints | l_intsW); (case r => first | by_in | ((simp only [Int.reduceToNat, List.getD_cons_zero, List.getD_cons_succ]); by_in)); (case z => first | size_fits | (rw [sizeLine_eq]; simp)); (case h => with_unfolding_all rfl); k_whole); intro h' t' k' F' N' hB'; (clear hB'); (try k_sweep)) | ((with_reducible show wpAny _ _ (binaryOp Operator.BitOr (Value.int _ _) (Value.int _ _)) _ _ _); refine or_iir 7 1 (by omega) (by omega) (by decide) ?_) | ((with_reducible show wpAny _ _ (binaryOp Operator.BitOr (Value.int _ _) (Value.int _ _)) _ _ _); refine or_ii 7 1 (by omega) (by omega) (by decide) ?_) | ((with_reducible show wpAny _ _ (binaryOp Operator.BitAnd (Value.int _ _) (Value.int _ _)) _ _ _); refine and_ii (c := 16) 4 (by omega) (by decide) (by decide) ?_) | ((with_reducible show wpAny _ _ (binaryOp Operator.BitAnd (Value.int _ _) (Value.int _ _)) _ _ _); refine and_ii (c := 128) 7 (by omega) (by decide) (by decide) ?_) | ((with_reducible show wpAny _ _ (binaryOp Operator.RShift (Value.int _ _) (Value.int _ _)) _ _ _); refine shr_ii (c := 16) (by decide) (by decide) (by decide) ?_) | ((with_reducible show wpAny _ _ (binaryOp Operator.RShift (Value.int _ _) (Value.int _ _)) _ _ _); refine shr_ii (c := 128) (by decide) (by decide) (by decide) ?_)))) | ((with_reducible show WhlIf _ _ _); refine whlIf_cases (fun hB => ?_) (fun hB => ?_) <;> simp only [decide_eq_true_eq, decide_eq_false_iff_not] at hB <;> first | (exfalso; omega) | skip) | walk1 | (leave1; (try dsimp only)) | dsimp only | fail "no step"))
    try any_goals (with_reducible exact True.intro)
    k_dflt (refine' wpC_appendF ?F ?N ?n ?a ?b ?z ?_; (case F => k_asm); (case N => k_asm); (case n => exact List.forall_mem_nil _); (case a => omega); (case b => omega); (case z => (rw [sizeLine_eq]; simp)))
    intro h5 F5 N5
    k_sweep
    try dsimp only
    refine wpC_execs_consA ?_
    (repeat' (first | (k_unfold; (try dsimp only)) | (k_end; wrow_close) | ((with_reducible show wpAny _ _ _ _ _ _); first | (with_reducible (first | ((with_reducible show wpAny _ _ (getMethod (Value.ref _) _ _) _ _ _); k_dflt (refine' ba_method ?N ?m ?_; (case N => k_asm); (case m => k_mem))) | ((with_reducible show wpAny _ _ (call (Value.type _) [Value.ref _]) _ _ _); k_dflt (refine' call_bytes_ba ?o ?z ?_; (case o => exact News.get (by k_asm) (by k_mem)); (case z => (rw [sizeLine_eq]; simp)))) | ((with_reducible show wpAny _ _ (binaryOp Operator.BitOr (Value.int _ _) (Value.int _ _)) _ _ _); refine or4 (by omega) (by omega) (by omega) ?_) | ((with_reducible show wpAny _ _ (binaryOp Operator.LShift (Value.int _ _) (Value.int _ _)) _ _ _); refine shl4 (by omega) (by omega) ?_) | ((with_reducible show wpAny _ _ (call (Value.type _) [Value.bytes _ _]) _ _ _); refine call_bytes_bytes ?_) | ((with_reducible show wpAny _ _ (call (Value.type _) [Value.ref _]) _ _ _); k_dflt (refine' bytes_K ?F ?N ?l ?i ?r ?z ?h ?_; (case F => k_asm); (case N => k_asm); (case l => is_list); (case i => first | l_ints | l_intsW); (case r => first | by_in | ((simp only [Int.reduceToNat, List.getD_cons_zero, List.getD_cons_succ]); by_in)); (case z => first | size_fits | (rw [sizeLine_eq]; simp)); (case h => with_unfolding_all rfl); k_whole); intro h' t' k' F' N' hB'; (clear hB'); (try k_sweep)) | ((with_reducible show wpAny _ _ (binaryOp Operator.BitOr (Value.int _ _) (Value.int _ _)) _ _ _); refine or_iir 7 1 (by omega) (by omega) (by decide) ?_) | ((with_reducible show wpAny _ _ (binaryOp Operator.BitOr (Value.int _ _) (Value.int _ _)) _ _ _); refine or_ii 7 1 (by omega) (by omega) (by decide) ?_) | ((with_reducible show wpAny _ _ (binaryOp Operator.BitAnd (Value.int _ _) (Value.int _ _)) _ _ _); refine and_ii (c := 16) 4 (by omega) (by decide) (by decide) ?_) | ((with_reducible show wpAny _ _ (binaryOp Operator.BitAnd (Value.int _ _) (Value.int _ _)) _ _ _); refine and_ii (c := 128) 7 (by omega) (by decide) (by decide) ?_) | ((with_reducible show wpAny _ _ (binaryOp Operator.RShift (Value.int _ _) (Value.int _ _)) _ _ _); refine shr_ii (c := 16) (by decide) (by decide) (by decide) ?_) | ((with_reducible show wpAny _ _ (binaryOp Operator.RShift (Value.int _ _) (Value.int _ _)) _ _ _); refine shr_ii (c := 128) (by decide) (by decide) (by decide) ?_)))) | ((with_reducible show WhlIf _ _ _); refine whlIf_cases (fun hB => ?_) (fun hB => ?_) <;> simp only [decide_eq_true_eq, decide_eq_false_iff_not] at hB <;> first | (exfalso; omega) | skip) | walk1 | (leave1; (try dsimp only)) | dsimp only | fail "no step"))
    refine' hret _ _ _ ?x1 ⟨_, _, rfl, ?_, ?_⟩
    case x1 => walk_at "MINE_AGREE"
    · exact eh_one (by assumption) rfl
    · simp


end
theorem walk_reset13 : True ∧ True := by first | (walk1 <;> trivial) | exact ⟨trivial, trivial⟩
section
open PySem PySem.W PySem.Calls PyProof.Rows
set_option Elab.async false
set_option maxRecDepth 100000
theorem kinds_pl (w : World) : Pl w 110 (dO4 w.params) sorts := by
  refine ⟨[([99, 111, 109, 109, 105, 116], .int 1 324), ([116, 114, 101, 101], .int 2 326), ([98, 108, 111, 98], .int 3 328), ([116, 97, 103], .int 4 330)], ⟨by decide, _, _, ⟨rfl, rfl, rfl⟩, rfl, fun e he => ?_, ?_, by decide⟩, rfl, ⟨_, rfl⟩, rfl, ⟨_, rfl⟩, rfl, ⟨_, rfl⟩, rfl, ⟨_, rfl⟩, trivial⟩
  · simp only [List.mem_toArray, List.mem_cons, List.not_mem_nil, or_false] at he
    rcases he with rfl | rfl | rfl | rfl
    · exact ⟨[99, 111, 109, 109, 105, 116], bk_is #[99, 111, 109, 109, 105, 116] 323, by kernel_rfl⟩
    · exact ⟨[116, 114, 101, 101], bk_is #[116, 114, 101, 101] 325, by kernel_rfl⟩
    · exact ⟨[98, 108, 111, 98], bk_is #[98, 108, 111, 98] 327, by kernel_rfl⟩
    · exact ⟨[116, 97, 103], bk_is #[116, 97, 103] 329, by kernel_rfl⟩
  · exact .cons (bk_is #[99, 111, 109, 109, 105, 116] 323) rfl (.cons (bk_is #[116, 114, 101, 101] 325) rfl (.cons (bk_is #[98, 108, 111, 98] 327) rfl (.cons (bk_is #[116, 97, 103] 329) rfl .nil)))
section
variable {w : World} {A : Around} {E : Value → Shared → Prop} {s : Shared} {h₀ : Heap} {L d : Addr} {m : Str → Option Value} {news : List (Addr × Obj)} {o : Obj} {pl : List (List UInt8 × Int)} {b : Array UInt8} {t : Tok}
/-- get of KIND_NUMBERS -/
theorem kinds_get {Q : Value → Shared → Prop} (X : (KF w.params).In s.heap) (h1 : ∀ n t' k', plAt sorts b.toList = some n → Q (.int n t') { s with toks := k' }) (h2 : ∀ k', plAt sorts b.toList = none → Q .none { s with toks := k' }) :
    wpAny (model PR w) A (call (.builtin "dict.get") [.ref 110, .bytes b t]) Q E s := by
  obtain ⟨kvs, D, I⟩ := kinds_pl w
  have hd : s.heap.DictOf (bytesKind PR w) 110 kvs := Heap.dictOf_iff.mpr ⟨_, X 110 _ rfl, D.2⟩
  refine call_meetsIn PySem.F.slot_dict_get hd.typeIs PySem.F.entry_dict_get (PySem.F.args_dict_get_2 _ _) (meets_dict_get (bytesKind PR w) 110 (bk_is b t) D.1) ⟨_, hd.mapOf, ?_⟩
  rcases I.find (k := b.toList) with ⟨n', t', e1, e2⟩ | ⟨e1, e2⟩ <;> rw [e2]
  · exact h1 _ _ _ e1
  · exact h2 _ e1
theorem pl_method {pl' : Sem Bool} {Q : Value × List Value → Shared → Prop} (N : News h₀ L s.heap news) (hm : (d, o) ∈ news) (D : Pl w d o pl) (h : Q (.builtin "dict.get", [.ref d]) s) : wpAny (model PR w) A (getMethod (.ref d) "get" pl') Q E s := by
  obtain ⟨kvs, D, I⟩ := D
  have hd := D.at N hm
  exact getMethod_builtin hd.typeIs PySem.F.plainAttrs_dict PySem.F.slot_dict_get PySem.F.type_dict_get hd.mapOf.noDict h
theorem kinds_method {pl' : Sem Bool} {Q : Value × List Value → Shared → Prop} (X : (KF w.params).In s.heap) (h : Q (.builtin "dict.get", [.ref 110]) s) : wpAny (model PR w) A (getMethod (.ref 110) "get" pl') Q E s := by
  obtain ⟨kvs, D, I⟩ := kinds_pl w
  have hd : s.heap.DictOf (bytesKind PR w) 110 kvs := Heap.dictOf_iff.mpr ⟨_, X 110 _ rfl, D.2⟩
  exact getMethod_builtin hd.typeIs PySem.F.plainAttrs_dict PySem.F.slot_dict_get PySem.F.type_dict_get hd.mapOf.noDict h
end


end
theorem walk_reset14 : True ∧ True := by first | (walk1 <;> trivial) | exact ⟨trivial, trivial⟩
section
open PySem PySem.W PySem.Calls PyProof.Rows
set_option Elab.async false
set_option maxRecDepth 100000
noncomputable abbrev buObj (w : World) (u1 u2 u3 u4 u5 u6 : Tok) (x C0 PcB PlB : Addr) (bp : Bool) (len : Int) (tl : Tok) (n : Nat) : Obj :=
  dictOf [⟨PyData.keyHash w.params (Str.ofString "hasher"), .str (Str.ofString "hasher") u1, .ref x⟩, ⟨PyData.keyHash w.params (Str.ofString "codec"), .str (Str.ofString "codec") u2, .ref C0⟩, ⟨PyData.keyHash w.params (Str.ofString "by_offset"), .str (Str.ofString "by_offset") u3, .bool bp⟩,
    ⟨PyData.keyHash w.params (Str.ofString "pieces"), .str (Str.ofString "pieces") u4, .ref PcB⟩, ⟨PyData.keyHash w.params (Str.ofString "length"), .str (Str.ofString "length") u5, .int len tl⟩, ⟨PyData.keyHash w.params (Str.ofString "places"), .str (Str.ofString "places") u6, .ref PlB⟩] n
noncomputable abbrev edObj (w : World) (v1 v2 v3 v4 v5 : Tok) (vo vk vc vb vd : Value) (n : Nat) : Obj :=
  dictOf [⟨PyData.keyHash w.params (Str.ofString "oid"), .str (Str.ofString "oid") v1, vo⟩, ⟨PyData.keyHash w.params (Str.ofString "kind"), .str (Str.ofString "kind") v2, vk⟩, ⟨PyData.keyHash w.params (Str.ofString "content"), .str (Str.ofString "content") v3, vc⟩,
    ⟨PyData.keyHash w.params (Str.ofString "base"), .str (Str.ofString "base") v4, vb⟩, ⟨PyData.keyHash w.params (Str.ofString "delta"), .str (Str.ofString "delta") v5, vd⟩] n
noncomputable def PieceOk (x : Option (Array UInt8)) (as : List (Addr × Obj)) (v : Value) (h' : Heap) : Prop := (∃ b t, x = some b ∧ v = .bytes b t ∧ b.size ≤ 400) ∧ ∀ q ∈ as, h'.get? q.1 = some q.2
theorem piece_ok {as news : List (Addr × Obj)} {h₀ h' : Heap} {L : Addr} {b : Array UInt8} {t : Tok} {x : Option (Array UInt8)} (N : News h₀ L h' news) (hs : ∀ q ∈ as, q ∈ news) (e : x = some b) (hz : b.size ≤ 400) : PieceOk x as (.bytes b t) h' :=
  ⟨⟨b, t, e, rfl, hz⟩, fun q hq => (N q (hs q hq)).1⟩
local macro_rules | `(tactic| walk_at "MINE_SUB") => `(tactic| (intro q hq; exact hq))
set_option maxHeartbeats 1000000 in
theorem c_piece_of2 (w : World) (b bd e ed C0 cd PlB x PcB : Addr) (u1 u2 u3 u4 u5 u6 v1 v2 v3 v4 v5 : Tok) (n1 n2 : Nat) (opl : Obj) (bp : Bool) (pl : List (List UInt8 × Int)) (len : Int) (tl to tk tc : Tok) (ob kb cb : Array UInt8) (h3 : cb.size ≤ 301) :
    SpX w 168 [.ref b, .ref e] [(b, instObj 185 bd), (bd, buObj w u1 u2 u3 u4 u5 u6 x C0 PcB PlB bp len tl n1), (e, instObj 142 ed), (ed, edObj w v1 v2 v3 v4 v5 (.bytes ob to) (.bytes kb tk) (.bytes cb tc) .none .none n2), (C0, instObj 221 cd), (cd, emptyDict), (PlB, opl)] 6 60 (pieceOf bp pl len ⟨ob, kb, some cb, none, none⟩ = none)
    (fun _ v h' => PieceOk (pieceOf bp pl len ⟨ob, kb, some cb, none, none⟩) [(b, instObj 185 bd), (bd, buObj w u1 u2 u3 u4 u5 u6 x C0 PcB PlB bp len tl n1), (e, instObj 142 ed), (ed, edObj w v1 v2 v3 v4 v5 (.bytes ob to) (.bytes kb tk) (.bytes cb tc) .none .none n2), (C0, instObj 221 cd), (cd, emptyDict), (PlB, opl)] v h') := by
  have hfill : Fill PySem.Challenge.rw_pb0104_01 KF := by k_fill; trivial
  unfold SpX
  intro p loose mean mg mb dp un gd cn cs a ccd cl outer A₀ base h₀ L m s Q E B F X N T hk hd hu hret hbad
  (refine wpC_call ?_; k_dflt (refine' enterW ?k1 ?k2 ?k3 ?k4 ?k5 ?kA ?kF ?kK ?k6 ?k7 ?k8 ?k9 ?kB ?_ ?c2 ?c3 ?c4 ?c5; (case kA => exact rfl); (case kF => exact rfl); (case kK => assumption); (case k1 => k_asm); (case k2 => k_asm); (case k3 => k_asm); (case k4 => k_asm); (case k5 => k_asm); (case k6 => k_is); (case k7 => k_is); (case k8 => ktr_room); (case k9 => first | exact BindsTo.of_eq rfl | exact binds_K (by k_in) rfl (by k_is) rfl rfl rfl); (case c5 => decide); (case kB => exact locs rfl); (case c2 => exact rfl); (case c3 => exact rfl); (case c4 => exact rfl); k_whole; intro g' L' h' tk' hG' FG' F' N' B' X' T' l1'; (try k_lt l1'); (try dsimp only); (show (let qk9 : Flow → Shared → Prop := _; let ek9 : Value → Shared → Prop := _; wpC _ _ _ qk9 ek9 _)); intro qk9 ek9))
  refine wpC_execs_cons (wpC_If (wpC_any ?_))
  (repeat' (first | (k_unfold; (try dsimp only)) | (k_end; wrow_close) | ((with_reducible show wpAny _ _ _ _ _ _); first | (with_reducible (first | ((with_reducible show wpAny _ _ (call (Value.ref 210) [Value.ref _, Value.bytes _ _]) _ _ _); k_dflt (refine' useB (c_pack _ _ _ _ ?a) ?k1 ?k2 ?k3 ?k4 ?k5 ?kK ?kd ?ku ?_; (walk_at "MINE_USE0"); (case a => omega)); intro tk9 h' tk' F' N' hz9; (try k_sweep)) | ((with_reducible show wpAny _ _ (call (Value.builtin _) [Value.ref 110, Value.bytes _ _]) _ _ _); k_dflt (refine' kinds_get ?X ?ga ?gb; (case X => exact Frag.In.keeps (by k_asm) (Fr.keep (by k_asm)))); (case' ga => intro n8 t8 k8 hn8); (case' gb => intro k8 hn8)) | ((with_reducible show wpAny _ _ (getMethod (Value.ref 110) _ _) _ _ _); k_dflt (refine' kinds_method ?X ?_; (case X => exact Frag.In.keeps (by k_asm) (Fr.keep (by k_asm))))) | ((with_reducible show wpAny _ _ (exec (PySem.Stmt.Raise (some _) none _) _) _ _ _); refine bad_raise rfl ?_) | ((with_reducible show wpAny _ _ (call (Value.ref 52) [Value.str _ _]) _ _ _); k_dflt (refine' make_bad ?k1 ?k2 ?k3 ?k5 ?kK ?kd ?ku ?_; (case k1 => k_asm); (case k2 => k_asm); (case k3 => k_asm); (case k5 => k_asm); (case kK => first | exact rfl | assumption); (case kd => ktr_room); (case ku => ktr_units)); intro h8 k8 e8 hB8) | ((with_reducible show wpAny _ _ (call (Value.builtin "len") [Value.ref _]) _ _ _); k_dflt (refine' len_seq ?N ?m ?z ?_; (case N => k_asm); (case m => k_mem); (case z => omega)); intro _ _) | ((with_reducible show wpAny _ _ (call (Value.builtin "len") [Value.ref _]) _ _ _); k_dflt (refine' pl_len ?N ?m ?D ?z ?_; (case N => k_asm); (case m => k_mem); (case D => assumption); (case z => omega)); intro _ _) | ((with_reducible show wpAny _ _ (call (Value.builtin "len") [Value.bytes _ _]) _ _ _); (refine len_bytes (by (try simp only [Array.size_append]); omega) ?_)) | ((with_reducible show wpAny _ _ (binaryOp Operator.Add (Value.bytes _ _) (Value.bytes _ _)) _ _ _); refine KBy.add_bytes (by first | omega | (simp only [Array.size_append]; omega) | ((try simp only [Array.size_append, List.size_toArray, List.length_map, List.length_cons, List.length_nil, byteArr_size, List.length_append, Array.length_toList]); omega)) ?_; intro _ _)))) | ((with_reducible show WhlIf _ _ _); refine whlIf_cases (fun hB => ?_) (fun hB => ?_) <;> simp only [decide_eq_true_eq, decide_eq_false_iff_not] at hB <;> first | (exfalso; omega) | skip) | walk1 | (leave1; (try dsimp only)) | dsimp only | fail "no step"))
  refine wpC_execs_consA ?_
  (repeat' (first | (k_unfold; (try dsimp only)) | (k_end; wrow_close) | ((with_reducible show wpAny _ _ _ _ _ _); first | (with_reducible (first | ((with_reducible show wpAny _ _ (call (Value.ref 210) [Value.ref _, Value.bytes _ _]) _ _ _); k_dflt (refine' useB (c_pack _ _ _ _ ?a) ?k1 ?k2 ?k3 ?k4 ?k5 ?kK ?kd ?ku ?_; (walk_at "MINE_USE0"); (case a => omega)); intro tk9 h' tk' F' N' hz9; (try k_sweep)) | ((with_reducible show wpAny _ _ (call (Value.builtin _) [Value.ref 110, Value.bytes _ _]) _ _ _); k_dflt (refine' kinds_get ?X ?ga ?gb; (case X => exact Frag.In.keeps (by k_asm) (Fr.keep (by k_asm)))); (case' ga => intro n8 t8 k8 hn8); (case' gb => intro k8 hn8)) | ((with_reducible show wpAny _ _ (getMethod (Value.ref 110) _ _) _ _ _); k_dflt (refine' kinds_method ?X ?_; (case X => exact Frag.In.keeps (by k_asm) (Fr.keep (by k_asm))))) | ((with_reducible show wpAny _ _ (exec (PySem.Stmt.Raise (some _) none _) _) _ _ _); refine bad_raise rfl ?_) | ((with_reducible show wpAny _ _ (call (Value.ref 52) [Value.str _ _]) _ _ _); k_dflt (refine' make_bad ?k1 ?k2 ?k3 ?k5 ?kK ?kd ?ku ?_; (case k1 => k_asm); (case k2 => k_asm); (case k3 => k_asm); (case k5 => k_asm); (case kK => first | exact rfl | assumption); (case kd => ktr_room); (case ku => ktr_units)); intro h8 k8 e8 hB8) | ((with_reducible show wpAny _ _ (call (Value.builtin "len") [Value.ref _]) _ _ _); k_dflt (refine' len_seq ?N ?m ?z ?_; (case N => k_asm); (case m => k_mem); (case z => omega)); intro _ _) | ((with_reducible show wpAny _ _ (call (Value.builtin "len") [Value.ref _]) _ _ _); k_dflt (refine' pl_len ?N ?m ?D ?z ?_; (case N => k_asm); (case m => k_mem); (case D => assumption); (case z => omega)); intro _ _) | ((with_reducible show wpAny _ _ (call (Value.builtin "len") [Value.bytes _ _]) _ _ _); (refine len_bytes (by (try simp only [Array.size_append]); omega) ?_)) | ((with_reducible show wpAny _ _ (binaryOp Operator.Add (Value.bytes _ _) (Value.bytes _ _)) _ _ _); refine KBy.add_bytes (by first | omega | (simp only [Array.size_append]; omega) | ((try simp only [Array.size_append, List.size_toArray, List.length_map, List.length_cons, List.length_nil, byteArr_size, List.length_append, Array.length_toList]); omega)) ?_; intro _ _)))) | ((with_reducible show WhlIf _ _ _); refine whlIf_cases (fun hB => ?_) (fun hB => ?_) <;> simp only [decide_eq_true_eq, decide_eq_false_iff_not] at hB <;> first | (exfalso; omega) | skip) | walk1 | (leave1; (try dsimp only)) | dsimp only | fail "no step"))
  · refine wpC_execs_cons (wpC_If (wpC_any ?_))
    (repeat' (first | (k_unfold; (try dsimp only)) | (k_end; wrow_close) | ((with_reducible show wpAny _ _ _ _ _ _); first | (with_reducible (first | ((with_reducible show wpAny _ _ (call (Value.ref 210) [Value.ref _, Value.bytes _ _]) _ _ _); k_dflt (refine' useB (c_pack _ _ _ _ ?a) ?k1 ?k2 ?k3 ?k4 ?k5 ?kK ?kd ?ku ?_; (walk_at "MINE_USE0"); (case a => omega)); intro tk9 h' tk' F' N' hz9; (try k_sweep)) | ((with_reducible show wpAny _ _ (call (Value.builtin _) [Value.ref 110, Value.bytes _ _]) _ _ _); k_dflt (refine' kinds_get ?X ?ga ?gb; (case X => exact Frag.In.keeps (by k_asm) (Fr.keep (by k_asm)))); (case' ga => intro n8 t8 k8 hn8); (case' gb => intro k8 hn8)) | ((with_reducible show wpAny _ _ (getMethod (Value.ref 110) _ _) _ _ _); k_dflt (refine' kinds_method ?X ?_; (case X => exact Frag.In.keeps (by k_asm) (Fr.keep (by k_asm))))) | ((with_reducible show wpAny _ _ (exec (PySem.Stmt.Raise (some _) none _) _) _ _ _); refine bad_raise rfl ?_) | ((with_reducible show wpAny _ _ (call (Value.ref 52) [Value.str _ _]) _ _ _); k_dflt (refine' make_bad ?k1 ?k2 ?k3 ?k5 ?kK ?kd ?ku ?_; (case k1 => k_asm); (case k2 => k_asm); (case k3 => k_asm); (case k5 => k_asm); (case kK => first | exact rfl | assumption); (case kd => ktr_room); (case ku => ktr_units)); intro h8 k8 e8 hB8) | ((with_reducible show wpAny _ _ (call (Value.builtin "len") [Value.ref _]) _ _ _); k_dflt (refine' len_seq ?N ?m ?z ?_; (case N => k_asm); (case m => k_mem); (case z => omega)); intro _ _) | ((with_reducible show wpAny _ _ (call (Value.builtin "len") [Value.ref _]) _ _ _); k_dflt (refine' pl_len ?N ?m ?D ?z ?_; (case N => k_asm); (case m => k_mem); (case D => assumption); (case z => omega)); intro _ _) | ((with_reducible show wpAny _ _ (call (Value.builtin "len") [Value.bytes _ _]) _ _ _); (refine len_bytes (by (try simp only [Array.size_append]); omega) ?_)) | ((with_reducible show wpAny _ _ (binaryOp Operator.Add (Value.bytes _ _) (Value.bytes _ _)) _ _ _); refine KBy.add_bytes (by first | omega | (simp only [Array.size_append]; omega) | ((try simp only [Array.size_append, List.size_toArray, List.length_map, List.length_cons, List.length_nil, byteArr_size, List.length_append, Array.length_toList]); omega)) ?_; intro _ _)))) | ((with_reducible show WhlIf _ _ _); refine whlIf_cases (fun hB => ?_) (fun hB => ?_) <;> simp only [decide_eq_true_eq, decide_eq_false_iff_not] at hB <;> first | (exfalso; omega) | skip) | walk1 | (leave1; (try dsimp only)) | dsimp only | fail "no step"))
    refine wpC_execs_consA ?_
    (repeat' (first | (k_unfold; (try dsimp only)) | (k_end; wrow_close) | ((with_reducible show wpAny _ _ _ _ _ _); first | (with_reducible (first | ((with_reducible show wpAny _ _ (call (Value.ref 210) [Value.ref _, Value.bytes _ _]) _ _ _); k_dflt (refine' useB (c_pack _ _ _ _ ?a) ?k1 ?k2 ?k3 ?k4 ?k5 ?kK ?kd ?ku ?_; (walk_at "MINE_USE0"); (case a => omega)); intro tk9 h' tk' F' N' hz9; (try k_sweep)) | ((with_reducible show wpAny _ _ (call (Value.builtin _) [Value.ref 110, Value.bytes _ _]) _ _ _); k_dflt (refine' kinds_get ?X ?ga ?gb; (case X => exact Frag.In.keeps (by k_asm) (Fr.keep (by k_asm)))); (case' ga => intro n8 t8 k8 hn8); (case' gb => intro k8 hn8)) | ((with_reducible show wpAny _ _ (getMethod (Value.ref 110) _ _) _ _ _); k_dflt (refine' kinds_method ?X ?_; (case X => exact Frag.In.keeps (by k_asm) (Fr.keep (by k_asm))))) | ((with_reducible show wpAny _ _ (exec (PySem.Stmt.Raise (some _) none _) _) _ _ _); refine bad_raise rfl ?_) | ((with_reducible show wpAny _ _ (call (Value.ref 52) [Value.str _ _]) _ _ _); k_dflt (refine' make_bad ?k1 ?k2 ?k3 ?k5 ?kK ?kd ?ku ?_; (case k1 => k_asm); (case k2 => k_asm); (case k3 => k_asm); (case k5 => k_asm); (case kK => first | exact rfl | assumption); (case kd => ktr_room); (case ku => ktr_units)); intro h8 k8 e8 hB8) | ((with_reducible show wpAny _ _ (call (Value.builtin "len") [Value.ref _]) _ _ _); k_dflt (refine' len_seq ?N ?m ?z ?_; (case N => k_asm); (case m => k_mem); (case z => omega)); intro _ _) | ((with_reducible show wpAny _ _ (call (Value.builtin "len") [Value.ref _]) _ _ _); k_dflt (refine' pl_len ?N ?m ?D ?z ?_; (case N => k_asm); (case m => k_mem); (case D => assumption); (case z => omega)); intro _ _) | ((with_reducible show wpAny _ _ (call (Value.builtin "len") [Value.bytes _ _]) _ _ _); (refine len_bytes (by (try simp only [Array.size_append]); omega) ?_)) | ((with_reducible show wpAny _ _ (binaryOp Operator.Add (Value.bytes _ _) (Value.bytes _ _)) _ _ _); refine KBy.add_bytes (by first | omega | (simp only [Array.size_append]; omega) | ((try simp only [Array.size_append, List.size_toArray, List.length_map, List.length_cons, List.length_nil, byteArr_size, List.length_append, Array.length_toList]); omega)) ?_; intro _ _)))) | ((with_reducible show WhlIf _ _ _); refine whlIf_cases (fun hB => ?_) (fun hB => ?_) <;> simp only [decide_eq_true_eq, decide_eq_false_iff_not] at hB <;> first | (exfalso; omega) | skip) | walk1 | (leave1; (try dsimp only)) | dsimp only | fail "no step"))
    refine' bad_here ?K1 ?F1 ?N1 ?X1 ?B1 ?S1 ?_
    case K1 => assumption
    case F1 => assumption
    case N1 => assumption
    case X1 => assumption
    case B1 => assumption
    case S1 => walk_at "MINE_SUB"
    intro h' R' U'
    refine' hbad _ _ _ _ ?w1 ?g1 ?f1 R' U'
    case g1 => assumption
    case f1 => assumption
    case w1 => exact piece_odd (by rw [Option.isSome_eq_false_iff, Option.isNone_iff_eq_none]; assumption)
  · refine wpC_execs_cons (wpC_If (wpC_any ?_))
    (repeat' (first | (k_unfold; (try dsimp only)) | (k_end; wrow_close) | ((with_reducible show wpAny _ _ _ _ _ _); first | (with_reducible (first | ((with_reducible show wpAny _ _ (call (Value.ref 210) [Value.ref _, Value.bytes _ _]) _ _ _); k_dflt (refine' useB (c_pack _ _ _ _ ?a) ?k1 ?k2 ?k3 ?k4 ?k5 ?kK ?kd ?ku ?_; (walk_at "MINE_USE0"); (case a => omega)); intro tk9 h' tk' F' N' hz9; (try k_sweep)) | ((with_reducible show wpAny _ _ (call (Value.builtin _) [Value.ref 110, Value.bytes _ _]) _ _ _); k_dflt (refine' kinds_get ?X ?ga ?gb; (case X => exact Frag.In.keeps (by k_asm) (Fr.keep (by k_asm)))); (case' ga => intro n8 t8 k8 hn8); (case' gb => intro k8 hn8)) | ((with_reducible show wpAny _ _ (getMethod (Value.ref 110) _ _) _ _ _); k_dflt (refine' kinds_method ?X ?_; (case X => exact Frag.In.keeps (by k_asm) (Fr.keep (by k_asm))))) | ((with_reducible show wpAny _ _ (exec (PySem.Stmt.Raise (some _) none _) _) _ _ _); refine bad_raise rfl ?_) | ((with_reducible show wpAny _ _ (call (Value.ref 52) [Value.str _ _]) _ _ _); k_dflt (refine' make_bad ?k1 ?k2 ?k3 ?k5 ?kK ?kd ?ku ?_; (case k1 => k_asm); (case k2 => k_asm); (case k3 => k_asm); (case k5 => k_asm); (case kK => first | exact rfl | assumption); (case kd => ktr_room); (case ku => ktr_units)); intro h8 k8 e8 hB8) | ((with_reducible show wpAny _ _ (call (Value.builtin "len") [Value.ref _]) _ _ _); k_dflt (refine' len_seq ?N ?m ?z ?_; (case N => k_asm); (case m => k_mem); (case z => omega)); intro _ _) | ((with_reducible show wpAny _ _ (call (Value.builtin "len") [Value.ref _]) _ _ _); k_dflt (refine' pl_len ?N ?m ?D ?z ?_; (case N => k_asm); (case m => k_mem); (case D => assumption); (case z => omega)); intro _ _) | ((with_reducible show wpAny _ _ (call (Value.builtin "len") [Value.bytes _ _]) _ _ _); (refine len_bytes (by (try simp only [Array.size_append]); omega) ?_)) | ((with_reducible show wpAny _ _ (binaryOp Operator.Add (Value.bytes _ _) (Value.bytes _ _)) _ _ _); refine KBy.add_bytes (by first | omega | (simp only [Array.size_append]; omega) | ((try simp only [Array.size_append, List.size_toArray, List.length_map, List.length_cons, List.length_nil, byteArr_size, List.length_append, Array.length_toList]); omega)) ?_; intro _ _)))) | ((with_reducible show WhlIf _ _ _); refine whlIf_cases (fun hB => ?_) (fun hB => ?_) <;> simp only [decide_eq_true_eq, decide_eq_false_iff_not] at hB <;> first | (exfalso; omega) | skip) | walk1 | (leave1; (try dsimp only)) | dsimp only | fail "no step"))
    refine wpC_execs_nil ?_
    try dsimp only
    refine wpC_execs_cons (wpC_Return (wpC_BinOpS (wpC_Call ?_)))
    (repeat' (first | (k_unfold; (try dsimp only)) | (k_end; wrow_close) | ((with_reducible show wpAny _ _ _ _ _ _); first | (with_reducible (first | ((with_reducible show wpAny _ _ (call (Value.ref 210) [Value.ref _, Value.bytes _ _]) _ _ _); k_dflt (refine' useB (c_pack _ _ _ _ ?a) ?k1 ?k2 ?k3 ?k4 ?k5 ?kK ?kd ?ku ?_; (walk_at "MINE_USE0"); (case a => omega)); intro tk9 h' tk' F' N' hz9; (try k_sweep)) | ((with_reducible show wpAny _ _ (call (Value.builtin _) [Value.ref 110, Value.bytes _ _]) _ _ _); k_dflt (refine' kinds_get ?X ?ga ?gb; (case X => exact Frag.In.keeps (by k_asm) (Fr.keep (by k_asm)))); (case' ga => intro n8 t8 k8 hn8); (case' gb => intro k8 hn8)) | ((with_reducible show wpAny _ _ (getMethod (Value.ref 110) _ _) _ _ _); k_dflt (refine' kinds_method ?X ?_; (case X => exact Frag.In.keeps (by k_asm) (Fr.keep (by k_asm))))) | ((with_reducible show wpAny _ _ (exec (PySem.Stmt.Raise (some _) none _) _) _ _ _); refine bad_raise rfl ?_) | ((with_reducible show wpAny _ _ (call (Value.ref 52) [Value.str _ _]) _ _ _); k_dflt (refine' make_bad ?k1 ?k2 ?k3 ?k5 ?kK ?kd ?ku ?_; (case k1 => k_asm); (case k2 => k_asm); (case k3 => k_asm); (case k5 => k_asm); (case kK => first | exact rfl | assumption); (case kd => ktr_room); (case ku => ktr_units)); intro h8 k8 e8 hB8) | ((with_reducible show wpAny _ _ (call (Value.builtin "len") [Value.ref _]) _ _ _); k_dflt (refine' len_seq ?N ?m ?z ?_; (case N => k_asm); (case m => k_mem); (case z => omega)); intro _ _) | ((with_reducible show wpAny _ _ (call (Value.builtin "len") [Value.ref _]) _ _ _); k_dflt (refine' pl_len ?N ?m ?D ?z ?_; (case N => k_asm); (case m => k_mem); (case D => assumption); (case z => omega)); intro _ _) | ((with_reducible show wpAny _ _ (call (Value.builtin "len") [Value.bytes _ _]) _ _ _); (refine len_bytes (by (try simp only [Array.size_append]); omega) ?_)) | ((with_reducible show wpAny _ _ (binaryOp Operator.Add (Value.bytes _ _) (Value.bytes _ _)) _ _ _); refine KBy.add_bytes (by first | omega | (simp only [Array.size_append]; omega) | ((try simp only [Array.size_append, List.size_toArray, List.length_map, List.length_cons, List.length_nil, byteArr_size, List.length_append, Array.length_toList]); omega)) ?_; intro _ _)))) | ((with_reducible show WhlIf _ _ _); refine whlIf_cases (fun hB => ?_) (fun hB => ?_) <;> simp only [decide_eq_true_eq, decide_eq_false_iff_not] at hB <;> first | (exfalso; omega) | skip) | walk1 | (leave1; (try dsimp only)) | dsimp only | fail "no step"))
    k_dflt (refine' wpC_callWith_K ?X3 ?hk3 ?_; (case X3 => k_asm); (case hk3 => k_is))
    (repeat' (first | (k_unfold; (try dsimp only)) | (k_end; wrow_close) | ((with_reducible show wpAny _ _ _ _ _ _); first | (with_reducible (first | ((with_reducible show wpAny _ _ (call (Value.ref 210) [Value.ref _, Value.bytes _ _]) _ _ _); k_dflt (refine' useB (c_pack _ _ _ _ ?a) ?k1 ?k2 ?k3 ?k4 ?k5 ?kK ?kd ?ku ?_; (walk_at "MINE_USE0"); (case a => omega)); intro tk9 h' tk' F' N' hz9; (try k_sweep)) | ((with_reducible show wpAny _ _ (call (Value.builtin _) [Value.ref 110, Value.bytes _ _]) _ _ _); k_dflt (refine' kinds_get ?X ?ga ?gb; (case X => exact Frag.In.keeps (by k_asm) (Fr.keep (by k_asm)))); (case' ga => intro n8 t8 k8 hn8); (case' gb => intro k8 hn8)) | ((with_reducible show wpAny _ _ (getMethod (Value.ref 110) _ _) _ _ _); k_dflt (refine' kinds_method ?X ?_; (case X => exact Frag.In.keeps (by k_asm) (Fr.keep (by k_asm))))) | ((with_reducible show wpAny _ _ (exec (PySem.Stmt.Raise (some _) none _) _) _ _ _); refine bad_raise rfl ?_) | ((with_reducible show wpAny _ _ (call (Value.ref 52) [Value.str _ _]) _ _ _); k_dflt (refine' make_bad ?k1 ?k2 ?k3 ?k5 ?kK ?kd ?ku ?_; (case k1 => k_asm); (case k2 => k_asm); (case k3 => k_asm); (case k5 => k_asm); (case kK => first | exact rfl | assumption); (case kd => ktr_room); (case ku => ktr_units)); intro h8 k8 e8 hB8) | ((with_reducible show wpAny _ _ (call (Value.builtin "len") [Value.ref _]) _ _ _); k_dflt (refine' len_seq ?N ?m ?z ?_; (case N => k_asm); (case m => k_mem); (case z => omega)); intro _ _) | ((with_reducible show wpAny _ _ (call (Value.builtin "len") [Value.ref _]) _ _ _); k_dflt (refine' pl_len ?N ?m ?D ?z ?_; (case N => k_asm); (case m => k_mem); (case D => assumption); (case z => omega)); intro _ _) | ((with_reducible show wpAny _ _ (call (Value.builtin "len") [Value.bytes _ _]) _ _ _); (refine len_bytes (by (try simp only [Array.size_append]); omega) ?_)) | ((with_reducible show wpAny _ _ (binaryOp Operator.Add (Value.bytes _ _) (Value.bytes _ _)) _ _ _); refine KBy.add_bytes (by first | omega | (simp only [Array.size_append]; omega) | ((try simp only [Array.size_append, List.size_toArray, List.length_map, List.length_cons, List.length_nil, byteArr_size, List.length_append, Array.length_toList]); omega)) ?_; intro _ _)))) | ((with_reducible show WhlIf _ _ _); refine whlIf_cases (fun hB => ?_) (fun hB => ?_) <;> simp only [decide_eq_true_eq, decide_eq_false_iff_not] at hB <;> first | (exfalso; omega) | skip) | walk1 | (leave1; (try dsimp only)) | dsimp only | fail "no step"))
    k_dflt (refine' useCB (c_entry_head _ _ _ _ _ ?a3 ?b3 ?c3 ?d3) ?p3 ?q3 ?r3 ?s3 ?t3 ?u3 ?v3 ?w3 ?_)
    case p3 => k_asm
    case q3 => k_asm
    case r3 => k_asm
    case s3 => k_asm
    case t3 => k_asm
    case u3 => first | exact rfl | assumption
    case v3 => ktr_room
    case w3 => ktr_units
    case a3 => omega
    case b3 => omega
    case c3 => exact Int.le_trans (by decide) (sorts_ok (by assumption)).1
    case d3 => exact Int.lt_of_le_of_lt (sorts_ok (by assumption)).2 (by decide)
    intro tk9 h' tk' F' N' hz9
    try k_sweep
    (repeat' (first | (k_unfold; (try dsimp only)) | (k_end; wrow_close) | ((with_reducible show wpAny _ _ _ _ _ _); first | (with_reducible (first | ((with_reducible show wpAny _ _ (call (Value.ref 210) [Value.ref _, Value.bytes _ _]) _ _ _); k_dflt (refine' useB (c_pack _ _ _ _ ?a) ?k1 ?k2 ?k3 ?k4 ?k5 ?kK ?kd ?ku ?_; (walk_at "MINE_USE0"); (case a => omega)); intro tk9 h' tk' F' N' hz9; (try k_sweep)) | ((with_reducible show wpAny _ _ (call (Value.builtin _) [Value.ref 110, Value.bytes _ _]) _ _ _); k_dflt (refine' kinds_get ?X ?ga ?gb; (case X => exact Frag.In.keeps (by k_asm) (Fr.keep (by k_asm)))); (case' ga => intro n8 t8 k8 hn8); (case' gb => intro k8 hn8)) | ((with_reducible show wpAny _ _ (getMethod (Value.ref 110) _ _) _ _ _); k_dflt (refine' kinds_method ?X ?_; (case X => exact Frag.In.keeps (by k_asm) (Fr.keep (by k_asm))))) | ((with_reducible show wpAny _ _ (exec (PySem.Stmt.Raise (some _) none _) _) _ _ _); refine bad_raise rfl ?_) | ((with_reducible show wpAny _ _ (call (Value.ref 52) [Value.str _ _]) _ _ _); k_dflt (refine' make_bad ?k1 ?k2 ?k3 ?k5 ?kK ?kd ?ku ?_; (case k1 => k_asm); (case k2 => k_asm); (case k3 => k_asm); (case k5 => k_asm); (case kK => first | exact rfl | assumption); (case kd => ktr_room); (case ku => ktr_units)); intro h8 k8 e8 hB8) | ((with_reducible show wpAny _ _ (call (Value.builtin "len") [Value.ref _]) _ _ _); k_dflt (refine' len_seq ?N ?m ?z ?_; (case N => k_asm); (case m => k_mem); (case z => omega)); intro _ _) | ((with_reducible show wpAny _ _ (call (Value.builtin "len") [Value.ref _]) _ _ _); k_dflt (refine' pl_len ?N ?m ?D ?z ?_; (case N => k_asm); (case m => k_mem); (case D => assumption); (case z => omega)); intro _ _) | ((with_reducible show wpAny _ _ (call (Value.builtin "len") [Value.bytes _ _]) _ _ _); (refine len_bytes (by (try simp only [Array.size_append]); omega) ?_)) | ((with_reducible show wpAny _ _ (binaryOp Operator.Add (Value.bytes _ _) (Value.bytes _ _)) _ _ _); refine KBy.add_bytes (by first | omega | (simp only [Array.size_append]; omega) | ((try simp only [Array.size_append, List.size_toArray, List.length_map, List.length_cons, List.length_nil, byteArr_size, List.length_append, Array.length_toList]); omega)) ?_; intro _ _)))) | ((with_reducible show WhlIf _ _ _); refine whlIf_cases (fun hB => ?_) (fun hB => ?_) <;> simp only [decide_eq_true_eq, decide_eq_false_iff_not] at hB <;> first | (exfalso; omega) | skip) | walk1 | (leave1; (try dsimp only)) | dsimp only | fail "no step"))
    refine' hret _ _ _ ?x2 (piece_ok ?N2 ?S2 ?w2 ?z2)
    case x2 => walk_at "MINE_AGREE"
    case N2 => assumption
    case S2 => walk_at "MINE_SUB"
    case w2 => exact piece_ct (by assumption)
    case z2 => (simp only [Array.size_append] at *; omega)


end
theorem walk_reset15 : True ∧ True := by first | (walk1 <;> trivial) | exact ⟨trivial, trivial⟩
section
open PySem PySem.W PySem.Calls PyProof.Rows
set_option Elab.async false
set_option maxRecDepth 100000
local macro_rules | `(tactic| walk_at "MINE_SUB") => `(tactic| (intro q hq; exact hq))
set_option maxHeartbeats 1000000 in
theorem c_piece_of3 (w : World) (b bd e ed C0 cd PlB x PcB : Addr) (u1 u2 u3 u4 u5 u6 v1 v2 v3 v4 v5 : Tok) (n1 n2 : Nat) (opl : Obj) (bp : Bool) (pl : List (List UInt8 × Int)) (len : Int) (tl to tk tb : Tok) (ob kb bb : Array UInt8) :
    SpX w 168 [.ref b, .ref e] [(b, instObj 185 bd), (bd, buObj w u1 u2 u3 u4 u5 u6 x C0 PcB PlB bp len tl n1), (e, instObj 142 ed), (ed, edObj w v1 v2 v3 v4 v5 (.bytes ob to) (.bytes kb tk) .none (.bytes bb tb) .none n2), (C0, instObj 221 cd), (cd, emptyDict), (PlB, opl)] 6 60 (pieceOf bp pl len ⟨ob, kb, none, some bb, none⟩ = none)
    (fun _ v h' => PieceOk (pieceOf bp pl len ⟨ob, kb, none, some bb, none⟩) [(b, instObj 185 bd), (bd, buObj w u1 u2 u3 u4 u5 u6 x C0 PcB PlB bp len tl n1), (e, instObj 142 ed), (ed, edObj w v1 v2 v3 v4 v5 (.bytes ob to) (.bytes kb tk) .none (.bytes bb tb) .none n2), (C0, instObj 221 cd), (cd, emptyDict), (PlB, opl)] v h') := by
  have hfill : Fill PySem.Challenge.rw_pb0104_01 KF := by k_fill; trivial
  unfold SpX
  intro p loose mean mg mb dp un gd cn cs a ccd cl outer A₀ base h₀ L m s Q E B F X N T hk hd hu hret hbad
  (refine wpC_call ?_; k_dflt (refine' enterW ?k1 ?k2 ?k3 ?k4 ?k5 ?kA ?kF ?kK ?k6 ?k7 ?k8 ?k9 ?kB ?_ ?c2 ?c3 ?c4 ?c5; (case kA => exact rfl); (case kF => exact rfl); (case kK => assumption); (case k1 => k_asm); (case k2 => k_asm); (case k3 => k_asm); (case k4 => k_asm); (case k5 => k_asm); (case k6 => k_is); (case k7 => k_is); (case k8 => ktr_room); (case k9 => first | exact BindsTo.of_eq rfl | exact binds_K (by k_in) rfl (by k_is) rfl rfl rfl); (case c5 => decide); (case kB => exact locs rfl); (case c2 => exact rfl); (case c3 => exact rfl); (case c4 => exact rfl); k_whole; intro g' L' h' tk' hG' FG' F' N' B' X' T' l1'; (try k_lt l1'); (try dsimp only); (show (let qk9 : Flow → Shared → Prop := _; let ek9 : Value → Shared → Prop := _; wpC _ _ _ qk9 ek9 _)); intro qk9 ek9))
  refine wpC_execs_cons (wpC_If (wpC_any ?_))
  (repeat' (first | (k_unfold; (try dsimp only)) | (k_end; wrow_close) | ((with_reducible show wpAny _ _ _ _ _ _); first | (with_reducible (first | ((with_reducible show wpAny _ _ (call (Value.ref 80) [Value.int _ _]) _ _ _); k_dflt (refine' useB (c_put_offset _ _ _ ?a ?b) ?k1 ?k2 ?k3 ?k4 ?k5 ?kK ?kd ?ku ?_; (walk_at "MINE_USE0"); (case a => omega); (case b => omega)); intro tk9 h' tk' F' N' hz9; (try k_sweep)) | ((with_reducible show wpAny _ _ (call (Value.ref 210) [Value.ref _, Value.bytes _ _]) _ _ _); k_dflt (refine' useB (c_pack _ _ _ _ ?a) ?k1 ?k2 ?k3 ?k4 ?k5 ?kK ?kd ?ku ?_; (walk_at "MINE_USE0"); (case a => omega)); intro tk9 h' tk' F' N' hz9; (try k_sweep)) | ((with_reducible show wpAny _ _ (call (Value.builtin _) [Value.ref 110, Value.bytes _ _]) _ _ _); k_dflt (refine' kinds_get ?X ?ga ?gb; (case X => exact Frag.In.keeps (by k_asm) (Fr.keep (by k_asm)))); (case' ga => intro n8 t8 k8 hn8); (case' gb => intro k8 hn8)) | ((with_reducible show wpAny _ _ (getMethod (Value.ref 110) _ _) _ _ _); k_dflt (refine' kinds_method ?X ?_; (case X => exact Frag.In.keeps (by k_asm) (Fr.keep (by k_asm))))) | ((with_reducible show wpAny _ _ (exec (PySem.Stmt.Raise (some _) none _) _) _ _ _); refine bad_raise rfl ?_) | ((with_reducible show wpAny _ _ (call (Value.ref 52) [Value.str _ _]) _ _ _); k_dflt (refine' make_bad ?k1 ?k2 ?k3 ?k5 ?kK ?kd ?ku ?_; (case k1 => k_asm); (case k2 => k_asm); (case k3 => k_asm); (case k5 => k_asm); (case kK => first | exact rfl | assumption); (case kd => ktr_room); (case ku => ktr_units)); intro h8 k8 e8 hB8) | ((with_reducible show wpAny _ _ (subscriptTail _ _ (Value.ref _) (Value.str _ _)) _ _ _); k_dflt (refine' di_tailS (knd := strKind PR _) ?N ?m ?D (strKind_is _ _ _ _) ?v ?_; (case N => k_asm); (case m => k_mem); (case D => assumption); (case v => exact rfl)); intro _) | ((with_reducible show wpAny _ _ (call (Value.builtin "len") [Value.ref _]) _ _ _); k_dflt (refine' len_seq ?N ?m ?z ?_; (case N => k_asm); (case m => k_mem); (case z => omega)); intro _ _) | ((with_reducible show wpAny _ _ (call (Value.builtin "len") [Value.ref _]) _ _ _); k_dflt (refine' pl_len ?N ?m ?D ?z ?_; (case N => k_asm); (case m => k_mem); (case D => assumption); (case z => omega)); intro _ _) | ((with_reducible show wpAny _ _ (subscriptTail _ _ (Value.ref _) (Value.bytes _ _)) _ _ _); k_dflt (refine' pl_tailS ?N ?m ?D ?v ?_; (case N => k_asm); (case m => k_mem); (case D => assumption); (case v => first | assumption | exact plAt_snoc_some _ _ _ | (simp_all; done))); intro n8 t8 k8 hn8; (try (have hb8 := PlOk.at (by assumption) hn8; obtain ⟨hb8a, hb8b⟩ := hb8))) | ((with_reducible show wpAny _ _ (compareOp CmpOp.In (Value.bytes _ _) (Value.ref _)) _ _ _); k_dflt (refine' pl_in ?N ?m ?D ?_; (case N => k_asm); (case m => k_mem); (case D => assumption)); intro _) | ((with_reducible show wpAny _ _ (call (Value.builtin "len") [Value.bytes _ _]) _ _ _); (refine len_bytes (by (try simp only [Array.size_append]); omega) ?_)) | ((with_reducible show wpAny _ _ (binaryOp Operator.Add (Value.bytes _ _) (Value.bytes _ _)) _ _ _); refine KBy.add_bytes (by first | omega | (simp only [Array.size_append]; omega) | ((try simp only [Array.size_append, List.size_toArray, List.length_map, List.length_cons, List.length_nil, byteArr_size, List.length_append, Array.length_toList]); omega)) ?_; intro _ _)))) | ((with_reducible show WhlIf _ _ _); refine whlIf_cases (fun hB => ?_) (fun hB => ?_) <;> simp only [decide_eq_true_eq, decide_eq_false_iff_not] at hB <;> first | (exfalso; omega) | skip) | walk1 | (leave1; (try dsimp only)) | dsimp only | fail "no step"))
  refine wpC_execs_consA ?_
  (repeat' (first | (k_unfold; (try dsimp only)) | (k_end; wrow_close) | ((with_reducible show wpAny _ _ _ _ _ _); first | (with_reducible (first | ((with_reducible show wpAny _ _ (call (Value.ref 80) [Value.int _ _]) _ _ _); k_dflt (refine' useB (c_put_offset _ _ _ ?a ?b) ?k1 ?k2 ?k3 ?k4 ?k5 ?kK ?kd ?ku ?_; (walk_at "MINE_USE0"); (case a => omega); (case b => omega)); intro tk9 h' tk' F' N' hz9; (try k_sweep)) | ((with_reducible show wpAny _ _ (call (Value.ref 210) [Value.ref _, Value.bytes _ _]) _ _ _); k_dflt (refine' useB (c_pack _ _ _ _ ?a) ?k1 ?k2 ?k3 ?k4 ?k5 ?kK ?kd ?ku ?_; (walk_at "MINE_USE0"); (case a => omega)); intro tk9 h' tk' F' N' hz9; (try k_sweep)) | ((with_reducible show wpAny _ _ (call (Value.builtin _) [Value.ref 110, Value.bytes _ _]) _ _ _); k_dflt (refine' kinds_get ?X ?ga ?gb; (case X => exact Frag.In.keeps (by k_asm) (Fr.keep (by k_asm)))); (case' ga => intro n8 t8 k8 hn8); (case' gb => intro k8 hn8)) | ((with_reducible show wpAny _ _ (getMethod (Value.ref 110) _ _) _ _ _); k_dflt (refine' kinds_method ?X ?_; (case X => exact Frag.In.keeps (by k_asm) (Fr.keep (by k_asm))))) | ((with_reducible show wpAny _ _ (exec (PySem.Stmt.Raise (some _) none _) _) _ _ _); refine bad_raise rfl ?_) | ((with_reducible show wpAny _ _ (call (Value.ref 52) [Value.str _ _]) _ _ _); k_dflt (refine' make_bad ?k1 ?k2 ?k3 ?k5 ?kK ?kd ?ku ?_; (case k1 => k_asm); (case k2 => k_asm); (case k3 => k_asm); (case k5 => k_asm); (case kK => first | exact rfl | assumption); (case kd => ktr_room); (case ku => ktr_units)); intro h8 k8 e8 hB8) | ((with_reducible show wpAny _ _ (subscriptTail _ _ (Value.ref _) (Value.str _ _)) _ _ _); k_dflt (refine' di_tailS (knd := strKind PR _) ?N ?m ?D (strKind_is _ _ _ _) ?v ?_; (case N => k_asm); (case m => k_mem); (case D => assumption); (case v => exact rfl)); intro _) | ((with_reducible show wpAny _ _ (call (Value.builtin "len") [Value.ref _]) _ _ _); k_dflt (refine' len_seq ?N ?m ?z ?_; (case N => k_asm); (case m => k_mem); (case z => omega)); intro _ _) | ((with_reducible show wpAny _ _ (call (Value.builtin "len") [Value.ref _]) _ _ _); k_dflt (refine' pl_len ?N ?m ?D ?z ?_; (case N => k_asm); (case m => k_mem); (case D => assumption); (case z => omega)); intro _ _) | ((with_reducible show wpAny _ _ (subscriptTail _ _ (Value.ref _) (Value.bytes _ _)) _ _ _); k_dflt (refine' pl_tailS ?N ?m ?D ?v ?_; (case N => k_asm); (case m => k_mem); (case D => assumption); (case v => first | assumption | exact plAt_snoc_some _ _ _ | (simp_all; done))); intro n8 t8 k8 hn8; (try (have hb8 := PlOk.at (by assumption) hn8; obtain ⟨hb8a, hb8b⟩ := hb8))) | ((with_reducible show wpAny _ _ (compareOp CmpOp.In (Value.bytes _ _) (Value.ref _)) _ _ _); k_dflt (refine' pl_in ?N ?m ?D ?_; (case N => k_asm); (case m => k_mem); (case D => assumption)); intro _) | ((with_reducible show wpAny _ _ (call (Value.builtin "len") [Value.bytes _ _]) _ _ _); (refine len_bytes (by (try simp only [Array.size_append]); omega) ?_)) | ((with_reducible show wpAny _ _ (binaryOp Operator.Add (Value.bytes _ _) (Value.bytes _ _)) _ _ _); refine KBy.add_bytes (by first | omega | (simp only [Array.size_append]; omega) | ((try simp only [Array.size_append, List.size_toArray, List.length_map, List.length_cons, List.length_nil, byteArr_size, List.length_append, Array.length_toList]); omega)) ?_; intro _ _)))) | ((with_reducible show WhlIf _ _ _); refine whlIf_cases (fun hB => ?_) (fun hB => ?_) <;> simp only [decide_eq_true_eq, decide_eq_false_iff_not] at hB <;> first | (exfalso; omega) | skip) | walk1 | (leave1; (try dsimp only)) | dsimp only | fail "no step"))
  · refine wpC_execs_cons (wpC_If (wpC_any ?_))
    (repeat' (first | (k_unfold; (try dsimp only)) | (k_end; wrow_close) | ((with_reducible show wpAny _ _ _ _ _ _); first | (with_reducible (first | ((with_reducible show wpAny _ _ (call (Value.ref 80) [Value.int _ _]) _ _ _); k_dflt (refine' useB (c_put_offset _ _ _ ?a ?b) ?k1 ?k2 ?k3 ?k4 ?k5 ?kK ?kd ?ku ?_; (walk_at "MINE_USE0"); (case a => omega); (case b => omega)); intro tk9 h' tk' F' N' hz9; (try k_sweep)) | ((with_reducible show wpAny _ _ (call (Value.ref 210) [Value.ref _, Value.bytes _ _]) _ _ _); k_dflt (refine' useB (c_pack _ _ _ _ ?a) ?k1 ?k2 ?k3 ?k4 ?k5 ?kK ?kd ?ku ?_; (walk_at "MINE_USE0"); (case a => omega)); intro tk9 h' tk' F' N' hz9; (try k_sweep)) | ((with_reducible show wpAny _ _ (call (Value.builtin _) [Value.ref 110, Value.bytes _ _]) _ _ _); k_dflt (refine' kinds_get ?X ?ga ?gb; (case X => exact Frag.In.keeps (by k_asm) (Fr.keep (by k_asm)))); (case' ga => intro n8 t8 k8 hn8); (case' gb => intro k8 hn8)) | ((with_reducible show wpAny _ _ (getMethod (Value.ref 110) _ _) _ _ _); k_dflt (refine' kinds_method ?X ?_; (case X => exact Frag.In.keeps (by k_asm) (Fr.keep (by k_asm))))) | ((with_reducible show wpAny _ _ (exec (PySem.Stmt.Raise (some _) none _) _) _ _ _); refine bad_raise rfl ?_) | ((with_reducible show wpAny _ _ (call (Value.ref 52) [Value.str _ _]) _ _ _); k_dflt (refine' make_bad ?k1 ?k2 ?k3 ?k5 ?kK ?kd ?ku ?_; (case k1 => k_asm); (case k2 => k_asm); (case k3 => k_asm); (case k5 => k_asm); (case kK => first | exact rfl | assumption); (case kd => ktr_room); (case ku => ktr_units)); intro h8 k8 e8 hB8) | ((with_reducible show wpAny _ _ (subscriptTail _ _ (Value.ref _) (Value.str _ _)) _ _ _); k_dflt (refine' di_tailS (knd := strKind PR _) ?N ?m ?D (strKind_is _ _ _ _) ?v ?_; (case N => k_asm); (case m => k_mem); (case D => assumption); (case v => exact rfl)); intro _) | ((with_reducible show wpAny _ _ (call (Value.builtin "len") [Value.ref _]) _ _ _); k_dflt (refine' len_seq ?N ?m ?z ?_; (case N => k_asm); (case m => k_mem); (case z => omega)); intro _ _) | ((with_reducible show wpAny _ _ (call (Value.builtin "len") [Value.ref _]) _ _ _); k_dflt (refine' pl_len ?N ?m ?D ?z ?_; (case N => k_asm); (case m => k_mem); (case D => assumption); (case z => omega)); intro _ _) | ((with_reducible show wpAny _ _ (subscriptTail _ _ (Value.ref _) (Value.bytes _ _)) _ _ _); k_dflt (refine' pl_tailS ?N ?m ?D ?v ?_; (case N => k_asm); (case m => k_mem); (case D => assumption); (case v => first | assumption | exact plAt_snoc_some _ _ _ | (simp_all; done))); intro n8 t8 k8 hn8; (try (have hb8 := PlOk.at (by assumption) hn8; obtain ⟨hb8a, hb8b⟩ := hb8))) | ((with_reducible show wpAny _ _ (compareOp CmpOp.In (Value.bytes _ _) (Value.ref _)) _ _ _); k_dflt (refine' pl_in ?N ?m ?D ?_; (case N => k_asm); (case m => k_mem); (case D => assumption)); intro _) | ((with_reducible show wpAny _ _ (call (Value.builtin "len") [Value.bytes _ _]) _ _ _); (refine len_bytes (by (try simp only [Array.size_append]); omega) ?_)) | ((with_reducible show wpAny _ _ (binaryOp Operator.Add (Value.bytes _ _) (Value.bytes _ _)) _ _ _); refine KBy.add_bytes (by first | omega | (simp only [Array.size_append]; omega) | ((try simp only [Array.size_append, List.size_toArray, List.length_map, List.length_cons, List.length_nil, byteArr_size, List.length_append, Array.length_toList]); omega)) ?_; intro _ _)))) | ((with_reducible show WhlIf _ _ _); refine whlIf_cases (fun hB => ?_) (fun hB => ?_) <;> simp only [decide_eq_true_eq, decide_eq_false_iff_not] at hB <;> first | (exfalso; omega) | skip) | walk1 | (leave1; (try dsimp only)) | dsimp only | fail "no step"))
    refine wpC_execs_consA ?_
    (repeat' (first | (k_unfold; (try dsimp only)) | (k_end; wrow_close) | ((with_reducible show wpAny _ _ _ _ _ _); first | (with_reducible (first | ((with_reducible show wpAny _ _ (call (Value.ref 80) [Value.int _ _]) _ _ _); k_dflt (refine' useB (c_put_offset _ _ _ ?a ?b) ?k1 ?k2 ?k3 ?k4 ?k5 ?kK ?kd ?ku ?_; (walk_at "MINE_USE0"); (case a => omega); (case b => omega)); intro tk9 h' tk' F' N' hz9; (try k_sweep)) | ((with_reducible show wpAny _ _ (call (Value.ref 210) [Value.ref _, Value.bytes _ _]) _ _ _); k_dflt (refine' useB (c_pack _ _ _ _ ?a) ?k1 ?k2 ?k3 ?k4 ?k5 ?kK ?kd ?ku ?_; (walk_at "MINE_USE0"); (case a => omega)); intro tk9 h' tk' F' N' hz9; (try k_sweep)) | ((with_reducible show wpAny _ _ (call (Value.builtin _) [Value.ref 110, Value.bytes _ _]) _ _ _); k_dflt (refine' kinds_get ?X ?ga ?gb; (case X => exact Frag.In.keeps (by k_asm) (Fr.keep (by k_asm)))); (case' ga => intro n8 t8 k8 hn8); (case' gb => intro k8 hn8)) | ((with_reducible show wpAny _ _ (getMethod (Value.ref 110) _ _) _ _ _); k_dflt (refine' kinds_method ?X ?_; (case X => exact Frag.In.keeps (by k_asm) (Fr.keep (by k_asm))))) | ((with_reducible show wpAny _ _ (exec (PySem.Stmt.Raise (some _) none _) _) _ _ _); refine bad_raise rfl ?_) | ((with_reducible show wpAny _ _ (call (Value.ref 52) [Value.str _ _]) _ _ _); k_dflt (refine' make_bad ?k1 ?k2 ?k3 ?k5 ?kK ?kd ?ku ?_; (case k1 => k_asm); (case k2 => k_asm); (case k3 => k_asm); (case k5 => k_asm); (case kK => first | exact rfl | assumption); (case kd => ktr_room); (case ku => ktr_units)); intro h8 k8 e8 hB8) | ((with_reducible show wpAny _ _ (subscriptTail _ _ (Value.ref _) (Value.str _ _)) _ _ _); k_dflt (refine' di_tailS (knd := strKind PR _) ?N ?m ?D (strKind_is _ _ _ _) ?v ?_; (case N => k_asm); (case m => k_mem); (case D => assumption); (case v => exact rfl)); intro _) | ((with_reducible show wpAny _ _ (call (Value.builtin "len") [Value.ref _]) _ _ _); k_dflt (refine' len_seq ?N ?m ?z ?_; (case N => k_asm); (case m => k_mem); (case z => omega)); intro _ _) | ((with_reducible show wpAny _ _ (call (Value.builtin "len") [Value.ref _]) _ _ _); k_dflt (refine' pl_len ?N ?m ?D ?z ?_; (case N => k_asm); (case m => k_mem); (case D => assumption); (case z => omega)); intro _ _) | ((with_reducible show wpAny _ _ (subscriptTail _ _ (Value.ref _) (Value.bytes _ _)) _ _ _); k_dflt (refine' pl_tailS ?N ?m ?D ?v ?_; (case N => k_asm); (case m => k_mem); (case D => assumption); (case v => first | assumption | exact plAt_snoc_some _ _ _ | (simp_all; done))); intro n8 t8 k8 hn8; (try (have hb8 := PlOk.at (by assumption) hn8; obtain ⟨hb8a, hb8b⟩ := hb8))) | ((with_reducible show wpAny _ _ (compareOp CmpOp.In (Value.bytes _ _) (Value.ref _)) _ _ _); k_dflt (refine' pl_in ?N ?m ?D ?_; (case N => k_asm); (case m => k_mem); (case D => assumption)); intro _) | ((with_reducible show wpAny _ _ (call (Value.builtin "len") [Value.bytes _ _]) _ _ _); (refine len_bytes (by (try simp only [Array.size_append]); omega) ?_)) | ((with_reducible show wpAny _ _ (binaryOp Operator.Add (Value.bytes _ _) (Value.bytes _ _)) _ _ _); refine KBy.add_bytes (by first | omega | (simp only [Array.size_append]; omega) | ((try simp only [Array.size_append, List.size_toArray, List.length_map, List.length_cons, List.length_nil, byteArr_size, List.length_append, Array.length_toList]); omega)) ?_; intro _ _)))) | ((with_reducible show WhlIf _ _ _); refine whlIf_cases (fun hB => ?_) (fun hB => ?_) <;> simp only [decide_eq_true_eq, decide_eq_false_iff_not] at hB <;> first | (exfalso; omega) | skip) | walk1 | (leave1; (try dsimp only)) | dsimp only | fail "no step"))
    refine' bad_here ?K1 ?F1 ?N1 ?X1 ?B1 ?S1 ?_
    case K1 => assumption
    case F1 => assumption
    case N1 => assumption
    case X1 => assumption
    case B1 => assumption
    case S1 => walk_at "MINE_SUB"
    intro h' R' U'
    refine' hbad _ _ _ _ ?w1 ?g1 ?f1 R' U'
    case g1 => assumption
    case f1 => assumption
    case w1 => exact piece_no
  · refine wpC_execs_cons (wpC_If (wpC_any ?_))
    (repeat' (first | (k_unfold; (try dsimp only)) | (k_end; wrow_close) | ((with_reducible show wpAny _ _ _ _ _ _); first | (with_reducible (first | ((with_reducible show wpAny _ _ (call (Value.ref 80) [Value.int _ _]) _ _ _); k_dflt (refine' useB (c_put_offset _ _ _ ?a ?b) ?k1 ?k2 ?k3 ?k4 ?k5 ?kK ?kd ?ku ?_; (walk_at "MINE_USE0"); (case a => omega); (case b => omega)); intro tk9 h' tk' F' N' hz9; (try k_sweep)) | ((with_reducible show wpAny _ _ (call (Value.ref 210) [Value.ref _, Value.bytes _ _]) _ _ _); k_dflt (refine' useB (c_pack _ _ _ _ ?a) ?k1 ?k2 ?k3 ?k4 ?k5 ?kK ?kd ?ku ?_; (walk_at "MINE_USE0"); (case a => omega)); intro tk9 h' tk' F' N' hz9; (try k_sweep)) | ((with_reducible show wpAny _ _ (call (Value.builtin _) [Value.ref 110, Value.bytes _ _]) _ _ _); k_dflt (refine' kinds_get ?X ?ga ?gb; (case X => exact Frag.In.keeps (by k_asm) (Fr.keep (by k_asm)))); (case' ga => intro n8 t8 k8 hn8); (case' gb => intro k8 hn8)) | ((with_reducible show wpAny _ _ (getMethod (Value.ref 110) _ _) _ _ _); k_dflt (refine' kinds_method ?X ?_; (case X => exact Frag.In.keeps (by k_asm) (Fr.keep (by k_asm))))) | ((with_reducible show wpAny _ _ (exec (PySem.Stmt.Raise (some _) none _) _) _ _ _); refine bad_raise rfl ?_) | ((with_reducible show wpAny _ _ (call (Value.ref 52) [Value.str _ _]) _ _ _); k_dflt (refine' make_bad ?k1 ?k2 ?k3 ?k5 ?kK ?kd ?ku ?_; (case k1 => k_asm); (case k2 => k_asm); (case k3 => k_asm); (case k5 => k_asm); (case kK => first | exact rfl | assumption); (case kd => ktr_room); (case ku => ktr_units)); intro h8 k8 e8 hB8) | ((with_reducible show wpAny _ _ (subscriptTail _ _ (Value.ref _) (Value.str _ _)) _ _ _); k_dflt (refine' di_tailS (knd := strKind PR _) ?N ?m ?D (strKind_is _ _ _ _) ?v ?_; (case N => k_asm); (case m => k_mem); (case D => assumption); (case v => exact rfl)); intro _) | ((with_reducible show wpAny _ _ (call (Value.builtin "len") [Value.ref _]) _ _ _); k_dflt (refine' len_seq ?N ?m ?z ?_; (case N => k_asm); (case m => k_mem); (case z => omega)); intro _ _) | ((with_reducible show wpAny _ _ (call (Value.builtin "len") [Value.ref _]) _ _ _); k_dflt (refine' pl_len ?N ?m ?D ?z ?_; (case N => k_asm); (case m => k_mem); (case D => assumption); (case z => omega)); intro _ _) | ((with_reducible show wpAny _ _ (subscriptTail _ _ (Value.ref _) (Value.bytes _ _)) _ _ _); k_dflt (refine' pl_tailS ?N ?m ?D ?v ?_; (case N => k_asm); (case m => k_mem); (case D => assumption); (case v => first | assumption | exact plAt_snoc_some _ _ _ | (simp_all; done))); intro n8 t8 k8 hn8; (try (have hb8 := PlOk.at (by assumption) hn8; obtain ⟨hb8a, hb8b⟩ := hb8))) | ((with_reducible show wpAny _ _ (compareOp CmpOp.In (Value.bytes _ _) (Value.ref _)) _ _ _); k_dflt (refine' pl_in ?N ?m ?D ?_; (case N => k_asm); (case m => k_mem); (case D => assumption)); intro _) | ((with_reducible show wpAny _ _ (call (Value.builtin "len") [Value.bytes _ _]) _ _ _); (refine len_bytes (by (try simp only [Array.size_append]); omega) ?_)) | ((with_reducible show wpAny _ _ (binaryOp Operator.Add (Value.bytes _ _) (Value.bytes _ _)) _ _ _); refine KBy.add_bytes (by first | omega | (simp only [Array.size_append]; omega) | ((try simp only [Array.size_append, List.size_toArray, List.length_map, List.length_cons, List.length_nil, byteArr_size, List.length_append, Array.length_toList]); omega)) ?_; intro _ _)))) | ((with_reducible show WhlIf _ _ _); refine whlIf_cases (fun hB => ?_) (fun hB => ?_) <;> simp only [decide_eq_true_eq, decide_eq_false_iff_not] at hB <;> first | (exfalso; omega) | skip) | walk1 | (leave1; (try dsimp only)) | dsimp only | fail "no step"))
    refine wpC_execs_consA ?_
    (repeat' (first | (k_unfold; (try dsimp only)) | (k_end; wrow_close) | ((with_reducible show wpAny _ _ _ _ _ _); first | (with_reducible (first | ((with_reducible show wpAny _ _ (call (Value.ref 80) [Value.int _ _]) _ _ _); k_dflt (refine' useB (c_put_offset _ _ _ ?a ?b) ?k1 ?k2 ?k3 ?k4 ?k5 ?kK ?kd ?ku ?_; (walk_at "MINE_USE0"); (case a => omega); (case b => omega)); intro tk9 h' tk' F' N' hz9; (try k_sweep)) | ((with_reducible show wpAny _ _ (call (Value.ref 210) [Value.ref _, Value.bytes _ _]) _ _ _); k_dflt (refine' useB (c_pack _ _ _ _ ?a) ?k1 ?k2 ?k3 ?k4 ?k5 ?kK ?kd ?ku ?_; (walk_at "MINE_USE0"); (case a => omega)); intro tk9 h' tk' F' N' hz9; (try k_sweep)) | ((with_reducible show wpAny _ _ (call (Value.builtin _) [Value.ref 110, Value.bytes _ _]) _ _ _); k_dflt (refine' kinds_get ?X ?ga ?gb; (case X => exact Frag.In.keeps (by k_asm) (Fr.keep (by k_asm)))); (case' ga => intro n8 t8 k8 hn8); (case' gb => intro k8 hn8)) | ((with_reducible show wpAny _ _ (getMethod (Value.ref 110) _ _) _ _ _); k_dflt (refine' kinds_method ?X ?_; (case X => exact Frag.In.keeps (by k_asm) (Fr.keep (by k_asm))))) | ((with_reducible show wpAny _ _ (exec (PySem.Stmt.Raise (some _) none _) _) _ _ _); refine bad_raise rfl ?_) | ((with_reducible show wpAny _ _ (call (Value.ref 52) [Value.str _ _]) _ _ _); k_dflt (refine' make_bad ?k1 ?k2 ?k3 ?k5 ?kK ?kd ?ku ?_; (case k1 => k_asm); (case k2 => k_asm); (case k3 => k_asm); (case k5 => k_asm); (case kK => first | exact rfl | assumption); (case kd => ktr_room); (case ku => ktr_units)); intro h8 k8 e8 hB8) | ((with_reducible show wpAny _ _ (subscriptTail _ _ (Value.ref _) (Value.str _ _)) _ _ _); k_dflt (refine' di_tailS (knd := strKind PR _) ?N ?m ?D (strKind_is _ _ _ _) ?v ?_; (case N => k_asm); (case m => k_mem); (case D => assumption); (case v => exact rfl)); intro _) | ((with_reducible show wpAny _ _ (call (Value.builtin "len") [Value.ref _]) _ _ _); k_dflt (refine' len_seq ?N ?m ?z ?_; (case N => k_asm); (case m => k_mem); (case z => omega)); intro _ _) | ((with_reducible show wpAny _ _ (call (Value.builtin "len") [Value.ref _]) _ _ _); k_dflt (refine' pl_len ?N ?m ?D ?z ?_; (case N => k_asm); (case m => k_mem); (case D => assumption); (case z => omega)); intro _ _) | ((with_reducible show wpAny _ _ (subscriptTail _ _ (Value.ref _) (Value.bytes _ _)) _ _ _); k_dflt (refine' pl_tailS ?N ?m ?D ?v ?_; (case N => k_asm); (case m => k_mem); (case D => assumption); (case v => first | assumption | exact plAt_snoc_some _ _ _ | (simp_all; done))); intro n8 t8 k8 hn8; (try (have hb8 := PlOk.at (by assumption) hn8; obtain ⟨hb8a, hb8b⟩ := hb8))) | ((with_reducible show wpAny _ _ (compareOp CmpOp.In (Value.bytes _ _) (Value.ref _)) _ _ _); k_dflt (refine' pl_in ?N ?m ?D ?_; (case N => k_asm); (case m => k_mem); (case D => assumption)); intro _) | ((with_reducible show wpAny _ _ (call (Value.builtin "len") [Value.bytes _ _]) _ _ _); (refine len_bytes (by (try simp only [Array.size_append]); omega) ?_)) | ((with_reducible show wpAny _ _ (binaryOp Operator.Add (Value.bytes _ _) (Value.bytes _ _)) _ _ _); refine KBy.add_bytes (by first | omega | (simp only [Array.size_append]; omega) | ((try simp only [Array.size_append, List.size_toArray, List.length_map, List.length_cons, List.length_nil, byteArr_size, List.length_append, Array.length_toList]); omega)) ?_; intro _ _)))) | ((with_reducible show WhlIf _ _ _); refine whlIf_cases (fun hB => ?_) (fun hB => ?_) <;> simp only [decide_eq_true_eq, decide_eq_false_iff_not] at hB <;> first | (exfalso; omega) | skip) | walk1 | (leave1; (try dsimp only)) | dsimp only | fail "no step"))
    refine' bad_here ?K2 ?F2 ?N2 ?X2 ?B2 ?S2 ?_
    case K2 => assumption
    case F2 => assumption
    case N2 => assumption
    case X2 => assumption
    case B2 => assumption
    case S2 => walk_at "MINE_SUB"
    intro h' R' U'
    refine' hbad _ _ _ _ ?w2 ?g2 ?f2 R' U'
    case g2 => assumption
    case f2 => assumption
    case w2 => exact piece_no
set_option maxHeartbeats 1000000 in
theorem c_piece_of1 (w : World) (b bd e ed C0 cd PlB x PcB : Addr) (u1 u2 u3 u4 u5 u6 v1 v2 v3 v4 v5 : Tok) (n1 n2 : Nat) (opl : Obj) (bp : Bool) (pl : List (List UInt8 × Int)) (len : Int) (tl to tk tb td : Tok) (ob kb bb db : Array UInt8) (ct : Option (Array UInt8)) (vc : Value)
    (hP : Pl w PlB opl pl) (hO : PlOk pl len) (hl0 : 0 ≤ len) (hl1 : len ≤ 9000) (h4 : bb.size ≤ 4) (h5 : db.size ≤ 130) :
    SpX w 168 [.ref b, .ref e] [(b, instObj 185 bd), (bd, buObj w u1 u2 u3 u4 u5 u6 x C0 PcB PlB bp len tl n1), (e, instObj 142 ed), (ed, edObj w v1 v2 v3 v4 v5 (.bytes ob to) (.bytes kb tk) vc (.bytes bb tb) (.bytes db td) n2), (C0, instObj 221 cd), (cd, emptyDict), (PlB, opl)] 6 60 (pieceOf bp pl len ⟨ob, kb, ct, some bb, some db⟩ = none)
    (fun _ v h' => PieceOk (pieceOf bp pl len ⟨ob, kb, ct, some bb, some db⟩) [(b, instObj 185 bd), (bd, buObj w u1 u2 u3 u4 u5 u6 x C0 PcB PlB bp len tl n1), (e, instObj 142 ed), (ed, edObj w v1 v2 v3 v4 v5 (.bytes ob to) (.bytes kb tk) vc (.bytes bb tb) (.bytes db td) n2), (C0, instObj 221 cd), (cd, emptyDict), (PlB, opl)] v h') := by
  have hfill : Fill PySem.Challenge.rw_pb0104_01 KF := by k_fill; trivial
  unfold SpX
  intro p loose mean mg mb dp un gd cn cs a ccd cl outer A₀ base h₀ L m s Q E B F X N T hk hd hu hret hbad
  (refine wpC_call ?_; k_dflt (refine' enterW ?k1 ?k2 ?k3 ?k4 ?k5 ?kA ?kF ?kK ?k6 ?k7 ?k8 ?k9 ?kB ?_ ?c2 ?c3 ?c4 ?c5; (case kA => exact rfl); (case kF => exact rfl); (case kK => assumption); (case k1 => k_asm); (case k2 => k_asm); (case k3 => k_asm); (case k4 => k_asm); (case k5 => k_asm); (case k6 => k_is); (case k7 => k_is); (case k8 => ktr_room); (case k9 => first | exact BindsTo.of_eq rfl | exact binds_K (by k_in) rfl (by k_is) rfl rfl rfl); (case c5 => decide); (case kB => exact locs rfl); (case c2 => exact rfl); (case c3 => exact rfl); (case c4 => exact rfl); k_whole; intro g' L' h' tk' hG' FG' F' N' B' X' T' l1'; (try k_lt l1'); (try dsimp only); (show (let qk9 : Flow → Shared → Prop := _; let ek9 : Value → Shared → Prop := _; wpC _ _ _ qk9 ek9 _)); intro qk9 ek9))
  refine wpC_execs_cons (wpC_If (wpC_any ?_))
  (repeat' (first | (k_unfold; (try dsimp only)) | (k_end; wrow_close) | ((with_reducible show wpAny _ _ _ _ _ _); first | (with_reducible (first | ((with_reducible show wpAny _ _ (call (Value.ref 80) [Value.int _ _]) _ _ _); k_dflt (refine' useB (c_put_offset _ _ _ ?a ?b) ?k1 ?k2 ?k3 ?k4 ?k5 ?kK ?kd ?ku ?_; (walk_at "MINE_USE0"); (case a => omega); (case b => omega)); intro tk9 h' tk' F' N' hz9; (try k_sweep)) | ((with_reducible show wpAny _ _ (call (Value.ref 210) [Value.ref _, Value.bytes _ _]) _ _ _); k_dflt (refine' useB (c_pack _ _ _ _ ?a) ?k1 ?k2 ?k3 ?k4 ?k5 ?kK ?kd ?ku ?_; (walk_at "MINE_USE0"); (case a => omega)); intro tk9 h' tk' F' N' hz9; (try k_sweep)) | ((with_reducible show wpAny _ _ (call (Value.builtin _) [Value.ref 110, Value.bytes _ _]) _ _ _); k_dflt (refine' kinds_get ?X ?ga ?gb; (case X => exact Frag.In.keeps (by k_asm) (Fr.keep (by k_asm)))); (case' ga => intro n8 t8 k8 hn8); (case' gb => intro k8 hn8)) | ((with_reducible show wpAny _ _ (getMethod (Value.ref 110) _ _) _ _ _); k_dflt (refine' kinds_method ?X ?_; (case X => exact Frag.In.keeps (by k_asm) (Fr.keep (by k_asm))))) | ((with_reducible show wpAny _ _ (exec (PySem.Stmt.Raise (some _) none _) _) _ _ _); refine bad_raise rfl ?_) | ((with_reducible show wpAny _ _ (call (Value.ref 52) [Value.str _ _]) _ _ _); k_dflt (refine' make_bad ?k1 ?k2 ?k3 ?k5 ?kK ?kd ?ku ?_; (case k1 => k_asm); (case k2 => k_asm); (case k3 => k_asm); (case k5 => k_asm); (case kK => first | exact rfl | assumption); (case kd => ktr_room); (case ku => ktr_units)); intro h8 k8 e8 hB8) | ((with_reducible show wpAny _ _ (subscriptTail _ _ (Value.ref _) (Value.str _ _)) _ _ _); k_dflt (refine' di_tailS (knd := strKind PR _) ?N ?m ?D (strKind_is _ _ _ _) ?v ?_; (case N => k_asm); (case m => k_mem); (case D => assumption); (case v => exact rfl)); intro _) | ((with_reducible show wpAny _ _ (call (Value.builtin "len") [Value.ref _]) _ _ _); k_dflt (refine' len_seq ?N ?m ?z ?_; (case N => k_asm); (case m => k_mem); (case z => omega)); intro _ _) | ((with_reducible show wpAny _ _ (call (Value.builtin "len") [Value.ref _]) _ _ _); k_dflt (refine' pl_len ?N ?m ?D ?z ?_; (case N => k_asm); (case m => k_mem); (case D => assumption); (case z => omega)); intro _ _) | ((with_reducible show wpAny _ _ (subscriptTail _ _ (Value.ref _) (Value.bytes _ _)) _ _ _); k_dflt (refine' pl_tailS ?N ?m ?D ?v ?_; (case N => k_asm); (case m => k_mem); (case D => assumption); (case v => first | assumption | exact plAt_snoc_some _ _ _ | (simp_all; done))); intro n8 t8 k8 hn8; (try (have hb8 := PlOk.at (by assumption) hn8; obtain ⟨hb8a, hb8b⟩ := hb8))) | ((with_reducible show wpAny _ _ (compareOp CmpOp.In (Value.bytes _ _) (Value.ref _)) _ _ _); k_dflt (refine' pl_in ?N ?m ?D ?_; (case N => k_asm); (case m => k_mem); (case D => assumption)); intro _) | ((with_reducible show wpAny _ _ (call (Value.builtin "len") [Value.bytes _ _]) _ _ _); (refine len_bytes (by (try simp only [Array.size_append]); omega) ?_)) | ((with_reducible show wpAny _ _ (binaryOp Operator.Add (Value.bytes _ _) (Value.bytes _ _)) _ _ _); refine KBy.add_bytes (by first | omega | (simp only [Array.size_append]; omega) | ((try simp only [Array.size_append, List.size_toArray, List.length_map, List.length_cons, List.length_nil, byteArr_size, List.length_append, Array.length_toList]); omega)) ?_; intro _ _)))) | ((with_reducible show WhlIf _ _ _); refine whlIf_cases (fun hB => ?_) (fun hB => ?_) <;> simp only [decide_eq_true_eq, decide_eq_false_iff_not] at hB <;> first | (exfalso; omega) | skip) | walk1 | (leave1; (try dsimp only)) | dsimp only | fail "no step"))
  refine wpC_execs_nil ?_
  try dsimp only
  refine wpC_execs_consA ?_
  (repeat' (first | (k_unfold; (try dsimp only)) | (k_end; wrow_close) | ((with_reducible show wpAny _ _ _ _ _ _); first | (with_reducible (first | ((with_reducible show wpAny _ _ (call (Value.ref 80) [Value.int _ _]) _ _ _); k_dflt (refine' useB (c_put_offset _ _ _ ?a ?b) ?k1 ?k2 ?k3 ?k4 ?k5 ?kK ?kd ?ku ?_; (walk_at "MINE_USE0"); (case a => omega); (case b => omega)); intro tk9 h' tk' F' N' hz9; (try k_sweep)) | ((with_reducible show wpAny _ _ (call (Value.ref 210) [Value.ref _, Value.bytes _ _]) _ _ _); k_dflt (refine' useB (c_pack _ _ _ _ ?a) ?k1 ?k2 ?k3 ?k4 ?k5 ?kK ?kd ?ku ?_; (walk_at "MINE_USE0"); (case a => omega)); intro tk9 h' tk' F' N' hz9; (try k_sweep)) | ((with_reducible show wpAny _ _ (call (Value.builtin _) [Value.ref 110, Value.bytes _ _]) _ _ _); k_dflt (refine' kinds_get ?X ?ga ?gb; (case X => exact Frag.In.keeps (by k_asm) (Fr.keep (by k_asm)))); (case' ga => intro n8 t8 k8 hn8); (case' gb => intro k8 hn8)) | ((with_reducible show wpAny _ _ (getMethod (Value.ref 110) _ _) _ _ _); k_dflt (refine' kinds_method ?X ?_; (case X => exact Frag.In.keeps (by k_asm) (Fr.keep (by k_asm))))) | ((with_reducible show wpAny _ _ (exec (PySem.Stmt.Raise (some _) none _) _) _ _ _); refine bad_raise rfl ?_) | ((with_reducible show wpAny _ _ (call (Value.ref 52) [Value.str _ _]) _ _ _); k_dflt (refine' make_bad ?k1 ?k2 ?k3 ?k5 ?kK ?kd ?ku ?_; (case k1 => k_asm); (case k2 => k_asm); (case k3 => k_asm); (case k5 => k_asm); (case kK => first | exact rfl | assumption); (case kd => ktr_room); (case ku => ktr_units)); intro h8 k8 e8 hB8) | ((with_reducible show wpAny _ _ (subscriptTail _ _ (Value.ref _) (Value.str _ _)) _ _ _); k_dflt (refine' di_tailS (knd := strKind PR _) ?N ?m ?D (strKind_is _ _ _ _) ?v ?_; (case N => k_asm); (case m => k_mem); (case D => assumption); (case v => exact rfl)); intro _) | ((with_reducible show wpAny _ _ (call (Value.builtin "len") [Value.ref _]) _ _ _); k_dflt (refine' len_seq ?N ?m ?z ?_; (case N => k_asm); (case m => k_mem); (case z => omega)); intro _ _) | ((with_reducible show wpAny _ _ (call (Value.builtin "len") [Value.ref _]) _ _ _); k_dflt (refine' pl_len ?N ?m ?D ?z ?_; (case N => k_asm); (case m => k_mem); (case D => assumption); (case z => omega)); intro _ _) | ((with_reducible show wpAny _ _ (subscriptTail _ _ (Value.ref _) (Value.bytes _ _)) _ _ _); k_dflt (refine' pl_tailS ?N ?m ?D ?v ?_; (case N => k_asm); (case m => k_mem); (case D => assumption); (case v => first | assumption | exact plAt_snoc_some _ _ _ | (simp_all; done))); intro n8 t8 k8 hn8; (try (have hb8 := PlOk.at (by assumption) hn8; obtain ⟨hb8a, hb8b⟩ := hb8))) | ((with_reducible show wpAny _ _ (compareOp CmpOp.In (Value.bytes _ _) (Value.ref _)) _ _ _); k_dflt (refine' pl_in ?N ?m ?D ?_; (case N => k_asm); (case m => k_mem); (case D => assumption)); intro _) | ((with_reducible show wpAny _ _ (call (Value.builtin "len") [Value.bytes _ _]) _ _ _); (refine len_bytes (by (try simp only [Array.size_append]); omega) ?_)) | ((with_reducible show wpAny _ _ (binaryOp Operator.Add (Value.bytes _ _) (Value.bytes _ _)) _ _ _); refine KBy.add_bytes (by first | omega | (simp only [Array.size_append]; omega) | ((try simp only [Array.size_append, List.size_toArray, List.length_map, List.length_cons, List.length_nil, byteArr_size, List.length_append, Array.length_toList]); omega)) ?_; intro _ _)))) | ((with_reducible show WhlIf _ _ _); refine whlIf_cases (fun hB => ?_) (fun hB => ?_) <;> simp only [decide_eq_true_eq, decide_eq_false_iff_not] at hB <;> first | (exfalso; omega) | skip) | walk1 | (leave1; (try dsimp only)) | dsimp only | fail "no step"))
  refine wpC_execs_cons (wpC_If (wpC_any ?_))
  (repeat' (first | (k_unfold; (try dsimp only)) | (k_end; wrow_close) | ((with_reducible show wpAny _ _ _ _ _ _); first | (with_reducible (first | ((with_reducible show wpAny _ _ (call (Value.ref 80) [Value.int _ _]) _ _ _); k_dflt (refine' useB (c_put_offset _ _ _ ?a ?b) ?k1 ?k2 ?k3 ?k4 ?k5 ?kK ?kd ?ku ?_; (walk_at "MINE_USE0"); (case a => omega); (case b => omega)); intro tk9 h' tk' F' N' hz9; (try k_sweep)) | ((with_reducible show wpAny _ _ (call (Value.ref 210) [Value.ref _, Value.bytes _ _]) _ _ _); k_dflt (refine' useB (c_pack _ _ _ _ ?a) ?k1 ?k2 ?k3 ?k4 ?k5 ?kK ?kd ?ku ?_; (walk_at "MINE_USE0"); (case a => omega)); intro tk9 h' tk' F' N' hz9; (try k_sweep)) | ((with_reducible show wpAny _ _ (call (Value.builtin _) [Value.ref 110, Value.bytes _ _]) _ _ _); k_dflt (refine' kinds_get ?X ?ga ?gb; (case X => exact Frag.In.keeps (by k_asm) (Fr.keep (by k_asm)))); (case' ga => intro n8 t8 k8 hn8); (case' gb => intro k8 hn8)) | ((with_reducible show wpAny _ _ (getMethod (Value.ref 110) _ _) _ _ _); k_dflt (refine' kinds_method ?X ?_; (case X => exact Frag.In.keeps (by k_asm) (Fr.keep (by k_asm))))) | ((with_reducible show wpAny _ _ (exec (PySem.Stmt.Raise (some _) none _) _) _ _ _); refine bad_raise rfl ?_) | ((with_reducible show wpAny _ _ (call (Value.ref 52) [Value.str _ _]) _ _ _); k_dflt (refine' make_bad ?k1 ?k2 ?k3 ?k5 ?kK ?kd ?ku ?_; (case k1 => k_asm); (case k2 => k_asm); (case k3 => k_asm); (case k5 => k_asm); (case kK => first | exact rfl | assumption); (case kd => ktr_room); (case ku => ktr_units)); intro h8 k8 e8 hB8) | ((with_reducible show wpAny _ _ (subscriptTail _ _ (Value.ref _) (Value.str _ _)) _ _ _); k_dflt (refine' di_tailS (knd := strKind PR _) ?N ?m ?D (strKind_is _ _ _ _) ?v ?_; (case N => k_asm); (case m => k_mem); (case D => assumption); (case v => exact rfl)); intro _) | ((with_reducible show wpAny _ _ (call (Value.builtin "len") [Value.ref _]) _ _ _); k_dflt (refine' len_seq ?N ?m ?z ?_; (case N => k_asm); (case m => k_mem); (case z => omega)); intro _ _) | ((with_reducible show wpAny _ _ (call (Value.builtin "len") [Value.ref _]) _ _ _); k_dflt (refine' pl_len ?N ?m ?D ?z ?_; (case N => k_asm); (case m => k_mem); (case D => assumption); (case z => omega)); intro _ _) | ((with_reducible show wpAny _ _ (subscriptTail _ _ (Value.ref _) (Value.bytes _ _)) _ _ _); k_dflt (refine' pl_tailS ?N ?m ?D ?v ?_; (case N => k_asm); (case m => k_mem); (case D => assumption); (case v => first | assumption | exact plAt_snoc_some _ _ _ | (simp_all; done))); intro n8 t8 k8 hn8; (try (have hb8 := PlOk.at (by assumption) hn8; obtain ⟨hb8a, hb8b⟩ := hb8))) | ((with_reducible show wpAny _ _ (compareOp CmpOp.In (Value.bytes _ _) (Value.ref _)) _ _ _); k_dflt (refine' pl_in ?N ?m ?D ?_; (case N => k_asm); (case m => k_mem); (case D => assumption)); intro _) | ((with_reducible show wpAny _ _ (call (Value.builtin "len") [Value.bytes _ _]) _ _ _); (refine len_bytes (by (try simp only [Array.size_append]); omega) ?_)) | ((with_reducible show wpAny _ _ (binaryOp Operator.Add (Value.bytes _ _) (Value.bytes _ _)) _ _ _); refine KBy.add_bytes (by first | omega | (simp only [Array.size_append]; omega) | ((try simp only [Array.size_append, List.size_toArray, List.length_map, List.length_cons, List.length_nil, byteArr_size, List.length_append, Array.length_toList]); omega)) ?_; intro _ _)))) | ((with_reducible show WhlIf _ _ _); refine whlIf_cases (fun hB => ?_) (fun hB => ?_) <;> simp only [decide_eq_true_eq, decide_eq_false_iff_not] at hB <;> first | (exfalso; omega) | skip) | walk1 | (leave1; (try dsimp only)) | dsimp only | fail "no step"))
  · refine wpC_execs_consA ?_
    (repeat' (first | (k_unfold; (try dsimp only)) | (k_end; wrow_close) | ((with_reducible show wpAny _ _ _ _ _ _); first | (with_reducible (first | ((with_reducible show wpAny _ _ (call (Value.ref 80) [Value.int _ _]) _ _ _); k_dflt (refine' useB (c_put_offset _ _ _ ?a ?b) ?k1 ?k2 ?k3 ?k4 ?k5 ?kK ?kd ?ku ?_; (walk_at "MINE_USE0"); (case a => omega); (case b => omega)); intro tk9 h' tk' F' N' hz9; (try k_sweep)) | ((with_reducible show wpAny _ _ (call (Value.ref 210) [Value.ref _, Value.bytes _ _]) _ _ _); k_dflt (refine' useB (c_pack _ _ _ _ ?a) ?k1 ?k2 ?k3 ?k4 ?k5 ?kK ?kd ?ku ?_; (walk_at "MINE_USE0"); (case a => omega)); intro tk9 h' tk' F' N' hz9; (try k_sweep)) | ((with_reducible show wpAny _ _ (call (Value.builtin _) [Value.ref 110, Value.bytes _ _]) _ _ _); k_dflt (refine' kinds_get ?X ?ga ?gb; (case X => exact Frag.In.keeps (by k_asm) (Fr.keep (by k_asm)))); (case' ga => intro n8 t8 k8 hn8); (case' gb => intro k8 hn8)) | ((with_reducible show wpAny _ _ (getMethod (Value.ref 110) _ _) _ _ _); k_dflt (refine' kinds_method ?X ?_; (case X => exact Frag.In.keeps (by k_asm) (Fr.keep (by k_asm))))) | ((with_reducible show wpAny _ _ (exec (PySem.Stmt.Raise (some _) none _) _) _ _ _); refine bad_raise rfl ?_) | ((with_reducible show wpAny _ _ (call (Value.ref 52) [Value.str _ _]) _ _ _); k_dflt (refine' make_bad ?k1 ?k2 ?k3 ?k5 ?kK ?kd ?ku ?_; (case k1 => k_asm); (case k2 => k_asm); (case k3 => k_asm); (case k5 => k_asm); (case kK => first | exact rfl | assumption); (case kd => ktr_room); (case ku => ktr_units)); intro h8 k8 e8 hB8) | ((with_reducible show wpAny _ _ (subscriptTail _ _ (Value.ref _) (Value.str _ _)) _ _ _); k_dflt (refine' di_tailS (knd := strKind PR _) ?N ?m ?D (strKind_is _ _ _ _) ?v ?_; (case N => k_asm); (case m => k_mem); (case D => assumption); (case v => exact rfl)); intro _) | ((with_reducible show wpAny _ _ (call (Value.builtin "len") [Value.ref _]) _ _ _); k_dflt (refine' len_seq ?N ?m ?z ?_; (case N => k_asm); (case m => k_mem); (case z => omega)); intro _ _) | ((with_reducible show wpAny _ _ (call (Value.builtin "len") [Value.ref _]) _ _ _); k_dflt (refine' pl_len ?N ?m ?D ?z ?_; (case N => k_asm); (case m => k_mem); (case D => assumption); (case z => omega)); intro _ _) | ((with_reducible show wpAny _ _ (subscriptTail _ _ (Value.ref _) (Value.bytes _ _)) _ _ _); k_dflt (refine' pl_tailS ?N ?m ?D ?v ?_; (case N => k_asm); (case m => k_mem); (case D => assumption); (case v => first | assumption | exact plAt_snoc_some _ _ _ | (simp_all; done))); intro n8 t8 k8 hn8; (try (have hb8 := PlOk.at (by assumption) hn8; obtain ⟨hb8a, hb8b⟩ := hb8))) | ((with_reducible show wpAny _ _ (compareOp CmpOp.In (Value.bytes _ _) (Value.ref _)) _ _ _); k_dflt (refine' pl_in ?N ?m ?D ?_; (case N => k_asm); (case m => k_mem); (case D => assumption)); intro _) | ((with_reducible show wpAny _ _ (call (Value.builtin "len") [Value.bytes _ _]) _ _ _); (refine len_bytes (by (try simp only [Array.size_append]); omega) ?_)) | ((with_reducible show wpAny _ _ (binaryOp Operator.Add (Value.bytes _ _) (Value.bytes _ _)) _ _ _); refine KBy.add_bytes (by first | omega | (simp only [Array.size_append]; omega) | ((try simp only [Array.size_append, List.size_toArray, List.length_map, List.length_cons, List.length_nil, byteArr_size, List.length_append, Array.length_toList]); omega)) ?_; intro _ _)))) | ((with_reducible show WhlIf _ _ _); refine whlIf_cases (fun hB => ?_) (fun hB => ?_) <;> simp only [decide_eq_true_eq, decide_eq_false_iff_not] at hB <;> first | (exfalso; omega) | skip) | walk1 | (leave1; (try dsimp only)) | dsimp only | fail "no step"))
    try dsimp only
    refine wpC_execs_cons (wpC_Return (wpC_BinOpS (wpC_BinOpS (wpC_Call ?_))))
    (repeat' (first | (k_unfold; (try dsimp only)) | (k_end; wrow_close) | ((with_reducible show wpAny _ _ _ _ _ _); first | (with_reducible (first | ((with_reducible show wpAny _ _ (call (Value.ref 80) [Value.int _ _]) _ _ _); k_dflt (refine' useB (c_put_offset _ _ _ ?a ?b) ?k1 ?k2 ?k3 ?k4 ?k5 ?kK ?kd ?ku ?_; (walk_at "MINE_USE0"); (case a => omega); (case b => omega)); intro tk9 h' tk' F' N' hz9; (try k_sweep)) | ((with_reducible show wpAny _ _ (call (Value.ref 210) [Value.ref _, Value.bytes _ _]) _ _ _); k_dflt (refine' useB (c_pack _ _ _ _ ?a) ?k1 ?k2 ?k3 ?k4 ?k5 ?kK ?kd ?ku ?_; (walk_at "MINE_USE0"); (case a => omega)); intro tk9 h' tk' F' N' hz9; (try k_sweep)) | ((with_reducible show wpAny _ _ (call (Value.builtin _) [Value.ref 110, Value.bytes _ _]) _ _ _); k_dflt (refine' kinds_get ?X ?ga ?gb; (case X => exact Frag.In.keeps (by k_asm) (Fr.keep (by k_asm)))); (case' ga => intro n8 t8 k8 hn8); (case' gb => intro k8 hn8)) | ((with_reducible show wpAny _ _ (getMethod (Value.ref 110) _ _) _ _ _); k_dflt (refine' kinds_method ?X ?_; (case X => exact Frag.In.keeps (by k_asm) (Fr.keep (by k_asm))))) | ((with_reducible show wpAny _ _ (exec (PySem.Stmt.Raise (some _) none _) _) _ _ _); refine bad_raise rfl ?_) | ((with_reducible show wpAny _ _ (call (Value.ref 52) [Value.str _ _]) _ _ _); k_dflt (refine' make_bad ?k1 ?k2 ?k3 ?k5 ?kK ?kd ?ku ?_; (case k1 => k_asm); (case k2 => k_asm); (case k3 => k_asm); (case k5 => k_asm); (case kK => first | exact rfl | assumption); (case kd => ktr_room); (case ku => ktr_units)); intro h8 k8 e8 hB8) | ((with_reducible show wpAny _ _ (subscriptTail _ _ (Value.ref _) (Value.str _ _)) _ _ _); k_dflt (refine' di_tailS (knd := strKind PR _) ?N ?m ?D (strKind_is _ _ _ _) ?v ?_; (case N => k_asm); (case m => k_mem); (case D => assumption); (case v => exact rfl)); intro _) | ((with_reducible show wpAny _ _ (call (Value.builtin "len") [Value.ref _]) _ _ _); k_dflt (refine' len_seq ?N ?m ?z ?_; (case N => k_asm); (case m => k_mem); (case z => omega)); intro _ _) | ((with_reducible show wpAny _ _ (call (Value.builtin "len") [Value.ref _]) _ _ _); k_dflt (refine' pl_len ?N ?m ?D ?z ?_; (case N => k_asm); (case m => k_mem); (case D => assumption); (case z => omega)); intro _ _) | ((with_reducible show wpAny _ _ (subscriptTail _ _ (Value.ref _) (Value.bytes _ _)) _ _ _); k_dflt (refine' pl_tailS ?N ?m ?D ?v ?_; (case N => k_asm); (case m => k_mem); (case D => assumption); (case v => first | assumption | exact plAt_snoc_some _ _ _ | (simp_all; done))); intro n8 t8 k8 hn8; (try (have hb8 := PlOk.at (by assumption) hn8; obtain ⟨hb8a, hb8b⟩ := hb8))) | ((with_reducible show wpAny _ _ (compareOp CmpOp.In (Value.bytes _ _) (Value.ref _)) _ _ _); k_dflt (refine' pl_in ?N ?m ?D ?_; (case N => k_asm); (case m => k_mem); (case D => assumption)); intro _) | ((with_reducible show wpAny _ _ (call (Value.builtin "len") [Value.bytes _ _]) _ _ _); (refine len_bytes (by (try simp only [Array.size_append]); omega) ?_)) | ((with_reducible show wpAny _ _ (binaryOp Operator.Add (Value.bytes _ _) (Value.bytes _ _)) _ _ _); refine KBy.add_bytes (by first | omega | (simp only [Array.size_append]; omega) | ((try simp only [Array.size_append, List.size_toArray, List.length_map, List.length_cons, List.length_nil, byteArr_size, List.length_append, Array.length_toList]); omega)) ?_; intro _ _)))) | ((with_reducible show WhlIf _ _ _); refine whlIf_cases (fun hB => ?_) (fun hB => ?_) <;> simp only [decide_eq_true_eq, decide_eq_false_iff_not] at hB <;> first | (exfalso; omega) | skip) | walk1 | (leave1; (try dsimp only)) | dsimp only | fail "no step"))
    k_dflt (refine' wpC_callWith_K ?X6 ?hk6 ?_; (case X6 => k_asm); (case hk6 => k_is))
    (repeat' (first | (k_unfold; (try dsimp only)) | (k_end; wrow_close) | ((with_reducible show wpAny _ _ _ _ _ _); first | (with_reducible (first | ((with_reducible show wpAny _ _ (call (Value.ref 80) [Value.int _ _]) _ _ _); k_dflt (refine' useB (c_put_offset _ _ _ ?a ?b) ?k1 ?k2 ?k3 ?k4 ?k5 ?kK ?kd ?ku ?_; (walk_at "MINE_USE0"); (case a => omega); (case b => omega)); intro tk9 h' tk' F' N' hz9; (try k_sweep)) | ((with_reducible show wpAny _ _ (call (Value.ref 210) [Value.ref _, Value.bytes _ _]) _ _ _); k_dflt (refine' useB (c_pack _ _ _ _ ?a) ?k1 ?k2 ?k3 ?k4 ?k5 ?kK ?kd ?ku ?_; (walk_at "MINE_USE0"); (case a => omega)); intro tk9 h' tk' F' N' hz9; (try k_sweep)) | ((with_reducible show wpAny _ _ (call (Value.builtin _) [Value.ref 110, Value.bytes _ _]) _ _ _); k_dflt (refine' kinds_get ?X ?ga ?gb; (case X => exact Frag.In.keeps (by k_asm) (Fr.keep (by k_asm)))); (case' ga => intro n8 t8 k8 hn8); (case' gb => intro k8 hn8)) | ((with_reducible show wpAny _ _ (getMethod (Value.ref 110) _ _) _ _ _); k_dflt (refine' kinds_method ?X ?_; (case X => exact Frag.In.keeps (by k_asm) (Fr.keep (by k_asm))))) | ((with_reducible show wpAny _ _ (exec (PySem.Stmt.Raise (some _) none _) _) _ _ _); refine bad_raise rfl ?_) | ((with_reducible show wpAny _ _ (call (Value.ref 52) [Value.str _ _]) _ _ _); k_dflt (refine' make_bad ?k1 ?k2 ?k3 ?k5 ?kK ?kd ?ku ?_; (case k1 => k_asm); (case k2 => k_asm); (case k3 => k_asm); (case k5 => k_asm); (case kK => first | exact rfl | assumption); (case kd => ktr_room); (case ku => ktr_units)); intro h8 k8 e8 hB8) | ((with_reducible show wpAny _ _ (subscriptTail _ _ (Value.ref _) (Value.str _ _)) _ _ _); k_dflt (refine' di_tailS (knd := strKind PR _) ?N ?m ?D (strKind_is _ _ _ _) ?v ?_; (case N => k_asm); (case m => k_mem); (case D => assumption); (case v => exact rfl)); intro _) | ((with_reducible show wpAny _ _ (call (Value.builtin "len") [Value.ref _]) _ _ _); k_dflt (refine' len_seq ?N ?m ?z ?_; (case N => k_asm); (case m => k_mem); (case z => omega)); intro _ _) | ((with_reducible show wpAny _ _ (call (Value.builtin "len") [Value.ref _]) _ _ _); k_dflt (refine' pl_len ?N ?m ?D ?z ?_; (case N => k_asm); (case m => k_mem); (case D => assumption); (case z => omega)); intro _ _) | ((with_reducible show wpAny _ _ (subscriptTail _ _ (Value.ref _) (Value.bytes _ _)) _ _ _); k_dflt (refine' pl_tailS ?N ?m ?D ?v ?_; (case N => k_asm); (case m => k_mem); (case D => assumption); (case v => first | assumption | exact plAt_snoc_some _ _ _ | (simp_all; done))); intro n8 t8 k8 hn8; (try (have hb8 := PlOk.at (by assumption) hn8; obtain ⟨hb8a, hb8b⟩ := hb8))) | ((with_reducible show wpAny _ _ (compareOp CmpOp.In (Value.bytes _ _) (Value.ref _)) _ _ _); k_dflt (refine' pl_in ?N ?m ?D ?_; (case N => k_asm); (case m => k_mem); (case D => assumption)); intro _) | ((with_reducible show wpAny _ _ (call (Value.builtin "len") [Value.bytes _ _]) _ _ _); (refine len_bytes (by (try simp only [Array.size_append]); omega) ?_)) | ((with_reducible show wpAny _ _ (binaryOp Operator.Add (Value.bytes _ _) (Value.bytes _ _)) _ _ _); refine KBy.add_bytes (by first | omega | (simp only [Array.size_append]; omega) | ((try simp only [Array.size_append, List.size_toArray, List.length_map, List.length_cons, List.length_nil, byteArr_size, List.length_append, Array.length_toList]); omega)) ?_; intro _ _)))) | ((with_reducible show WhlIf _ _ _); refine whlIf_cases (fun hB => ?_) (fun hB => ?_) <;> simp only [decide_eq_true_eq, decide_eq_false_iff_not] at hB <;> first | (exfalso; omega) | skip) | walk1 | (leave1; (try dsimp only)) | dsimp only | fail "no step"))
    k_dflt (refine' useCB (c_entry_head _ _ _ _ _ ?a6 ?b6 ?c6 ?d6) ?p6 ?q6 ?r6 ?s6 ?t6 ?u6 ?v6 ?w6 ?_)
    case p6 => k_asm
    case q6 => k_asm
    case r6 => k_asm
    case s6 => k_asm
    case t6 => k_asm
    case u6 => first | exact rfl | assumption
    case v6 => ktr_room
    case w6 => ktr_units
    case a6 => omega
    case b6 => omega
    case c6 => decide
    case d6 => decide
    intro tk9 h' tk' F' N' hz9
    try k_sweep
    (repeat' (first | (k_unfold; (try dsimp only)) | (k_end; wrow_close) | ((with_reducible show wpAny _ _ _ _ _ _); first | (with_reducible (first | ((with_reducible show wpAny _ _ (call (Value.ref 80) [Value.int _ _]) _ _ _); k_dflt (refine' useB (c_put_offset _ _ _ ?a ?b) ?k1 ?k2 ?k3 ?k4 ?k5 ?kK ?kd ?ku ?_; (walk_at "MINE_USE0"); (case a => omega); (case b => omega)); intro tk9 h' tk' F' N' hz9; (try k_sweep)) | ((with_reducible show wpAny _ _ (call (Value.ref 210) [Value.ref _, Value.bytes _ _]) _ _ _); k_dflt (refine' useB (c_pack _ _ _ _ ?a) ?k1 ?k2 ?k3 ?k4 ?k5 ?kK ?kd ?ku ?_; (walk_at "MINE_USE0"); (case a => omega)); intro tk9 h' tk' F' N' hz9; (try k_sweep)) | ((with_reducible show wpAny _ _ (call (Value.builtin _) [Value.ref 110, Value.bytes _ _]) _ _ _); k_dflt (refine' kinds_get ?X ?ga ?gb; (case X => exact Frag.In.keeps (by k_asm) (Fr.keep (by k_asm)))); (case' ga => intro n8 t8 k8 hn8); (case' gb => intro k8 hn8)) | ((with_reducible show wpAny _ _ (getMethod (Value.ref 110) _ _) _ _ _); k_dflt (refine' kinds_method ?X ?_; (case X => exact Frag.In.keeps (by k_asm) (Fr.keep (by k_asm))))) | ((with_reducible show wpAny _ _ (exec (PySem.Stmt.Raise (some _) none _) _) _ _ _); refine bad_raise rfl ?_) | ((with_reducible show wpAny _ _ (call (Value.ref 52) [Value.str _ _]) _ _ _); k_dflt (refine' make_bad ?k1 ?k2 ?k3 ?k5 ?kK ?kd ?ku ?_; (case k1 => k_asm); (case k2 => k_asm); (case k3 => k_asm); (case k5 => k_asm); (case kK => first | exact rfl | assumption); (case kd => ktr_room); (case ku => ktr_units)); intro h8 k8 e8 hB8) | ((with_reducible show wpAny _ _ (subscriptTail _ _ (Value.ref _) (Value.str _ _)) _ _ _); k_dflt (refine' di_tailS (knd := strKind PR _) ?N ?m ?D (strKind_is _ _ _ _) ?v ?_; (case N => k_asm); (case m => k_mem); (case D => assumption); (case v => exact rfl)); intro _) | ((with_reducible show wpAny _ _ (call (Value.builtin "len") [Value.ref _]) _ _ _); k_dflt (refine' len_seq ?N ?m ?z ?_; (case N => k_asm); (case m => k_mem); (case z => omega)); intro _ _) | ((with_reducible show wpAny _ _ (call (Value.builtin "len") [Value.ref _]) _ _ _); k_dflt (refine' pl_len ?N ?m ?D ?z ?_; (case N => k_asm); (case m => k_mem); (case D => assumption); (case z => omega)); intro _ _) | ((with_reducible show wpAny _ _ (subscriptTail _ _ (Value.ref _) (Value.bytes _ _)) _ _ _); k_dflt (refine' pl_tailS ?N ?m ?D ?v ?_; (case N => k_asm); (case m => k_mem); (case D => assumption); (case v => first | assumption | exact plAt_snoc_some _ _ _ | (simp_all; done))); intro n8 t8 k8 hn8; (try (have hb8 := PlOk.at (by assumption) hn8; obtain ⟨hb8a, hb8b⟩ := hb8))) | ((with_reducible show wpAny _ _ (compareOp CmpOp.In (Value.bytes _ _) (Value.ref _)) _ _ _); k_dflt (refine' pl_in ?N ?m ?D ?_; (case N => k_asm); (case m => k_mem); (case D => assumption)); intro _) | ((with_reducible show wpAny _ _ (call (Value.builtin "len") [Value.bytes _ _]) _ _ _); (refine len_bytes (by (try simp only [Array.size_append]); omega) ?_)) | ((with_reducible show wpAny _ _ (binaryOp Operator.Add (Value.bytes _ _) (Value.bytes _ _)) _ _ _); refine KBy.add_bytes (by first | omega | (simp only [Array.size_append]; omega) | ((try simp only [Array.size_append, List.size_toArray, List.length_map, List.length_cons, List.length_nil, byteArr_size, List.length_append, Array.length_toList]); omega)) ?_; intro _ _)))) | ((with_reducible show WhlIf _ _ _); refine whlIf_cases (fun hB => ?_) (fun hB => ?_) <;> simp only [decide_eq_true_eq, decide_eq_false_iff_not] at hB <;> first | (exfalso; omega) | skip) | walk1 | (leave1; (try dsimp only)) | dsimp only | fail "no step"))
    refine' hret _ _ _ ?x3 (piece_ok ?N3 ?S3 ?w3 ?z3)
    case x3 => walk_at "MINE_AGREE"
    case N3 => assumption
    case S3 => walk_at "MINE_SUB"
    case w3 => exact piece_back (by assumption) (by assumption)
    case z3 => (simp only [Array.size_append] at *; omega)
  · refine wpC_execs_nil ?_
    try dsimp only
    refine wpC_execs_cons (wpC_Return (wpC_BinOpS (wpC_BinOpS (wpC_Call ?_))))
    (repeat' (first | (k_unfold; (try dsimp only)) | (k_end; wrow_close) | ((with_reducible show wpAny _ _ _ _ _ _); first | (with_reducible (first | ((with_reducible show wpAny _ _ (call (Value.ref 80) [Value.int _ _]) _ _ _); k_dflt (refine' useB (c_put_offset _ _ _ ?a ?b) ?k1 ?k2 ?k3 ?k4 ?k5 ?kK ?kd ?ku ?_; (walk_at "MINE_USE0"); (case a => omega); (case b => omega)); intro tk9 h' tk' F' N' hz9; (try k_sweep)) | ((with_reducible show wpAny _ _ (call (Value.ref 210) [Value.ref _, Value.bytes _ _]) _ _ _); k_dflt (refine' useB (c_pack _ _ _ _ ?a) ?k1 ?k2 ?k3 ?k4 ?k5 ?kK ?kd ?ku ?_; (walk_at "MINE_USE0"); (case a => omega)); intro tk9 h' tk' F' N' hz9; (try k_sweep)) | ((with_reducible show wpAny _ _ (call (Value.builtin _) [Value.ref 110, Value.bytes _ _]) _ _ _); k_dflt (refine' kinds_get ?X ?ga ?gb; (case X => exact Frag.In.keeps (by k_asm) (Fr.keep (by k_asm)))); (case' ga => intro n8 t8 k8 hn8); (case' gb => intro k8 hn8)) | ((with_reducible show wpAny _ _ (getMethod (Value.ref 110) _ _) _ _ _); k_dflt (refine' kinds_method ?X ?_; (case X => exact Frag.In.keeps (by k_asm) (Fr.keep (by k_asm))))) | ((with_reducible show wpAny _ _ (exec (PySem.Stmt.Raise (some _) none _) _) _ _ _); refine bad_raise rfl ?_) | ((with_reducible show wpAny _ _ (call (Value.ref 52) [Value.str _ _]) _ _ _); k_dflt (refine' make_bad ?k1 ?k2 ?k3 ?k5 ?kK ?kd ?ku ?_; (case k1 => k_asm); (case k2 => k_asm); (case k3 => k_asm); (case k5 => k_asm); (case kK => first | exact rfl | assumption); (case kd => ktr_room); (case ku => ktr_units)); intro h8 k8 e8 hB8) | ((with_reducible show wpAny _ _ (subscriptTail _ _ (Value.ref _) (Value.str _ _)) _ _ _); k_dflt (refine' di_tailS (knd := strKind PR _) ?N ?m ?D (strKind_is _ _ _ _) ?v ?_; (case N => k_asm); (case m => k_mem); (case D => assumption); (case v => exact rfl)); intro _) | ((with_reducible show wpAny _ _ (call (Value.builtin "len") [Value.ref _]) _ _ _); k_dflt (refine' len_seq ?N ?m ?z ?_; (case N => k_asm); (case m => k_mem); (case z => omega)); intro _ _) | ((with_reducible show wpAny _ _ (call (Value.builtin "len") [Value.ref _]) _ _ _); k_dflt (refine' pl_len ?N ?m ?D ?z ?_; (case N => k_asm); (case m => k_mem); (case D => assumption); (case z => omega)); intro _ _) | ((with_reducible show wpAny _ _ (subscriptTail _ _ (Value.ref _) (Value.bytes _ _)) _ _ _); k_dflt (refine' pl_tailS ?N ?m ?D ?v ?_; (case N => k_asm); (case m => k_mem); (case D => assumption); (case v => first | assumption | exact plAt_snoc_some _ _ _ | (simp_all; done))); intro n8 t8 k8 hn8; (try (have hb8 := PlOk.at (by assumption) hn8; obtain ⟨hb8a, hb8b⟩ := hb8))) | ((with_reducible show wpAny _ _ (compareOp CmpOp.In (Value.bytes _ _) (Value.ref _)) _ _ _); k_dflt (refine' pl_in ?N ?m ?D ?_; (case N => k_asm); (case m => k_mem); (case D => assumption)); intro _) | ((with_reducible show wpAny _ _ (call (Value.builtin "len") [Value.bytes _ _]) _ _ _); (refine len_bytes (by (try simp only [Array.size_append]); omega) ?_)) | ((with_reducible show wpAny _ _ (binaryOp Operator.Add (Value.bytes _ _) (Value.bytes _ _)) _ _ _); refine KBy.add_bytes (by first | omega | (simp only [Array.size_append]; omega) | ((try simp only [Array.size_append, List.size_toArray, List.length_map, List.length_cons, List.length_nil, byteArr_size, List.length_append, Array.length_toList]); omega)) ?_; intro _ _)))) | ((with_reducible show WhlIf _ _ _); refine whlIf_cases (fun hB => ?_) (fun hB => ?_) <;> simp only [decide_eq_true_eq, decide_eq_false_iff_not] at hB <;> first | (exfalso; omega) | skip) | walk1 | (leave1; (try dsimp only)) | dsimp only | fail "no step"))
    k_dflt (refine' wpC_callWith_K ?X7 ?hk7 ?_; (case X7 => k_asm); (case hk7 => k_is))
    (repeat' (first | (k_unfold; (try dsimp only)) | (k_end; wrow_close) | ((with_reducible show wpAny _ _ _ _ _ _); first | (with_reducible (first | ((with_reducible show wpAny _ _ (call (Value.ref 80) [Value.int _ _]) _ _ _); k_dflt (refine' useB (c_put_offset _ _ _ ?a ?b) ?k1 ?k2 ?k3 ?k4 ?k5 ?kK ?kd ?ku ?_; (walk_at "MINE_USE0"); (case a => omega); (case b => omega)); intro tk9 h' tk' F' N' hz9; (try k_sweep)) | ((with_reducible show wpAny _ _ (call (Value.ref 210) [Value.ref _, Value.bytes _ _]) _ _ _); k_dflt (refine' useB (c_pack _ _ _ _ ?a) ?k1 ?k2 ?k3 ?k4 ?k5 ?kK ?kd ?ku ?_; (walk_at "MINE_USE0"); (case a => omega)); intro tk9 h' tk' F' N' hz9; (try k_sweep)) | ((with_reducible show wpAny _ _ (call (Value.builtin _) [Value.ref 110, Value.bytes _ _]) _ _ _); k_dflt (refine' kinds_get ?X ?ga ?gb; (case X => exact Frag.In.keeps (by k_asm) (Fr.keep (by k_asm)))); (case' ga => intro n8 t8 k8 hn8); (case' gb => intro k8 hn8)) | ((with_reducible show wpAny _ _ (getMethod (Value.ref 110) _ _) _ _ _); k_dflt (refine' kinds_method ?X ?_; (case X => exact Frag.In.keeps (by k_asm) (Fr.keep (by k_asm))))) | ((with_reducible show wpAny _ _ (exec (PySem.Stmt.Raise (some _) none _) _) _ _ _); refine bad_raise rfl ?_) | ((with_reducible show wpAny _ _ (call (Value.ref 52) [Value.str _ _]) _ _ _); k_dflt (refine' make_bad ?k1 ?k2 ?k3 ?k5 ?kK ?kd ?ku ?_; (case k1 => k_asm); (case k2 => k_asm); (case k3 => k_asm); (case k5 => k_asm); (case kK => first | exact rfl | assumption); (case kd => ktr_room); (case ku => ktr_units)); intro h8 k8 e8 hB8) | ((with_reducible show wpAny _ _ (subscriptTail _ _ (Value.ref _) (Value.str _ _)) _ _ _); k_dflt (refine' di_tailS (knd := strKind PR _) ?N ?m ?D (strKind_is _ _ _ _) ?v ?_; (case N => k_asm); (case m => k_mem); (case D => assumption); (case v => exact rfl)); intro _) | ((with_reducible show wpAny _ _ (call (Value.builtin "len") [Value.ref _]) _ _ _); k_dflt (refine' len_seq ?N ?m ?z ?_; (case N => k_asm); (case m => k_mem); (case z => omega)); intro _ _) | ((with_reducible show wpAny _ _ (call (Value.builtin "len") [Value.ref _]) _ _ _); k_dflt (refine' pl_len ?N ?m ?D ?z ?_; (case N => k_asm); (case m => k_mem); (case D => assumption); (case z => omega)); intro _ _) | ((with_reducible show wpAny _ _ (subscriptTail _ _ (Value.ref _) (Value.bytes _ _)) _ _ _); k_dflt (refine' pl_tailS ?N ?m ?D ?v ?_; (case N => k_asm); (case m => k_mem); (case D => assumption); (case v => first | assumption | exact plAt_snoc_some _ _ _ | (simp_all; done))); intro n8 t8 k8 hn8; (try (have hb8 := PlOk.at (by assumption) hn8; obtain ⟨hb8a, hb8b⟩ := hb8))) | ((with_reducible show wpAny _ _ (compareOp CmpOp.In (Value.bytes _ _) (Value.ref _)) _ _ _); k_dflt (refine' pl_in ?N ?m ?D ?_; (case N => k_asm); (case m => k_mem); (case D => assumption)); intro _) | ((with_reducible show wpAny _ _ (call (Value.builtin "len") [Value.bytes _ _]) _ _ _); (refine len_bytes (by (try simp only [Array.size_append]); omega) ?_)) | ((with_reducible show wpAny _ _ (binaryOp Operator.Add (Value.bytes _ _) (Value.bytes _ _)) _ _ _); refine KBy.add_bytes (by first | omega | (simp only [Array.size_append]; omega) | ((try simp only [Array.size_append, List.size_toArray, List.length_map, List.length_cons, List.length_nil, byteArr_size, List.length_append, Array.length_toList]); omega)) ?_; intro _ _)))) | ((with_reducible show WhlIf _ _ _); refine whlIf_cases (fun hB => ?_) (fun hB => ?_) <;> simp only [decide_eq_true_eq, decide_eq_false_iff_not] at hB <;> first | (exfalso; omega) | skip) | walk1 | (leave1; (try dsimp only)) | dsimp only | fail "no step"))
    k_dflt (refine' useCB (c_entry_head _ _ _ _ _ ?a7 ?b7 ?c7 ?d7) ?p7 ?q7 ?r7 ?s7 ?t7 ?u7 ?v7 ?w7 ?_)
    case p7 => k_asm
    case q7 => k_asm
    case r7 => k_asm
    case s7 => k_asm
    case t7 => k_asm
    case u7 => first | exact rfl | assumption
    case v7 => ktr_room
    case w7 => ktr_units
    case a7 => omega
    case b7 => omega
    case c7 => decide
    case d7 => decide
    intro tk9 h' tk' F' N' hz9
    try k_sweep
    (repeat' (first | (k_unfold; (try dsimp only)) | (k_end; wrow_close) | ((with_reducible show wpAny _ _ _ _ _ _); first | (with_reducible (first | ((with_reducible show wpAny _ _ (call (Value.ref 80) [Value.int _ _]) _ _ _); k_dflt (refine' useB (c_put_offset _ _ _ ?a ?b) ?k1 ?k2 ?k3 ?k4 ?k5 ?kK ?kd ?ku ?_; (walk_at "MINE_USE0"); (case a => omega); (case b => omega)); intro tk9 h' tk' F' N' hz9; (try k_sweep)) | ((with_reducible show wpAny _ _ (call (Value.ref 210) [Value.ref _, Value.bytes _ _]) _ _ _); k_dflt (refine' useB (c_pack _ _ _ _ ?a) ?k1 ?k2 ?k3 ?k4 ?k5 ?kK ?kd ?ku ?_; (walk_at "MINE_USE0"); (case a => omega)); intro tk9 h' tk' F' N' hz9; (try k_sweep)) | ((with_reducible show wpAny _ _ (call (Value.builtin _) [Value.ref 110, Value.bytes _ _]) _ _ _); k_dflt (refine' kinds_get ?X ?ga ?gb; (case X => exact Frag.In.keeps (by k_asm) (Fr.keep (by k_asm)))); (case' ga => intro n8 t8 k8 hn8); (case' gb => intro k8 hn8)) | ((with_reducible show wpAny _ _ (getMethod (Value.ref 110) _ _) _ _ _); k_dflt (refine' kinds_method ?X ?_; (case X => exact Frag.In.keeps (by k_asm) (Fr.keep (by k_asm))))) | ((with_reducible show wpAny _ _ (exec (PySem.Stmt.Raise (some _) none _) _) _ _ _); refine bad_raise rfl ?_) | ((with_reducible show wpAny _ _ (call (Value.ref 52) [Value.str _ _]) _ _ _); k_dflt (refine' make_bad ?k1 ?k2 ?k3 ?k5 ?kK ?kd ?ku ?_; (case k1 => k_asm); (case k2 => k_asm); (case k3 => k_asm); (case k5 => k_asm); (case kK => first | exact rfl | assumption); (case kd => ktr_room); (case ku => ktr_units)); intro h8 k8 e8 hB8) | ((with_reducible show wpAny _ _ (subscriptTail _ _ (Value.ref _) (Value.str _ _)) _ _ _); k_dflt (refine' di_tailS (knd := strKind PR _) ?N ?m ?D (strKind_is _ _ _ _) ?v ?_; (case N => k_asm); (case m => k_mem); (case D => assumption); (case v => exact rfl)); intro _) | ((with_reducible show wpAny _ _ (call (Value.builtin "len") [Value.ref _]) _ _ _); k_dflt (refine' len_seq ?N ?m ?z ?_; (case N => k_asm); (case m => k_mem); (case z => omega)); intro _ _) | ((with_reducible show wpAny _ _ (call (Value.builtin "len") [Value.ref _]) _ _ _); k_dflt (refine' pl_len ?N ?m ?D ?z ?_; (case N => k_asm); (case m => k_mem); (case D => assumption); (case z => omega)); intro _ _) | ((with_reducible show wpAny _ _ (subscriptTail _ _ (Value.ref _) (Value.bytes _ _)) _ _ _); k_dflt (refine' pl_tailS ?N ?m ?D ?v ?_; (case N => k_asm); (case m => k_mem); (case D => assumption); (case v => first | assumption | exact plAt_snoc_some _ _ _ | (simp_all; done))); intro n8 t8 k8 hn8; (try (have hb8 := PlOk.at (by assumption) hn8; obtain ⟨hb8a, hb8b⟩ := hb8))) | ((with_reducible show wpAny _ _ (compareOp CmpOp.In (Value.bytes _ _) (Value.ref _)) _ _ _); k_dflt (refine' pl_in ?N ?m ?D ?_; (case N => k_asm); (case m => k_mem); (case D => assumption)); intro _) | ((with_reducible show wpAny _ _ (call (Value.builtin "len") [Value.bytes _ _]) _ _ _); (refine len_bytes (by (try simp only [Array.size_append]); omega) ?_)) | ((with_reducible show wpAny _ _ (binaryOp Operator.Add (Value.bytes _ _) (Value.bytes _ _)) _ _ _); refine KBy.add_bytes (by first | omega | (simp only [Array.size_append]; omega) | ((try simp only [Array.size_append, List.size_toArray, List.length_map, List.length_cons, List.length_nil, byteArr_size, List.length_append, Array.length_toList]); omega)) ?_; intro _ _)))) | ((with_reducible show WhlIf _ _ _); refine whlIf_cases (fun hB => ?_) (fun hB => ?_) <;> simp only [decide_eq_true_eq, decide_eq_false_iff_not] at hB <;> first | (exfalso; omega) | skip) | walk1 | (leave1; (try dsimp only)) | dsimp only | fail "no step"))
    refine' hret _ _ _ ?x4 (piece_ok ?N4 ?S4 ?w4 ?z4)
    case x4 => walk_at "MINE_AGREE"
    case N4 => assumption
    case S4 => walk_at "MINE_SUB"
    case w4 => exact piece_id (by first | exact .inr (by assumption) | exact .inl (by assumption))
    case z4 => (simp only [Array.size_append] at *; omega)
  · refine wpC_execs_nil ?_
    try dsimp only
    refine wpC_execs_cons (wpC_Return (wpC_BinOpS (wpC_BinOpS (wpC_Call ?_))))
    (repeat' (first | (k_unfold; (try dsimp only)) | (k_end; wrow_close) | ((with_reducible show wpAny _ _ _ _ _ _); first | (with_reducible (first | ((with_reducible show wpAny _ _ (call (Value.ref 80) [Value.int _ _]) _ _ _); k_dflt (refine' useB (c_put_offset _ _ _ ?a ?b) ?k1 ?k2 ?k3 ?k4 ?k5 ?kK ?kd ?ku ?_; (walk_at "MINE_USE0"); (case a => omega); (case b => omega)); intro tk9 h' tk' F' N' hz9; (try k_sweep)) | ((with_reducible show wpAny _ _ (call (Value.ref 210) [Value.ref _, Value.bytes _ _]) _ _ _); k_dflt (refine' useB (c_pack _ _ _ _ ?a) ?k1 ?k2 ?k3 ?k4 ?k5 ?kK ?kd ?ku ?_; (walk_at "MINE_USE0"); (case a => omega)); intro tk9 h' tk' F' N' hz9; (try k_sweep)) | ((with_reducible show wpAny _ _ (call (Value.builtin _) [Value.ref 110, Value.bytes _ _]) _ _ _); k_dflt (refine' kinds_get ?X ?ga ?gb; (case X => exact Frag.In.keeps (by k_asm) (Fr.keep (by k_asm)))); (case' ga => intro n8 t8 k8 hn8); (case' gb => intro k8 hn8)) | ((with_reducible show wpAny _ _ (getMethod (Value.ref 110) _ _) _ _ _); k_dflt (refine' kinds_method ?X ?_; (case X => exact Frag.In.keeps (by k_asm) (Fr.keep (by k_asm))))) | ((with_reducible show wpAny _ _ (exec (PySem.Stmt.Raise (some _) none _) _) _ _ _); refine bad_raise rfl ?_) | ((with_reducible show wpAny _ _ (call (Value.ref 52) [Value.str _ _]) _ _ _); k_dflt (refine' make_bad ?k1 ?k2 ?k3 ?k5 ?kK ?kd ?ku ?_; (case k1 => k_asm); (case k2 => k_asm); (case k3 => k_asm); (case k5 => k_asm); (case kK => first | exact rfl | assumption); (case kd => ktr_room); (case ku => ktr_units)); intro h8 k8 e8 hB8) | ((with_reducible show wpAny _ _ (subscriptTail _ _ (Value.ref _) (Value.str _ _)) _ _ _); k_dflt (refine' di_tailS (knd := strKind PR _) ?N ?m ?D (strKind_is _ _ _ _) ?v ?_; (case N => k_asm); (case m => k_mem); (case D => assumption); (case v => exact rfl)); intro _) | ((with_reducible show wpAny _ _ (call (Value.builtin "len") [Value.ref _]) _ _ _); k_dflt (refine' len_seq ?N ?m ?z ?_; (case N => k_asm); (case m => k_mem); (case z => omega)); intro _ _) | ((with_reducible show wpAny _ _ (call (Value.builtin "len") [Value.ref _]) _ _ _); k_dflt (refine' pl_len ?N ?m ?D ?z ?_; (case N => k_asm); (case m => k_mem); (case D => assumption); (case z => omega)); intro _ _) | ((with_reducible show wpAny _ _ (subscriptTail _ _ (Value.ref _) (Value.bytes _ _)) _ _ _); k_dflt (refine' pl_tailS ?N ?m ?D ?v ?_; (case N => k_asm); (case m => k_mem); (case D => assumption); (case v => first | assumption | exact plAt_snoc_some _ _ _ | (simp_all; done))); intro n8 t8 k8 hn8; (try (have hb8 := PlOk.at (by assumption) hn8; obtain ⟨hb8a, hb8b⟩ := hb8))) | ((with_reducible show wpAny _ _ (compareOp CmpOp.In (Value.bytes _ _) (Value.ref _)) _ _ _); k_dflt (refine' pl_in ?N ?m ?D ?_; (case N => k_asm); (case m => k_mem); (case D => assumption)); intro _) | ((with_reducible show wpAny _ _ (call (Value.builtin "len") [Value.bytes _ _]) _ _ _); (refine len_bytes (by (try simp only [Array.size_append]); omega) ?_)) | ((with_reducible show wpAny _ _ (binaryOp Operator.Add (Value.bytes _ _) (Value.bytes _ _)) _ _ _); refine KBy.add_bytes (by first | omega | (simp only [Array.size_append]; omega) | ((try simp only [Array.size_append, List.size_toArray, List.length_map, List.length_cons, List.length_nil, byteArr_size, List.length_append, Array.length_toList]); omega)) ?_; intro _ _)))) | ((with_reducible show WhlIf _ _ _); refine whlIf_cases (fun hB => ?_) (fun hB => ?_) <;> simp only [decide_eq_true_eq, decide_eq_false_iff_not] at hB <;> first | (exfalso; omega) | skip) | walk1 | (leave1; (try dsimp only)) | dsimp only | fail "no step"))
    k_dflt (refine' wpC_callWith_K ?X8 ?hk8 ?_; (case X8 => k_asm); (case hk8 => k_is))
    (repeat' (first | (k_unfold; (try dsimp only)) | (k_end; wrow_close) | ((with_reducible show wpAny _ _ _ _ _ _); first | (with_reducible (first | ((with_reducible show wpAny _ _ (call (Value.ref 80) [Value.int _ _]) _ _ _); k_dflt (refine' useB (c_put_offset _ _ _ ?a ?b) ?k1 ?k2 ?k3 ?k4 ?k5 ?kK ?kd ?ku ?_; (walk_at "MINE_USE0"); (case a => omega); (case b => omega)); intro tk9 h' tk' F' N' hz9; (try k_sweep)) | ((with_reducible show wpAny _ _ (call (Value.ref 210) [Value.ref _, Value.bytes _ _]) _ _ _); k_dflt (refine' useB (c_pack _ _ _ _ ?a) ?k1 ?k2 ?k3 ?k4 ?k5 ?kK ?kd ?ku ?_; (walk_at "MINE_USE0"); (case a => omega)); intro tk9 h' tk' F' N' hz9; (try k_sweep)) | ((with_reducible show wpAny _ _ (call (Value.builtin _) [Value.ref 110, Value.bytes _ _]) _ _ _); k_dflt (refine' kinds_get ?X ?ga ?gb; (case X => exact Frag.In.keeps (by k_asm) (Fr.keep (by k_asm)))); (case' ga => intro n8 t8 k8 hn8); (case' gb => intro k8 hn8)) | ((with_reducible show wpAny _ _ (getMethod (Value.ref 110) _ _) _ _ _); k_dflt (refine' kinds_method ?X ?_; (case X => exact Frag.In.keeps (by k_asm) (Fr.keep (by k_asm))))) | ((with_reducible show wpAny _ _ (exec (PySem.Stmt.Raise (some _) none _) _) _ _ _); refine bad_raise rfl ?_) | ((with_reducible show wpAny _ _ (call (Value.ref 52) [Value.str _ _]) _ _ _); k_dflt (refine' make_bad ?k1 ?k2 ?k3 ?k5 ?kK ?kd ?ku ?_; (case k1 => k_asm); (case k2 => k_asm); (case k3 => k_asm); (case k5 => k_asm); (case kK => first | exact rfl | assumption); (case kd => ktr_room); (case ku => ktr_units)); intro h8 k8 e8 hB8) | ((with_reducible show wpAny _ _ (subscriptTail _ _ (Value.ref _) (Value.str _ _)) _ _ _); k_dflt (refine' di_tailS (knd := strKind PR _) ?N ?m ?D (strKind_is _ _ _ _) ?v ?_; (case N => k_asm); (case m => k_mem); (case D => assumption); (case v => exact rfl)); intro _) | ((with_reducible show wpAny _ _ (call (Value.builtin "len") [Value.ref _]) _ _ _); k_dflt (refine' len_seq ?N ?m ?z ?_; (case N => k_asm); (case m => k_mem); (case z => omega)); intro _ _) | ((with_reducible show wpAny _ _ (call (Value.builtin "len") [Value.ref _]) _ _ _); k_dflt (refine' pl_len ?N ?m ?D ?z ?_; (case N => k_asm); (case m => k_mem); (case D => assumption); (case z => omega)); intro _ _) | ((with_reducible show wpAny _ _ (subscriptTail _ _ (Value.ref _) (Value.bytes _ _)) _ _ _); k_dflt (refine' pl_tailS ?N ?m ?D ?v ?_; (case N => k_asm); (case m => k_mem); (case D => assumption); (case v => first | assumption | exact plAt_snoc_some _ _ _ | (simp_all; done))); intro n8 t8 k8 hn8; (try (have hb8 := PlOk.at (by assumption) hn8; obtain ⟨hb8a, hb8b⟩ := hb8))) | ((with_reducible show wpAny _ _ (compareOp CmpOp.In (Value.bytes _ _) (Value.ref _)) _ _ _); k_dflt (refine' pl_in ?N ?m ?D ?_; (case N => k_asm); (case m => k_mem); (case D => assumption)); intro _) | ((with_reducible show wpAny _ _ (call (Value.builtin "len") [Value.bytes _ _]) _ _ _); (refine len_bytes (by (try simp only [Array.size_append]); omega) ?_)) | ((with_reducible show wpAny _ _ (binaryOp Operator.Add (Value.bytes _ _) (Value.bytes _ _)) _ _ _); refine KBy.add_bytes (by first | omega | (simp only [Array.size_append]; omega) | ((try simp only [Array.size_append, List.size_toArray, List.length_map, List.length_cons, List.length_nil, byteArr_size, List.length_append, Array.length_toList]); omega)) ?_; intro _ _)))) | ((with_reducible show WhlIf _ _ _); refine whlIf_cases (fun hB => ?_) (fun hB => ?_) <;> simp only [decide_eq_true_eq, decide_eq_false_iff_not] at hB <;> first | (exfalso; omega) | skip) | walk1 | (leave1; (try dsimp only)) | dsimp only | fail "no step"))
    k_dflt (refine' useCB (c_entry_head _ _ _ _ _ ?a8 ?b8 ?c8 ?d8) ?p8 ?q8 ?r8 ?s8 ?t8 ?u8 ?v8 ?w8 ?_)
    case p8 => k_asm
    case q8 => k_asm
    case r8 => k_asm
    case s8 => k_asm
    case t8 => k_asm
    case u8 => first | exact rfl | assumption
    case v8 => ktr_room
    case w8 => ktr_units
    case a8 => omega
    case b8 => omega
    case c8 => decide
    case d8 => decide
    intro tk9 h' tk' F' N' hz9
    try k_sweep
    (repeat' (first | (k_unfold; (try dsimp only)) | (k_end; wrow_close) | ((with_reducible show wpAny _ _ _ _ _ _); first | (with_reducible (first | ((with_reducible show wpAny _ _ (call (Value.ref 80) [Value.int _ _]) _ _ _); k_dflt (refine' useB (c_put_offset _ _ _ ?a ?b) ?k1 ?k2 ?k3 ?k4 ?k5 ?kK ?kd ?ku ?_; (walk_at "MINE_USE0"); (case a => omega); (case b => omega)); intro tk9 h' tk' F' N' hz9; (try k_sweep)) | ((with_reducible show wpAny _ _ (call (Value.ref 210) [Value.ref _, Value.bytes _ _]) _ _ _); k_dflt (refine' useB (c_pack _ _ _ _ ?a) ?k1 ?k2 ?k3 ?k4 ?k5 ?kK ?kd ?ku ?_; (walk_at "MINE_USE0"); (case a => omega)); intro tk9 h' tk' F' N' hz9; (try k_sweep)) | ((with_reducible show wpAny _ _ (call (Value.builtin _) [Value.ref 110, Value.bytes _ _]) _ _ _); k_dflt (refine' kinds_get ?X ?ga ?gb; (case X => exact Frag.In.keeps (by k_asm) (Fr.keep (by k_asm)))); (case' ga => intro n8 t8 k8 hn8); (case' gb => intro k8 hn8)) | ((with_reducible show wpAny _ _ (getMethod (Value.ref 110) _ _) _ _ _); k_dflt (refine' kinds_method ?X ?_; (case X => exact Frag.In.keeps (by k_asm) (Fr.keep (by k_asm))))) | ((with_reducible show wpAny _ _ (exec (PySem.Stmt.Raise (some _) none _) _) _ _ _); refine bad_raise rfl ?_) | ((with_reducible show wpAny _ _ (call (Value.ref 52) [Value.str _ _]) _ _ _); k_dflt (refine' make_bad ?k1 ?k2 ?k3 ?k5 ?kK ?kd ?ku ?_; (case k1 => k_asm); (case k2 => k_asm); (case k3 => k_asm); (case k5 => k_asm); (case kK => first | exact rfl | assumption); (case kd => ktr_room); (case ku => ktr_units)); intro h8 k8 e8 hB8) | ((with_reducible show wpAny _ _ (subscriptTail _ _ (Value.ref _) (Value.str _ _)) _ _ _); k_dflt (refine' di_tailS (knd := strKind PR _) ?N ?m ?D (strKind_is _ _ _ _) ?v ?_; (case N => k_asm); (case m => k_mem); (case D => assumption); (case v => exact rfl)); intro _) | ((with_reducible show wpAny _ _ (call (Value.builtin "len") [Value.ref _]) _ _ _); k_dflt (refine' len_seq ?N ?m ?z ?_; (case N => k_asm); (case m => k_mem); (case z => omega)); intro _ _) | ((with_reducible show wpAny _ _ (call (Value.builtin "len") [Value.ref _]) _ _ _); k_dflt (refine' pl_len ?N ?m ?D ?z ?_; (case N => k_asm); (case m => k_mem); (case D => assumption); (case z => omega)); intro _ _) | ((with_reducible show wpAny _ _ (subscriptTail _ _ (Value.ref _) (Value.bytes _ _)) _ _ _); k_dflt (refine' pl_tailS ?N ?m ?D ?v ?_; (case N => k_asm); (case m => k_mem); (case D => assumption); (case v => first | assumption | exact plAt_snoc_some _ _ _ | (simp_all; done))); intro n8 t8 k8 hn8; (try (have hb8 := PlOk.at (by assumption) hn8; obtain ⟨hb8a, hb8b⟩ := hb8))) | ((with_reducible show wpAny _ _ (compareOp CmpOp.In (Value.bytes _ _) (Value.ref _)) _ _ _); k_dflt (refine' pl_in ?N ?m ?D ?_; (case N => k_asm); (case m => k_mem); (case D => assumption)); intro _) | ((with_reducible show wpAny _ _ (call (Value.builtin "len") [Value.bytes _ _]) _ _ _); (refine len_bytes (by (try simp only [Array.size_append]); omega) ?_)) | ((with_reducible show wpAny _ _ (binaryOp Operator.Add (Value.bytes _ _) (Value.bytes _ _)) _ _ _); refine KBy.add_bytes (by first | omega | (simp only [Array.size_append]; omega) | ((try simp only [Array.size_append, List.size_toArray, List.length_map, List.length_cons, List.length_nil, byteArr_size, List.length_append, Array.length_toList]); omega)) ?_; intro _ _)))) | ((with_reducible show WhlIf _ _ _); refine whlIf_cases (fun hB => ?_) (fun hB => ?_) <;> simp only [decide_eq_true_eq, decide_eq_false_iff_not] at hB <;> first | (exfalso; omega) | skip) | walk1 | (leave1; (try dsimp only)) | dsimp only | fail "no step"))
    refine' hret _ _ _ ?x5 (piece_ok ?N5 ?S5 ?w5 ?z5)
    case x5 => walk_at "MINE_AGREE"
    case N5 => assumption
    case S5 => walk_at "MINE_SUB"
    case w5 => exact piece_id (by first | exact .inr (by assumption) | exact .inl (by assumption))
    case z5 => (simp only [Array.size_append] at *; omega)


end
theorem walk_reset16 : True ∧ True := by first | (walk1 <;> trivial) | exact ⟨trivial, trivial⟩
section
open PySem PySem.W PySem.Calls PyProof.Rows
set_option Elab.async false
set_option maxRecDepth 100000
noncomputable abbrev asP (w : World) (b bd e ed C0 cd PlB x PcB : Addr) (u1 u2 u3 u4 u5 u6 v1 v2 v3 v4 v5 : Tok) (n1 n2 : Nat) (opl : Obj) (bp : Bool) (len : Int) (tl : Tok) (vo vk vc vb vd : Value) : List (Addr × Obj) :=
  [(b, instObj 185 bd), (bd, buObj w u1 u2 u3 u4 u5 u6 x C0 PcB PlB bp len tl n1), (e, instObj 142 ed), (ed, edObj w v1 v2 v3 v4 v5 vo vk vc vb vd n2), (C0, instObj 221 cd), (cd, emptyDict), (PlB, opl)]
theorem c_piece_of (w : World) (b bd e ed C0 cd PlB x PcB : Addr) (u1 u2 u3 u4 u5 u6 v1 v2 v3 v4 v5 : Tok) (n1 n2 : Nat) (opl : Obj) (bp : Bool) (pl : List (List UInt8 × Int)) (len : Int) (tl : Tok) (r : Row) (vo vk vc vb vd : Value)
    (hr : r.ok) (hV : RowV r vo vk vc vb vd) (hP : Pl w PlB opl pl) (hO : PlOk pl len) (hl0 : 0 ≤ len) (hl1 : len ≤ 9000) :
    SpX w 168 [.ref b, .ref e] (asP w b bd e ed C0 cd PlB x PcB u1 u2 u3 u4 u5 u6 v1 v2 v3 v4 v5 n1 n2 opl bp len tl vo vk vc vb vd) 6 60 (pieceOf bp pl len r = none)
    (fun _ v h' => PieceOk (pieceOf bp pl len r) (asP w b bd e ed C0 cd PlB x PcB u1 u2 u3 u4 u5 u6 v1 v2 v3 v4 v5 n1 n2 opl bp len tl vo vk vc vb vd) v h') := by
  obtain ⟨ob, kb, ct, base, dl⟩ := r
  obtain ⟨⟨to, rfl⟩, ⟨tk, rfl⟩, hc, hb, hd⟩ := hV
  obtain ⟨h1, h2, h3, h4, h5, h6⟩ := hr
  rcases h6 with ⟨bb, db, e1, e2⟩ | ⟨e1, e2, cb, e3⟩ | ⟨bb, e1, e2, e3⟩
  · dsimp only at e1 e2 h4 h5 hb hd
    subst e1 e2
    obtain ⟨tb, rfl⟩ := hb
    obtain ⟨td, rfl⟩ := hd
    exact c_piece_of1 w b bd e ed C0 cd PlB x PcB u1 u2 u3 u4 u5 u6 v1 v2 v3 v4 v5 n1 n2 opl bp pl len tl to tk tb td ob kb bb db ct vc hP hO hl0 hl1 (h4 _ rfl) (h5 _ rfl)
  · dsimp only at e1 e2 e3 h3 hb hd hc
    subst e1 e2 e3
    obtain ⟨tc, rfl⟩ := hc
    obtain rfl : vb = .none := hb
    obtain rfl : vd = .none := hd
    exact c_piece_of2 w b bd e ed C0 cd PlB x PcB u1 u2 u3 u4 u5 u6 v1 v2 v3 v4 v5 n1 n2 opl bp pl len tl to tk tc ob kb cb (h3 _ rfl)
  · dsimp only at e1 e2 e3 hb hd hc
    subst e1 e2 e3
    obtain ⟨tb, rfl⟩ := hb
    obtain rfl : vc = .none := hc
    obtain rfl : vd = .none := hd
    exact c_piece_of3 w b bd e ed C0 cd PlB x PcB u1 u2 u3 u4 u5 u6 v1 v2 v3 v4 v5 n1 n2 opl bp pl len tl to tk tb ob kb bb
/-- what the pack is behind an add, and what the add tells -/
structure St where
  pl : List (List UInt8 × Int)
  ps : List (Array UInt8)
  len : Int
noncomputable def addSt (bp : Bool) (z : St) (r : Row) : St := match plAt z.pl r.oid.toList, pieceOf bp z.pl z.len r with
  | none, some pc => ⟨z.pl ++ [(r.oid.toList, z.len)], z.ps ++ [pc], z.len + pc.size⟩
  | _, _ => z
noncomputable def addRes (bp : Bool) (z : St) (r : Row) : Option Int := match plAt z.pl r.oid.toList, pieceOf bp z.pl z.len r with
  | some n, _ => some n
  | none, some _ => some z.len
  | none, none => none
section
variable {M : Model} {A : Around} {E : Value → Shared → Prop} {s' : Shared} {base g g₂ h : Heap} {outer : List Env} {L a e : Addr} {m : Str → Option Value} {name : Str} {scope : Scope} {cd : Value} {Q : Unit → Shared → Prop} {as as₂ rest : List (Addr × Obj)} {cls : Value}
/-- it passes a frame that does not catch it -/
theorem raise_on (K : Below A base outer g) (N : News g L h rest) (hA : Agree as₂ h g₂) (hr : ∀ q ∈ rest, q.1 ∉ as₂.map (·.1)) (F : Fr g L g₂ m) (R : RaisedSN base g₂ (envOf name scope L a cd :: outer) e cls as₂ s'.heap) (hsm : g₂.UpToSlots s'.heap)
    (hs : ∀ q ∈ as, q ∈ as₂ ∨ q ∈ rest) (hQ : ∀ h', RaisedSN base g outer e cls as h' → g.UpToSlots h' → Q () { s' with heap := h' }) :
    wpAny M (A.deeper (envOf name scope L a cd)) («leaving» (envOf name scope L a cd) (.ref e)) Q E s' := by
  have key : ∀ q ∈ rest, q.1 ∉ (envOf name scope L a cd :: outer).filterMap (·.frame) := fun q hq hm => by
    rcases kts_mem hm with z | z
    · exact (N q hq).2.1 z
    · obtain ⟨_, o, ho, _⟩ := K.frames.mem z
      rw [(N q hq).2.2] at ho; cases ho
  obtain ⟨B, a0, hB, hBG, hl, hfl⟩ := R
  refine wpAny_leaves_onW (Around.frames_deeper K.stack) rfl hfl fun h' x1 x2 => hQ h' ⟨B, a0, hB, fun b o q nm => hBG b o (F.keep b o q) (fun hm => ?_), fun q hq => ?_, x1⟩ ((Heap.UpToSlots.of_keeps F.keep).trans (hsm.trans x2))
  · rcases kts_mem hm with z | z
    · rw [z, kts_self F] at q
      cases q
    · exact nm z
  · rcases hs q hq with hq | hq
    · exact ⟨(hl q hq).1, kts_none F.keep (hl q hq).2.1, (hl q hq).2.2⟩
    · exact ⟨hBG _ _ (hA _ _ (N q hq).1 (hr q hq)) (key q hq), (N q hq).2.2, fresh_of_stays K.stays (N q hq).2.2⟩
end
/-- what an add leaves behind: the pack is counted on, all else stands -/
noncomputable def AddPost (w : World) (b bd e ed C0 cd PlB x PcB : Addr) (u1 u2 u3 u4 u5 u6 v1 v2 v3 v4 v5 : Tok) (n2 : Nat) (bp : Bool) (z : St) (vo vk vc vb vd : Value) (h' : Heap) : Prop :=
  ∃ opl' tl' np' vs', Pl w PlB opl' z.pl ∧ BV vs' z.ps ∧ ∀ q ∈ asP w b bd e ed C0 cd PlB x PcB u1 u2 u3 u4 u5 u6 v1 v2 v3 v4 v5 6 n2 opl' bp z.len tl' vo vk vc vb vd ++ [(PcB, lsObj vs' np')], h'.get? q.1 = some q.2
theorem addRes_old {bp : Bool} {z : St} {r : Row} {n : Int} (h : plAt z.pl r.oid.toList = some n) : addRes bp z r = some n := by simp only [addRes, h]
theorem addSt_old {bp : Bool} {z : St} {r : Row} (h : (plAt z.pl r.oid.toList).isSome = true) : addSt bp z r = z := by
  obtain ⟨n, hn⟩ := Option.isSome_iff_exists.mp h
  simp only [addSt, hn]
theorem addRes_new {bp : Bool} {z : St} {r : Row} {pc : Array UInt8} (h : plAt z.pl r.oid.toList = none) (hp : pieceOf bp z.pl z.len r = some pc) : addRes bp z r = some z.len := by simp only [addRes, h, hp]
theorem addSt_new {bp : Bool} {z : St} {r : Row} {pc : Array UInt8} (h : plAt z.pl r.oid.toList = none) (hp : pieceOf bp z.pl z.len r = some pc) : addSt bp z r = ⟨z.pl ++ [(r.oid.toList, z.len)], z.ps ++ [pc], z.len + pc.size⟩ := by simp only [addSt, h, hp]
theorem addRes_bad {bp : Bool} {z : St} {r : Row} (h : plAt z.pl r.oid.toList = none) (hp : pieceOf bp z.pl z.len r = none) : addRes bp z r = none := by simp only [addRes, h, hp]
theorem addSt_bad {bp : Bool} {z : St} {r : Row} (hp : pieceOf bp z.pl z.len r = none) : addSt bp z r = z := by
  cases h : plAt z.pl r.oid.toList <;> simp only [addSt, h, hp]
local macro_rules | `(tactic| walk_at "MINE_SUB") => `(tactic| (intro q hq; exact hq))
set_option maxHeartbeats 1000000 in
theorem c_add (w : World) (b bd e ed C0 cd PlB x PcB : Addr) (u1 u2 u3 u4 u5 u6 v1 v2 v3 v4 v5 : Tok) (n2 np : Nat) (opl : Obj) (bp : Bool) (z : St) (tl : Tok) (r : Row) (vo vk vc vb vd : Value) (vs : List Value)
    (hnd : [b, bd, e, ed, C0, cd, PlB, PcB].Nodup) (hr : r.ok) (hV : RowV r vo vk vc vb vd) (hP : Pl w PlB opl z.pl) (hO : PlOk z.pl z.len) (hl0 : 0 ≤ z.len) (hl1 : z.len ≤ 8000) (hpl : z.pl.length ≤ 50) (hB : BV vs z.ps) (hps : z.ps.length ≤ 50) :
    SpX w 175 [.ref b, .ref e] (asP w b bd e ed C0 cd PlB x PcB u1 u2 u3 u4 u5 u6 v1 v2 v3 v4 v5 6 n2 opl bp z.len tl vo vk vc vb vd ++ [(PcB, lsObj vs np)]) 8 80 (addRes bp z r = none)
    (fun _ v h' => (∃ n t, addRes bp z r = some n ∧ v = .int n t) ∧ AddPost w b bd e ed C0 cd PlB x PcB u1 u2 u3 u4 u5 u6 v1 v2 v3 v4 v5 n2 bp (addSt bp z r) vo vk vc vb vd h') := by
  have hfill : Fill PySem.Challenge.rw_pb0104_01 KF := by k_fill; trivial
  have hlen := hB.length
  have hPO := c_piece_of w b bd e ed C0 cd PlB x PcB u1 u2 u3 u4 u5 u6 v1 v2 v3 v4 v5 6 n2 opl bp z.pl z.len tl r vo vk vc vb vd hr hV hP hO hl0 (by omega)
  obtain ⟨pl, ps, len⟩ := z
  dsimp only at *
  obtain ⟨⟨to, rfl⟩, ⟨tk, rfl⟩, hV3⟩ := hV
  unfold SpX
  intro p loose mean mg mb dp un gd cn cs a ccd cl outer A₀ base h₀ L m s Q E B F X N T hk hd hu hret hbad
  (refine wpC_call ?_; k_dflt (refine' enterW ?k1 ?k2 ?k3 ?k4 ?k5 ?kA ?kF ?kK ?k6 ?k7 ?k8 ?k9 ?kB ?_ ?c2 ?c3 ?c4 ?c5; (case kA => exact rfl); (case kF => exact rfl); (case kK => assumption); (case k1 => k_asm); (case k2 => k_asm); (case k3 => k_asm); (case k4 => k_asm); (case k5 => k_asm); (case k6 => k_is); (case k7 => k_is); (case k8 => ktr_room); (case k9 => first | exact BindsTo.of_eq rfl | exact binds_K (by k_in) rfl (by k_is) rfl rfl rfl); (case c5 => decide); (case kB => exact locs rfl); (case c2 => exact rfl); (case c3 => exact rfl); (case c4 => exact rfl); k_whole; intro g' L' h' tk' hG' FG' F' N' B' X' T' l1'; (try k_lt l1'); (try dsimp only); (show (let qk9 : Flow → Shared → Prop := _; let ek9 : Value → Shared → Prop := _; wpC _ _ _ qk9 ek9 _)); intro qk9 ek9))
  refine wpC_execs_cons (wpC_If (wpC_any ?_))
  (repeat' (first | (k_unfold; (try dsimp only)) | (k_end; wrow_close) | ((with_reducible show wpAny _ _ _ _ _ _); first | (with_reducible (first | ((with_reducible show wpAny _ _ (subscriptTail _ _ (Value.ref _) (Value.str _ _)) _ _ _); k_dflt (refine' di_tailS (knd := strKind PR _) ?N ?m ?D (strKind_is _ _ _ _) ?v ?_; (case N => k_asm); (case m => k_mem); (case D => assumption); (case v => exact rfl)); intro _) | ((with_reducible show wpAny _ _ (call (Value.builtin "len") [Value.ref _]) _ _ _); k_dflt (refine' len_seq ?N ?m ?z ?_; (case N => k_asm); (case m => k_mem); (case z => omega)); intro _ _) | ((with_reducible show wpAny _ _ (call (Value.builtin "len") [Value.ref _]) _ _ _); k_dflt (refine' pl_len ?N ?m ?D ?z ?_; (case N => k_asm); (case m => k_mem); (case D => assumption); (case z => omega)); intro _ _) | ((with_reducible show wpAny _ _ (setItem (Value.ref _) (Value.bytes _ _) _) _ _ _); k_dflt (refine' pl_set ?F ?N ?U ?D ?v ?z ?_; (case F => k_asm); (case N => k_asm); (case U => k_updF); (case D => assumption); (case v => first | assumption | (simp_all; done)); (case z => (rw [sizeLine_eq]; omega))); intro h' o' k' F' N' D'; (try dsimp only at N'); (try k_sweep)) | ((with_reducible show wpAny _ _ (subscriptTail _ _ (Value.ref _) (Value.bytes _ _)) _ _ _); k_dflt (refine' pl_tailS ?N ?m ?D ?v ?_; (case N => k_asm); (case m => k_mem); (case D => assumption); (case v => first | assumption | exact plAt_snoc_some _ _ _ | (simp_all; done))); intro n8 t8 k8 hn8; (try (have hb8 := PlOk.at (by assumption) hn8; obtain ⟨hb8a, hb8b⟩ := hb8))) | ((with_reducible show wpAny _ _ (compareOp CmpOp.In (Value.bytes _ _) (Value.ref _)) _ _ _); k_dflt (refine' pl_in ?N ?m ?D ?_; (case N => k_asm); (case m => k_mem); (case D => assumption)); intro _) | ((with_reducible show wpAny _ _ (call (Value.builtin "len") [Value.bytes _ _]) _ _ _); (refine len_bytes (by (try simp only [Array.size_append]); omega) ?_))))) | walk1 | (leave1; (try dsimp only)) | dsimp only | fail "no step"))
  refine whlIf_cases (fun hIn => ?_) (fun hIn => ?_)
  · refine wpC_execs_consA ?_
    (repeat' (first | (k_unfold; (try dsimp only)) | (k_end; wrow_close) | ((with_reducible show wpAny _ _ _ _ _ _); first | (with_reducible (first | ((with_reducible show wpAny _ _ (subscriptTail _ _ (Value.ref _) (Value.str _ _)) _ _ _); k_dflt (refine' di_tailS (knd := strKind PR _) ?N ?m ?D (strKind_is _ _ _ _) ?v ?_; (case N => k_asm); (case m => k_mem); (case D => assumption); (case v => exact rfl)); intro _) | ((with_reducible show wpAny _ _ (call (Value.builtin "len") [Value.ref _]) _ _ _); k_dflt (refine' len_seq ?N ?m ?z ?_; (case N => k_asm); (case m => k_mem); (case z => omega)); intro _ _) | ((with_reducible show wpAny _ _ (call (Value.builtin "len") [Value.ref _]) _ _ _); k_dflt (refine' pl_len ?N ?m ?D ?z ?_; (case N => k_asm); (case m => k_mem); (case D => assumption); (case z => omega)); intro _ _) | ((with_reducible show wpAny _ _ (setItem (Value.ref _) (Value.bytes _ _) _) _ _ _); k_dflt (refine' pl_set ?F ?N ?U ?D ?v ?z ?_; (case F => k_asm); (case N => k_asm); (case U => k_updF); (case D => assumption); (case v => first | assumption | (simp_all; done)); (case z => (rw [sizeLine_eq]; omega))); intro h' o' k' F' N' D'; (try dsimp only at N'); (try k_sweep)) | ((with_reducible show wpAny _ _ (subscriptTail _ _ (Value.ref _) (Value.bytes _ _)) _ _ _); k_dflt (refine' pl_tailS ?N ?m ?D ?v ?_; (case N => k_asm); (case m => k_mem); (case D => assumption); (case v => first | assumption | exact plAt_snoc_some _ _ _ | (simp_all; done))); intro n8 t8 k8 hn8; (try (have hb8 := PlOk.at (by assumption) hn8; obtain ⟨hb8a, hb8b⟩ := hb8))) | ((with_reducible show wpAny _ _ (compareOp CmpOp.In (Value.bytes _ _) (Value.ref _)) _ _ _); k_dflt (refine' pl_in ?N ?m ?D ?_; (case N => k_asm); (case m => k_mem); (case D => assumption)); intro _) | ((with_reducible show wpAny _ _ (call (Value.builtin "len") [Value.bytes _ _]) _ _ _); (refine len_bytes (by (try simp only [Array.size_append]); omega) ?_))))) | walk1 | (leave1; (try dsimp only)) | dsimp only | fail "no step"))
    refine' hret _ _ _ ?x1 ⟨⟨_, _, addRes_old (by assumption), rfl⟩, ?y1⟩
    case x1 => walk_at "MINE_AGREE"
    rw [addSt_old hIn]
    (with_reducible rename News _ _ _ _ => NN)
    exact ⟨_, _, _, _, hP, hB, fun q hq => (NN q hq).1⟩
  · refine wpC_execs_nil ?_
    try dsimp only
    refine wpC_execs_cons (wpC_Assign (wpC_methodCall ?_))
    (repeat' (first | (k_unfold; (try dsimp only)) | (k_end; wrow_close) | ((with_reducible show wpAny _ _ _ _ _ _); first | (with_reducible (first | ((with_reducible show wpAny _ _ (subscriptTail _ _ (Value.ref _) (Value.str _ _)) _ _ _); k_dflt (refine' di_tailS (knd := strKind PR _) ?N ?m ?D (strKind_is _ _ _ _) ?v ?_; (case N => k_asm); (case m => k_mem); (case D => assumption); (case v => exact rfl)); intro _) | ((with_reducible show wpAny _ _ (call (Value.builtin "len") [Value.ref _]) _ _ _); k_dflt (refine' len_seq ?N ?m ?z ?_; (case N => k_asm); (case m => k_mem); (case z => omega)); intro _ _) | ((with_reducible show wpAny _ _ (call (Value.builtin "len") [Value.ref _]) _ _ _); k_dflt (refine' pl_len ?N ?m ?D ?z ?_; (case N => k_asm); (case m => k_mem); (case D => assumption); (case z => omega)); intro _ _) | ((with_reducible show wpAny _ _ (setItem (Value.ref _) (Value.bytes _ _) _) _ _ _); k_dflt (refine' pl_set ?F ?N ?U ?D ?v ?z ?_; (case F => k_asm); (case N => k_asm); (case U => k_updF); (case D => assumption); (case v => first | assumption | (simp_all; done)); (case z => (rw [sizeLine_eq]; omega))); intro h' o' k' F' N' D'; (try dsimp only at N'); (try k_sweep)) | ((with_reducible show wpAny _ _ (subscriptTail _ _ (Value.ref _) (Value.bytes _ _)) _ _ _); k_dflt (refine' pl_tailS ?N ?m ?D ?v ?_; (case N => k_asm); (case m => k_mem); (case D => assumption); (case v => first | assumption | exact plAt_snoc_some _ _ _ | (simp_all; done))); intro n8 t8 k8 hn8; (try (have hb8 := PlOk.at (by assumption) hn8; obtain ⟨hb8a, hb8b⟩ := hb8))) | ((with_reducible show wpAny _ _ (compareOp CmpOp.In (Value.bytes _ _) (Value.ref _)) _ _ _); k_dflt (refine' pl_in ?N ?m ?D ?_; (case N => k_asm); (case m => k_mem); (case D => assumption)); intro _) | ((with_reducible show wpAny _ _ (call (Value.builtin "len") [Value.bytes _ _]) _ _ _); (refine len_bytes (by (try simp only [Array.size_append]); omega) ?_))))) | walk1 | (leave1; (try dsimp only)) | dsimp only | fail "no step"))
    k_dflt (refine' wpC_callWith_K ?X1 ?hk1 ?_; (case X1 => k_asm); (case hk1 => k_is))
    (repeat' (first | (k_unfold; (try dsimp only)) | (k_end; wrow_close) | ((with_reducible show wpAny _ _ _ _ _ _); first | (with_reducible (first | ((with_reducible show wpAny _ _ (subscriptTail _ _ (Value.ref _) (Value.str _ _)) _ _ _); k_dflt (refine' di_tailS (knd := strKind PR _) ?N ?m ?D (strKind_is _ _ _ _) ?v ?_; (case N => k_asm); (case m => k_mem); (case D => assumption); (case v => exact rfl)); intro _) | ((with_reducible show wpAny _ _ (call (Value.builtin "len") [Value.ref _]) _ _ _); k_dflt (refine' len_seq ?N ?m ?z ?_; (case N => k_asm); (case m => k_mem); (case z => omega)); intro _ _) | ((with_reducible show wpAny _ _ (call (Value.builtin "len") [Value.ref _]) _ _ _); k_dflt (refine' pl_len ?N ?m ?D ?z ?_; (case N => k_asm); (case m => k_mem); (case D => assumption); (case z => omega)); intro _ _) | ((with_reducible show wpAny _ _ (setItem (Value.ref _) (Value.bytes _ _) _) _ _ _); k_dflt (refine' pl_set ?F ?N ?U ?D ?v ?z ?_; (case F => k_asm); (case N => k_asm); (case U => k_updF); (case D => assumption); (case v => first | assumption | (simp_all; done)); (case z => (rw [sizeLine_eq]; omega))); intro h' o' k' F' N' D'; (try dsimp only at N'); (try k_sweep)) | ((with_reducible show wpAny _ _ (subscriptTail _ _ (Value.ref _) (Value.bytes _ _)) _ _ _); k_dflt (refine' pl_tailS ?N ?m ?D ?v ?_; (case N => k_asm); (case m => k_mem); (case D => assumption); (case v => first | assumption | exact plAt_snoc_some _ _ _ | (simp_all; done))); intro n8 t8 k8 hn8; (try (have hb8 := PlOk.at (by assumption) hn8; obtain ⟨hb8a, hb8b⟩ := hb8))) | ((with_reducible show wpAny _ _ (compareOp CmpOp.In (Value.bytes _ _) (Value.ref _)) _ _ _); k_dflt (refine' pl_in ?N ?m ?D ?_; (case N => k_asm); (case m => k_mem); (case D => assumption)); intro _) | ((with_reducible show wpAny _ _ (call (Value.builtin "len") [Value.bytes _ _]) _ _ _); (refine len_bytes (by (try simp only [Array.size_append]); omega) ?_))))) | walk1 | (leave1; (try dsimp only)) | dsimp only | fail "no step"))
    simp only [List.nodup_cons, List.mem_cons, List.not_mem_nil, or_false, not_or, not_false_eq_true, List.nodup_nil, and_true] at hnd
    obtain ⟨⟨a1, a2, a3, a4, a5, a6, a7⟩, ⟨a8, a9, a10, a11, a12, a13⟩, ⟨a14, a15, a16, a17, a18⟩, ⟨a19, a20, a21, a22⟩, ⟨a23, a24, a25⟩, ⟨a26, a27⟩, a28⟩ := hnd
    have r1 := Ne.symm a1; have r2 := Ne.symm a2; have r3 := Ne.symm a3; have r4 := Ne.symm a4; have r5 := Ne.symm a5; have r6 := Ne.symm a6; have r7 := Ne.symm a7; have r8 := Ne.symm a8; have r9 := Ne.symm a9; have r10 := Ne.symm a10; have r11 := Ne.symm a11; have r12 := Ne.symm a12; have r13 := Ne.symm a13; have r14 := Ne.symm a14; have r15 := Ne.symm a15; have r16 := Ne.symm a16; have r17 := Ne.symm a17; have r18 := Ne.symm a18; have r19 := Ne.symm a19; have r20 := Ne.symm a20; have r21 := Ne.symm a21; have r22 := Ne.symm a22; have r23 := Ne.symm a23; have r24 := Ne.symm a24; have r25 := Ne.symm a25; have r26 := Ne.symm a26; have r27 := Ne.symm a27; have r28 := Ne.symm a28
    k_dflt (refine' useX0 hPO ?p1 ?p2 ?p3 ?p4 ?p5 ?p6 ?p7 ?p8 (fun q hq => List.mem_append_left [(PcB, lsObj vs np)] hq) (fun _ _ _ hP => hP.2) ?_ ?_; (case p1 => k_asm); (case p2 => k_asm); (case p3 => k_asm); (case p4 => k_asm); (case p5 => k_asm); (case p6 => exact rfl); (case p7 => ktr_room); (case p8 => ktr_units))
    · intro v8 h8 tk8 F8 N8 hPk
      obtain ⟨⟨pc, tpc, hpc, rfl, hz⟩, _⟩ := hPk
      try k_sweep
      (repeat' (first | (k_unfold; (try dsimp only)) | (k_end; wrow_close) | ((with_reducible show wpAny _ _ _ _ _ _); first | (with_reducible (first | ((with_reducible show wpAny _ _ (subscriptTail _ _ (Value.ref _) (Value.str _ _)) _ _ _); k_dflt (refine' di_tailS (knd := strKind PR _) ?N ?m ?D (strKind_is _ _ _ _) ?v ?_; (case N => k_asm); (case m => k_mem); (case D => assumption); (case v => exact rfl)); intro _) | ((with_reducible show wpAny _ _ (call (Value.builtin "len") [Value.ref _]) _ _ _); k_dflt (refine' len_seq ?N ?m ?z ?_; (case N => k_asm); (case m => k_mem); (case z => omega)); intro _ _) | ((with_reducible show wpAny _ _ (call (Value.builtin "len") [Value.ref _]) _ _ _); k_dflt (refine' pl_len ?N ?m ?D ?z ?_; (case N => k_asm); (case m => k_mem); (case D => assumption); (case z => omega)); intro _ _) | ((with_reducible show wpAny _ _ (setItem (Value.ref _) (Value.bytes _ _) _) _ _ _); k_dflt (refine' pl_set ?F ?N ?U ?D ?v ?z ?_; (case F => k_asm); (case N => k_asm); (case U => k_updF); (case D => assumption); (case v => first | assumption | (simp_all; done)); (case z => (rw [sizeLine_eq]; omega))); intro h' o' k' F' N' D'; (try dsimp only at N'); (try k_sweep)) | ((with_reducible show wpAny _ _ (subscriptTail _ _ (Value.ref _) (Value.bytes _ _)) _ _ _); k_dflt (refine' pl_tailS ?N ?m ?D ?v ?_; (case N => k_asm); (case m => k_mem); (case D => assumption); (case v => first | assumption | exact plAt_snoc_some _ _ _ | (simp_all; done))); intro n8 t8 k8 hn8; (try (have hb8 := PlOk.at (by assumption) hn8; obtain ⟨hb8a, hb8b⟩ := hb8))) | ((with_reducible show wpAny _ _ (compareOp CmpOp.In (Value.bytes _ _) (Value.ref _)) _ _ _); k_dflt (refine' pl_in ?N ?m ?D ?_; (case N => k_asm); (case m => k_mem); (case D => assumption)); intro _) | ((with_reducible show wpAny _ _ (call (Value.builtin "len") [Value.bytes _ _]) _ _ _); (refine len_bytes (by (try simp only [Array.size_append]); omega) ?_))))) | walk1 | (leave1; (try dsimp only)) | dsimp only | fail "no step"))
      rw [Option.isSome_eq_false_iff, Option.isNone_iff_eq_none] at hIn
      refine wpC_execs_consA ?_
      (repeat' (first | (k_unfold; (try dsimp only)) | (k_end; wrow_close) | ((with_reducible show wpAny _ _ _ _ _ _); first | (with_reducible (first | ((with_reducible show wpAny _ _ (subscriptTail _ _ (Value.ref _) (Value.str _ _)) _ _ _); k_dflt (refine' di_tailS (knd := strKind PR _) ?N ?m ?D (strKind_is _ _ _ _) ?v ?_; (case N => k_asm); (case m => k_mem); (case D => assumption); (case v => exact rfl)); intro _) | ((with_reducible show wpAny _ _ (call (Value.builtin "len") [Value.ref _]) _ _ _); k_dflt (refine' len_seq ?N ?m ?z ?_; (case N => k_asm); (case m => k_mem); (case z => omega)); intro _ _) | ((with_reducible show wpAny _ _ (call (Value.builtin "len") [Value.ref _]) _ _ _); k_dflt (refine' pl_len ?N ?m ?D ?z ?_; (case N => k_asm); (case m => k_mem); (case D => assumption); (case z => omega)); intro _ _) | ((with_reducible show wpAny _ _ (setItem (Value.ref _) (Value.bytes _ _) _) _ _ _); k_dflt (refine' pl_set ?F ?N ?U ?D ?v ?z ?_; (case F => k_asm); (case N => k_asm); (case U => k_updF); (case D => assumption); (case v => first | assumption | (simp_all; done)); (case z => (rw [sizeLine_eq]; omega))); intro h' o' k' F' N' D'; (try dsimp only at N'); (try k_sweep)) | ((with_reducible show wpAny _ _ (subscriptTail _ _ (Value.ref _) (Value.bytes _ _)) _ _ _); k_dflt (refine' pl_tailS ?N ?m ?D ?v ?_; (case N => k_asm); (case m => k_mem); (case D => assumption); (case v => first | assumption | exact plAt_snoc_some _ _ _ | (simp_all; done))); intro n8 t8 k8 hn8; (try (have hb8 := PlOk.at (by assumption) hn8; obtain ⟨hb8a, hb8b⟩ := hb8))) | ((with_reducible show wpAny _ _ (compareOp CmpOp.In (Value.bytes _ _) (Value.ref _)) _ _ _); k_dflt (refine' pl_in ?N ?m ?D ?_; (case N => k_asm); (case m => k_mem); (case D => assumption)); intro _) | ((with_reducible show wpAny _ _ (call (Value.builtin "len") [Value.bytes _ _]) _ _ _); (refine len_bytes (by (try simp only [Array.size_append]); omega) ?_))))) | walk1 | (leave1; (try dsimp only)) | dsimp only | fail "no step"))
      refine wpC_execs_consA ?_
      (repeat' (first | (k_unfold; (try dsimp only)) | (k_end; wrow_close) | ((with_reducible show wpAny _ _ _ _ _ _); first | (with_reducible (first | ((with_reducible show wpAny _ _ (subscriptTail _ _ (Value.ref _) (Value.str _ _)) _ _ _); k_dflt (refine' di_tailS (knd := strKind PR _) ?N ?m ?D (strKind_is _ _ _ _) ?v ?_; (case N => k_asm); (case m => k_mem); (case D => assumption); (case v => exact rfl)); intro _) | ((with_reducible show wpAny _ _ (call (Value.builtin "len") [Value.ref _]) _ _ _); k_dflt (refine' len_seq ?N ?m ?z ?_; (case N => k_asm); (case m => k_mem); (case z => omega)); intro _ _) | ((with_reducible show wpAny _ _ (call (Value.builtin "len") [Value.ref _]) _ _ _); k_dflt (refine' pl_len ?N ?m ?D ?z ?_; (case N => k_asm); (case m => k_mem); (case D => assumption); (case z => omega)); intro _ _) | ((with_reducible show wpAny _ _ (setItem (Value.ref _) (Value.bytes _ _) _) _ _ _); k_dflt (refine' pl_set ?F ?N ?U ?D ?v ?z ?_; (case F => k_asm); (case N => k_asm); (case U => k_updF); (case D => assumption); (case v => first | assumption | (simp_all; done)); (case z => (rw [sizeLine_eq]; omega))); intro h' o' k' F' N' D'; (try dsimp only at N'); (try k_sweep)) | ((with_reducible show wpAny _ _ (subscriptTail _ _ (Value.ref _) (Value.bytes _ _)) _ _ _); k_dflt (refine' pl_tailS ?N ?m ?D ?v ?_; (case N => k_asm); (case m => k_mem); (case D => assumption); (case v => first | assumption | exact plAt_snoc_some _ _ _ | (simp_all; done))); intro n8 t8 k8 hn8; (try (have hb8 := PlOk.at (by assumption) hn8; obtain ⟨hb8a, hb8b⟩ := hb8))) | ((with_reducible show wpAny _ _ (compareOp CmpOp.In (Value.bytes _ _) (Value.ref _)) _ _ _); k_dflt (refine' pl_in ?N ?m ?D ?_; (case N => k_asm); (case m => k_mem); (case D => assumption)); intro _) | ((with_reducible show wpAny _ _ (call (Value.builtin "len") [Value.bytes _ _]) _ _ _); (refine len_bytes (by (try simp only [Array.size_append]); omega) ?_))))) | walk1 | (leave1; (try dsimp only)) | dsimp only | fail "no step"))
      refine wpC_execs_consA ?_
      (repeat' (first | (k_unfold; (try dsimp only)) | (k_end; wrow_close) | ((with_reducible show wpAny _ _ _ _ _ _); first | (with_reducible (first | ((with_reducible show wpAny _ _ (subscriptTail _ _ (Value.ref _) (Value.str _ _)) _ _ _); k_dflt (refine' di_tailS (knd := strKind PR _) ?N ?m ?D (strKind_is _ _ _ _) ?v ?_; (case N => k_asm); (case m => k_mem); (case D => assumption); (case v => exact rfl)); intro _) | ((with_reducible show wpAny _ _ (call (Value.builtin "len") [Value.ref _]) _ _ _); k_dflt (refine' len_seq ?N ?m ?z ?_; (case N => k_asm); (case m => k_mem); (case z => omega)); intro _ _) | ((with_reducible show wpAny _ _ (call (Value.builtin "len") [Value.ref _]) _ _ _); k_dflt (refine' pl_len ?N ?m ?D ?z ?_; (case N => k_asm); (case m => k_mem); (case D => assumption); (case z => omega)); intro _ _) | ((with_reducible show wpAny _ _ (setItem (Value.ref _) (Value.bytes _ _) _) _ _ _); k_dflt (refine' pl_set ?F ?N ?U ?D ?v ?z ?_; (case F => k_asm); (case N => k_asm); (case U => k_updF); (case D => assumption); (case v => first | assumption | (simp_all; done)); (case z => (rw [sizeLine_eq]; omega))); intro h' o' k' F' N' D'; (try dsimp only at N'); (try k_sweep)) | ((with_reducible show wpAny _ _ (subscriptTail _ _ (Value.ref _) (Value.bytes _ _)) _ _ _); k_dflt (refine' pl_tailS ?N ?m ?D ?v ?_; (case N => k_asm); (case m => k_mem); (case D => assumption); (case v => first | assumption | exact plAt_snoc_some _ _ _ | (simp_all; done))); intro n8 t8 k8 hn8; (try (have hb8 := PlOk.at (by assumption) hn8; obtain ⟨hb8a, hb8b⟩ := hb8))) | ((with_reducible show wpAny _ _ (compareOp CmpOp.In (Value.bytes _ _) (Value.ref _)) _ _ _); k_dflt (refine' pl_in ?N ?m ?D ?_; (case N => k_asm); (case m => k_mem); (case D => assumption)); intro _) | ((with_reducible show wpAny _ _ (call (Value.builtin "len") [Value.bytes _ _]) _ _ _); (refine len_bytes (by (try simp only [Array.size_append]); omega) ?_))))) | walk1 | (leave1; (try dsimp only)) | dsimp only | fail "no step"))
      (with_reducible rename News _ _ _ _ => NN)
      dsimp only [buObj] at NN
      refine wpC_execs_consA ?_
      (repeat' (first | (k_unfold; (try dsimp only)) | (k_end; wrow_close) | ((with_reducible show wpAny _ _ _ _ _ _); first | (with_reducible (first | ((with_reducible show wpAny _ _ (subscriptTail _ _ (Value.ref _) (Value.str _ _)) _ _ _); k_dflt (refine' di_tailS (knd := strKind PR _) ?N ?m ?D (strKind_is _ _ _ _) ?v ?_; (case N => k_asm); (case m => k_mem); (case D => assumption); (case v => exact rfl)); intro _) | ((with_reducible show wpAny _ _ (call (Value.builtin "len") [Value.ref _]) _ _ _); k_dflt (refine' len_seq ?N ?m ?z ?_; (case N => k_asm); (case m => k_mem); (case z => omega)); intro _ _) | ((with_reducible show wpAny _ _ (call (Value.builtin "len") [Value.ref _]) _ _ _); k_dflt (refine' pl_len ?N ?m ?D ?z ?_; (case N => k_asm); (case m => k_mem); (case D => assumption); (case z => omega)); intro _ _) | ((with_reducible show wpAny _ _ (setItem (Value.ref _) (Value.bytes _ _) _) _ _ _); k_dflt (refine' pl_set ?F ?N ?U ?D ?v ?z ?_; (case F => k_asm); (case N => k_asm); (case U => k_updF); (case D => assumption); (case v => first | assumption | (simp_all; done)); (case z => (rw [sizeLine_eq]; omega))); intro h' o' k' F' N' D'; (try dsimp only at N'); (try k_sweep)) | ((with_reducible show wpAny _ _ (subscriptTail _ _ (Value.ref _) (Value.bytes _ _)) _ _ _); k_dflt (refine' pl_tailS ?N ?m ?D ?v ?_; (case N => k_asm); (case m => k_mem); (case D => assumption); (case v => first | assumption | exact plAt_snoc_some _ _ _ | (simp_all; done))); intro n8 t8 k8 hn8; (try (have hb8 := PlOk.at (by assumption) hn8; obtain ⟨hb8a, hb8b⟩ := hb8))) | ((with_reducible show wpAny _ _ (compareOp CmpOp.In (Value.bytes _ _) (Value.ref _)) _ _ _); k_dflt (refine' pl_in ?N ?m ?D ?_; (case N => k_asm); (case m => k_mem); (case D => assumption)); intro _) | ((with_reducible show wpAny _ _ (call (Value.builtin "len") [Value.bytes _ _]) _ _ _); (refine len_bytes (by (try simp only [Array.size_append]); omega) ?_))))) | walk1 | (leave1; (try dsimp only)) | dsimp only | fail "no step"))
      refine wpC_execs_consA ?_
      (repeat' (first | (k_unfold; (try dsimp only)) | (k_end; wrow_close) | ((with_reducible show wpAny _ _ _ _ _ _); first | (with_reducible (first | ((with_reducible show wpAny _ _ (subscriptTail _ _ (Value.ref _) (Value.str _ _)) _ _ _); k_dflt (refine' di_tailS (knd := strKind PR _) ?N ?m ?D (strKind_is _ _ _ _) ?v ?_; (case N => k_asm); (case m => k_mem); (case D => assumption); (case v => exact rfl)); intro _) | ((with_reducible show wpAny _ _ (call (Value.builtin "len") [Value.ref _]) _ _ _); k_dflt (refine' len_seq ?N ?m ?z ?_; (case N => k_asm); (case m => k_mem); (case z => omega)); intro _ _) | ((with_reducible show wpAny _ _ (call (Value.builtin "len") [Value.ref _]) _ _ _); k_dflt (refine' pl_len ?N ?m ?D ?z ?_; (case N => k_asm); (case m => k_mem); (case D => assumption); (case z => omega)); intro _ _) | ((with_reducible show wpAny _ _ (setItem (Value.ref _) (Value.bytes _ _) _) _ _ _); k_dflt (refine' pl_set ?F ?N ?U ?D ?v ?z ?_; (case F => k_asm); (case N => k_asm); (case U => k_updF); (case D => assumption); (case v => first | assumption | (simp_all; done)); (case z => (rw [sizeLine_eq]; omega))); intro h' o' k' F' N' D'; (try dsimp only at N'); (try k_sweep)) | ((with_reducible show wpAny _ _ (subscriptTail _ _ (Value.ref _) (Value.bytes _ _)) _ _ _); k_dflt (refine' pl_tailS ?N ?m ?D ?v ?_; (case N => k_asm); (case m => k_mem); (case D => assumption); (case v => first | assumption | exact plAt_snoc_some _ _ _ | (simp_all; done))); intro n8 t8 k8 hn8; (try (have hb8 := PlOk.at (by assumption) hn8; obtain ⟨hb8a, hb8b⟩ := hb8))) | ((with_reducible show wpAny _ _ (compareOp CmpOp.In (Value.bytes _ _) (Value.ref _)) _ _ _); k_dflt (refine' pl_in ?N ?m ?D ?_; (case N => k_asm); (case m => k_mem); (case D => assumption)); intro _) | ((with_reducible show wpAny _ _ (call (Value.builtin "len") [Value.bytes _ _]) _ _ _); (refine len_bytes (by (try simp only [Array.size_append]); omega) ?_))))) | walk1 | (leave1; (try dsimp only)) | dsimp only | fail "no step"))
      refine' hret _ _ _ ?x2 ⟨⟨_, _, addRes_new hIn hpc, rfl⟩, ?y2⟩
      case x2 => walk_at "MINE_AGREE"
      rw [addSt_new hIn hpc]
      (with_reducible rename News _ _ _ _ => N9)
      simp only [List.push_toArray] at N9
      exact ⟨_, _, _, _, by assumption, hB.snoc, fun q hq => (N9 q hq).1⟩
    · intro e8 g8 h8 tk8 hBad hA8 F8 R8 U8
      refine' raise_on (rest := [(PcB, lsObj vs np)]) ?K2 ?N2 hA8 ?r2 F8 R8 U8 (fun q hq => List.mem_append.mp hq) ?_
      case K2 => assumption
      case N2 => (with_reducible rename News _ _ _ _ => NN); exact fun q hq => (by rw [List.mem_singleton.mp hq]; exact NN _ (by k_mem))
      case r2 => intro q hq; rw [List.mem_singleton.mp hq]; simp only [List.map_cons, List.map_nil, List.mem_cons, List.not_mem_nil, or_false, not_or]; exact ⟨Ne.symm a7, Ne.symm a13, Ne.symm a18, Ne.symm a22, Ne.symm a25, Ne.symm a27, Ne.symm a28⟩
      intro h9 R9 U9
      refine' hbad _ _ _ _ (addRes_bad ?z1 hBad) ?z2 ?z3 R9 U9
      case z1 => rw [Option.isSome_eq_false_iff, Option.isNone_iff_eq_none] at hIn; exact hIn
      case z2 => assumption
      case z3 => assumption


end
theorem walk_reset17 : True ∧ True := by first | (walk1 <;> trivial) | exact ⟨trivial, trivial⟩
section
open PySem PySem.W PySem.Calls PyProof.Rows
set_option Elab.async false
set_option maxRecDepth 100000
/-- what is to be shown where a def that catches is left -/
noncomputable def LeaveT (fs : List Addr) (h₀ : Heap) (L : Addr) (m : Str → Option Value) (g h : Heap) (as : List (Addr × Obj)) (R : Result → Shared → Prop) (v : Value) (s' : Shared) : Prop :=
  ∃ g' L' m', KtsTurn fs g g' ∧ Fr g' L' s'.heap m' ∧ ((∀ b o, h.get? b = some o → b ∉ as.map (·.1) → b ≠ L → s'.heap.get? b = some o) → Fr h₀ L s'.heap m → R (.ok (.ret v)) s')
section
variable {w : World} {A₀ A : Around} {s : Shared} {base h₀ : Heap} {L a : Addr} {m : Str → Option Value} {cn : Str} {cs : Scope} {ccd : Value} {as : List (Addr × Obj)} {K : Frag} {p : Program} {loose : List Str} {mean : ExcName → Option Value} {mg mb : Str → Option Value}
    {R : Result → Shared → Prop} {name qual : Str} {params : Arguments} {body : List Stmt} {scope : Scope} {dV kV doc pm cdv ct oc : Value} {an od : Option Addr} {osl : Array (Option Value)} {f : Addr} {args : Args} {binds : List (Str × Value)}
/-- entering a def that catches, from the outermost frame -/
theorem enterT (B : Below A₀ base [] h₀) (F : Fr h₀ L s.heap m) (X₀ : K.In h₀) (N : News h₀ L s.heap as) (T : Top p loose mean mg mb h₀) (hA : A.frames = some [envOf cn cs L a ccd])
    (ho : K.lookup f = some ⟨oc, od, .func (fnOf name qual params body scope dV kV doc pm an cdv ct), osl⟩) (hcd : codeIn K cdv qual = true) (hroom : A.depth < recursionLimit)
    (hbind : BindsTo s (fnOf name qual params body scope dV kV doc pm an cdv ct) args binds) (hloc : ∀ y ∈ binds, scope.names.lookup y.1 = some .local)
    (h : ∀ g L' h₁ tk₁, Agree as s.heap g → Fr h₀ L g m → Fr g L' h₁ (fun y => binds.reverse.lookup y) → News g L' h₁ as → Below A base [envOf cn cs L a ccd] g → K.In g → Top p loose mean mg mb g → KtsDicts ([envOf cn cs L a ccd].filterMap (·.frame)) g → (∀ p ∈ as, p.1 < L') →
      wpC (model PR w) (A.deeper (envOf qual scope L' f cdv)) (execs body (envOf qual scope L' f cdv))
        (fun fl s' => LeaveT ([envOf cn cs L a ccd].filterMap (·.frame)) h₀ L m g s.heap as R (match fl with | .ret v => v | _ => .none) s')
        (fun e s' => wpAny (model PR w) (A.deeper (envOf qual scope L' f cdv)) («leaving» (envOf qual scope L' f cdv) e) (fun _ s'' => R (.error e) s'') (fun e' s'' => R (.error e') s'') s')
        { s with heap := h₁, toks := tk₁ })
    (hck : cs.kind = .function) (hco : scope.isCoroutine = false) (hgen : scope.isGenerator = false) (hk : scope.kind = .function)
    (hcell : ∀ x ∈ scope.names, x.2 ≠ .cell) : codeC (model PR w) A (.call (.ref f) args) R s := by
  have X := X₀.keeps F.keep
  refine codeC_call_def (fd := fnOf name qual params body scope dV kV doc pm an cdv ct) (body := body) (binds := binds) hroom (X _ _ ho) rfl (T.nolimit.keeps F.keep) (codeRec_of X hcd) rfl hbind hcell hloc (fun h₁ hns hk₁ => ?_) hco hgen hk
  obtain ⟨oL, es, ep, hLg, hLd, hN, hNs, st, B₂⟩ := kts_enter B F N hA hck
  have hag : Agree as s.heap (hideAll s.heap (as.map (·.1))) := fun b o q hb => hideAll_get _ q hb
  refine wpC_mono (h _ s.heap.objs.size h₁ _ hag ⟨hN _ hLg, st, F.above⟩ ⟨hns, fun b o e => hk₁ b o (of_hideAll _ e), Nat.le_of_eq (hideAll_size _ _)⟩
    (fun p hp => ⟨hk₁ _ _ (N p hp).1, Nat.ne_of_lt (Heap.lt_size (N p hp).1), hideAll_none _ (List.mem_map_of_mem hp)⟩) B₂ (X₀.keeps st) (T.keeps st) (fun b hb => by
      rcases kts_mem hb with rfl | z
      · exact ⟨oL, es, ep, hLg, hLd⟩
      · simp at z) (fun p hp => Heap.lt_size (N p hp).1)) (fun fl s' hl => ?_) fun _ _ y => y
  obtain ⟨g', L'', m', T', F', k⟩ := hl
  have nL₀ : h₀.get? L = none := kts_self F
  obtain ⟨sl, hs⟩ := T'.up hLg
  have up : ∀ b o, (hideAll s.heap (as.map (·.1))).get? b = some o → b ≠ L → s'.heap.get? b = some o := fun b o e hb => F'.keep b o (T'.other b o e (fun q => by
    rcases kts_mem q with z | z
    · exact hb z
    · simp at z))
  exact k (fun b o e hb hL => up b o (hag b o e hb) hL) ⟨hNs sl _ (F'.keep _ _ hs), fun b o e => up b o (st b o e) (fun z => by rw [z, nL₀] at e; cases e), F.above⟩
end
/-- a contract of a def that catches, called from the outermost frame: of that frame's locals the slots may be turned -/
noncomputable def SpT (w : World) (f : Addr) (args : List Value) (as : List (Addr × Obj)) (d u : Nat) (Post : Heap → Value → Heap → Prop) : Prop :=
  ∀ (p : Program) (loose : List Str) (mean : ExcName → Option Value) (mg mb : Str → Option Value) (dp un : Nat) (gd : Option (List Code)) (cn : Str) (cs : Scope) (a : Addr) (ccd : Value) (A₀ : Around) (base h₀ : Heap) (L : Addr) (m : Str → Option Value) (s : Shared) (Q E : Value → Shared → Prop),
    Below A₀ base [] h₀ → Fr h₀ L s.heap m → (KF w.params).In h₀ → News h₀ L s.heap as → Top p loose mean mg mb h₀ → (KF w.params).In base → Top p loose mean mg mb base → cs.kind = .function → dp + d < recursionLimit → un + u < cLine →
    (∀ v h' tk', (∀ b o, s.heap.get? b = some o → b ∉ as.map (·.1) → b ≠ L → h'.get? b = some o) → Fr h₀ L h' m → Post s.heap v h' → Q v { s with heap := h', toks := tk' }) →
    wpC (model PR w) (ktrTop dp un gd cn cs L a ccd [] []) (call (.ref f) args) Q E s


end
theorem walk_reset18 : True ∧ True := by first | (walk1 <;> trivial) | exact ⟨trivial, trivial⟩
section
open PySem PySem.W PySem.Calls PyProof.Rows
set_option Elab.async false
set_option maxRecDepth 100000
set_option maxHeartbeats 1000000 in
theorem c_tried0 (w : World) (b bd e ed C0 cd PlB x PcB : Addr) (u1 u2 u3 u4 u5 u6 v1 v2 v3 v4 v5 : Tok) (n1 n2 : Nat) (opl : Obj) (bp : Bool) (pl : List (List UInt8 × Int)) (len : Int) (tl : Tok) (r : Row) (vo vk vc vb vd : Value)
    (hr : r.ok) (hV : RowV r vo vk vc vb vd) (hP : Pl w PlB opl pl) (hO : PlOk pl len) (hl0 : 0 ≤ len) (hl1 : len ≤ 9000) :
    SpT w 280 [.ref b, .ref e, .bool false] (asP w b bd e ed C0 cd PlB x PcB u1 u2 u3 u4 u5 u6 v1 v2 v3 v4 v5 n1 n2 opl bp len tl vo vk vc vb vd) 10 100
    (fun _ v h' => PiecePost (pieceOf bp pl len r) (asP w b bd e ed C0 cd PlB x PcB u1 u2 u3 u4 u5 u6 v1 v2 v3 v4 v5 n1 n2 opl bp len tl vo vk vc vb vd) v h') := by
  have hfill : Fill PySem.Challenge.rw_pb0104_01 KF := by k_fill; trivial
  have hPO := c_piece_of w b bd e ed C0 cd PlB x PcB u1 u2 u3 u4 u5 u6 v1 v2 v3 v4 v5 n1 n2 opl bp pl len tl r vo vk vc vb vd hr hV hP hO hl0 hl1
  unfold SpT
  intro p loose mean mg mb dp un gd cn cs a ccd A₀ base h₀ L m s Q E B F X N T XB TB hk hd hu hret
  refine wpC_call ?_
  k_dflt (refine' enterT (cn := cn) (cs := cs) (a := a) (ccd := ccd) ?k1 ?k2 ?k3 ?k4 ?k5 ?kA ?k6 ?k7 ?k8 ?k9 ?kB ?_ ?c1 ?c2 ?c3 ?c4 ?c5; (case kA => exact rfl); (case k1 => k_asm); (case k2 => k_asm); (case k3 => k_asm); (case k4 => k_asm); (case k5 => k_asm); (case k6 => k_is); (case k7 => k_is); (case k8 => ktr_room); (case k9 => first | exact BindsTo.of_eq rfl | exact binds_K (by k_in) rfl (by k_is) rfl rfl rfl); (case c5 => decide); (case kB => exact locs rfl); (case c1 => assumption); (case c2 => exact rfl); (case c3 => exact rfl); (case c4 => exact rfl))
  intro g' L' h' tk' hG' FG' F' N' B' X' T' D' l1'
  try dsimp only
  (show (let qk9 : Flow → Shared → Prop := _; let ek9 : Value → Shared → Prop := _; wpC _ _ _ qk9 ek9 _)); intro qk9 ek9
  refine wpC_execs_consA ?_
  (repeat' (first | (k_unfold; (try dsimp only)) | (k_end; wrow_close) | ((with_reducible show WhlIf _ _ _); refine whlIf_cases (fun hB => ?_) (fun hB => ?_) <;> simp only [decide_eq_true_eq, decide_eq_false_iff_not] at hB <;> first | (exfalso; omega) | skip) | walk1 | (leave1; (try dsimp only)) | dsimp only | fail "no step"))
  refine wpC_execs_cons (wpC_Try ?_)
  refine wpC_execs_cons (wpC_Assign (wpC_IfExp ?_))
  (repeat' (first | (k_unfold; (try dsimp only)) | (k_end; wrow_close) | ((with_reducible show WhlIf _ _ _); refine whlIf_cases (fun hB => ?_) (fun hB => ?_) <;> simp only [decide_eq_true_eq, decide_eq_false_iff_not] at hB <;> first | (exfalso; omega) | skip) | walk1 | (leave1; (try dsimp only)) | dsimp only | fail "no step"))
  refine wpC_methodCall ?_
  (repeat' (first | (k_unfold; (try dsimp only)) | (k_end; wrow_close) | ((with_reducible show WhlIf _ _ _); refine whlIf_cases (fun hB => ?_) (fun hB => ?_) <;> simp only [decide_eq_true_eq, decide_eq_false_iff_not] at hB <;> first | (exfalso; omega) | skip) | walk1 | (leave1; (try dsimp only)) | dsimp only | fail "no step"))
  k_dflt (refine' wpC_callWith_K ?X1 ?hk1 ?_; (case X1 => k_asm); (case hk1 => k_is))
  (repeat' (first | (k_unfold; (try dsimp only)) | (k_end; wrow_close) | ((with_reducible show WhlIf _ _ _); refine whlIf_cases (fun hB => ?_) (fun hB => ?_) <;> simp only [decide_eq_true_eq, decide_eq_false_iff_not] at hB <;> first | (exfalso; omega) | skip) | walk1 | (leave1; (try dsimp only)) | dsimp only | fail "no step"))
  k_dflt (refine' useX0 hPO ?p1 ?p2 ?p3 ?p4 ?p5 ?p6 ?p7 ?p8 (fun q hq => hq) (fun _ _ _ hP => hP.2) ?_ ?_; (case p1 => k_asm); (case p2 => k_asm); (case p3 => k_asm); (case p4 => k_asm); (case p5 => k_asm); (case p6 => exact rfl); (case p7 => ktr_room); (case p8 => ktr_units))
  · intro v8 h8 tk8 F8 N8 hPk
    obtain ⟨⟨pc, tpc, hpc, rfl, hz⟩, _⟩ := hPk
    try k_sweep
    (repeat' (first | (k_unfold; (try dsimp only)) | (k_end; wrow_close) | ((with_reducible show WhlIf _ _ _); refine whlIf_cases (fun hB => ?_) (fun hB => ?_) <;> simp only [decide_eq_true_eq, decide_eq_false_iff_not] at hB <;> first | (exfalso; omega) | skip) | walk1 | (leave1; (try dsimp only)) | dsimp only | fail "no step"))
    refine wpC_execs_nil ?_
    try dsimp only
    refine wpC_execs_nil ?_
    try dsimp only
    refine wpC_execs_consA ?_
    (repeat' (first | (k_unfold; (try dsimp only)) | (k_end; wrow_close) | ((with_reducible show WhlIf _ _ _); refine whlIf_cases (fun hB => ?_) (fun hB => ?_) <;> simp only [decide_eq_true_eq, decide_eq_false_iff_not] at hB <;> first | (exfalso; omega) | skip) | walk1 | (leave1; (try dsimp only)) | dsimp only | fail "no step"))
    try dsimp only
    (with_reducible rename Fr g' _ _ _ => F9)
    (with_reducible rename News g' _ _ _ => N9)
    exact ⟨g', _, _, KtsTurn.refl, F9, fun hA2 F2 => hret _ _ _ hA2 F2 (piece_some N9 (fun q hq => hq) hpc hz)⟩
  · intro e8 g8 h8 tk8 hBad hA8 F8 R8 U8
    refine kts_lookSN R8 F8 B' U8 D' fun h9 R9 U9 => ?_
    refine hit_SN0 R9 F8 B' U9 XB TB D' KtsTurn.refl (test_name (c := .ref 52) (.inl (by k_is)) (by rfl) rfl rfl (by decide)) fun h10 g10 T10 F10 N10 B10 X10 Top10 D10 => ?_
    (repeat' (first | (k_unfold; (try dsimp only)) | (k_end; wrow_close) | ((with_reducible show WhlIf _ _ _); refine whlIf_cases (fun hB => ?_) (fun hB => ?_) <;> simp only [decide_eq_true_eq, decide_eq_false_iff_not] at hB <;> first | (exfalso; omega) | skip) | walk1 | (leave1; (try dsimp only)) | dsimp only | fail "no step"))
    try dsimp only
    refine wpC_execs_consA ?_
    (repeat' (first | (k_unfold; (try dsimp only)) | (k_end; wrow_close) | ((with_reducible show WhlIf _ _ _); refine whlIf_cases (fun hB => ?_) (fun hB => ?_) <;> simp only [decide_eq_true_eq, decide_eq_false_iff_not] at hB <;> first | (exfalso; omega) | skip) | walk1 | (leave1; (try dsimp only)) | dsimp only | fail "no step"))
    try dsimp only
    (with_reducible rename Fr g10 _ _ _ => F11)
    (with_reducible rename News g10 _ _ _ => N11)
    exact ⟨g10, _, _, T10, F11, fun hA2 F2 => hret _ _ _ hA2 F2 (piece_none N11 (fun q hq => hq) hBad)⟩
/-- an int or none -/
noncomputable def oi (v : Value) : Option Int → Prop
  | none => v = .none
  | some n => ∃ t, v = .int n t
theorem news_turn {g h h' : Heap} {L : Addr} {as as' : List (Addr × Obj)} (N : News g L h as) (ha : as'.map (·.1) = as.map (·.1)) (hall : ∀ q ∈ as', h'.get? q.1 = some q.2) : News g L h' as' := fun q hq => by
  have hm : q.1 ∈ as.map (·.1) := ha ▸ List.mem_map_of_mem hq
  obtain ⟨z, hz, ez⟩ := List.mem_map.mp hm
  exact ⟨hall q hq, ez ▸ (N z hz).2⟩
theorem addSt_none {bp : Bool} {z : St} {r : Row} (h : addRes bp z r = none) : addSt bp z r = z := by
  unfold addRes at h
  unfold addSt
  cases h1 : plAt z.pl r.oid.toList <;> cases h2 : pieceOf bp z.pl z.len r <;> simp_all
set_option maxHeartbeats 1000000 in
theorem c_tried1 (w : World) (b bd e ed C0 cd PlB x PcB : Addr) (u1 u2 u3 u4 u5 u6 v1 v2 v3 v4 v5 : Tok) (n2 np : Nat) (opl : Obj) (bp : Bool) (z : St) (tl : Tok) (r : Row) (vo vk vc vb vd : Value) (vs : List Value)
    (hnd : [b, bd, e, ed, C0, cd, PlB, PcB].Nodup) (hr : r.ok) (hV : RowV r vo vk vc vb vd) (hP : Pl w PlB opl z.pl) (hO : PlOk z.pl z.len) (hl0 : 0 ≤ z.len) (hl1 : z.len ≤ 8000) (hpl : z.pl.length ≤ 50) (hB : BV vs z.ps) (hps : z.ps.length ≤ 50) :
    SpT w 280 [.ref b, .ref e, .bool true] (asP w b bd e ed C0 cd PlB x PcB u1 u2 u3 u4 u5 u6 v1 v2 v3 v4 v5 6 n2 opl bp z.len tl vo vk vc vb vd ++ [(PcB, lsObj vs np)]) 10 100
    (fun _ v h' => oi v (addRes bp z r) ∧ AddPost w b bd e ed C0 cd PlB x PcB u1 u2 u3 u4 u5 u6 v1 v2 v3 v4 v5 n2 bp (addSt bp z r) vo vk vc vb vd h') := by
  have hfill : Fill PySem.Challenge.rw_pb0104_01 KF := by k_fill; trivial
  have hPO := c_add w b bd e ed C0 cd PlB x PcB u1 u2 u3 u4 u5 u6 v1 v2 v3 v4 v5 n2 np opl bp z tl r vo vk vc vb vd vs hnd hr hV hP hO hl0 hl1 hpl hB hps
  unfold SpT
  intro p loose mean mg mb dp un gd cn cs a ccd A₀ base h₀ L m s Q E B F X N T XB TB hk hd hu hret
  refine wpC_call ?_
  k_dflt (refine' enterT (cn := cn) (cs := cs) (a := a) (ccd := ccd) ?k1 ?k2 ?k3 ?k4 ?k5 ?kA ?k6 ?k7 ?k8 ?k9 ?kB ?_ ?c1 ?c2 ?c3 ?c4 ?c5; (case kA => exact rfl); (case k1 => k_asm); (case k2 => k_asm); (case k3 => k_asm); (case k4 => k_asm); (case k5 => k_asm); (case k6 => k_is); (case k7 => k_is); (case k8 => ktr_room); (case k9 => first | exact BindsTo.of_eq rfl | exact binds_K (by k_in) rfl (by k_is) rfl rfl rfl); (case c5 => decide); (case kB => exact locs rfl); (case c1 => assumption); (case c2 => exact rfl); (case c3 => exact rfl); (case c4 => exact rfl))
  intro g' L' h' tk' hG' FG' F' N' B' X' T' D' l1'
  try dsimp only
  (show (let qk9 : Flow → Shared → Prop := _; let ek9 : Value → Shared → Prop := _; wpC _ _ _ qk9 ek9 _)); intro qk9 ek9
  refine wpC_execs_consA ?_
  (repeat' (first | (k_unfold; (try dsimp only)) | (k_end; wrow_close) | ((with_reducible show WhlIf _ _ _); refine whlIf_cases (fun hB => ?_) (fun hB => ?_) <;> simp only [decide_eq_true_eq, decide_eq_false_iff_not] at hB <;> first | (exfalso; omega) | skip) | walk1 | (leave1; (try dsimp only)) | dsimp only | fail "no step"))
  refine wpC_execs_cons (wpC_Try ?_)
  refine wpC_execs_cons (wpC_Assign (wpC_IfExp ?_))
  (repeat' (first | (k_unfold; (try dsimp only)) | (k_end; wrow_close) | ((with_reducible show WhlIf _ _ _); refine whlIf_cases (fun hB => ?_) (fun hB => ?_) <;> simp only [decide_eq_true_eq, decide_eq_false_iff_not] at hB <;> first | (exfalso; omega) | skip) | walk1 | (leave1; (try dsimp only)) | dsimp only | fail "no step"))
  refine wpC_methodCall ?_
  (repeat' (first | (k_unfold; (try dsimp only)) | (k_end; wrow_close) | ((with_reducible show WhlIf _ _ _); refine whlIf_cases (fun hB => ?_) (fun hB => ?_) <;> simp only [decide_eq_true_eq, decide_eq_false_iff_not] at hB <;> first | (exfalso; omega) | skip) | walk1 | (leave1; (try dsimp only)) | dsimp only | fail "no step"))
  k_dflt (refine' wpC_callWith_K ?X1 ?hk1 ?_; (case X1 => k_asm); (case hk1 => k_is))
  (repeat' (first | (k_unfold; (try dsimp only)) | (k_end; wrow_close) | ((with_reducible show WhlIf _ _ _); refine whlIf_cases (fun hB => ?_) (fun hB => ?_) <;> simp only [decide_eq_true_eq, decide_eq_false_iff_not] at hB <;> first | (exfalso; omega) | skip) | walk1 | (leave1; (try dsimp only)) | dsimp only | fail "no step"))
  (with_reducible rename News g' _ _ _ => N7)
  (with_reducible rename Fr g' _ _ _ => F7)
  k_dflt (refine' hPO _ _ _ _ _ _ _ _ _ _ _ _ _ _ _ _ _ _ _ _ _ _ ?p1 F7 ?p3 N7 ?p5 ?p6 ?p7 ?p8 ?_ ?_; (case p1 => k_asm); (case p3 => k_asm); (case p5 => k_asm); (case p6 => exact rfl); (case p7 => ktr_room); (case p8 => ktr_units))
  · intro v8 h8 tk8 hA8 hPk
    obtain ⟨⟨n, t, hres, rfl⟩, opl', tl', np', vs', hPl', hBV', hall⟩ := hPk
    have F8 := fr_agree F7 N7 hA8
    have N8 := news_turn N7 (as' := asP w b bd e ed C0 cd PlB x PcB u1 u2 u3 u4 u5 u6 v1 v2 v3 v4 v5 6 n2 opl' bp (addSt bp z r).len tl' vo vk vc vb vd ++ [(PcB, lsObj vs' np')]) rfl hall
    clear F7 N7 hall hA8
    try k_sweep
    (repeat' (first | (k_unfold; (try dsimp only)) | (k_end; wrow_close) | ((with_reducible show WhlIf _ _ _); refine whlIf_cases (fun hB => ?_) (fun hB => ?_) <;> simp only [decide_eq_true_eq, decide_eq_false_iff_not] at hB <;> first | (exfalso; omega) | skip) | walk1 | (leave1; (try dsimp only)) | dsimp only | fail "no step"))
    refine wpC_execs_nil ?_
    try dsimp only
    refine wpC_execs_nil ?_
    try dsimp only
    refine wpC_execs_consA ?_
    (repeat' (first | (k_unfold; (try dsimp only)) | (k_end; wrow_close) | ((with_reducible show WhlIf _ _ _); refine whlIf_cases (fun hB => ?_) (fun hB => ?_) <;> simp only [decide_eq_true_eq, decide_eq_false_iff_not] at hB <;> first | (exfalso; omega) | skip) | walk1 | (leave1; (try dsimp only)) | dsimp only | fail "no step"))
    try dsimp only
    (with_reducible rename Fr g' _ _ _ => F9)
    (with_reducible rename News g' _ _ _ => N9)
    exact ⟨g', _, _, KtsTurn.refl, F9, fun hA2 F2 => hret _ _ _ hA2 F2 ⟨by rw [hres]; exact ⟨_, rfl⟩, opl', tl', np', vs', hPl', hBV', fun q hq => (N9 q hq).1⟩⟩
  · intro e8 g8 h8 tk8 hBad hA8 F8 R8 U8
    refine kts_lookSN R8 F8 B' U8 D' fun h9 R9 U9 => ?_
    refine hit_SN0 R9 F8 B' U9 XB TB D' KtsTurn.refl (test_name (c := .ref 52) (.inl (by k_is)) (by rfl) rfl rfl (by decide)) fun h10 g10 T10 F10 N10 B10 X10 Top10 D10 => ?_
    (repeat' (first | (k_unfold; (try dsimp only)) | (k_end; wrow_close) | ((with_reducible show WhlIf _ _ _); refine whlIf_cases (fun hB => ?_) (fun hB => ?_) <;> simp only [decide_eq_true_eq, decide_eq_false_iff_not] at hB <;> first | (exfalso; omega) | skip) | walk1 | (leave1; (try dsimp only)) | dsimp only | fail "no step"))
    try dsimp only
    refine wpC_execs_consA ?_
    (repeat' (first | (k_unfold; (try dsimp only)) | (k_end; wrow_close) | ((with_reducible show WhlIf _ _ _); refine whlIf_cases (fun hB => ?_) (fun hB => ?_) <;> simp only [decide_eq_true_eq, decide_eq_false_iff_not] at hB <;> first | (exfalso; omega) | skip) | walk1 | (leave1; (try dsimp only)) | dsimp only | fail "no step"))
    try dsimp only
    (with_reducible rename Fr g10 _ _ _ => F11)
    (with_reducible rename News g10 _ _ _ => N11)
    exact ⟨g10, _, _, T10, F11, fun hA2 F2 => hret _ _ _ hA2 F2 ⟨by rw [hBad]; exact rfl, by rw [addSt_none hBad]; exact ⟨_, _, _, _, hP, hB, fun q hq => (N11 q hq).1⟩⟩⟩


end
theorem walk_reset19 : True ∧ True := by first | (walk1 <;> trivial) | exact ⟨trivial, trivial⟩
section
open PySem PySem.W PySem.Calls PyProof.Rows
set_option Elab.async false
set_option maxRecDepth 100000
local macro_rules | `(tactic| kmk_size) => `(tactic| (rw [sizeLine_eq]; simp only [List.size_toArray]; omega))
set_option maxHeartbeats 2000000 in
theorem c_deck (w : World) (lst : Addr) (vs : List Value) (ns : List Int) (hI : IntsAre vs ns) (hlen : vs.length ≤ 63) 
    (p : Program) (loose : List Str) (mean : ExcName → Option Value) (mg mb : Str → Option Value) (dp un : Nat) (gd : Option (List Code)) (cn : Str) (cs : Scope) (a : Addr) (ccd : Value) (cl : List (Str × Addr)) (outer : List Env) (A₀ : Around) (base h₀ : Heap) (L : Addr) (m : Str → Option Value) (s : Shared) (Q E : Value → Shared → Prop)
    (hL : h₀.IsList lst vs.toArray) (B : Below A₀ base outer h₀) (F : Fr h₀ L s.heap m) (X : (KF w.params).In h₀) (N : News h₀ L s.heap []) (T : Top p loose mean mg mb h₀) (hk : cs.kind = .function) (hd : dp + 2 < recursionLimit) (hu : un + 40 < cLine)
    (hret : ∀ v h' tk', Agree [] s.heap h' → (∃ dk Lf od ol, v = .ref dk ∧ s.heap.get? dk = none ∧ s.heap.get? Lf = none ∧ dk ≠ Lf ∧ Deck w dk Lf od ol ∧ h'.get? dk = some od ∧ h'.get? Lf = some ol) → Q v { s with heap := h', toks := tk' }) :
    wpAny (model PR w) (ktrTop dp un gd cn cs L a ccd cl outer) (call (.ref 230) [.ref lst]) Q E s := by
  have hfill : Fill PySem.Challenge.rw_pb0104_01 KF := by k_fill; trivial
  (refine wpAny_call ?_; k_dflt (refine' enter ?k1 ?k2 ?k3 ?k4 ?k5 ?kA ?kF ?kK ?k6 ?k7 ?k8 ?k9 ?kB ?_ ?c2 ?c3 ?c4 ?c5; (case kA => exact rfl); (case kF => exact rfl); (case kK => assumption); (case k1 => k_asm); (case k2 => k_asm); (case k3 => k_asm); (case k4 => k_asm); (case k5 => k_asm); (case k6 => k_is); (case k7 => k_is); (case k8 => ktr_room); (case k9 => first | exact BindsTo.of_eq rfl | exact binds_K (by k_in) rfl (by k_is) rfl rfl rfl); (case c5 => decide); (case kB => exact locs rfl); (case c2 => exact rfl); (case c3 => exact rfl); (case c4 => exact rfl); k_whole; intro g' L' h' tk' hG' FG' F' N' B' X' T' l1'; (try k_lt l1'); (try dsimp only); walk_at "MINE_FOLD"))
  have hGg := hG'
  have hLg : g'.IsList lst vs.toArray := by
    obtain ⟨o, h1, h2⟩ := hL
    exact ⟨o, FG'.keep _ _ h1, h2⟩
  (k_with "pyIter ref" => k_state (fun (pre : List Int) mixed => 0 ≤ mixed ∧ mixed < 1000003) "mixed")
  (repeat' (first | (k_unfold; (try dsimp only)) | (k_end; wrow_close) | ((with_reducible show wpAny _ _ _ _ _ _); first | (with_reducible (first | ((with_reducible show wpAny _ _ (eval (PySem.Expr.Dict (some (PySem.Expr.Constant (Const.bytes _) _ _) :: _) _ _) _) _ _ _); (with_reducible refine' sorts_display ?F ?N ?b ?_); k_dflt ((case F => k_asm); (case N => k_asm); (case b => exact TopRead.nolimit (by k_asm))); intro d' h' o' k' F' N' l1 D'; (try k_lt l1); (try k_sweep)) | ((with_reducible show wpAny _ _ (subscriptTail _ _ (Value.ref _) (Value.str _ _)) _ _ _); k_dflt (refine' di_tailS (knd := strKind PR _) ?N ?m ?D (strKind_is _ _ _ _) ?v ?_; (case N => k_asm); (case m => k_mem); (case D => assumption); (case v => exact rfl)); intro _) | ((with_reducible show wpAny _ _ (subscriptTail _ _ (Value.ref _) (Value.bytes _ _)) _ _ _); k_dflt (refine' pl_tailS ?N ?m ?D ?v ?_; (case N => k_asm); (case m => k_mem); (case D => assumption); (case v => first | assumption | exact plAt_snoc_some _ _ _ | (simp_all; done))); intro n8 t8 k8 hn8; (try (have hb8 := PlOk.at (by assumption) hn8; obtain ⟨hb8a, hb8b⟩ := hb8))) | ((with_reducible show wpAny _ _ (binaryOp Operator.Mod (Value.int _ _) (Value.int _ _)) _ _ _); refine fmod_ii (by decide) ?_)))) | walk1 | (leave1; (try dsimp only)) | dsimp only | fail "no step"))
  (with_reducible rename News g' _ _ [(_, _), (_, _), (_, _), (_, _)] => NN)
  (with_reducible rename Obj.IsDictOf _ _ _ => dD)
  (with_reducible rename (_ == sysModules) = false => dL)
  have f1 := fresh_of hGg NN (.head _) List.not_mem_nil
  have f2 := fresh_of hGg NN (.tail _ (.tail _ (.head _))) List.not_mem_nil
  refine' hret _ _ _ ?x1 ⟨_, _, _, _, rfl, f1, f2, ?ne, ⟨_, _, _, _, _, ⟨dL, dD⟩, rfl, ?i, ?ln, ?a, ?b⟩, (NN _ (.head _)).1, (NN _ (.tail _ (.tail _ (.head _)))).1⟩
  case x1 => walk_at "MINE_AGREE"
  case i => assumption
  case a => assumption
  case b => assumption
  case ne => k_ne
  case ln => simp only [List.length_map, List.length_take] at *; omega
theorem use_deck {w : World} {lst : Addr} {vs : List Value} {ns : List Int} (hI : IntsAre vs ns) (hlen : vs.length ≤ 63) 
    {p : Program} {loose : List Str} {mean : ExcName → Option Value} {mg mb : Str → Option Value} {dp un : Nat} {gd : Option (List Code)} {cn : Str} {cs : Scope} {a : Addr} {ccd : Value} {cl : List (Str × Addr)} {outer : List Env} {A₀ : Around} {base h₀ : Heap} {L : Addr} {m : Str → Option Value} {s : Shared} {Q E : Value → Shared → Prop}
    (B : Below A₀ base outer h₀) (F : Fr h₀ L s.heap m) (X : (KF w.params).In h₀) (N : News h₀ L s.heap []) (T : Top p loose mean mg mb h₀) (hk : cs.kind = .function) (hd : dp + 2 < recursionLimit) (hu : un + 40 < cLine) (hL : h₀.IsList lst vs.toArray) 
    (k : ∀ dk Lf od ol h' tk', Fr h₀ L h' m → News h₀ L h' [(dk, od), (Lf, ol)] → dk ≠ Lf → Deck w dk Lf od ol → Q (.ref dk) { s with heap := h', toks := tk' }) :
    wpAny (model PR w) (ktrTop dp un gd cn cs L a ccd cl outer) (call (.ref 230) [.ref lst]) Q E s := by
  refine c_deck w lst vs ns hI hlen p loose mean mg mb dp un gd cn cs a ccd cl outer A₀ base h₀ L m s Q E hL B F X N T hk hd hu fun v h' tk' hA hP => ?_
  obtain ⟨dk, Lf, od, ol, rfl, f1, f2, hne, hD, g1, g2⟩ := hP
  have F' := fr_agree F N hA
  have key : ∀ b : Addr, s.heap.get? b = none → b ≠ L ∧ h₀.get? b = none := fun b hb => by
    obtain ⟨oL, es, ep, hL, r⟩ := F.ns
    refine ⟨fun q => (by rw [q, hL] at hb; cases hb), ?_⟩
    cases q : h₀.get? b with
    | none => rfl
    | some o' => have := F.keep _ _ q; rw [this] at hb; cases hb
  exact k dk Lf od ol h' tk' F' (fun q hq => by
    rcases List.mem_cons.mp hq with rfl | hq
    · exact ⟨g1, key _ f1⟩
    · rw [List.mem_singleton.mp hq]; exact ⟨g2, key _ f2⟩) hne hD


end
theorem walk_reset20 : True ∧ True := by first | (walk1 <;> trivial) | exact ⟨trivial, trivial⟩
section
open PySem PySem.W PySem.Calls PyProof.Rows
set_option Elab.async false
set_option maxRecDepth 100000
theorem UpdF.put1 {h₀ h h' : Heap} {L d : Addr} {o o' : Obj} (hd : h'.get? d = some o') (hk : ∀ b x, h.get? b = some x → b ≠ d → h'.get? b = some x) :
    ∀ {l : List (Addr × Obj)} {g : Obj → List (Addr × Obj)}, UpdF d o l g → News h₀ L h l → News h₀ L h' (g o')
  | _, _, .head hr, N => fun p hp => by
    rcases List.mem_cons.mp hp with rfl | hp
    · exact ⟨hd, (N _ (.head _)).2⟩
    · have := N p (.tail _ hp)
      exact ⟨hk _ _ this.1 (hr p hp), this.2⟩
  | _, _, .tail hp r, N => fun p hm => by
    rcases List.mem_cons.mp hm with rfl | hm
    · exact ⟨hk _ _ (N _ (.head _)).1 hp, (N _ (.head _)).2⟩
    · exact UpdF.put1 hd hk r (fun x hx => N x (.tail _ hx)) p hm
theorem one_turned {as news : List (Addr × Obj)} {h₀ h h' : Heap} {L D : Addr} (hA : Agree as h h') (N : News h₀ L h as) (hall : ∀ q ∈ as, q.1 ≠ D → h'.get? q.1 = some q.2) : ∀ b x, h.get? b = some x → b ≠ D → h'.get? b = some x := fun b x hb hne => by
  by_cases hm : b ∈ as.map (·.1)
  · obtain ⟨z, hz, rfl⟩ := List.mem_map.mp hm
    have := (N z hz).1
    rw [hb] at this
    cases this
    exact hall z hz hne
  · exact hA b x hb hm
section
variable {w : World} {p : Program} {loose : List Str} {mean : ExcName → Option Value} {mg mb : Str → Option Value} {dp un : Nat} {gd : Option (List Code)} {cn : Str} {cs : Scope} {a : Addr} {ccd : Value} {cl : List (Str × Addr)} {outer : List Env} {A₀ : Around} {base h₀ : Heap} {L : Addr} {m : Str → Option Value} {s : Shared} {Q E : Value → Shared → Prop} {news : List (Addr × Obj)} {g : Obj → List (Addr × Obj)}
theorem use_close {v1 v2 v3 v4 v5 v6 v7 u1 u2 u3 : Tok} {bx bdx Pc C PlA x dx D : Addr} {bp : Bool} {len : Int} {vs : List Value} {np : Nat} {ps : List (Array UInt8)} {o : Obj} {kn : List (List UInt8 × Int)}
    (hnd : [bx, bdx, Pc, x, dx, D].Nodup) (hV : BV vs ps) (hz : (cat ps).size ≤ 9000) (hl : ps.length < 256) (hP : Pl w D o kn) (hK : Kn kn)
    (B : Below A₀ base outer h₀) (F : Fr h₀ L s.heap m) (X : (KF w.params).In h₀) (N : News h₀ L s.heap news) (T : Top p loose mean mg mb h₀) (hk : cs.kind = .function) (hd : dp + 8 < recursionLimit) (hu : un + 80 < cLine)
    (hs : ∀ q ∈ [(bx, instObj 185 bdx), (bdx, bdObj w v1 v2 v3 v4 v5 v6 v7 x C Pc PlA bp len), (Pc, lsObj vs np), (x, instObj 105 dx), (dx, hsObj w u1 u2 u3 D), (D, o)], q ∈ news) (U : UpdF D o news g)
    (k : ∀ t n o' h' tk', Fr h₀ L h' m → News h₀ L h' (g o') → plAt (dig kn (packHead ps.length (cat ps)).toList) (packHead ps.length (cat ps)).toList = some n → Pl w D o' (dig kn (packHead ps.length (cat ps)).toList) →
      Q (.bytes (packHead ps.length (cat ps) ++ byteArr [0, 0, 0, n]) t) { s with heap := h', toks := tk' }) :
    wpAny (model PR w) (ktrTop dp un gd cn cs L a ccd cl outer) (call (.ref 182) [.ref bx]) Q E s := by
  have N' : News h₀ L s.heap [(bx, instObj 185 bdx), (bdx, bdObj w v1 v2 v3 v4 v5 v6 v7 x C Pc PlA bp len), (Pc, lsObj vs np), (x, instObj 105 dx), (dx, hsObj w u1 u2 u3 D), (D, o)] := fun q hq => N q (hs q hq)
  refine c_close w v1 v2 v3 v4 v5 v6 v7 u1 u2 u3 bx bdx Pc C PlA x dx D bp len vs np ps o kn hnd hV hz hl hP hK p loose mean mg mb dp un gd cn cs a ccd cl outer A₀ base h₀ L m s Q E B F X N' T hk hd hu fun v h' tk' hA hPo => ?_
  obtain ⟨⟨b', t, n, o', rfl, rfl, hn, hP', e1, e2, e3⟩, f1, f2, f3⟩ := hPo
  refine k t n o' h' tk' (fr_agree F N' hA) (UpdF.put1 e3 (one_turned (news := news) hA N' fun q hq hne => ?_) U N) hn hP'
  simp only [List.mem_cons, List.not_mem_nil, or_false] at hq
  rcases hq with rfl | rfl | rfl | rfl | rfl | rfl
  · exact f1
  · exact f2
  · exact f3
  · exact e1
  · exact e2
  · exact absurd rfl hne
theorem use_whole {u1 u2 u3 : Tok} {W PcW PlW x dx D : Addr} {ow : Obj} {bp : Bool} {len : Int} {tl : Tok} {vs : List Value} {np : Nat} {ps : List (Array UInt8)} {o : Obj} {kn : List (List UInt8 × Int)}
    (hnd : [W, PcW, x, dx, D].Nodup) (hW : DI (strKind PR w) W ow [(Str.ofString "by_place", .bool bp), (Str.ofString "pieces", .ref PcW), (Str.ofString "places", .ref PlW), (Str.ofString "length", .int len tl)]) (hV : BV vs ps) (hz : (cat ps).size ≤ 9000) (hl : ps.length < 256) (hP : Pl w D o kn) (hK : Kn kn)
    (B : Below A₀ base outer h₀) (F : Fr h₀ L s.heap m) (X : (KF w.params).In h₀) (N : News h₀ L s.heap news) (T : Top p loose mean mg mb h₀) (hk : cs.kind = .function) (hd : dp + 8 < recursionLimit) (hu : un + 80 < cLine)
    (hs : ∀ q ∈ [(W, ow), (PcW, lsObj vs np), (x, instObj 105 dx), (dx, hsObj w u1 u2 u3 D), (D, o)], q ∈ news) (U : UpdF D o news g)
    (k : ∀ t n o' h' tk', Fr h₀ L h' m → News h₀ L h' (g o') → plAt (dig kn (packHead ps.length (cat ps)).toList) (packHead ps.length (cat ps)).toList = some n → Pl w D o' (dig kn (packHead ps.length (cat ps)).toList) →
      Q (.bytes (packHead ps.length (cat ps) ++ byteArr [0, 0, 0, n]) t) { s with heap := h', toks := tk' }) :
    wpAny (model PR w) (ktrTop dp un gd cn cs L a ccd cl outer) (call (.ref 287) [.ref W, .ref x]) Q E s := by
  have N' : News h₀ L s.heap [(W, ow), (PcW, lsObj vs np), (x, instObj 105 dx), (dx, hsObj w u1 u2 u3 D), (D, o)] := fun q hq => N q (hs q hq)
  refine c_whole w u1 u2 u3 W PcW PlW x dx D ow bp len tl vs np ps o kn hnd hW hV hz hl hP hK p loose mean mg mb dp un gd cn cs a ccd cl outer A₀ base h₀ L m s Q E B F X N' T hk hd hu fun v h' tk' hA hPo => ?_
  obtain ⟨⟨b', t, n, o', rfl, rfl, hn, hP', e1, e2, e3⟩, f1, f2⟩ := hPo
  refine k t n o' h' tk' (fr_agree F N' hA) (UpdF.put1 e3 (one_turned (news := news) hA N' fun q hq hne => ?_) U N) hn hP'
  simp only [List.mem_cons, List.not_mem_nil, or_false] at hq
  rcases hq with rfl | rfl | rfl | rfl | rfl
  · exact f1
  · exact f2
  · exact e1
  · exact e2
  · exact absurd rfl hne
theorem use_row {dk Lf W : Addr} {od ol : Obj} {g2 : Obj → Obj → List (Addr × Obj)} (hne : dk ≠ Lf) (hK : Deck w dk Lf od ol)
    (B : Below A₀ base outer h₀) (F : Fr h₀ L s.heap m) (X : (KF w.params).In h₀) (N : News h₀ L s.heap news) (T : Top p loose mean mg mb h₀) (hk : cs.kind = .function) (hd : dp + 4 < recursionLimit) (hu : un + 40 < cLine) (U : Upd2 dk od Lf ol news g2)
    (k : ∀ tp vo vk vc vb vd row od' ol' h' tk', Fr h₀ L h' m → News h₀ L h' ((tp, tupObj [vo, vk, vc, vb, vd]) :: g2 od' ol') → (∀ q ∈ news, q.1 ≠ tp) → RowV row vo vk vc vb vd → row.ok → Deck w dk Lf od' ol' → Q (.ref tp) { s with heap := h', toks := tk' }) :
    wpAny (model PR w) (ktrTop dp un gd cn cs L a ccd cl outer) (call (.ref 273) [.ref dk, .ref W]) Q E s := by
  have N' : News h₀ L s.heap [(dk, od), (Lf, ol)] := fun q hq => by
    rcases List.mem_cons.mp hq with rfl | hq
    · exact N _ U.mem.1
    · rw [List.mem_singleton.mp hq]; exact N _ U.mem.2
  refine c_row w dk Lf W od ol hne hK p loose mean mg mb dp un gd cn cs a ccd cl outer A₀ base h₀ L m s Q E B F X N' T hk hd hu fun v h' tk' hA hP => ?_
  obtain ⟨tp, vo, vk, vc, vb, vd, row, od', ol', rfl, f1, f2, hV, ho, hK', e1, e2⟩ := hP
  refine k tp vo vk vc vb vd row od' ol' h' tk' (fr_agree F N' hA) (fun q hq => ?_) (fun q hq e => ?_) hV ho hK'
  · rcases List.mem_cons.mp hq with rfl | hq
    · refine ⟨f2, ?_, ?_⟩
      · obtain ⟨oL, es, ep, hL, r⟩ := F.ns
        intro q
        rw [show tp = L from q, hL] at f1; cases f1
      · show h₀.get? tp = none
        cases q : h₀.get? tp with
        | none => rfl
        | some o' => have := F.keep _ _ q; rw [this] at f1; cases f1
    · exact U.put e1 e2 (fun b x hb n1 n2 => hA b x hb (by simp [n1, n2])) N q hq
  · have := (N q hq).1
    rw [e, f1] at this; cases this
end
theorem c_law_piece (w : World) (W PlW PcW tp : Addr) (ow opl : Obj) (bp : Bool) (pl : List (List UInt8 × Int)) (len : Int) (tl : Tok) (r : Row) (vo vk vc vb vd : Value) (hn1 : W ≠ PlW) (hn2 : W ≠ tp) (hn3 : PlW ≠ tp) (hr : r.ok) (hV : RowV r vo vk vc vb vd)
    (hW : DI (strKind PR w) W ow [(Str.ofString "by_place", .bool bp), (Str.ofString "pieces", .ref PcW), (Str.ofString "places", .ref PlW), (Str.ofString "length", .int len tl)]) (hP : Pl w PlW opl pl) (hO : PlOk pl len) (hl0 : 0 ≤ len) (hl1 : len ≤ 9000) :
    Sp w 268 [.ref W, .ref tp] [(W, ow), (PlW, opl), (tp, tupObj [vo, vk, vc, vb, vd])] 6 60
    (fun _ v h' => PiecePost (pieceOf bp pl len r) [(W, ow), (PlW, opl), (tp, tupObj [vo, vk, vc, vb, vd])] v h') := by
  obtain ⟨ob, kb, ct, base, dl⟩ := r
  obtain ⟨⟨to, rfl⟩, ⟨tk, rfl⟩, hc, hb, hd⟩ := hV
  obtain ⟨h1, h2, h3, h4, h5, h6⟩ := hr
  rcases h6 with ⟨bb, db, e1, e2⟩ | ⟨e1, e2, cb, e3⟩ | ⟨bb, e1, e2, e3⟩
  · dsimp only at e1 e2 h4 h5 hb hd
    subst e1 e2
    obtain ⟨tb, rfl⟩ := hb
    obtain ⟨td, rfl⟩ := hd
    exact c_piece1 w W PlW PcW tp ow opl bp pl len tl to tk tb td ob kb bb db ct vc hn1 hn2 hn3 hW hP hO hl0 hl1 (h4 _ rfl) (h5 _ rfl)
  · dsimp only at e1 e2 e3 h3 hb hd hc
    subst e1 e2 e3
    obtain ⟨tc, rfl⟩ := hc
    obtain rfl : vb = .none := hb
    obtain rfl : vd = .none := hd
    exact c_piece2 w W PlW PcW tp ow opl bp pl len tl to tk 0 0 ob kb cb tc hn1 hn2 hn3 hW hP hO hl0 hl1 (h3 _ rfl)
  · dsimp only at e1 e2 e3 h4 hb hd hc
    subst e1 e2 e3
    obtain ⟨tb, rfl⟩ := hb
    obtain rfl : vc = .none := hc
    obtain rfl : vd = .none := hd
    exact c_piece3 w W PlW PcW tp ow opl bp pl len tl to tk tb 0 ob kb bb hn1 hn2 hn3 hW hP hO hl0 hl1 (h4 _ rfl)


end
theorem walk_reset21 : True ∧ True := by first | (walk1 <;> trivial) | exact ⟨trivial, trivial⟩
section
open PySem PySem.W PySem.Calls PyProof.Rows
set_option Elab.async false
set_option maxRecDepth 100000
noncomputable def fiBody : Stmt → List Stmt
  | .For _ _ b _ _ => b
  | _ => []
/-- the turn of the law's loop -/
noncomputable def lawTurn : List Stmt := fiBody ((fBody (sAt 33)).getD 3 (.Pass ⟨0, 0, 0, 0⟩))
noncomputable abbrev envL (L : Addr) : Env := envOf (Str.ofString "law") (fScope (sAt 33)) L 294 (Value.ref 293)
noncomputable abbrev AL (L : Addr) : Around := callerA.deeper (envL L)
/-- the law's locals -/
noncomputable abbrev mT (r e q u g : Option Value) (m₀ : Str → Option Value) (dk hx W b : Addr) : Str → Option Value := fun y =>
  if y = Str.ofString "due" then u else if y = Str.ofString "piece" then q else if y = Str.ofString "entry" then e else if y = Str.ofString "row" then r else if y = Str.ofString "go" then g else
  if y = Str.ofString "builder" then some (Value.ref b) else if y = Str.ofString "w" then some (Value.ref W) else if y = Str.ofString "deck" then some (Value.ref dk) else if y = Str.ofString "hasher" then some (Value.ref hx) else m₀ y
section
variable {r e q u g : Option Value} {m₀ : Str → Option Value} {dk hx W b : Addr} {v : Option Value}
theorem mT_row : (fun y => if y = Str.ofString "row" then v else mT r e q u g m₀ dk hx W b y) = mT v e q u g m₀ dk hx W b := by
  funext y; split <;> rename_i h
  · subst h; rfl
  · simp only [mT, if_neg h]
theorem mT_due : (fun y => if y = Str.ofString "due" then v else mT r e q u g m₀ dk hx W b y) = mT r e q v g m₀ dk hx W b := by
  funext y; split <;> rename_i h
  · rfl
  · rfl
theorem mT_piece : (fun y => if y = Str.ofString "piece" then v else mT r e q u g m₀ dk hx W b y) = mT r e v u g m₀ dk hx W b := by
  funext y; split <;> rename_i h
  · subst h; rfl
  · simp only [mT, if_neg h]
theorem mT_entry : (fun y => if y = Str.ofString "entry" then v else mT r e q u g m₀ dk hx W b y) = mT r v q u g m₀ dk hx W b := by
  funext y; split <;> rename_i h
  · subst h; rfl
  · simp only [mT, if_neg h]
theorem mT_go : (fun y => if y = Str.ofString "go" then v else mT r e q u g m₀ dk hx W b y) = mT r e q u v m₀ dk hx W b := by
  funext y; split <;> rename_i h
  · subst h; rfl
  · simp only [mT, if_neg h]
end
/-- the pack's bounds behind i entries -/
structure StOk (i : Nat) (z : St) : Prop where
  pl : z.pl.length ≤ i
  ps : z.ps.length ≤ i
  l0 : 0 ≤ z.len
  l1 : z.len ≤ 12 + 400 * (i : Int)
  ct : (cat z.ps).size ≤ 400 * i
  ok : PlOk z.pl z.len
/-- what holds between the statements of the law -/
structure Facts (w : World) (dk Lf hx hd D W PcW PlW b bd C0 cd PlB PcB : Addr) (bp : Bool) (zW z : St) (kn : List (List UInt8 × Int)) (od ol oD ow opW opB : Obj) (vsW vsB : List Value) (tlW : Tok) (i : Nat) : Prop where
  o1 : dk < hd
  o2 : Lf < hd
  o3 : hd < hx
  o4 : hx < D
  o5 : D < W
  o6 : W < PcW
  o7 : PcW < PlW
  o8 : PlW < cd
  o9 : cd < C0
  o10 : C0 < bd
  o11 : bd < b
  o12 : b < PcB
  o13 : PcB < PlB
  o14 : dk ≠ Lf
  o15 : Lf ≠ dk
  hK : Deck w dk Lf od ol
  hD : Pl w D oD kn
  hkn : Kn kn
  hkl : kn.length ≤ i
  hW : DI (strKind PR w) W ow [(Str.ofString "by_place", .bool bp), (Str.ofString "pieces", .ref PcW), (Str.ofString "places", .ref PlW), (Str.ofString "length", .int zW.len tlW)]
  hPW : Pl w PlW opW zW.pl
  hPB : Pl w PlB opB z.pl
  hBW : BV vsW zW.ps
  hBB : BV vsB z.ps
  zz : StOk i z
  zW : StOk i zW
noncomputable abbrev lawL (w : World) (dk Lf hx hd D W PcW PlW b bd C0 cd PlB PcB : Addr) (q1 q2 q3 u1 u2 u3 u4 u5 u6 : Tok) (bp : Bool) (len : Int) (tl : Tok) (od ol oD ow opW opB : Obj) (vsW : List Value) (npW : Nat) (vsB : List Value) (npB : Nat) : List (Addr × Obj) :=
  [(PlB, opB), (PcB, lsObj vsB npB), (b, instObj 185 bd), (bd, buObj w u1 u2 u3 u4 u5 u6 hx C0 PcB PlB bp len tl 6), (C0, instObj 221 cd), (cd, emptyDict), (PlW, opW), (PcW, lsObj vsW npW), (W, ow), (D, oD), (hx, instObj 105 hd), (hd, hsObj w q1 q2 q3 D), (dk, od), (Lf, ol)]
theorem kn_dig {kn : List (List UInt8 × Int)} {k : List UInt8} (h : Kn kn) (hl : kn.length < 150) : Kn (dig kn k) := ⟨by have := dig_len kn k; omega, dig_good h⟩
theorem StOk.mono {i : Nat} {z : St} (h : StOk i z) : StOk (i + 1) z := ⟨Nat.le_succ_of_le h.pl, Nat.le_succ_of_le h.ps, h.l0, by have := h.l1; omega, by have := h.ct; omega, h.ok⟩
theorem Facts.next {w : World} {dk Lf hx hd D W PcW PlW b bd C0 cd PlB PcB : Addr} {bp : Bool} {zW z : St} {kn kn' : List (List UInt8 × Int)} {od ol oD ow opW opB od' ol' oD' : Obj} {vsW vsB : List Value} {tlW : Tok} {i : Nat}
    (h : Facts w dk Lf hx hd D W PcW PlW b bd C0 cd PlB PcB bp zW z kn od ol oD ow opW opB vsW vsB tlW i) (hK' : Deck w dk Lf od' ol') (hD' : Pl w D oD' kn') (hkn' : Kn kn') (hkl' : kn'.length ≤ i + 1) :
    Facts w dk Lf hx hd D W PcW PlW b bd C0 cd PlB PcB bp zW z kn' od' ol' oD' ow opW opB vsW vsB tlW (i + 1) :=
  { h with hK := hK', hD := hD', hkn := hkn', hkl := hkl', zz := h.zz.mono, zW := h.zW.mono }
theorem ne_same {kn : List (List UInt8 × Int)} {c : List UInt8} {P : Array UInt8} {n1 n2 : Int} (h1 : plAt (dig kn c) c = some n1) (h2 : plAt (dig (dig kn c) c) c = some n2) (h : ((P ++ byteArr [0, 0, 0, n1]).toList != (P ++ byteArr [0, 0, 0, n2]).toList) = true) : False := by
  rw [dig_again, h1] at h2
  cases h2
  simp at h


end
theorem walk_reset22 : True ∧ True := by first | (walk1 <;> trivial) | exact ⟨trivial, trivial⟩
section
open PySem PySem.W PySem.Calls PyProof.Rows
set_option Elab.async false
set_option maxRecDepth 100000
set_option maxHeartbeats 1000000 in
theorem stage8 (w : World) (dk Lf hx hd D W PcW PlW b bd C0 cd PlB PcB : Addr) (q1 q2 q3 u1 u2 u3 u4 u5 u6 : Tok) (bp : Bool) (z : St) (kn : List (List UInt8 × Int)) (tl : Tok) (od ol oD ow opW opB : Obj) (vsW : List Value) (npW : Nat) (vsB : List Value) (npB : Nat) (tlW : Tok) (i : Nat) (hi : i ≤ 20)
    (hF : Facts w dk Lf hx hd D W PcW PlW b bd C0 cd PlB PcB bp z z kn od ol oD ow opW opB vsW vsB tlW i)
    (p : Program) (loose : List Str) (mean : ExcName → Option Value) (mg mb : Str → Option Value) (base : Heap) (L : Addr) (m₀ : Str → Option Value) (vr ve vq vu vg : Option Value) (I : Addr) (oI : Obj) (s : Shared) (Q : Flow → Shared → Prop) (E : Value → Shared → Prop)
    (hI : PlB < I) (B : Below callerA base [] base) (F : Fr base L s.heap (mT vr ve vq vu vg m₀ dk hx W b)) (X : (KF w.params).In base) (T : Top p loose mean mg mb base)
    (N : News base L s.heap ((I, oI) :: lawL w dk Lf hx hd D W PcW PlW b bd C0 cd PlB PcB q1 q2 q3 u1 u2 u3 u4 u5 u6 bp z.len tl od ol oD ow opW opB vsW npW vsB npB))
    (k : ∀ h' tk' kn' od' ol' oD', Fr base L h' (mT vr ve vq vu vg m₀ dk hx W b) → News base L h' ((I, oI) :: lawL w dk Lf hx hd D W PcW PlW b bd C0 cd PlB PcB q1 q2 q3 u1 u2 u3 u4 u5 u6 bp z.len tl od' ol' oD' ow opW opB vsW npW vsB npB) →
      Facts w dk Lf hx hd D W PcW PlW b bd C0 cd PlB PcB bp z z kn' od' ol' oD' ow opW opB vsW vsB tlW (i + 1) → Q .next { s with heap := h', toks := tk' }) :
    wpC (model PR w) (AL L) (execs (lawTurn.drop 7) (envL L)) Q E s := by
  have hfill : Fill PySem.Challenge.rw_pb0104_01 KF := by k_fill; trivial
  obtain ⟨pl, ps, len⟩ := z
  have hF0 := hF
  obtain ⟨o1, o2, o3, o4, o5, o6, o7, o8, o9, o10, o11, o12, o13, o14, o15, hK, hD, hkn, hkl, hW, hPW, hPB, hBW, hBB, ⟨z1, z2, z3, z4, z5, z6⟩, -⟩ := hF
  dsimp only at *
  replace o1 := ltN o1
  replace o2 := ltN o2
  replace o3 := ltN o3
  replace o4 := ltN o4
  replace o5 := ltN o5
  replace o6 := ltN o6
  replace o7 := ltN o7
  replace o8 := ltN o8
  replace o9 := ltN o9
  replace o10 := ltN o10
  replace o11 := ltN o11
  replace o12 := ltN o12
  replace o13 := ltN o13
  have p14 := neN o14
  have p15 := neN o15
  replace hI := ltN hI
  have hS : Ord dk Lf [hd, hx, D, W, PcW, PlW, cd, C0, bd, b, PcB, PlB, I] := ⟨⟨o1, o3, o4, o5, o6, o7, o8, o9, o10, o11, o12, o13, hI, trivial⟩, ⟨o2, o3, o4, o5, o6, o7, o8, o9, o10, o11, o12, o13, hI, trivial⟩⟩
  dsimp only [lawL, buObj] at N
  refine wpC_execs_cons (wpC_If (wpC_any ?_))
  (repeat' (first | (k_unfold; (try dsimp only)) | (k_end; wrow_close) | ((with_reducible show wpAny _ _ _ _ _ _); first | (with_reducible (first | ((with_reducible show wpAny _ _ (call (Value.ref 287) [Value.ref _, Value.ref _]) _ _ _); k_dflt (refine' use_whole ?hnd ?hW ?hV ?hz ?hl ?hP ?hK ?k1 ?k2 ?k3 ?k4 ?k5 ?kK ?kd ?ku ?hs ?U ?_; (walk_at "MINE_USE0"); (case hW => assumption); (case hs => ((repeat (refine fa1 ?_ ?_; (· k_mem))); exact List.forall_mem_nil _)); (case hV => assumption); (case hP => assumption); (case hK => first | assumption | exact kn_dig (by assumption) (by omega)); (case hz => omega); (case hl => omega); (case U => k_updF); (case hnd => (simp only [List.nodup_cons, List.mem_cons, List.not_mem_nil, or_false, not_or, not_false_eq_true, List.nodup_nil, and_true]; and_intros <;> k_ne))); intro t8 n8 o8 h8 k8 F8 N8 hn8 hP8; (try dsimp only at N8); (try k_sweep)) | ((with_reducible show wpAny _ _ (call (Value.ref 182) _) _ _ _); k_dflt (refine' use_close ?hnd ?hV ?hz ?hl ?hP ?hK ?k1 ?k2 ?k3 ?k4 ?k5 ?kK ?kd ?ku ?hs ?U ?_; (walk_at "MINE_USE0"); (case hs => ((repeat (refine fa1 ?_ ?_; (· k_mem))); exact List.forall_mem_nil _)); (case hV => assumption); (case hP => assumption); (case hK => first | assumption | exact kn_dig (by assumption) (by omega)); (case hz => omega); (case hl => omega); (case U => k_updF); (case hnd => (simp only [List.nodup_cons, List.mem_cons, List.not_mem_nil, or_false, not_or, not_false_eq_true, List.nodup_nil, and_true]; and_intros <;> k_ne))); intro t8 n8 o8 h8 k8 F8 N8 hn8 hP8; (try dsimp only at N8); (try k_sweep)) | ((with_reducible show wpAny _ _ (call (Value.ref 237) [Value.ref _, Value.int _ _]) _ _ _); k_dflt (refine' use_draw ?hne ?hm ?hm2 ?hK ?k1 ?k2 ?k3 ?k4 ?k5 ?kK ?kd ?ku ?U ?_; (walk_at "MINE_USE0"); (case hK => assumption); (case hne => first | assumption | omega); (case hm => decide); (case hm2 => decide); (case U => walk_at "MINE_UPD2")); intro r8 t8 od8 ol8 h8 k8 F8 N8 r0 r1 hK8; (try dsimp only at N8); (try k_sweep))))) | ((with_reducible show WhlIf _ _ _); refine whlIf_cases (fun hB => ?_) (fun hB => ?_) <;> simp only [decide_eq_true_eq, decide_eq_false_iff_not] at hB <;> first | (exfalso; omega) | skip) | walk1 | (leave1; (try dsimp only)) | dsimp only | fail "no step"))
  · (with_reducible rename plAt (dig (dig kn _) _) _ = some _ => e2)
    (with_reducible rename plAt (dig kn _) _ = some _ => e1)
    (with_reducible rename (_ != _) = true => e3)
    exact (ne_same e1 e2 e3).elim
  · refine wpC_execs_nil ?_
    try dsimp only
    refine wpC_execs_nil ?_
    (with_reducible rename Fr _ _ _ _ => F9)
    (with_reducible rename News _ _ _ _ => N9)
    (with_reducible rename Deck _ _ _ _ _ => K9)
    (with_reducible rename Pl _ D _ _ => D9)
    rw [dig_again] at D9
    refine k _ _ _ _ _ _ F9 N9 (hF0.next K9 D9 (kn_dig hkn (by omega)) ?_)
    have := dig_len kn (packHead ps.length (cat ps)).toList
    omega
  · refine wpC_execs_nil ?_
    try dsimp only
    refine wpC_execs_nil ?_
    (with_reducible rename Fr _ _ _ _ => F9)
    (with_reducible rename News _ _ _ _ => N9)
    (with_reducible rename Deck _ _ _ _ _ => K9)
    exact k _ _ _ _ _ _ F9 N9 (hF0.next K9 hD hkn (by omega))


end
theorem walk_reset23 : True ∧ True := by first | (walk1 <;> trivial) | exact ⟨trivial, trivial⟩
section
open PySem PySem.W PySem.Calls PyProof.Rows
set_option Elab.async false
set_option maxRecDepth 100000
set_option maxHeartbeats 1000000 in
theorem stage7 (w : World) (dk Lf hx hd D W PcW PlW b bd C0 cd PlB PcB : Addr) (q1 q2 q3 u1 u2 u3 u4 u5 u6 : Tok) (bp : Bool) (z : St) (kn : List (List UInt8 × Int)) (tl : Tok) (od ol oD ow opW opB : Obj) (vsW : List Value) (npW : Nat) (vsB : List Value) (npB : Nat) (tlW : Tok) (i : Nat) (hi : i ≤ 20)
    (hF : Facts w dk Lf hx hd D W PcW PlW b bd C0 cd PlB PcB bp z z kn od ol oD ow opW opB vsW vsB tlW i)
    (p : Program) (loose : List Str) (mean : ExcName → Option Value) (mg mb : Str → Option Value) (base : Heap) (L : Addr) (m₀ : Str → Option Value) (vr ve vq vu vg : Option Value) (I : Addr) (oI : Obj) (s : Shared) (Q : Flow → Shared → Prop) (E : Value → Shared → Prop)
    (hI : PlB < I) (B : Below callerA base [] base) (F : Fr base L s.heap (mT vr ve vq vu vg m₀ dk hx W b)) (X : (KF w.params).In base) (T : Top p loose mean mg mb base)
    (N : News base L s.heap ((I, oI) :: lawL w dk Lf hx hd D W PcW PlW b bd C0 cd PlB PcB q1 q2 q3 u1 u2 u3 u4 u5 u6 bp z.len tl od ol oD ow opW opB vsW npW vsB npB))
    (k : ∀ h' tk' kn' od' ol' oD', Fr base L h' (mT vr ve vq vu vg m₀ dk hx W b) → News base L h' ((I, oI) :: lawL w dk Lf hx hd D W PcW PlW b bd C0 cd PlB PcB q1 q2 q3 u1 u2 u3 u4 u5 u6 bp z.len tl od' ol' oD' ow opW opB vsW npW vsB npB) →
      Facts w dk Lf hx hd D W PcW PlW b bd C0 cd PlB PcB bp z z kn' od' ol' oD' ow opW opB vsW vsB tlW (i + 1) → Q .next { s with heap := h', toks := tk' }) :
    wpC (model PR w) (AL L) (execs (lawTurn.drop 6) (envL L)) Q E s := by
  have hfill : Fill PySem.Challenge.rw_pb0104_01 KF := by k_fill; trivial
  obtain ⟨pl, ps, len⟩ := z
  have hF0 := hF
  obtain ⟨o1, o2, o3, o4, o5, o6, o7, o8, o9, o10, o11, o12, o13, o14, o15, hK, hD, hkn, hkl, hW, hPW, hPB, hBW, hBB, ⟨z1, z2, z3, z4, z5, z6⟩, -⟩ := hF
  dsimp only at *
  replace o1 := ltN o1
  replace o2 := ltN o2
  replace o3 := ltN o3
  replace o4 := ltN o4
  replace o5 := ltN o5
  replace o6 := ltN o6
  replace o7 := ltN o7
  replace o8 := ltN o8
  replace o9 := ltN o9
  replace o10 := ltN o10
  replace o11 := ltN o11
  replace o12 := ltN o12
  replace o13 := ltN o13
  have p14 := neN o14
  have p15 := neN o15
  replace hI := ltN hI
  have hS : Ord dk Lf [hd, hx, D, W, PcW, PlW, cd, C0, bd, b, PcB, PlB, I] := ⟨⟨o1, o3, o4, o5, o6, o7, o8, o9, o10, o11, o12, o13, hI, trivial⟩, ⟨o2, o3, o4, o5, o6, o7, o8, o9, o10, o11, o12, o13, hI, trivial⟩⟩
  dsimp only [lawL, buObj] at N
  refine wpC_execs_cons (wpC_If (wpC_any ?_))
  (repeat' (first | (k_unfold; (try dsimp only)) | (k_end; wrow_close) | ((with_reducible show wpAny _ _ _ _ _ _); first | (with_reducible (first | ((with_reducible show wpAny _ _ (compareOp CmpOp.NotEq (Value.ref _) (Value.ref _)) _ _ _); k_dflt (refine' pl_ne ?N ?m ?m2 ?D ?D2 ?u ?_; (case N => k_asm); (case m => k_mem); (case m2 => k_mem); (case D => assumption); (case D2 => assumption); (case u => ktr_units))) | ((with_reducible show wpAny _ _ (call (Value.ref 287) [Value.ref _, Value.ref _]) _ _ _); k_dflt (refine' use_whole ?hnd ?hW ?hV ?hz ?hl ?hP ?hK ?k1 ?k2 ?k3 ?k4 ?k5 ?kK ?kd ?ku ?hs ?U ?_; (walk_at "MINE_USE0"); (case hW => assumption); (case hs => ((repeat (refine fa1 ?_ ?_; (· k_mem))); exact List.forall_mem_nil _)); (case hV => assumption); (case hP => assumption); (case hK => first | assumption | exact kn_dig (by assumption) (by omega)); (case hz => omega); (case hl => omega); (case U => k_updF); (case hnd => (simp only [List.nodup_cons, List.mem_cons, List.not_mem_nil, or_false, not_or, not_false_eq_true, List.nodup_nil, and_true]; and_intros <;> k_ne))); intro t8 n8 o8 h8 k8 F8 N8 hn8 hP8; (try dsimp only at N8); (try k_sweep)) | ((with_reducible show wpAny _ _ (call (Value.ref 182) _) _ _ _); k_dflt (refine' use_close ?hnd ?hV ?hz ?hl ?hP ?hK ?k1 ?k2 ?k3 ?k4 ?k5 ?kK ?kd ?ku ?hs ?U ?_; (walk_at "MINE_USE0"); (case hs => ((repeat (refine fa1 ?_ ?_; (· k_mem))); exact List.forall_mem_nil _)); (case hV => assumption); (case hP => assumption); (case hK => first | assumption | exact kn_dig (by assumption) (by omega)); (case hz => omega); (case hl => omega); (case U => k_updF); (case hnd => (simp only [List.nodup_cons, List.mem_cons, List.not_mem_nil, or_false, not_or, not_false_eq_true, List.nodup_nil, and_true]; and_intros <;> k_ne))); intro t8 n8 o8 h8 k8 F8 N8 hn8 hP8; (try dsimp only at N8); (try k_sweep)) | ((with_reducible show wpAny _ _ (call (Value.ref 237) [Value.ref _, Value.int _ _]) _ _ _); k_dflt (refine' use_draw ?hne ?hm ?hm2 ?hK ?k1 ?k2 ?k3 ?k4 ?k5 ?kK ?kd ?ku ?U ?_; (walk_at "MINE_USE0"); (case hK => assumption); (case hne => first | assumption | omega); (case hm => decide); (case hm2 => decide); (case U => walk_at "MINE_UPD2")); intro r8 t8 od8 ol8 h8 k8 F8 N8 r0 r1 hK8; (try dsimp only at N8); (try k_sweep)) | ((with_reducible show wpAny _ _ (compareOp CmpOp.NotEq (Value.ref _) (Value.ref _)) _ _ _); k_dflt (refine' ne_nil ?N ?m ?m2 ?u ?_; (case N => k_asm); (case m => k_mem); (case m2 => k_mem); (case u => ktr_units)); (try dsimp only)) | ((with_reducible show wpAny _ _ (subscriptTail _ _ (Value.ref _) (Value.str _ _)) _ _ _); k_dflt (refine' di_tailS (knd := strKind PR _) ?N ?m ?D (strKind_is _ _ _ _) ?v ?_; (case N => k_asm); (case m => k_mem); (case D => assumption); (case v => exact rfl)); intro _) | ((with_reducible show wpAny _ _ (subscriptTail _ _ (Value.ref _) (Value.bytes _ _)) _ _ _); k_dflt (refine' pl_tailS ?N ?m ?D ?v ?_; (case N => k_asm); (case m => k_mem); (case D => assumption); (case v => first | assumption | exact plAt_snoc_some _ _ _ | (simp_all; done))); intro n8 t8 k8 hn8; (try (have hb8 := PlOk.at (by assumption) hn8; obtain ⟨hb8a, hb8b⟩ := hb8)))))) | ((with_reducible show WhlIf _ _ _); refine whlIf_cases (fun hB => ?_) (fun hB => ?_) <;> simp only [decide_eq_true_eq, decide_eq_false_iff_not] at hB <;> first | (exfalso; omega) | skip) | walk1 | (leave1; (try dsimp only)) | dsimp only | fail "no step"))
  · exfalso
    simp at *
  · refine wpC_execs_nil ?_
    try dsimp only
    (with_reducible rename Fr _ _ _ _ => F9)
    (with_reducible rename News _ _ _ _ => N9)
    exact stage8 w dk Lf hx hd D W PcW PlW b bd C0 cd PlB PcB q1 q2 q3 u1 u2 u3 u4 u5 u6 bp ⟨pl, ps, len⟩ kn tl od ol oD ow opW opB vsW npW vsB npB tlW i hi hF0 p loose mean mg mb base L m₀ vr ve vq vu vg I oI _ Q E hI B F9 X T N9 k


end
theorem walk_reset24 : True ∧ True := by first | (walk1 <;> trivial) | exact ⟨trivial, trivial⟩
section
open PySem PySem.W PySem.Calls PyProof.Rows
set_option Elab.async false
set_option maxRecDepth 100000
set_option maxHeartbeats 1000000 in
theorem stage6 (w : World) (dk Lf hx hd D W PcW PlW b bd C0 cd PlB PcB : Addr) (q1 q2 q3 u1 u2 u3 u4 u5 u6 : Tok) (bp : Bool) (z : St) (r : Row) (kn : List (List UInt8 × Int)) (tl : Tok) (od ol oD ow opW opB : Obj) (vsW : List Value) (npW : Nat) (vsB : List Value) (npB : Nat) (tlW : Tok) (i : Nat) (hi : i ≤ 20)
    (hF : Facts w dk Lf hx hd D W PcW PlW b bd C0 cd PlB PcB bp z (addSt bp z r) kn od ol oD ow opW opB vsW vsB tlW i)
    (p : Program) (loose : List Str) (mean : ExcName → Option Value) (mg mb : Str → Option Value) (base : Heap) (L : Addr) (m₀ : Str → Option Value) (ve vu vg : Option Value) (tp : Addr) (vo vk vc vb vd vp : Value) (I : Addr) (oI : Obj) (s : Shared) (Q : Flow → Shared → Prop) (E : Value → Shared → Prop)
    (hr : r.ok) (hV : RowV r vo vk vc vb vd) (hp : ov vp (pieceOf bp z.pl z.len r)) (hpz : ∀ c, pieceOf bp z.pl z.len r = some c → c.size ≤ 400) (ht1 : @Ne Nat tp PlW) (ht2 : @Ne Nat tp PcW) (ht3 : @Ne Nat tp W)
    (hI : PlB < I) (B : Below callerA base [] base) (F : Fr base L s.heap (mT (some (.ref tp)) ve (some vp) vu vg m₀ dk hx W b)) (X : (KF w.params).In base) (T : Top p loose mean mg mb base)
    (N : News base L s.heap ((tp, tupObj [vo, vk, vc, vb, vd]) :: (I, oI) :: lawL w dk Lf hx hd D W PcW PlW b bd C0 cd PlB PcB q1 q2 q3 u1 u2 u3 u4 u5 u6 bp (addSt bp z r).len tl od ol oD ow opW opB vsW npW vsB npB))
    (k : ∀ h' tk' kn' od' ol' oD' ow' opW' vsW' npW' tlW', Fr base L h' (mT (some (.ref tp)) ve (some vp) vu vg m₀ dk hx W b) → News base L h' ((I, oI) :: lawL w dk Lf hx hd D W PcW PlW b bd C0 cd PlB PcB q1 q2 q3 u1 u2 u3 u4 u5 u6 bp (addSt bp z r).len tl od' ol' oD' ow' opW' opB vsW' npW' vsB npB) →
      Facts w dk Lf hx hd D W PcW PlW b bd C0 cd PlB PcB bp (addSt bp z r) (addSt bp z r) kn' od' ol' oD' ow' opW' opB vsW' vsB tlW' (i + 1) → Q .next { s with heap := h', toks := tk' }) :
    wpC (model PR w) (AL L) (execs (lawTurn.drop 5) (envL L)) Q E s := by
  have hfill : Fill PySem.Challenge.rw_pb0104_01 KF := by k_fill; trivial
  have hF0 := hF
  obtain ⟨o1, o2, o3, o4, o5, o6, o7, o8, o9, o10, o11, o12, o13, o14, o15, hK, hD, hkn, hkl, hW, hPW, hPB, hBW, hBB, -, ⟨z1, z2, z3, z4, z5, z6⟩⟩ := hF
  have hlW := hBW.length
  obtain ⟨⟨to, rfl⟩, ⟨tk0, rfl⟩, hV3⟩ := hV
  replace o1 := ltN o1
  replace o2 := ltN o2
  replace o3 := ltN o3
  replace o4 := ltN o4
  replace o5 := ltN o5
  replace o6 := ltN o6
  replace o7 := ltN o7
  replace o8 := ltN o8
  replace o9 := ltN o9
  replace o10 := ltN o10
  replace o11 := ltN o11
  replace o12 := ltN o12
  replace o13 := ltN o13
  have p14 := neN o14
  have p15 := neN o15
  replace hI := ltN hI
  have hS : Ord dk Lf [hd, hx, D, W, PcW, PlW, cd, C0, bd, b, PcB, PlB, I] := ⟨⟨o1, o3, o4, o5, o6, o7, o8, o9, o10, o11, o12, o13, hI, trivial⟩, ⟨o2, o3, o4, o5, o6, o7, o8, o9, o10, o11, o12, o13, hI, trivial⟩⟩
  dsimp only [lawL, buObj] at N
  cases hx1 : pieceOf bp z.pl z.len r with
  | none =>
    rw [hx1] at hp
    obtain rfl : vp = .none := hp
    rw [addSt_bad hx1] at N k hF0
    refine wpC_execs_cons (wpC_If (wpC_any ?_))
    (repeat' (first | (k_unfold; (try dsimp only)) | (k_end; wrow_close) | ((with_reducible show wpAny _ _ _ _ _ _); first | (with_reducible (first | ((with_reducible show wpAny _ _ (compareOp CmpOp.NotEq (Value.ref _) (Value.ref _)) _ _ _); k_dflt (refine' pl_ne ?N ?m ?m2 ?D ?D2 ?u ?_; (case N => k_asm); (case m => k_mem); (case m2 => k_mem); (case D => assumption); (case D2 => assumption); (case u => ktr_units))) | ((with_reducible show wpAny _ _ (call (Value.ref 287) [Value.ref _, Value.ref _]) _ _ _); k_dflt (refine' use_whole ?hnd ?hW ?hV ?hz ?hl ?hP ?hK ?k1 ?k2 ?k3 ?k4 ?k5 ?kK ?kd ?ku ?hs ?U ?_; (walk_at "MINE_USE0"); (case hW => assumption); (case hs => ((repeat (refine fa1 ?_ ?_; (· k_mem))); exact List.forall_mem_nil _)); (case hV => assumption); (case hP => assumption); (case hK => first | assumption | exact kn_dig (by assumption) (by omega)); (case hz => omega); (case hl => omega); (case U => k_updF); (case hnd => (simp only [List.nodup_cons, List.mem_cons, List.not_mem_nil, or_false, not_or, not_false_eq_true, List.nodup_nil, and_true]; and_intros <;> k_ne))); intro t8 n8 o8 h8 k8 F8 N8 hn8 hP8; (try dsimp only at N8); (try k_sweep)) | ((with_reducible show wpAny _ _ (call (Value.ref 182) _) _ _ _); k_dflt (refine' use_close ?hnd ?hV ?hz ?hl ?hP ?hK ?k1 ?k2 ?k3 ?k4 ?k5 ?kK ?kd ?ku ?hs ?U ?_; (walk_at "MINE_USE0"); (case hs => ((repeat (refine fa1 ?_ ?_; (· k_mem))); exact List.forall_mem_nil _)); (case hV => assumption); (case hP => assumption); (case hK => first | assumption | exact kn_dig (by assumption) (by omega)); (case hz => omega); (case hl => omega); (case U => k_updF); (case hnd => (simp only [List.nodup_cons, List.mem_cons, List.not_mem_nil, or_false, not_or, not_false_eq_true, List.nodup_nil, and_true]; and_intros <;> k_ne))); intro t8 n8 o8 h8 k8 F8 N8 hn8 hP8; (try dsimp only at N8); (try k_sweep)) | ((with_reducible show wpAny _ _ (call (Value.ref 237) [Value.ref _, Value.int _ _]) _ _ _); k_dflt (refine' use_draw ?hne ?hm ?hm2 ?hK ?k1 ?k2 ?k3 ?k4 ?k5 ?kK ?kd ?ku ?U ?_; (walk_at "MINE_USE0"); (case hK => assumption); (case hne => first | assumption | omega); (case hm => decide); (case hm2 => decide); (case U => walk_at "MINE_UPD2")); intro r8 t8 od8 ol8 h8 k8 F8 N8 r0 r1 hK8; (try dsimp only at N8); (try k_sweep)) | ((with_reducible show wpAny _ _ (setItem (Value.ref _) (Value.str _ _) _) _ _ _); k_dflt (refine' di_set (knd := strKind PR _) ?F ?N ?U ?D (strKind_is _ _ _ _) ?z ?_; (case F => k_asm); (case N => k_asm); (case U => k_updF); (case D => assumption); (case z => exact Nat.le_of_ble_eq_true rfl)); intro h' o' k' F' N' D'; (try dsimp only at N'); (try simp (config := { decide := true }) only [PySem.stored, List.any_cons, List.any_nil, Bool.or_false, Bool.or_true, Bool.true_or, Bool.false_or, if_true, if_false, List.map_cons, List.map_nil] at D'); (try k_sweep)) | ((with_reducible show wpAny _ _ (subscriptTail _ _ (Value.ref _) (Value.str _ _)) _ _ _); k_dflt (refine' di_tailS (knd := strKind PR _) ?N ?m ?D (strKind_is _ _ _ _) ?v ?_; (case N => k_asm); (case m => k_mem); (case D => assumption); (case v => exact rfl)); intro _) | ((with_reducible show wpAny _ _ (call (Value.builtin "len") [Value.ref _]) _ _ _); k_dflt (refine' len_seq ?N ?m ?z ?_; (case N => k_asm); (case m => k_mem); (case z => omega)); intro _ _) | ((with_reducible show wpAny _ _ (call (Value.builtin "len") [Value.ref _]) _ _ _); k_dflt (refine' pl_len ?N ?m ?D ?z ?_; (case N => k_asm); (case m => k_mem); (case D => assumption); (case z => omega)); intro _ _) | ((with_reducible show wpAny _ _ (setItem (Value.ref _) (Value.bytes _ _) _) _ _ _); k_dflt (refine' pl_set ?F ?N ?U ?D ?v ?z ?_; (case F => k_asm); (case N => k_asm); (case U => k_updF); (case D => assumption); (case v => first | assumption | (simp_all; done)); (case z => (rw [sizeLine_eq]; omega))); intro h' o' k' F' N' D'; (try dsimp only at N'); (try k_sweep)) | ((with_reducible show wpAny _ _ (subscriptTail _ _ (Value.ref _) (Value.bytes _ _)) _ _ _); k_dflt (refine' pl_tailS ?N ?m ?D ?v ?_; (case N => k_asm); (case m => k_mem); (case D => assumption); (case v => first | assumption | exact plAt_snoc_some _ _ _ | (simp_all; done))); intro n8 t8 k8 hn8; (try (have hb8 := PlOk.at (by assumption) hn8; obtain ⟨hb8a, hb8b⟩ := hb8))) | ((with_reducible show wpAny _ _ (compareOp CmpOp.NotIn (Value.bytes _ _) (Value.ref _)) _ _ _); k_dflt (refine' pl_notin ?N ?m ?D ?_; (case N => k_asm); (case m => k_mem); (case D => assumption)); intro _) | ((with_reducible show wpAny _ _ (call (Value.builtin "len") [Value.bytes _ _]) _ _ _); (refine len_bytes (by (try simp only [Array.size_append]); omega) ?_))))) | ((with_reducible show WhlIf _ _ _); refine whlIf_cases (fun hB => ?_) (fun hB => ?_) <;> simp only [decide_eq_true_eq, decide_eq_false_iff_not] at hB <;> first | (exfalso; omega) | skip) | walk1 | (leave1; (try dsimp only)) | dsimp only | fail "no step"))
    · refine wpC_execs_nil ?_
      try dsimp only
      (with_reducible rename Fr _ _ _ _ => F9)
      (with_reducible rename News _ _ _ _ => N9)
      exact stage7 w dk Lf hx hd D W PcW PlW b bd C0 cd PlB PcB q1 q2 q3 u1 u2 u3 u4 u5 u6 bp z kn tl od ol oD ow opW opB vsW npW vsB npB tlW i hi hF0 p loose mean mg mb base L m₀ (some (.ref tp)) ve (some .none) vu vg I oI _ Q E hI B F9 X T (fun q hq => N9 q (List.mem_cons_of_mem _ hq)) (fun h' tk' kn' od' ol' oD' F' N' hF' => k h' tk' kn' od' ol' oD' _ _ _ _ _ F' N' hF')
    · refine wpC_execs_nil ?_
      try dsimp only
      (with_reducible rename Fr _ _ _ _ => F9)
      (with_reducible rename News _ _ _ _ => N9)
      exact stage7 w dk Lf hx hd D W PcW PlW b bd C0 cd PlB PcB q1 q2 q3 u1 u2 u3 u4 u5 u6 bp z kn tl od ol oD ow opW opB vsW npW vsB npB tlW i hi hF0 p loose mean mg mb base L m₀ (some (.ref tp)) ve (some .none) vu vg I oI _ Q E hI B F9 X T (fun q hq => N9 q (List.mem_cons_of_mem _ hq)) (fun h' tk' kn' od' ol' oD' F' N' hF' => k h' tk' kn' od' ol' oD' _ _ _ _ _ F' N' hF')
  | some pc =>
    rw [hx1] at hp
    obtain ⟨tpc, rfl⟩ := hp
    have hz := hpz pc hx1
    cases hx2 : plAt z.pl r.oid.toList with
    | some n =>
      rw [addSt_old (by rw [hx2]; rfl)] at N k hF0
      refine wpC_execs_cons (wpC_If (wpC_any ?_))
      (repeat' (first | (k_unfold; (try dsimp only)) | (k_end; wrow_close) | ((with_reducible show wpAny _ _ _ _ _ _); first | (with_reducible (first | ((with_reducible show wpAny _ _ (compareOp CmpOp.NotEq (Value.ref _) (Value.ref _)) _ _ _); k_dflt (refine' pl_ne ?N ?m ?m2 ?D ?D2 ?u ?_; (case N => k_asm); (case m => k_mem); (case m2 => k_mem); (case D => assumption); (case D2 => assumption); (case u => ktr_units))) | ((with_reducible show wpAny _ _ (call (Value.ref 287) [Value.ref _, Value.ref _]) _ _ _); k_dflt (refine' use_whole ?hnd ?hW ?hV ?hz ?hl ?hP ?hK ?k1 ?k2 ?k3 ?k4 ?k5 ?kK ?kd ?ku ?hs ?U ?_; (walk_at "MINE_USE0"); (case hW => assumption); (case hs => ((repeat (refine fa1 ?_ ?_; (· k_mem))); exact List.forall_mem_nil _)); (case hV => assumption); (case hP => assumption); (case hK => first | assumption | exact kn_dig (by assumption) (by omega)); (case hz => omega); (case hl => omega); (case U => k_updF); (case hnd => (simp only [List.nodup_cons, List.mem_cons, List.not_mem_nil, or_false, not_or, not_false_eq_true, List.nodup_nil, and_true]; and_intros <;> k_ne))); intro t8 n8 o8 h8 k8 F8 N8 hn8 hP8; (try dsimp only at N8); (try k_sweep)) | ((with_reducible show wpAny _ _ (call (Value.ref 182) _) _ _ _); k_dflt (refine' use_close ?hnd ?hV ?hz ?hl ?hP ?hK ?k1 ?k2 ?k3 ?k4 ?k5 ?kK ?kd ?ku ?hs ?U ?_; (walk_at "MINE_USE0"); (case hs => ((repeat (refine fa1 ?_ ?_; (· k_mem))); exact List.forall_mem_nil _)); (case hV => assumption); (case hP => assumption); (case hK => first | assumption | exact kn_dig (by assumption) (by omega)); (case hz => omega); (case hl => omega); (case U => k_updF); (case hnd => (simp only [List.nodup_cons, List.mem_cons, List.not_mem_nil, or_false, not_or, not_false_eq_true, List.nodup_nil, and_true]; and_intros <;> k_ne))); intro t8 n8 o8 h8 k8 F8 N8 hn8 hP8; (try dsimp only at N8); (try k_sweep)) | ((with_reducible show wpAny _ _ (call (Value.ref 237) [Value.ref _, Value.int _ _]) _ _ _); k_dflt (refine' use_draw ?hne ?hm ?hm2 ?hK ?k1 ?k2 ?k3 ?k4 ?k5 ?kK ?kd ?ku ?U ?_; (walk_at "MINE_USE0"); (case hK => assumption); (case hne => first | assumption | omega); (case hm => decide); (case hm2 => decide); (case U => walk_at "MINE_UPD2")); intro r8 t8 od8 ol8 h8 k8 F8 N8 r0 r1 hK8; (try dsimp only at N8); (try k_sweep)) | ((with_reducible show wpAny _ _ (setItem (Value.ref _) (Value.str _ _) _) _ _ _); k_dflt (refine' di_set (knd := strKind PR _) ?F ?N ?U ?D (strKind_is _ _ _ _) ?z ?_; (case F => k_asm); (case N => k_asm); (case U => k_updF); (case D => assumption); (case z => exact Nat.le_of_ble_eq_true rfl)); intro h' o' k' F' N' D'; (try dsimp only at N'); (try simp (config := { decide := true }) only [PySem.stored, List.any_cons, List.any_nil, Bool.or_false, Bool.or_true, Bool.true_or, Bool.false_or, if_true, if_false, List.map_cons, List.map_nil] at D'); (try k_sweep)) | ((with_reducible show wpAny _ _ (subscriptTail _ _ (Value.ref _) (Value.str _ _)) _ _ _); k_dflt (refine' di_tailS (knd := strKind PR _) ?N ?m ?D (strKind_is _ _ _ _) ?v ?_; (case N => k_asm); (case m => k_mem); (case D => assumption); (case v => exact rfl)); intro _) | ((with_reducible show wpAny _ _ (call (Value.builtin "len") [Value.ref _]) _ _ _); k_dflt (refine' len_seq ?N ?m ?z ?_; (case N => k_asm); (case m => k_mem); (case z => omega)); intro _ _) | ((with_reducible show wpAny _ _ (call (Value.builtin "len") [Value.ref _]) _ _ _); k_dflt (refine' pl_len ?N ?m ?D ?z ?_; (case N => k_asm); (case m => k_mem); (case D => assumption); (case z => omega)); intro _ _) | ((with_reducible show wpAny _ _ (setItem (Value.ref _) (Value.bytes _ _) _) _ _ _); k_dflt (refine' pl_set ?F ?N ?U ?D ?v ?z ?_; (case F => k_asm); (case N => k_asm); (case U => k_updF); (case D => assumption); (case v => first | assumption | (simp_all; done)); (case z => (rw [sizeLine_eq]; omega))); intro h' o' k' F' N' D'; (try dsimp only at N'); (try k_sweep)) | ((with_reducible show wpAny _ _ (subscriptTail _ _ (Value.ref _) (Value.bytes _ _)) _ _ _); k_dflt (refine' pl_tailS ?N ?m ?D ?v ?_; (case N => k_asm); (case m => k_mem); (case D => assumption); (case v => first | assumption | exact plAt_snoc_some _ _ _ | (simp_all; done))); intro n8 t8 k8 hn8; (try (have hb8 := PlOk.at (by assumption) hn8; obtain ⟨hb8a, hb8b⟩ := hb8))) | ((with_reducible show wpAny _ _ (compareOp CmpOp.NotIn (Value.bytes _ _) (Value.ref _)) _ _ _); k_dflt (refine' pl_notin ?N ?m ?D ?_; (case N => k_asm); (case m => k_mem); (case D => assumption)); intro _) | ((with_reducible show wpAny _ _ (call (Value.builtin "len") [Value.bytes _ _]) _ _ _); (refine len_bytes (by (try simp only [Array.size_append]); omega) ?_))))) | ((with_reducible show WhlIf _ _ _); refine whlIf_cases (fun hB => ?_) (fun hB => ?_) <;> simp only [decide_eq_true_eq, decide_eq_false_iff_not] at hB <;> first | (exfalso; omega) | skip) | walk1 | (leave1; (try dsimp only)) | dsimp only | fail "no step"))
      · refine wpC_execs_nil ?_
        try dsimp only
        (with_reducible rename Fr _ _ _ _ => F9)
        (with_reducible rename News _ _ _ _ => N9)
        exact stage7 w dk Lf hx hd D W PcW PlW b bd C0 cd PlB PcB q1 q2 q3 u1 u2 u3 u4 u5 u6 bp z kn tl od ol oD ow opW opB vsW npW vsB npB tlW i hi hF0 p loose mean mg mb base L m₀ (some (.ref tp)) ve (some (.bytes pc tpc)) vu vg I oI _ Q E hI B F9 X T (fun q hq => N9 q (List.mem_cons_of_mem _ hq)) (fun h' tk' kn' od' ol' oD' F' N' hF' => k h' tk' kn' od' ol' oD' _ _ _ _ _ F' N' hF')
      · exfalso
        (with_reducible rename Option.isSome _ = false => e9)
        rw [hx2] at e9; cases e9
    | none =>
      rw [addSt_new hx2 hx1] at N k hF0
      refine wpC_execs_cons (wpC_If (wpC_any ?_))
      (repeat' (first | (k_unfold; (try dsimp only)) | (k_end; wrow_close) | ((with_reducible show wpAny _ _ _ _ _ _); first | (with_reducible (first | ((with_reducible show wpAny _ _ (compareOp CmpOp.NotEq (Value.ref _) (Value.ref _)) _ _ _); k_dflt (refine' pl_ne ?N ?m ?m2 ?D ?D2 ?u ?_; (case N => k_asm); (case m => k_mem); (case m2 => k_mem); (case D => assumption); (case D2 => assumption); (case u => ktr_units))) | ((with_reducible show wpAny _ _ (call (Value.ref 287) [Value.ref _, Value.ref _]) _ _ _); k_dflt (refine' use_whole ?hnd ?hW ?hV ?hz ?hl ?hP ?hK ?k1 ?k2 ?k3 ?k4 ?k5 ?kK ?kd ?ku ?hs ?U ?_; (walk_at "MINE_USE0"); (case hW => assumption); (case hs => ((repeat (refine fa1 ?_ ?_; (· k_mem))); exact List.forall_mem_nil _)); (case hV => assumption); (case hP => assumption); (case hK => first | assumption | exact kn_dig (by assumption) (by omega)); (case hz => omega); (case hl => omega); (case U => k_updF); (case hnd => (simp only [List.nodup_cons, List.mem_cons, List.not_mem_nil, or_false, not_or, not_false_eq_true, List.nodup_nil, and_true]; and_intros <;> k_ne))); intro t8 n8 o8 h8 k8 F8 N8 hn8 hP8; (try dsimp only at N8); (try k_sweep)) | ((with_reducible show wpAny _ _ (call (Value.ref 182) _) _ _ _); k_dflt (refine' use_close ?hnd ?hV ?hz ?hl ?hP ?hK ?k1 ?k2 ?k3 ?k4 ?k5 ?kK ?kd ?ku ?hs ?U ?_; (walk_at "MINE_USE0"); (case hs => ((repeat (refine fa1 ?_ ?_; (· k_mem))); exact List.forall_mem_nil _)); (case hV => assumption); (case hP => assumption); (case hK => first | assumption | exact kn_dig (by assumption) (by omega)); (case hz => omega); (case hl => omega); (case U => k_updF); (case hnd => (simp only [List.nodup_cons, List.mem_cons, List.not_mem_nil, or_false, not_or, not_false_eq_true, List.nodup_nil, and_true]; and_intros <;> k_ne))); intro t8 n8 o8 h8 k8 F8 N8 hn8 hP8; (try dsimp only at N8); (try k_sweep)) | ((with_reducible show wpAny _ _ (call (Value.ref 237) [Value.ref _, Value.int _ _]) _ _ _); k_dflt (refine' use_draw ?hne ?hm ?hm2 ?hK ?k1 ?k2 ?k3 ?k4 ?k5 ?kK ?kd ?ku ?U ?_; (walk_at "MINE_USE0"); (case hK => assumption); (case hne => first | assumption | omega); (case hm => decide); (case hm2 => decide); (case U => walk_at "MINE_UPD2")); intro r8 t8 od8 ol8 h8 k8 F8 N8 r0 r1 hK8; (try dsimp only at N8); (try k_sweep)) | ((with_reducible show wpAny _ _ (setItem (Value.ref _) (Value.str _ _) _) _ _ _); k_dflt (refine' di_set (knd := strKind PR _) ?F ?N ?U ?D (strKind_is _ _ _ _) ?z ?_; (case F => k_asm); (case N => k_asm); (case U => k_updF); (case D => assumption); (case z => exact Nat.le_of_ble_eq_true rfl)); intro h' o' k' F' N' D'; (try dsimp only at N'); (try simp (config := { decide := true }) only [PySem.stored, List.any_cons, List.any_nil, Bool.or_false, Bool.or_true, Bool.true_or, Bool.false_or, if_true, if_false, List.map_cons, List.map_nil] at D'); (try k_sweep)) | ((with_reducible show wpAny _ _ (subscriptTail _ _ (Value.ref _) (Value.str _ _)) _ _ _); k_dflt (refine' di_tailS (knd := strKind PR _) ?N ?m ?D (strKind_is _ _ _ _) ?v ?_; (case N => k_asm); (case m => k_mem); (case D => assumption); (case v => exact rfl)); intro _) | ((with_reducible show wpAny _ _ (call (Value.builtin "len") [Value.ref _]) _ _ _); k_dflt (refine' len_seq ?N ?m ?z ?_; (case N => k_asm); (case m => k_mem); (case z => omega)); intro _ _) | ((with_reducible show wpAny _ _ (call (Value.builtin "len") [Value.ref _]) _ _ _); k_dflt (refine' pl_len ?N ?m ?D ?z ?_; (case N => k_asm); (case m => k_mem); (case D => assumption); (case z => omega)); intro _ _) | ((with_reducible show wpAny _ _ (setItem (Value.ref _) (Value.bytes _ _) _) _ _ _); k_dflt (refine' pl_set ?F ?N ?U ?D ?v ?z ?_; (case F => k_asm); (case N => k_asm); (case U => k_updF); (case D => assumption); (case v => first | assumption | (simp_all; done)); (case z => (rw [sizeLine_eq]; omega))); intro h' o' k' F' N' D'; (try dsimp only at N'); (try k_sweep)) | ((with_reducible show wpAny _ _ (subscriptTail _ _ (Value.ref _) (Value.bytes _ _)) _ _ _); k_dflt (refine' pl_tailS ?N ?m ?D ?v ?_; (case N => k_asm); (case m => k_mem); (case D => assumption); (case v => first | assumption | exact plAt_snoc_some _ _ _ | (simp_all; done))); intro n8 t8 k8 hn8; (try (have hb8 := PlOk.at (by assumption) hn8; obtain ⟨hb8a, hb8b⟩ := hb8))) | ((with_reducible show wpAny _ _ (compareOp CmpOp.NotIn (Value.bytes _ _) (Value.ref _)) _ _ _); k_dflt (refine' pl_notin ?N ?m ?D ?_; (case N => k_asm); (case m => k_mem); (case D => assumption)); intro _) | ((with_reducible show wpAny _ _ (call (Value.builtin "len") [Value.bytes _ _]) _ _ _); (refine len_bytes (by (try simp only [Array.size_append]); omega) ?_))))) | ((with_reducible show WhlIf _ _ _); refine whlIf_cases (fun hB => ?_) (fun hB => ?_) <;> simp only [decide_eq_true_eq, decide_eq_false_iff_not] at hB <;> first | (exfalso; omega) | skip) | walk1 | (leave1; (try dsimp only)) | dsimp only | fail "no step"))
      · exfalso
        (with_reducible rename Option.isSome _ = true => e9)
        rw [hx2] at e9; cases e9
      · have hzz := hF0.zz
        obtain ⟨y1, y2, y3, y4, y5, y6⟩ := hzz
        refine wpC_execs_consA ?_
        (repeat' (first | (k_unfold; (try dsimp only)) | (k_end; wrow_close) | ((with_reducible show wpAny _ _ _ _ _ _); first | (with_reducible (first | ((with_reducible show wpAny _ _ (compareOp CmpOp.NotEq (Value.ref _) (Value.ref _)) _ _ _); k_dflt (refine' pl_ne ?N ?m ?m2 ?D ?D2 ?u ?_; (case N => k_asm); (case m => k_mem); (case m2 => k_mem); (case D => assumption); (case D2 => assumption); (case u => ktr_units))) | ((with_reducible show wpAny _ _ (call (Value.ref 287) [Value.ref _, Value.ref _]) _ _ _); k_dflt (refine' use_whole ?hnd ?hW ?hV ?hz ?hl ?hP ?hK ?k1 ?k2 ?k3 ?k4 ?k5 ?kK ?kd ?ku ?hs ?U ?_; (walk_at "MINE_USE0"); (case hW => assumption); (case hs => ((repeat (refine fa1 ?_ ?_; (· k_mem))); exact List.forall_mem_nil _)); (case hV => assumption); (case hP => assumption); (case hK => first | assumption | exact kn_dig (by assumption) (by omega)); (case hz => omega); (case hl => omega); (case U => k_updF); (case hnd => (simp only [List.nodup_cons, List.mem_cons, List.not_mem_nil, or_false, not_or, not_false_eq_true, List.nodup_nil, and_true]; and_intros <;> k_ne))); intro t8 n8 o8 h8 k8 F8 N8 hn8 hP8; (try dsimp only at N8); (try k_sweep)) | ((with_reducible show wpAny _ _ (call (Value.ref 182) _) _ _ _); k_dflt (refine' use_close ?hnd ?hV ?hz ?hl ?hP ?hK ?k1 ?k2 ?k3 ?k4 ?k5 ?kK ?kd ?ku ?hs ?U ?_; (walk_at "MINE_USE0"); (case hs => ((repeat (refine fa1 ?_ ?_; (· k_mem))); exact List.forall_mem_nil _)); (case hV => assumption); (case hP => assumption); (case hK => first | assumption | exact kn_dig (by assumption) (by omega)); (case hz => omega); (case hl => omega); (case U => k_updF); (case hnd => (simp only [List.nodup_cons, List.mem_cons, List.not_mem_nil, or_false, not_or, not_false_eq_true, List.nodup_nil, and_true]; and_intros <;> k_ne))); intro t8 n8 o8 h8 k8 F8 N8 hn8 hP8; (try dsimp only at N8); (try k_sweep)) | ((with_reducible show wpAny _ _ (call (Value.ref 237) [Value.ref _, Value.int _ _]) _ _ _); k_dflt (refine' use_draw ?hne ?hm ?hm2 ?hK ?k1 ?k2 ?k3 ?k4 ?k5 ?kK ?kd ?ku ?U ?_; (walk_at "MINE_USE0"); (case hK => assumption); (case hne => first | assumption | omega); (case hm => decide); (case hm2 => decide); (case U => walk_at "MINE_UPD2")); intro r8 t8 od8 ol8 h8 k8 F8 N8 r0 r1 hK8; (try dsimp only at N8); (try k_sweep)) | ((with_reducible show wpAny _ _ (setItem (Value.ref _) (Value.str _ _) _) _ _ _); k_dflt (refine' di_set (knd := strKind PR _) ?F ?N ?U ?D (strKind_is _ _ _ _) ?z ?_; (case F => k_asm); (case N => k_asm); (case U => k_updF); (case D => assumption); (case z => exact Nat.le_of_ble_eq_true rfl)); intro h' o' k' F' N' D'; (try dsimp only at N'); (try simp (config := { decide := true }) only [PySem.stored, List.any_cons, List.any_nil, Bool.or_false, Bool.or_true, Bool.true_or, Bool.false_or, if_true, if_false, List.map_cons, List.map_nil] at D'); (try k_sweep)) | ((with_reducible show wpAny _ _ (subscriptTail _ _ (Value.ref _) (Value.str _ _)) _ _ _); k_dflt (refine' di_tailS (knd := strKind PR _) ?N ?m ?D (strKind_is _ _ _ _) ?v ?_; (case N => k_asm); (case m => k_mem); (case D => assumption); (case v => exact rfl)); intro _) | ((with_reducible show wpAny _ _ (call (Value.builtin "len") [Value.ref _]) _ _ _); k_dflt (refine' len_seq ?N ?m ?z ?_; (case N => k_asm); (case m => k_mem); (case z => omega)); intro _ _) | ((with_reducible show wpAny _ _ (call (Value.builtin "len") [Value.ref _]) _ _ _); k_dflt (refine' pl_len ?N ?m ?D ?z ?_; (case N => k_asm); (case m => k_mem); (case D => assumption); (case z => omega)); intro _ _) | ((with_reducible show wpAny _ _ (setItem (Value.ref _) (Value.bytes _ _) _) _ _ _); k_dflt (refine' pl_set ?F ?N ?U ?D ?v ?z ?_; (case F => k_asm); (case N => k_asm); (case U => k_updF); (case D => assumption); (case v => first | assumption | (simp_all; done)); (case z => (rw [sizeLine_eq]; omega))); intro h' o' k' F' N' D'; (try dsimp only at N'); (try k_sweep)) | ((with_reducible show wpAny _ _ (subscriptTail _ _ (Value.ref _) (Value.bytes _ _)) _ _ _); k_dflt (refine' pl_tailS ?N ?m ?D ?v ?_; (case N => k_asm); (case m => k_mem); (case D => assumption); (case v => first | assumption | exact plAt_snoc_some _ _ _ | (simp_all; done))); intro n8 t8 k8 hn8; (try (have hb8 := PlOk.at (by assumption) hn8; obtain ⟨hb8a, hb8b⟩ := hb8))) | ((with_reducible show wpAny _ _ (compareOp CmpOp.NotIn (Value.bytes _ _) (Value.ref _)) _ _ _); k_dflt (refine' pl_notin ?N ?m ?D ?_; (case N => k_asm); (case m => k_mem); (case D => assumption)); intro _) | ((with_reducible show wpAny _ _ (call (Value.builtin "len") [Value.bytes _ _]) _ _ _); (refine len_bytes (by (try simp only [Array.size_append]); omega) ?_))))) | ((with_reducible show WhlIf _ _ _); refine whlIf_cases (fun hB => ?_) (fun hB => ?_) <;> simp only [decide_eq_true_eq, decide_eq_false_iff_not] at hB <;> first | (exfalso; omega) | skip) | walk1 | (leave1; (try dsimp only)) | dsimp only | fail "no step"))
        refine wpC_execs_consA ?_
        (repeat' (first | (k_unfold; (try dsimp only)) | (k_end; wrow_close) | ((with_reducible show wpAny _ _ _ _ _ _); first | (with_reducible (first | ((with_reducible show wpAny _ _ (compareOp CmpOp.NotEq (Value.ref _) (Value.ref _)) _ _ _); k_dflt (refine' pl_ne ?N ?m ?m2 ?D ?D2 ?u ?_; (case N => k_asm); (case m => k_mem); (case m2 => k_mem); (case D => assumption); (case D2 => assumption); (case u => ktr_units))) | ((with_reducible show wpAny _ _ (call (Value.ref 287) [Value.ref _, Value.ref _]) _ _ _); k_dflt (refine' use_whole ?hnd ?hW ?hV ?hz ?hl ?hP ?hK ?k1 ?k2 ?k3 ?k4 ?k5 ?kK ?kd ?ku ?hs ?U ?_; (walk_at "MINE_USE0"); (case hW => assumption); (case hs => ((repeat (refine fa1 ?_ ?_; (· k_mem))); exact List.forall_mem_nil _)); (case hV => assumption); (case hP => assumption); (case hK => first | assumption | exact kn_dig (by assumption) (by omega)); (case hz => omega); (case hl => omega); (case U => k_updF); (case hnd => (simp only [List.nodup_cons, List.mem_cons, List.not_mem_nil, or_false, not_or, not_false_eq_true, List.nodup_nil, and_true]; and_intros <;> k_ne))); intro t8 n8 o8 h8 k8 F8 N8 hn8 hP8; (try dsimp only at N8); (try k_sweep)) | ((with_reducible show wpAny _ _ (call (Value.ref 182) _) _ _ _); k_dflt (refine' use_close ?hnd ?hV ?hz ?hl ?hP ?hK ?k1 ?k2 ?k3 ?k4 ?k5 ?kK ?kd ?ku ?hs ?U ?_; (walk_at "MINE_USE0"); (case hs => ((repeat (refine fa1 ?_ ?_; (· k_mem))); exact List.forall_mem_nil _)); (case hV => assumption); (case hP => assumption); (case hK => first | assumption | exact kn_dig (by assumption) (by omega)); (case hz => omega); (case hl => omega); (case U => k_updF); (case hnd => (simp only [List.nodup_cons, List.mem_cons, List.not_mem_nil, or_false, not_or, not_false_eq_true, List.nodup_nil, and_true]; and_intros <;> k_ne))); intro t8 n8 o8 h8 k8 F8 N8 hn8 hP8; (try dsimp only at N8); (try k_sweep)) | ((with_reducible show wpAny _ _ (call (Value.ref 237) [Value.ref _, Value.int _ _]) _ _ _); k_dflt (refine' use_draw ?hne ?hm ?hm2 ?hK ?k1 ?k2 ?k3 ?k4 ?k5 ?kK ?kd ?ku ?U ?_; (walk_at "MINE_USE0"); (case hK => assumption); (case hne => first | assumption | omega); (case hm => decide); (case hm2 => decide); (case U => walk_at "MINE_UPD2")); intro r8 t8 od8 ol8 h8 k8 F8 N8 r0 r1 hK8; (try dsimp only at N8); (try k_sweep)) | ((with_reducible show wpAny _ _ (setItem (Value.ref _) (Value.str _ _) _) _ _ _); k_dflt (refine' di_set (knd := strKind PR _) ?F ?N ?U ?D (strKind_is _ _ _ _) ?z ?_; (case F => k_asm); (case N => k_asm); (case U => k_updF); (case D => assumption); (case z => exact Nat.le_of_ble_eq_true rfl)); intro h' o' k' F' N' D'; (try dsimp only at N'); (try simp (config := { decide := true }) only [PySem.stored, List.any_cons, List.any_nil, Bool.or_false, Bool.or_true, Bool.true_or, Bool.false_or, if_true, if_false, List.map_cons, List.map_nil] at D'); (try k_sweep)) | ((with_reducible show wpAny _ _ (subscriptTail _ _ (Value.ref _) (Value.str _ _)) _ _ _); k_dflt (refine' di_tailS (knd := strKind PR _) ?N ?m ?D (strKind_is _ _ _ _) ?v ?_; (case N => k_asm); (case m => k_mem); (case D => assumption); (case v => exact rfl)); intro _) | ((with_reducible show wpAny _ _ (call (Value.builtin "len") [Value.ref _]) _ _ _); k_dflt (refine' len_seq ?N ?m ?z ?_; (case N => k_asm); (case m => k_mem); (case z => omega)); intro _ _) | ((with_reducible show wpAny _ _ (call (Value.builtin "len") [Value.ref _]) _ _ _); k_dflt (refine' pl_len ?N ?m ?D ?z ?_; (case N => k_asm); (case m => k_mem); (case D => assumption); (case z => omega)); intro _ _) | ((with_reducible show wpAny _ _ (setItem (Value.ref _) (Value.bytes _ _) _) _ _ _); k_dflt (refine' pl_set ?F ?N ?U ?D ?v ?z ?_; (case F => k_asm); (case N => k_asm); (case U => k_updF); (case D => assumption); (case v => first | assumption | (simp_all; done)); (case z => (rw [sizeLine_eq]; omega))); intro h' o' k' F' N' D'; (try dsimp only at N'); (try k_sweep)) | ((with_reducible show wpAny _ _ (subscriptTail _ _ (Value.ref _) (Value.bytes _ _)) _ _ _); k_dflt (refine' pl_tailS ?N ?m ?D ?v ?_; (case N => k_asm); (case m => k_mem); (case D => assumption); (case v => first | assumption | exact plAt_snoc_some _ _ _ | (simp_all; done))); intro n8 t8 k8 hn8; (try (have hb8 := PlOk.at (by assumption) hn8; obtain ⟨hb8a, hb8b⟩ := hb8))) | ((with_reducible show wpAny _ _ (compareOp CmpOp.NotIn (Value.bytes _ _) (Value.ref _)) _ _ _); k_dflt (refine' pl_notin ?N ?m ?D ?_; (case N => k_asm); (case m => k_mem); (case D => assumption)); intro _) | ((with_reducible show wpAny _ _ (call (Value.builtin "len") [Value.bytes _ _]) _ _ _); (refine len_bytes (by (try simp only [Array.size_append]); omega) ?_))))) | ((with_reducible show WhlIf _ _ _); refine whlIf_cases (fun hB => ?_) (fun hB => ?_) <;> simp only [decide_eq_true_eq, decide_eq_false_iff_not] at hB <;> first | (exfalso; omega) | skip) | walk1 | (leave1; (try dsimp only)) | dsimp only | fail "no step"))
        refine wpC_execs_consA ?_
        (repeat' (first | (k_unfold; (try dsimp only)) | (k_end; wrow_close) | ((with_reducible show wpAny _ _ _ _ _ _); first | (with_reducible (first | ((with_reducible show wpAny _ _ (compareOp CmpOp.NotEq (Value.ref _) (Value.ref _)) _ _ _); k_dflt (refine' pl_ne ?N ?m ?m2 ?D ?D2 ?u ?_; (case N => k_asm); (case m => k_mem); (case m2 => k_mem); (case D => assumption); (case D2 => assumption); (case u => ktr_units))) | ((with_reducible show wpAny _ _ (call (Value.ref 287) [Value.ref _, Value.ref _]) _ _ _); k_dflt (refine' use_whole ?hnd ?hW ?hV ?hz ?hl ?hP ?hK ?k1 ?k2 ?k3 ?k4 ?k5 ?kK ?kd ?ku ?hs ?U ?_; (walk_at "MINE_USE0"); (case hW => assumption); (case hs => ((repeat (refine fa1 ?_ ?_; (· k_mem))); exact List.forall_mem_nil _)); (case hV => assumption); (case hP => assumption); (case hK => first | assumption | exact kn_dig (by assumption) (by omega)); (case hz => omega); (case hl => omega); (case U => k_updF); (case hnd => (simp only [List.nodup_cons, List.mem_cons, List.not_mem_nil, or_false, not_or, not_false_eq_true, List.nodup_nil, and_true]; and_intros <;> k_ne))); intro t8 n8 o8 h8 k8 F8 N8 hn8 hP8; (try dsimp only at N8); (try k_sweep)) | ((with_reducible show wpAny _ _ (call (Value.ref 182) _) _ _ _); k_dflt (refine' use_close ?hnd ?hV ?hz ?hl ?hP ?hK ?k1 ?k2 ?k3 ?k4 ?k5 ?kK ?kd ?ku ?hs ?U ?_; (walk_at "MINE_USE0"); (case hs => ((repeat (refine fa1 ?_ ?_; (· k_mem))); exact List.forall_mem_nil _)); (case hV => assumption); (case hP => assumption); (case hK => first | assumption | exact kn_dig (by assumption) (by omega)); (case hz => omega); (case hl => omega); (case U => k_updF); (case hnd => (simp only [List.nodup_cons, List.mem_cons, List.not_mem_nil, or_false, not_or, not_false_eq_true, List.nodup_nil, and_true]; and_intros <;> k_ne))); intro t8 n8 o8 h8 k8 F8 N8 hn8 hP8; (try dsimp only at N8); (try k_sweep)) | ((with_reducible show wpAny _ _ (call (Value.ref 237) [Value.ref _, Value.int _ _]) _ _ _); k_dflt (refine' use_draw ?hne ?hm ?hm2 ?hK ?k1 ?k2 ?k3 ?k4 ?k5 ?kK ?kd ?ku ?U ?_; (walk_at "MINE_USE0"); (case hK => assumption); (case hne => first | assumption | omega); (case hm => decide); (case hm2 => decide); (case U => walk_at "MINE_UPD2")); intro r8 t8 od8 ol8 h8 k8 F8 N8 r0 r1 hK8; (try dsimp only at N8); (try k_sweep)) | ((with_reducible show wpAny _ _ (setItem (Value.ref _) (Value.str _ _) _) _ _ _); k_dflt (refine' di_set (knd := strKind PR _) ?F ?N ?U ?D (strKind_is _ _ _ _) ?z ?_; (case F => k_asm); (case N => k_asm); (case U => k_updF); (case D => assumption); (case z => exact Nat.le_of_ble_eq_true rfl)); intro h' o' k' F' N' D'; (try dsimp only at N'); (try simp (config := { decide := true }) only [PySem.stored, List.any_cons, List.any_nil, Bool.or_false, Bool.or_true, Bool.true_or, Bool.false_or, if_true, if_false, List.map_cons, List.map_nil] at D'); (try k_sweep)) | ((with_reducible show wpAny _ _ (subscriptTail _ _ (Value.ref _) (Value.str _ _)) _ _ _); k_dflt (refine' di_tailS (knd := strKind PR _) ?N ?m ?D (strKind_is _ _ _ _) ?v ?_; (case N => k_asm); (case m => k_mem); (case D => assumption); (case v => exact rfl)); intro _) | ((with_reducible show wpAny _ _ (call (Value.builtin "len") [Value.ref _]) _ _ _); k_dflt (refine' len_seq ?N ?m ?z ?_; (case N => k_asm); (case m => k_mem); (case z => omega)); intro _ _) | ((with_reducible show wpAny _ _ (call (Value.builtin "len") [Value.ref _]) _ _ _); k_dflt (refine' pl_len ?N ?m ?D ?z ?_; (case N => k_asm); (case m => k_mem); (case D => assumption); (case z => omega)); intro _ _) | ((with_reducible show wpAny _ _ (setItem (Value.ref _) (Value.bytes _ _) _) _ _ _); k_dflt (refine' pl_set ?F ?N ?U ?D ?v ?z ?_; (case F => k_asm); (case N => k_asm); (case U => k_updF); (case D => assumption); (case v => first | assumption | (simp_all; done)); (case z => (rw [sizeLine_eq]; omega))); intro h' o' k' F' N' D'; (try dsimp only at N'); (try k_sweep)) | ((with_reducible show wpAny _ _ (subscriptTail _ _ (Value.ref _) (Value.bytes _ _)) _ _ _); k_dflt (refine' pl_tailS ?N ?m ?D ?v ?_; (case N => k_asm); (case m => k_mem); (case D => assumption); (case v => first | assumption | exact plAt_snoc_some _ _ _ | (simp_all; done))); intro n8 t8 k8 hn8; (try (have hb8 := PlOk.at (by assumption) hn8; obtain ⟨hb8a, hb8b⟩ := hb8))) | ((with_reducible show wpAny _ _ (compareOp CmpOp.NotIn (Value.bytes _ _) (Value.ref _)) _ _ _); k_dflt (refine' pl_notin ?N ?m ?D ?_; (case N => k_asm); (case m => k_mem); (case D => assumption)); intro _) | ((with_reducible show wpAny _ _ (call (Value.builtin "len") [Value.bytes _ _]) _ _ _); (refine len_bytes (by (try simp only [Array.size_append]); omega) ?_))))) | ((with_reducible show WhlIf _ _ _); refine whlIf_cases (fun hB => ?_) (fun hB => ?_) <;> simp only [decide_eq_true_eq, decide_eq_false_iff_not] at hB <;> first | (exfalso; omega) | skip) | walk1 | (leave1; (try dsimp only)) | dsimp only | fail "no step"))
        refine wpC_execs_nil ?_
        try dsimp only
        (with_reducible rename Fr _ _ _ _ => F9)
        (with_reducible rename News _ _ _ _ => N9)
        (with_reducible rename DI _ W _ _ => D9)
        (with_reducible rename Pl w PlW _ (_ ++ _) => P9)
        simp only [List.push_toArray] at N9
        exact stage7 w dk Lf hx hd D W PcW PlW b bd C0 cd PlB PcB q1 q2 q3 u1 u2 u3 u4 u5 u6 bp ⟨z.pl ++ [(r.oid.toList, z.len)], z.ps ++ [pc], z.len + pc.size⟩ kn tl od ol oD _ _ opB _ _ vsB npB _ i hi { hF0 with hW := D9, hPW := P9, hBW := hBW.snoc, zW := hF0.zz } p loose mean mg mb base L m₀ (some (.ref tp)) ve (some (.bytes pc tpc)) vu vg I oI _ Q E hI B F9 X T (fun q hq => N9 q (List.mem_cons_of_mem _ hq)) (fun h' tk' kn' od' ol' oD' F' N' hF' => k h' tk' kn' od' ol' oD' _ _ _ _ _ F' N' hF')


end
theorem walk_reset25 : True ∧ True := by first | (walk1 <;> trivial) | exact ⟨trivial, trivial⟩
section
open PySem PySem.W PySem.Calls PyProof.Rows
set_option Elab.async false
set_option maxRecDepth 100000
theorem addSt_ok {bp : Bool} {z : St} {r : Row} {i : Nat} (h : StOk i z) (hi : i ≤ 20) (hpz : ∀ c, pieceOf bp z.pl z.len r = some c → c.size ≤ 400) : StOk (i + 1) (addSt bp z r) := by
  cases hx1 : pieceOf bp z.pl z.len r with
  | none => rw [addSt_bad hx1]; exact h.mono
  | some pc =>
    have hz := hpz pc hx1
    cases hx2 : plAt z.pl r.oid.toList with
    | some n => rw [addSt_old (by rw [hx2]; rfl)]; exact h.mono
    | none =>
      rw [addSt_new hx2 hx1]
      obtain ⟨h1, h2, h3, h4, h5, h6, h7⟩ := h
      refine ⟨?_, ?_, ?_, ?_, ?_, ?_, fun p hp => ?_⟩
      · simp only [List.length_append, List.length_cons, List.length_nil]; omega
      · simp only [List.length_append, List.length_cons, List.length_nil]; omega
      · show 0 ≤ z.len + (pc.size : Int); omega
      · show z.len + (pc.size : Int) ≤ _; omega
      · rw [cat_snoc, Array.size_append]; omega
      · simp only [List.length_append, List.length_cons, List.length_nil]; omega
      · rcases List.mem_append.mp hp with hp | hp
        · have := h7 p hp
          exact ⟨this.1, by show p.2 ≤ z.len + (pc.size : Int); omega⟩
        · rw [List.mem_singleton.mp hp]
          exact ⟨h3, by show z.len ≤ z.len + (pc.size : Int); omega⟩
theorem news_mix {g h h' : Heap} {L : Addr} {old as as' new : List (Addr × Obj)} (N : News g L h old) (hAg : ∀ b o, h.get? b = some o → b ∉ as.map (·.1) → b ≠ L → h'.get? b = some o) (ha : as'.map (·.1) = as.map (·.1)) (hall : ∀ q ∈ as', h'.get? q.1 = some q.2) (has : ∀ q ∈ as, q ∈ old)
    (hn : ∀ q ∈ new, q ∈ as' ∨ (q ∈ old ∧ q.1 ∉ as.map (·.1))) : News g L h' new := fun q hq => by
  rcases hn q hq with hq | ⟨hq, hne⟩
  · have hm : q.1 ∈ as.map (·.1) := ha ▸ List.mem_map_of_mem hq
    obtain ⟨z, hz, ez⟩ := List.mem_map.mp hm
    exact ⟨hall q hq, ez ▸ (N z (has z hz)).2⟩
  · exact ⟨hAg _ _ (N q hq).1 hne (N q hq).2.1, (N q hq).2⟩
set_option maxHeartbeats 1000000 in
theorem stage5 (w : World) (dk Lf hx hd D W PcW PlW b bd C0 cd PlB PcB : Addr) (q1 q2 q3 u1 u2 u3 u4 u5 u6 v1 v2 v3 v4 v5 : Tok) (n2 : Nat) (bp : Bool) (z : St) (r : Row) (kn : List (List UInt8 × Int)) (tl : Tok) (od ol oD ow opW opB : Obj) (vsW : List Value) (npW : Nat) (vsB : List Value) (npB : Nat) (tlW : Tok) (i : Nat) (hi : i ≤ 18)
    (hF : Facts w dk Lf hx hd D W PcW PlW b bd C0 cd PlB PcB bp z z kn od ol oD ow opW opB vsW vsB tlW i)
    (p : Program) (loose : List Str) (mean : ExcName → Option Value) (mg mb : Str → Option Value) (base : Heap) (L : Addr) (m₀ : Str → Option Value) (vg : Option Value) (tp e ed : Addr) (vo vk vc vb vd vp vu : Value) (I : Addr) (oI : Obj) (s : Shared) (Q : Flow → Shared → Prop) (E : Value → Shared → Prop)
    (hr : r.ok) (hV : RowV r vo vk vc vb vd) (hp : ov vp (pieceOf bp z.pl z.len r)) (hpz : ∀ c, pieceOf bp z.pl z.len r = some c → c.size ≤ 400) (hu : oi vu (addRes bp z r))
    (ht1 : @Ne Nat tp PlW) (ht2 : @Ne Nat tp PcW) (ht3 : @Ne Nat tp W) (ht4 : @Ne Nat tp PlB) (ht5 : @Ne Nat tp PcB) (ht6 : @Ne Nat tp b) (ht7 : @Ne Nat tp bd) (ht8 : @Ne Nat tp C0) (ht9 : @Ne Nat tp cd) (he1 : @LT.lt Nat _ tp ed) (he2 : @LT.lt Nat _ I ed) (he3 : @LT.lt Nat _ ed e)
    (hI : PlB < I) (B : Below callerA base [] base) (F : Fr base L s.heap (mT (some (.ref tp)) (some (.ref e)) (some vp) (some vu) vg m₀ dk hx W b)) (X : (KF w.params).In base) (T : Top p loose mean mg mb base)
    (N : News base L s.heap ((e, instObj 142 ed) :: (ed, edObj w v1 v2 v3 v4 v5 vo vk vc vb vd n2) :: (tp, tupObj [vo, vk, vc, vb, vd]) :: (I, oI) :: lawL w dk Lf hx hd D W PcW PlW b bd C0 cd PlB PcB q1 q2 q3 u1 u2 u3 u4 u5 u6 bp z.len tl od ol oD ow opW opB vsW npW vsB npB))
    (k : ∀ h' tk' kn' od' ol' oD' ow' opW' opB' vsW' npW' vsB' npB' tl' tlW' z', Fr base L h' (mT (some (.ref tp)) (some (.ref e)) (some vp) (some vu) vg m₀ dk hx W b) → News base L h' ((I, oI) :: lawL w dk Lf hx hd D W PcW PlW b bd C0 cd PlB PcB q1 q2 q3 u1 u2 u3 u4 u5 u6 bp z'.len tl' od' ol' oD' ow' opW' opB' vsW' npW' vsB' npB') →
      Facts w dk Lf hx hd D W PcW PlW b bd C0 cd PlB PcB bp z' z' kn' od' ol' oD' ow' opW' opB' vsW' vsB' tlW' (i + 2) → Q .next { s with heap := h', toks := tk' }) :
    wpC (model PR w) (AL L) (execs (lawTurn.drop 4) (envL L)) Q E s := by
  have hfill : Fill PySem.Challenge.rw_pb0104_01 KF := by k_fill; trivial
  have hF0 := hF
  obtain ⟨o1, o2, o3, o4, o5, o6, o7, o8, o9, o10, o11, o12, o13, o14, o15, hK, hD, hkn, hkl, hW, hPW, hPB, hBW, hBB, ⟨z1, z2, z3, z4, z5, z6⟩, -⟩ := hF
  replace o1 := ltN o1
  replace o2 := ltN o2
  replace o3 := ltN o3
  replace o4 := ltN o4
  replace o5 := ltN o5
  replace o6 := ltN o6
  replace o7 := ltN o7
  replace o8 := ltN o8
  replace o9 := ltN o9
  replace o10 := ltN o10
  replace o11 := ltN o11
  replace o12 := ltN o12
  replace o13 := ltN o13
  have p14 := neN o14
  have p15 := neN o15
  replace hI := ltN hI
  have hS : Ord dk Lf [hd, hx, D, W, PcW, PlW, cd, C0, bd, b, PcB, PlB, I, ed, e] := ⟨⟨o1, o3, o4, o5, o6, o7, o8, o9, o10, o11, o12, o13, hI, he2, he3, trivial⟩, ⟨o2, o3, o4, o5, o6, o7, o8, o9, o10, o11, o12, o13, hI, he2, he3, trivial⟩⟩
  have hzz := addSt_ok hF0.zz (by omega) hpz
  have hnd : [b, bd, e, ed, C0, cd, PlB, PcB].Nodup := by (simp only [List.nodup_cons, List.mem_cons, List.not_mem_nil, or_false, not_or, not_false_eq_true, List.nodup_nil, and_true]; and_intros <;> k_ne)
  have hs7 : ∀ q ∈ (asP w b bd e ed C0 cd PlB hx PcB u1 u2 u3 u4 u5 u6 v1 v2 v3 v4 v5 6 n2 opB bp z.len tl vo vk vc vb vd ++ [(PcB, lsObj vsB npB)]), q ∈ ((e, instObj 142 ed) :: (ed, edObj w v1 v2 v3 v4 v5 vo vk vc vb vd n2) :: (tp, tupObj [vo, vk, vc, vb, vd]) :: (I, oI) :: lawL w dk Lf hx hd D W PcW PlW b bd C0 cd PlB PcB q1 q2 q3 u1 u2 u3 u4 u5 u6 bp z.len tl od ol oD ow opW opB vsW npW vsB npB) := by
    dsimp only [asP, lawL, List.cons_append, List.nil_append]
    ((repeat (refine fa1 ?_ ?_; (· k_mem))); exact List.forall_mem_nil _)
  dsimp only [lawL, buObj] at N
  refine wpC_execs_cons (wpC_If (wpC_isTrue_Compare (wpC_Call ?_)))
  (repeat' (first | (k_unfold; (try dsimp only)) | (k_end; wrow_close) | ((with_reducible show wpAny _ _ _ _ _ _); first | (with_reducible (first | ((with_reducible show wpAny _ _ (compareOp CmpOp.NotEq (Value.ref _) (Value.ref _)) _ _ _); k_dflt (refine' pl_ne ?N ?m ?m2 ?D ?D2 ?u ?_; (case N => k_asm); (case m => k_mem); (case m2 => k_mem); (case D => assumption); (case D2 => assumption); (case u => ktr_units))) | ((with_reducible show wpAny _ _ (call (Value.ref 287) [Value.ref _, Value.ref _]) _ _ _); k_dflt (refine' use_whole ?hnd ?hW ?hV ?hz ?hl ?hP ?hK ?k1 ?k2 ?k3 ?k4 ?k5 ?kK ?kd ?ku ?hs ?U ?_; (walk_at "MINE_USE0"); (case hW => assumption); (case hs => ((repeat (refine fa1 ?_ ?_; (· k_mem))); exact List.forall_mem_nil _)); (case hV => assumption); (case hP => assumption); (case hK => first | assumption | exact kn_dig (by assumption) (by omega)); (case hz => omega); (case hl => omega); (case U => k_updF); (case hnd => (simp only [List.nodup_cons, List.mem_cons, List.not_mem_nil, or_false, not_or, not_false_eq_true, List.nodup_nil, and_true]; and_intros <;> k_ne))); intro t8 n8 o8 h8 k8 F8 N8 hn8 hP8; (try dsimp only at N8); (try k_sweep)) | ((with_reducible show wpAny _ _ (call (Value.ref 182) _) _ _ _); k_dflt (refine' use_close ?hnd ?hV ?hz ?hl ?hP ?hK ?k1 ?k2 ?k3 ?k4 ?k5 ?kK ?kd ?ku ?hs ?U ?_; (walk_at "MINE_USE0"); (case hs => ((repeat (refine fa1 ?_ ?_; (· k_mem))); exact List.forall_mem_nil _)); (case hV => assumption); (case hP => assumption); (case hK => first | assumption | exact kn_dig (by assumption) (by omega)); (case hz => omega); (case hl => omega); (case U => k_updF); (case hnd => (simp only [List.nodup_cons, List.mem_cons, List.not_mem_nil, or_false, not_or, not_false_eq_true, List.nodup_nil, and_true]; and_intros <;> k_ne))); intro t8 n8 o8 h8 k8 F8 N8 hn8 hP8; (try dsimp only at N8); (try k_sweep)) | ((with_reducible show wpAny _ _ (call (Value.ref 237) [Value.ref _, Value.int _ _]) _ _ _); k_dflt (refine' use_draw ?hne ?hm ?hm2 ?hK ?k1 ?k2 ?k3 ?k4 ?k5 ?kK ?kd ?ku ?U ?_; (walk_at "MINE_USE0"); (case hK => assumption); (case hne => first | assumption | omega); (case hm => decide); (case hm2 => decide); (case U => walk_at "MINE_UPD2")); intro r8 t8 od8 ol8 h8 k8 F8 N8 r0 r1 hK8; (try dsimp only at N8); (try k_sweep))))) | ((with_reducible show WhlIf _ _ _); refine whlIf_cases (fun hB => ?_) (fun hB => ?_) <;> simp only [decide_eq_true_eq, decide_eq_false_iff_not] at hB <;> first | (exfalso; omega) | skip) | walk1 | (leave1; (try dsimp only)) | dsimp only | fail "no step"))
  k_dflt (refine' wpC_callWith_K ?X1 ?hk1 ?_; (case X1 => k_asm); (case hk1 => k_is))
  (repeat' (first | (k_unfold; (try dsimp only)) | (k_end; wrow_close) | ((with_reducible show wpAny _ _ _ _ _ _); first | (with_reducible (first | ((with_reducible show wpAny _ _ (compareOp CmpOp.NotEq (Value.ref _) (Value.ref _)) _ _ _); k_dflt (refine' pl_ne ?N ?m ?m2 ?D ?D2 ?u ?_; (case N => k_asm); (case m => k_mem); (case m2 => k_mem); (case D => assumption); (case D2 => assumption); (case u => ktr_units))) | ((with_reducible show wpAny _ _ (call (Value.ref 287) [Value.ref _, Value.ref _]) _ _ _); k_dflt (refine' use_whole ?hnd ?hW ?hV ?hz ?hl ?hP ?hK ?k1 ?k2 ?k3 ?k4 ?k5 ?kK ?kd ?ku ?hs ?U ?_; (walk_at "MINE_USE0"); (case hW => assumption); (case hs => ((repeat (refine fa1 ?_ ?_; (· k_mem))); exact List.forall_mem_nil _)); (case hV => assumption); (case hP => assumption); (case hK => first | assumption | exact kn_dig (by assumption) (by omega)); (case hz => omega); (case hl => omega); (case U => k_updF); (case hnd => (simp only [List.nodup_cons, List.mem_cons, List.not_mem_nil, or_false, not_or, not_false_eq_true, List.nodup_nil, and_true]; and_intros <;> k_ne))); intro t8 n8 o8 h8 k8 F8 N8 hn8 hP8; (try dsimp only at N8); (try k_sweep)) | ((with_reducible show wpAny _ _ (call (Value.ref 182) _) _ _ _); k_dflt (refine' use_close ?hnd ?hV ?hz ?hl ?hP ?hK ?k1 ?k2 ?k3 ?k4 ?k5 ?kK ?kd ?ku ?hs ?U ?_; (walk_at "MINE_USE0"); (case hs => ((repeat (refine fa1 ?_ ?_; (· k_mem))); exact List.forall_mem_nil _)); (case hV => assumption); (case hP => assumption); (case hK => first | assumption | exact kn_dig (by assumption) (by omega)); (case hz => omega); (case hl => omega); (case U => k_updF); (case hnd => (simp only [List.nodup_cons, List.mem_cons, List.not_mem_nil, or_false, not_or, not_false_eq_true, List.nodup_nil, and_true]; and_intros <;> k_ne))); intro t8 n8 o8 h8 k8 F8 N8 hn8 hP8; (try dsimp only at N8); (try k_sweep)) | ((with_reducible show wpAny _ _ (call (Value.ref 237) [Value.ref _, Value.int _ _]) _ _ _); k_dflt (refine' use_draw ?hne ?hm ?hm2 ?hK ?k1 ?k2 ?k3 ?k4 ?k5 ?kK ?kd ?ku ?U ?_; (walk_at "MINE_USE0"); (case hK => assumption); (case hne => first | assumption | omega); (case hm => decide); (case hm2 => decide); (case U => walk_at "MINE_UPD2")); intro r8 t8 od8 ol8 h8 k8 F8 N8 r0 r1 hK8; (try dsimp only at N8); (try k_sweep))))) | ((with_reducible show WhlIf _ _ _); refine whlIf_cases (fun hB => ?_) (fun hB => ?_) <;> simp only [decide_eq_true_eq, decide_eq_false_iff_not] at hB <;> first | (exfalso; omega) | skip) | walk1 | (leave1; (try dsimp only)) | dsimp only | fail "no step"))
  (with_reducible rename Fr _ _ _ _ => F7)
  (with_reducible rename News _ _ _ _ => N7)
  k_dflt (refine' c_tried1 w b bd e ed C0 cd PlB hx PcB u1 u2 u3 u4 u5 u6 v1 v2 v3 v4 v5 n2 npB opB bp z tl r vo vk vc vb vd vsB hnd hr hV hPB z6 z3 (by omega) (by omega) hBB (by omega) p loose mean mg mb _ _ _ _ _ _ _ _ _ _ _ _ _ _ _ B F7 X (fun q hq => N7 q (hs7 q hq)) T X T rfl ?kd ?ku ?_; (case kd => ktr_room); (case ku => ktr_units))
  intro v8 h8 tk8 hAg F8 hPost
  obtain ⟨hoi, opl', tl', np', vs', hPl', hBV', hall⟩ := hPost
  have N8 : News base L h8 ((tp, tupObj [vo, vk, vc, vb, vd]) :: (I, oI) :: lawL w dk Lf hx hd D W PcW PlW b bd C0 cd PlB PcB q1 q2 q3 u1 u2 u3 u4 u5 u6 bp (addSt bp z r).len tl' od ol oD ow opW opl' vsW npW vs' np') :=
    news_mix N7 hAg (as' := asP w b bd e ed C0 cd PlB hx PcB u1 u2 u3 u4 u5 u6 v1 v2 v3 v4 v5 6 n2 opl' bp (addSt bp z r).len tl' vo vk vc vb vd ++ [(PcB, lsObj vs' np')]) rfl hall hs7 (by
      dsimp only [asP, lawL, List.cons_append, List.nil_append]
      ((repeat (first | (refine fa1 (.inl ?_) ?_; (· k_mem)) | (refine fa1 (.inr ⟨?_, ?_⟩) ?_; (· k_mem); (· (simp only [List.cons_append, List.nil_append, List.map_cons, List.map_nil, List.mem_cons, List.not_mem_nil, or_false, not_or]; and_intros <;> k_ne))))); exact List.forall_mem_nil _))
  have hF9 : Facts w dk Lf hx hd D W PcW PlW b bd C0 cd PlB PcB bp z (addSt bp z r) kn od ol oD ow opW opl' vsW vs' tlW (i + 1) := { hF0 with hPB := hPl', hBB := hBV', zz := hzz, zW := hF0.zz.mono, hkl := Nat.le_succ_of_le hkl }
  clear N7 F7 hAg hall hs7 hF0
  cases hx9 : addRes bp z r with
  | none =>
    rw [hx9] at hoi hu
    obtain rfl : v8 = .none := hoi
    obtain rfl : vu = .none := hu
    (repeat' (first | (k_unfold; (try dsimp only)) | (k_end; wrow_close) | ((with_reducible show wpAny _ _ _ _ _ _); first | (with_reducible (first | ((with_reducible show wpAny _ _ (compareOp CmpOp.NotEq (Value.ref _) (Value.ref _)) _ _ _); k_dflt (refine' pl_ne ?N ?m ?m2 ?D ?D2 ?u ?_; (case N => k_asm); (case m => k_mem); (case m2 => k_mem); (case D => assumption); (case D2 => assumption); (case u => ktr_units))) | ((with_reducible show wpAny _ _ (call (Value.ref 287) [Value.ref _, Value.ref _]) _ _ _); k_dflt (refine' use_whole ?hnd ?hW ?hV ?hz ?hl ?hP ?hK ?k1 ?k2 ?k3 ?k4 ?k5 ?kK ?kd ?ku ?hs ?U ?_; (walk_at "MINE_USE0"); (case hW => assumption); (case hs => ((repeat (refine fa1 ?_ ?_; (· k_mem))); exact List.forall_mem_nil _)); (case hV => assumption); (case hP => assumption); (case hK => first | assumption | exact kn_dig (by assumption) (by omega)); (case hz => omega); (case hl => omega); (case U => k_updF); (case hnd => (simp only [List.nodup_cons, List.mem_cons, List.not_mem_nil, or_false, not_or, not_false_eq_true, List.nodup_nil, and_true]; and_intros <;> k_ne))); intro t8 n8 o8 h8 k8 F8 N8 hn8 hP8; (try dsimp only at N8); (try k_sweep)) | ((with_reducible show wpAny _ _ (call (Value.ref 182) _) _ _ _); k_dflt (refine' use_close ?hnd ?hV ?hz ?hl ?hP ?hK ?k1 ?k2 ?k3 ?k4 ?k5 ?kK ?kd ?ku ?hs ?U ?_; (walk_at "MINE_USE0"); (case hs => ((repeat (refine fa1 ?_ ?_; (· k_mem))); exact List.forall_mem_nil _)); (case hV => assumption); (case hP => assumption); (case hK => first | assumption | exact kn_dig (by assumption) (by omega)); (case hz => omega); (case hl => omega); (case U => k_updF); (case hnd => (simp only [List.nodup_cons, List.mem_cons, List.not_mem_nil, or_false, not_or, not_false_eq_true, List.nodup_nil, and_true]; and_intros <;> k_ne))); intro t8 n8 o8 h8 k8 F8 N8 hn8 hP8; (try dsimp only at N8); (try k_sweep)) | ((with_reducible show wpAny _ _ (call (Value.ref 237) [Value.ref _, Value.int _ _]) _ _ _); k_dflt (refine' use_draw ?hne ?hm ?hm2 ?hK ?k1 ?k2 ?k3 ?k4 ?k5 ?kK ?kd ?ku ?U ?_; (walk_at "MINE_USE0"); (case hK => assumption); (case hne => first | assumption | omega); (case hm => decide); (case hm2 => decide); (case U => walk_at "MINE_UPD2")); intro r8 t8 od8 ol8 h8 k8 F8 N8 r0 r1 hK8; (try dsimp only at N8); (try k_sweep))))) | ((with_reducible show WhlIf _ _ _); refine whlIf_cases (fun hB => ?_) (fun hB => ?_) <;> simp only [decide_eq_true_eq, decide_eq_false_iff_not] at hB <;> first | (exfalso; omega) | skip) | walk1 | (leave1; (try dsimp only)) | dsimp only | fail "no step"))
    · refine wpC_execs_nil ?_
      try dsimp only
      (with_reducible rename Fr _ _ _ _ => F9)
      (with_reducible rename News _ _ _ _ => N9)
      exact stage6 w dk Lf hx hd D W PcW PlW b bd C0 cd PlB PcB q1 q2 q3 u1 u2 u3 u4 u5 u6 bp z r kn tl' od ol oD ow opW opl' vsW npW vs' np' tlW (i + 1) (by omega) hF9 p loose mean mg mb base L m₀ (some (.ref e)) (some .none) vg tp vo vk vc vb vd vp I oI _ Q E hr hV hp hpz ht1 ht2 ht3 hI B F9 X T N9 (fun h' tk' kn' od' ol' oD' ow' opW' vsW' npW' tlW' F' N' hF' => k h' tk' kn' od' ol' oD' ow' opW' opl' vsW' npW' vs' np' tl' tlW' _ F' N' hF')
  | some n =>
    rw [hx9] at hoi hu
    obtain ⟨t8, rfl⟩ := hoi
    obtain ⟨t9, rfl⟩ := hu
    (repeat' (first | (k_unfold; (try dsimp only)) | (k_end; wrow_close) | ((with_reducible show wpAny _ _ _ _ _ _); first | (with_reducible (first | ((with_reducible show wpAny _ _ (compareOp CmpOp.NotEq (Value.ref _) (Value.ref _)) _ _ _); k_dflt (refine' pl_ne ?N ?m ?m2 ?D ?D2 ?u ?_; (case N => k_asm); (case m => k_mem); (case m2 => k_mem); (case D => assumption); (case D2 => assumption); (case u => ktr_units))) | ((with_reducible show wpAny _ _ (call (Value.ref 287) [Value.ref _, Value.ref _]) _ _ _); k_dflt (refine' use_whole ?hnd ?hW ?hV ?hz ?hl ?hP ?hK ?k1 ?k2 ?k3 ?k4 ?k5 ?kK ?kd ?ku ?hs ?U ?_; (walk_at "MINE_USE0"); (case hW => assumption); (case hs => ((repeat (refine fa1 ?_ ?_; (· k_mem))); exact List.forall_mem_nil _)); (case hV => assumption); (case hP => assumption); (case hK => first | assumption | exact kn_dig (by assumption) (by omega)); (case hz => omega); (case hl => omega); (case U => k_updF); (case hnd => (simp only [List.nodup_cons, List.mem_cons, List.not_mem_nil, or_false, not_or, not_false_eq_true, List.nodup_nil, and_true]; and_intros <;> k_ne))); intro t8 n8 o8 h8 k8 F8 N8 hn8 hP8; (try dsimp only at N8); (try k_sweep)) | ((with_reducible show wpAny _ _ (call (Value.ref 182) _) _ _ _); k_dflt (refine' use_close ?hnd ?hV ?hz ?hl ?hP ?hK ?k1 ?k2 ?k3 ?k4 ?k5 ?kK ?kd ?ku ?hs ?U ?_; (walk_at "MINE_USE0"); (case hs => ((repeat (refine fa1 ?_ ?_; (· k_mem))); exact List.forall_mem_nil _)); (case hV => assumption); (case hP => assumption); (case hK => first | assumption | exact kn_dig (by assumption) (by omega)); (case hz => omega); (case hl => omega); (case U => k_updF); (case hnd => (simp only [List.nodup_cons, List.mem_cons, List.not_mem_nil, or_false, not_or, not_false_eq_true, List.nodup_nil, and_true]; and_intros <;> k_ne))); intro t8 n8 o8 h8 k8 F8 N8 hn8 hP8; (try dsimp only at N8); (try k_sweep)) | ((with_reducible show wpAny _ _ (call (Value.ref 237) [Value.ref _, Value.int _ _]) _ _ _); k_dflt (refine' use_draw ?hne ?hm ?hm2 ?hK ?k1 ?k2 ?k3 ?k4 ?k5 ?kK ?kd ?ku ?U ?_; (walk_at "MINE_USE0"); (case hK => assumption); (case hne => first | assumption | omega); (case hm => decide); (case hm2 => decide); (case U => walk_at "MINE_UPD2")); intro r8 t8 od8 ol8 h8 k8 F8 N8 r0 r1 hK8; (try dsimp only at N8); (try k_sweep))))) | ((with_reducible show WhlIf _ _ _); refine whlIf_cases (fun hB => ?_) (fun hB => ?_) <;> simp only [decide_eq_true_eq, decide_eq_false_iff_not] at hB <;> first | (exfalso; omega) | skip) | walk1 | (leave1; (try dsimp only)) | dsimp only | fail "no step"))
    refine whlIf_cases (fun hB => ?_) (fun hB => ?_)
    · simp at hB
    · refine wpC_execs_nil ?_
      try dsimp only
      (with_reducible rename Fr _ _ _ _ => F9)
      (with_reducible rename News _ _ _ _ => N9)
      exact stage6 w dk Lf hx hd D W PcW PlW b bd C0 cd PlB PcB q1 q2 q3 u1 u2 u3 u4 u5 u6 bp z r kn tl' od ol oD ow opW opl' vsW npW vs' np' tlW (i + 1) (by omega) hF9 p loose mean mg mb base L m₀ (some (.ref e)) (some (.int n t9)) vg tp vo vk vc vb vd vp I oI _ Q E hr hV hp hpz ht1 ht2 ht3 hI B F9 X T N9 (fun h' tk' kn' od' ol' oD' ow' opW' vsW' npW' tlW' F' N' hF' => k h' tk' kn' od' ol' oD' ow' opW' opl' vsW' npW' vs' np' tl' tlW' _ F' N' hF')


end
theorem walk_reset26 : True ∧ True := by first | (walk1 <;> trivial) | exact ⟨trivial, trivial⟩
section
open PySem PySem.W PySem.Calls PyProof.Rows
set_option Elab.async false
set_option maxRecDepth 100000
theorem due_some {bp : Bool} {z : St} {r : Row} {pc : Array UInt8} {v : Value} {t0 : Tok} (h : pieceOf bp z.pl z.len r = some pc) (hv : match plAt z.pl r.oid.toList with | some n => ∃ t, v = .int n t | none => v = .int z.len t0) : oi v (addRes bp z r) := by
  cases h2 : plAt z.pl r.oid.toList with
  | some n => rw [h2] at hv; rw [addRes_old h2]; exact hv
  | none => rw [h2] at hv; rw [addRes_new h2 h]; exact ⟨_, hv⟩
theorem due_none {bp : Bool} {z : St} {r : Row} {v : Value} (h : pieceOf bp z.pl z.len r = none) (hv : match plAt z.pl r.oid.toList with | some n => ∃ t, v = .int n t | none => v = .none) : oi v (addRes bp z r) := by
  cases h2 : plAt z.pl r.oid.toList with
  | some n => rw [h2] at hv; rw [addRes_old h2]; exact hv
  | none => rw [h2] at hv; rw [addRes_bad h2 h]; exact hv
set_option maxHeartbeats 1000000 in
theorem stage4 (w : World) (dk Lf hx hd D W PcW PlW b bd C0 cd PlB PcB : Addr) (q1 q2 q3 u1 u2 u3 u4 u5 u6 v1 v2 v3 v4 v5 : Tok) (n2 : Nat) (bp : Bool) (z : St) (r : Row) (kn : List (List UInt8 × Int)) (tl : Tok) (od ol oD ow opW opB : Obj) (vsW : List Value) (npW : Nat) (vsB : List Value) (npB : Nat) (tlW : Tok) (i : Nat) (hi : i ≤ 18)
    (hF : Facts w dk Lf hx hd D W PcW PlW b bd C0 cd PlB PcB bp z z kn od ol oD ow opW opB vsW vsB tlW i)
    (p : Program) (loose : List Str) (mean : ExcName → Option Value) (mg mb : Str → Option Value) (base : Heap) (L : Addr) (m₀ : Str → Option Value) (vu vg : Option Value) (tp e ed : Addr) (vo vk vc vb vd vp : Value) (I : Addr) (oI : Obj) (s : Shared) (Q : Flow → Shared → Prop) (E : Value → Shared → Prop)
    (hr : r.ok) (hV : RowV r vo vk vc vb vd) (hp : ov vp (pieceOf bp z.pl z.len r)) (hpz : ∀ c, pieceOf bp z.pl z.len r = some c → c.size ≤ 400)
    (ht1 : @Ne Nat tp PlW) (ht2 : @Ne Nat tp PcW) (ht3 : @Ne Nat tp W) (ht4 : @Ne Nat tp PlB) (ht5 : @Ne Nat tp PcB) (ht6 : @Ne Nat tp b) (ht7 : @Ne Nat tp bd) (ht8 : @Ne Nat tp C0) (ht9 : @Ne Nat tp cd) (he1 : @LT.lt Nat _ tp ed) (he2 : @LT.lt Nat _ I ed) (he3 : @LT.lt Nat _ ed e)
    (hI : PlB < I) (B : Below callerA base [] base) (F : Fr base L s.heap (mT (some (.ref tp)) (some (.ref e)) (some vp) vu vg m₀ dk hx W b)) (X : (KF w.params).In base) (T : Top p loose mean mg mb base)
    (N : News base L s.heap ((e, instObj 142 ed) :: (ed, edObj w v1 v2 v3 v4 v5 vo vk vc vb vd n2) :: (tp, tupObj [vo, vk, vc, vb, vd]) :: (I, oI) :: lawL w dk Lf hx hd D W PcW PlW b bd C0 cd PlB PcB q1 q2 q3 u1 u2 u3 u4 u5 u6 bp z.len tl od ol oD ow opW opB vsW npW vsB npB))
    (k : ∀ h' tk' kn' od' ol' oD' ow' opW' opB' vsW' npW' vsB' npB' tl' tlW' z' vu', Fr base L h' (mT (some (.ref tp)) (some (.ref e)) (some vp) vu' vg m₀ dk hx W b) → News base L h' ((I, oI) :: lawL w dk Lf hx hd D W PcW PlW b bd C0 cd PlB PcB q1 q2 q3 u1 u2 u3 u4 u5 u6 bp z'.len tl' od' ol' oD' ow' opW' opB' vsW' npW' vsB' npB') →
      Facts w dk Lf hx hd D W PcW PlW b bd C0 cd PlB PcB bp z' z' kn' od' ol' oD' ow' opW' opB' vsW' vsB' tlW' (i + 2) → Q .next { s with heap := h', toks := tk' }) :
    wpC (model PR w) (AL L) (execs (lawTurn.drop 3) (envL L)) Q E s := by
  have hfill : Fill PySem.Challenge.rw_pb0104_01 KF := by k_fill; trivial
  have hF0 := hF
  obtain ⟨o1, o2, o3, o4, o5, o6, o7, o8, o9, o10, o11, o12, o13, o14, o15, hK, hD, hkn, hkl, hW, hPW, hPB, hBW, hBB, ⟨z1, z2, z3, z4, z5, z6⟩, -⟩ := hF
  have hV0 := hV
  obtain ⟨⟨to, rfl⟩, ⟨tk0, rfl⟩, hV3⟩ := hV
  replace o1 := ltN o1
  replace o2 := ltN o2
  replace o3 := ltN o3
  replace o4 := ltN o4
  replace o5 := ltN o5
  replace o6 := ltN o6
  replace o7 := ltN o7
  replace o8 := ltN o8
  replace o9 := ltN o9
  replace o10 := ltN o10
  replace o11 := ltN o11
  replace o12 := ltN o12
  replace o13 := ltN o13
  have p14 := neN o14
  have p15 := neN o15
  replace hI := ltN hI
  have hS : Ord dk Lf [hd, hx, D, W, PcW, PlW, cd, C0, bd, b, PcB, PlB, I, ed, e] := ⟨⟨o1, o3, o4, o5, o6, o7, o8, o9, o10, o11, o12, o13, hI, he2, he3, trivial⟩, ⟨o2, o3, o4, o5, o6, o7, o8, o9, o10, o11, o12, o13, hI, he2, he3, trivial⟩⟩
  dsimp only [lawL, buObj] at N
  cases hx1 : pieceOf bp z.pl z.len r with
  | none =>
    have hp0 := hp
    rw [hx1] at hp
    obtain rfl : vp = .none := hp
    refine wpC_execs_consA ?_
    (repeat' (first | (k_unfold; (try dsimp only)) | (k_end; wrow_close) | ((with_reducible show wpAny _ _ _ _ _ _); first | (with_reducible (first | ((with_reducible show wpAny _ _ (call (Value.builtin _) [Value.ref _, Value.bytes _ _, _]) _ _ _); k_dflt (refine' pl_get2 ?N ?m ?D ?_; (case N => k_asm); (case m => k_mem); (case D => assumption)); intro v8 k8 hv8) | ((with_reducible show wpAny _ _ (getMethod (Value.ref _) _ _) _ _ _); k_dflt (refine' pl_method ?N ?m ?D ?_; (case N => k_asm); (case m => k_mem); (case D => assumption))) | ((with_reducible show wpAny _ _ (compareOp CmpOp.NotEq (Value.ref _) (Value.ref _)) _ _ _); k_dflt (refine' pl_ne ?N ?m ?m2 ?D ?D2 ?u ?_; (case N => k_asm); (case m => k_mem); (case m2 => k_mem); (case D => assumption); (case D2 => assumption); (case u => ktr_units))) | ((with_reducible show wpAny _ _ (call (Value.ref 287) [Value.ref _, Value.ref _]) _ _ _); k_dflt (refine' use_whole ?hnd ?hW ?hV ?hz ?hl ?hP ?hK ?k1 ?k2 ?k3 ?k4 ?k5 ?kK ?kd ?ku ?hs ?U ?_; (walk_at "MINE_USE0"); (case hW => assumption); (case hs => ((repeat (refine fa1 ?_ ?_; (· k_mem))); exact List.forall_mem_nil _)); (case hV => assumption); (case hP => assumption); (case hK => first | assumption | exact kn_dig (by assumption) (by omega)); (case hz => omega); (case hl => omega); (case U => k_updF); (case hnd => (simp only [List.nodup_cons, List.mem_cons, List.not_mem_nil, or_false, not_or, not_false_eq_true, List.nodup_nil, and_true]; and_intros <;> k_ne))); intro t8 n8 o8 h8 k8 F8 N8 hn8 hP8; (try dsimp only at N8); (try k_sweep)) | ((with_reducible show wpAny _ _ (call (Value.ref 182) _) _ _ _); k_dflt (refine' use_close ?hnd ?hV ?hz ?hl ?hP ?hK ?k1 ?k2 ?k3 ?k4 ?k5 ?kK ?kd ?ku ?hs ?U ?_; (walk_at "MINE_USE0"); (case hs => ((repeat (refine fa1 ?_ ?_; (· k_mem))); exact List.forall_mem_nil _)); (case hV => assumption); (case hP => assumption); (case hK => first | assumption | exact kn_dig (by assumption) (by omega)); (case hz => omega); (case hl => omega); (case U => k_updF); (case hnd => (simp only [List.nodup_cons, List.mem_cons, List.not_mem_nil, or_false, not_or, not_false_eq_true, List.nodup_nil, and_true]; and_intros <;> k_ne))); intro t8 n8 o8 h8 k8 F8 N8 hn8 hP8; (try dsimp only at N8); (try k_sweep)) | ((with_reducible show wpAny _ _ (call (Value.ref 237) [Value.ref _, Value.int _ _]) _ _ _); k_dflt (refine' use_draw ?hne ?hm ?hm2 ?hK ?k1 ?k2 ?k3 ?k4 ?k5 ?kK ?kd ?ku ?U ?_; (walk_at "MINE_USE0"); (case hK => assumption); (case hne => first | assumption | omega); (case hm => decide); (case hm2 => decide); (case U => walk_at "MINE_UPD2")); intro r8 t8 od8 ol8 h8 k8 F8 N8 r0 r1 hK8; (try dsimp only at N8); (try k_sweep)) | ((with_reducible show wpAny _ _ (subscriptTail _ _ (Value.ref _) (Value.str _ _)) _ _ _); k_dflt (refine' di_tailS (knd := strKind PR _) ?N ?m ?D (strKind_is _ _ _ _) ?v ?_; (case N => k_asm); (case m => k_mem); (case D => assumption); (case v => exact rfl)); intro _) | ((with_reducible show wpAny _ _ (subscriptTail _ _ (Value.ref _) (Value.bytes _ _)) _ _ _); k_dflt (refine' pl_tailS ?N ?m ?D ?v ?_; (case N => k_asm); (case m => k_mem); (case D => assumption); (case v => first | assumption | exact plAt_snoc_some _ _ _ | (simp_all; done))); intro n8 t8 k8 hn8; (try (have hb8 := PlOk.at (by assumption) hn8; obtain ⟨hb8a, hb8b⟩ := hb8)))))) | walk1 | (leave1; (try dsimp only)) | dsimp only | fail "no step"))
    try dsimp only
    (with_reducible rename Fr _ _ _ _ => F9)
    (with_reducible rename News _ _ _ _ => N9)
    rw [mT_due] at F9
    exact stage5 w dk Lf hx hd D W PcW PlW b bd C0 cd PlB PcB q1 q2 q3 u1 u2 u3 u4 u5 u6 v1 v2 v3 v4 v5 n2 bp z r kn tl od ol oD ow opW opB vsW npW vsB npB tlW i hi hF0 p loose mean mg mb base L m₀ vg tp e ed _ _ vc vb vd .none _ I oI _ Q E hr hV0 hp0 hpz (due_none hx1 (by assumption)) ht1 ht2 ht3 ht4 ht5 ht6 ht7 ht8 ht9 he1 he2 he3 hI B F9 X T N9 (fun h' tk' kn' od' ol' oD' ow' opW' opB' vsW' npW' vsB' npB' tl' tlW' z' F' N' hF' => k h' tk' kn' od' ol' oD' ow' opW' opB' vsW' npW' vsB' npB' tl' tlW' z' _ F' N' hF')
  | some pc =>
    have hp0 := hp
    rw [hx1] at hp
    obtain ⟨tpc, rfl⟩ := hp
    refine wpC_execs_consA ?_
    (repeat' (first | (k_unfold; (try dsimp only)) | (k_end; wrow_close) | ((with_reducible show wpAny _ _ _ _ _ _); first | (with_reducible (first | ((with_reducible show wpAny _ _ (call (Value.builtin _) [Value.ref _, Value.bytes _ _, _]) _ _ _); k_dflt (refine' pl_get2 ?N ?m ?D ?_; (case N => k_asm); (case m => k_mem); (case D => assumption)); intro v8 k8 hv8) | ((with_reducible show wpAny _ _ (getMethod (Value.ref _) _ _) _ _ _); k_dflt (refine' pl_method ?N ?m ?D ?_; (case N => k_asm); (case m => k_mem); (case D => assumption))) | ((with_reducible show wpAny _ _ (compareOp CmpOp.NotEq (Value.ref _) (Value.ref _)) _ _ _); k_dflt (refine' pl_ne ?N ?m ?m2 ?D ?D2 ?u ?_; (case N => k_asm); (case m => k_mem); (case m2 => k_mem); (case D => assumption); (case D2 => assumption); (case u => ktr_units))) | ((with_reducible show wpAny _ _ (call (Value.ref 287) [Value.ref _, Value.ref _]) _ _ _); k_dflt (refine' use_whole ?hnd ?hW ?hV ?hz ?hl ?hP ?hK ?k1 ?k2 ?k3 ?k4 ?k5 ?kK ?kd ?ku ?hs ?U ?_; (walk_at "MINE_USE0"); (case hW => assumption); (case hs => ((repeat (refine fa1 ?_ ?_; (· k_mem))); exact List.forall_mem_nil _)); (case hV => assumption); (case hP => assumption); (case hK => first | assumption | exact kn_dig (by assumption) (by omega)); (case hz => omega); (case hl => omega); (case U => k_updF); (case hnd => (simp only [List.nodup_cons, List.mem_cons, List.not_mem_nil, or_false, not_or, not_false_eq_true, List.nodup_nil, and_true]; and_intros <;> k_ne))); intro t8 n8 o8 h8 k8 F8 N8 hn8 hP8; (try dsimp only at N8); (try k_sweep)) | ((with_reducible show wpAny _ _ (call (Value.ref 182) _) _ _ _); k_dflt (refine' use_close ?hnd ?hV ?hz ?hl ?hP ?hK ?k1 ?k2 ?k3 ?k4 ?k5 ?kK ?kd ?ku ?hs ?U ?_; (walk_at "MINE_USE0"); (case hs => ((repeat (refine fa1 ?_ ?_; (· k_mem))); exact List.forall_mem_nil _)); (case hV => assumption); (case hP => assumption); (case hK => first | assumption | exact kn_dig (by assumption) (by omega)); (case hz => omega); (case hl => omega); (case U => k_updF); (case hnd => (simp only [List.nodup_cons, List.mem_cons, List.not_mem_nil, or_false, not_or, not_false_eq_true, List.nodup_nil, and_true]; and_intros <;> k_ne))); intro t8 n8 o8 h8 k8 F8 N8 hn8 hP8; (try dsimp only at N8); (try k_sweep)) | ((with_reducible show wpAny _ _ (call (Value.ref 237) [Value.ref _, Value.int _ _]) _ _ _); k_dflt (refine' use_draw ?hne ?hm ?hm2 ?hK ?k1 ?k2 ?k3 ?k4 ?k5 ?kK ?kd ?ku ?U ?_; (walk_at "MINE_USE0"); (case hK => assumption); (case hne => first | assumption | omega); (case hm => decide); (case hm2 => decide); (case U => walk_at "MINE_UPD2")); intro r8 t8 od8 ol8 h8 k8 F8 N8 r0 r1 hK8; (try dsimp only at N8); (try k_sweep)) | ((with_reducible show wpAny _ _ (subscriptTail _ _ (Value.ref _) (Value.str _ _)) _ _ _); k_dflt (refine' di_tailS (knd := strKind PR _) ?N ?m ?D (strKind_is _ _ _ _) ?v ?_; (case N => k_asm); (case m => k_mem); (case D => assumption); (case v => exact rfl)); intro _) | ((with_reducible show wpAny _ _ (subscriptTail _ _ (Value.ref _) (Value.bytes _ _)) _ _ _); k_dflt (refine' pl_tailS ?N ?m ?D ?v ?_; (case N => k_asm); (case m => k_mem); (case D => assumption); (case v => first | assumption | exact plAt_snoc_some _ _ _ | (simp_all; done))); intro n8 t8 k8 hn8; (try (have hb8 := PlOk.at (by assumption) hn8; obtain ⟨hb8a, hb8b⟩ := hb8)))))) | walk1 | (leave1; (try dsimp only)) | dsimp only | fail "no step"))
    try dsimp only
    (with_reducible rename Fr _ _ _ _ => F9)
    (with_reducible rename News _ _ _ _ => N9)
    rw [mT_due] at F9
    exact stage5 w dk Lf hx hd D W PcW PlW b bd C0 cd PlB PcB q1 q2 q3 u1 u2 u3 u4 u5 u6 v1 v2 v3 v4 v5 n2 bp z r kn tl od ol oD ow opW opB vsW npW vsB npB tlW i hi hF0 p loose mean mg mb base L m₀ vg tp e ed _ _ vc vb vd (.bytes pc tpc) _ I oI _ Q E hr hV0 hp0 hpz (due_some hx1 (by assumption)) ht1 ht2 ht3 ht4 ht5 ht6 ht7 ht8 ht9 he1 he2 he3 hI B F9 X T N9 (fun h' tk' kn' od' ol' oD' ow' opW' opB' vsW' npW' vsB' npB' tl' tlW' z' F' N' hF' => k h' tk' kn' od' ol' oD' ow' opW' opB' vsW' npW' vsB' npB' tl' tlW' z' _ F' N' hF')


end
theorem walk_reset27 : True ∧ True := by first | (walk1 <;> trivial) | exact ⟨trivial, trivial⟩
section
open PySem PySem.W PySem.Calls PyProof.Rows
set_option Elab.async false
set_option maxRecDepth 100000
set_option maxHeartbeats 1000000 in
theorem stage3 (w : World) (dk Lf hx hd D W PcW PlW b bd C0 cd PlB PcB : Addr) (q1 q2 q3 u1 u2 u3 u4 u5 u6 v1 v2 v3 v4 v5 : Tok) (n2 : Nat) (bp : Bool) (z : St) (r : Row) (kn : List (List UInt8 × Int)) (tl : Tok) (od ol oD ow opW opB : Obj) (vsW : List Value) (npW : Nat) (vsB : List Value) (npB : Nat) (tlW : Tok) (i : Nat) (hi : i ≤ 18)
    (hF : Facts w dk Lf hx hd D W PcW PlW b bd C0 cd PlB PcB bp z z kn od ol oD ow opW opB vsW vsB tlW i)
    (p : Program) (loose : List Str) (mean : ExcName → Option Value) (mg mb : Str → Option Value) (base : Heap) (L : Addr) (m₀ : Str → Option Value) (vu vg : Option Value) (tp e ed : Addr) (vo vk vc vb vd vp : Value) (I : Addr) (oI : Obj) (s : Shared) (Q : Flow → Shared → Prop) (E : Value → Shared → Prop)
    (hr : r.ok) (hV : RowV r vo vk vc vb vd) (hp : ov vp (pieceOf bp z.pl z.len r)) (hpz : ∀ c, pieceOf bp z.pl z.len r = some c → c.size ≤ 400)
    (ht1 : @Ne Nat tp PlW) (ht2 : @Ne Nat tp PcW) (ht3 : @Ne Nat tp W) (ht4 : @Ne Nat tp PlB) (ht5 : @Ne Nat tp PcB) (ht6 : @Ne Nat tp b) (ht7 : @Ne Nat tp bd) (ht8 : @Ne Nat tp C0) (ht9 : @Ne Nat tp cd) (he1 : @LT.lt Nat _ tp ed) (he2 : @LT.lt Nat _ I ed) (he3 : @LT.lt Nat _ ed e)
    (hI : PlB < I) (B : Below callerA base [] base) (F : Fr base L s.heap (mT (some (.ref tp)) (some (.ref e)) (some vp) vu vg m₀ dk hx W b)) (X : (KF w.params).In base) (T : Top p loose mean mg mb base)
    (N : News base L s.heap ((e, instObj 142 ed) :: (ed, edObj w v1 v2 v3 v4 v5 vo vk vc vb vd n2) :: (tp, tupObj [vo, vk, vc, vb, vd]) :: (I, oI) :: lawL w dk Lf hx hd D W PcW PlW b bd C0 cd PlB PcB q1 q2 q3 u1 u2 u3 u4 u5 u6 bp z.len tl od ol oD ow opW opB vsW npW vsB npB))
    (k : ∀ h' tk' kn' od' ol' oD' ow' opW' opB' vsW' npW' vsB' npB' tl' tlW' z' vu', Fr base L h' (mT (some (.ref tp)) (some (.ref e)) (some vp) vu' vg m₀ dk hx W b) → News base L h' ((I, oI) :: lawL w dk Lf hx hd D W PcW PlW b bd C0 cd PlB PcB q1 q2 q3 u1 u2 u3 u4 u5 u6 bp z'.len tl' od' ol' oD' ow' opW' opB' vsW' npW' vsB' npB') →
      Facts w dk Lf hx hd D W PcW PlW b bd C0 cd PlB PcB bp z' z' kn' od' ol' oD' ow' opW' opB' vsW' vsB' tlW' (i + 2) → Q .next { s with heap := h', toks := tk' }) :
    wpC (model PR w) (AL L) (execs (lawTurn.drop 2) (envL L)) Q E s := by
  have hfill : Fill PySem.Challenge.rw_pb0104_01 KF := by k_fill; trivial
  have hF0 := hF
  obtain ⟨o1, o2, o3, o4, o5, o6, o7, o8, o9, o10, o11, o12, o13, o14, o15, hK, hD, hkn, hkl, hW, hPW, hPB, hBW, hBB, ⟨z1, z2, z3, z4, z5, z6⟩, -⟩ := hF
  replace o1 := ltN o1
  replace o2 := ltN o2
  replace o3 := ltN o3
  replace o4 := ltN o4
  replace o5 := ltN o5
  replace o6 := ltN o6
  replace o7 := ltN o7
  replace o8 := ltN o8
  replace o9 := ltN o9
  replace o10 := ltN o10
  replace o11 := ltN o11
  replace o12 := ltN o12
  replace o13 := ltN o13
  have p14 := neN o14
  have p15 := neN o15
  replace hI := ltN hI
  have hS : Ord dk Lf [hd, hx, D, W, PcW, PlW, cd, C0, bd, b, PcB, PlB, I, ed, e] := ⟨⟨o1, o3, o4, o5, o6, o7, o8, o9, o10, o11, o12, o13, hI, he2, he3, trivial⟩, ⟨o2, o3, o4, o5, o6, o7, o8, o9, o10, o11, o12, o13, hI, he2, he3, trivial⟩⟩
  have hs7 : ∀ q ∈ (asP w b bd e ed C0 cd PlB hx PcB u1 u2 u3 u4 u5 u6 v1 v2 v3 v4 v5 6 n2 opB bp z.len tl vo vk vc vb vd), q ∈ ((e, instObj 142 ed) :: (ed, edObj w v1 v2 v3 v4 v5 vo vk vc vb vd n2) :: (tp, tupObj [vo, vk, vc, vb, vd]) :: (I, oI) :: lawL w dk Lf hx hd D W PcW PlW b bd C0 cd PlB PcB q1 q2 q3 u1 u2 u3 u4 u5 u6 bp z.len tl od ol oD ow opW opB vsW npW vsB npB) := by
    dsimp only [asP, lawL, List.cons_append, List.nil_append]
    ((repeat (refine fa1 ?_ ?_; (· k_mem))); exact List.forall_mem_nil _)
  dsimp only [lawL, buObj] at N
  refine wpC_execs_cons (wpC_If (wpC_isTrue_Compare (wpC_Call ?_)))
  (repeat' (first | (k_unfold; (try dsimp only)) | (k_end; wrow_close) | ((with_reducible show wpAny _ _ _ _ _ _); first | (with_reducible (first | ((with_reducible show wpAny _ _ (compareOp CmpOp.NotEq (Value.ref _) (Value.ref _)) _ _ _); k_dflt (refine' pl_ne ?N ?m ?m2 ?D ?D2 ?u ?_; (case N => k_asm); (case m => k_mem); (case m2 => k_mem); (case D => assumption); (case D2 => assumption); (case u => ktr_units))) | ((with_reducible show wpAny _ _ (call (Value.ref 287) [Value.ref _, Value.ref _]) _ _ _); k_dflt (refine' use_whole ?hnd ?hW ?hV ?hz ?hl ?hP ?hK ?k1 ?k2 ?k3 ?k4 ?k5 ?kK ?kd ?ku ?hs ?U ?_; (walk_at "MINE_USE0"); (case hW => assumption); (case hs => ((repeat (refine fa1 ?_ ?_; (· k_mem))); exact List.forall_mem_nil _)); (case hV => assumption); (case hP => assumption); (case hK => first | assumption | exact kn_dig (by assumption) (by omega)); (case hz => omega); (case hl => omega); (case U => k_updF); (case hnd => (simp only [List.nodup_cons, List.mem_cons, List.not_mem_nil, or_false, not_or, not_false_eq_true, List.nodup_nil, and_true]; and_intros <;> k_ne))); intro t8 n8 o8 h8 k8 F8 N8 hn8 hP8; (try dsimp only at N8); (try k_sweep)) | ((with_reducible show wpAny _ _ (call (Value.ref 182) _) _ _ _); k_dflt (refine' use_close ?hnd ?hV ?hz ?hl ?hP ?hK ?k1 ?k2 ?k3 ?k4 ?k5 ?kK ?kd ?ku ?hs ?U ?_; (walk_at "MINE_USE0"); (case hs => ((repeat (refine fa1 ?_ ?_; (· k_mem))); exact List.forall_mem_nil _)); (case hV => assumption); (case hP => assumption); (case hK => first | assumption | exact kn_dig (by assumption) (by omega)); (case hz => omega); (case hl => omega); (case U => k_updF); (case hnd => (simp only [List.nodup_cons, List.mem_cons, List.not_mem_nil, or_false, not_or, not_false_eq_true, List.nodup_nil, and_true]; and_intros <;> k_ne))); intro t8 n8 o8 h8 k8 F8 N8 hn8 hP8; (try dsimp only at N8); (try k_sweep)) | ((with_reducible show wpAny _ _ (call (Value.ref 237) [Value.ref _, Value.int _ _]) _ _ _); k_dflt (refine' use_draw ?hne ?hm ?hm2 ?hK ?k1 ?k2 ?k3 ?k4 ?k5 ?kK ?kd ?ku ?U ?_; (walk_at "MINE_USE0"); (case hK => assumption); (case hne => first | assumption | omega); (case hm => decide); (case hm2 => decide); (case U => walk_at "MINE_UPD2")); intro r8 t8 od8 ol8 h8 k8 F8 N8 r0 r1 hK8; (try dsimp only at N8); (try k_sweep))))) | ((with_reducible show WhlIf _ _ _); refine whlIf_cases (fun hB => ?_) (fun hB => ?_) <;> simp only [decide_eq_true_eq, decide_eq_false_iff_not] at hB <;> first | (exfalso; omega) | skip) | walk1 | (leave1; (try dsimp only)) | dsimp only | fail "no step"))
  k_dflt (refine' wpC_callWith_K ?X1 ?hk1 ?_; (case X1 => k_asm); (case hk1 => k_is))
  (repeat' (first | (k_unfold; (try dsimp only)) | (k_end; wrow_close) | ((with_reducible show wpAny _ _ _ _ _ _); first | (with_reducible (first | ((with_reducible show wpAny _ _ (compareOp CmpOp.NotEq (Value.ref _) (Value.ref _)) _ _ _); k_dflt (refine' pl_ne ?N ?m ?m2 ?D ?D2 ?u ?_; (case N => k_asm); (case m => k_mem); (case m2 => k_mem); (case D => assumption); (case D2 => assumption); (case u => ktr_units))) | ((with_reducible show wpAny _ _ (call (Value.ref 287) [Value.ref _, Value.ref _]) _ _ _); k_dflt (refine' use_whole ?hnd ?hW ?hV ?hz ?hl ?hP ?hK ?k1 ?k2 ?k3 ?k4 ?k5 ?kK ?kd ?ku ?hs ?U ?_; (walk_at "MINE_USE0"); (case hW => assumption); (case hs => ((repeat (refine fa1 ?_ ?_; (· k_mem))); exact List.forall_mem_nil _)); (case hV => assumption); (case hP => assumption); (case hK => first | assumption | exact kn_dig (by assumption) (by omega)); (case hz => omega); (case hl => omega); (case U => k_updF); (case hnd => (simp only [List.nodup_cons, List.mem_cons, List.not_mem_nil, or_false, not_or, not_false_eq_true, List.nodup_nil, and_true]; and_intros <;> k_ne))); intro t8 n8 o8 h8 k8 F8 N8 hn8 hP8; (try dsimp only at N8); (try k_sweep)) | ((with_reducible show wpAny _ _ (call (Value.ref 182) _) _ _ _); k_dflt (refine' use_close ?hnd ?hV ?hz ?hl ?hP ?hK ?k1 ?k2 ?k3 ?k4 ?k5 ?kK ?kd ?ku ?hs ?U ?_; (walk_at "MINE_USE0"); (case hs => ((repeat (refine fa1 ?_ ?_; (· k_mem))); exact List.forall_mem_nil _)); (case hV => assumption); (case hP => assumption); (case hK => first | assumption | exact kn_dig (by assumption) (by omega)); (case hz => omega); (case hl => omega); (case U => k_updF); (case hnd => (simp only [List.nodup_cons, List.mem_cons, List.not_mem_nil, or_false, not_or, not_false_eq_true, List.nodup_nil, and_true]; and_intros <;> k_ne))); intro t8 n8 o8 h8 k8 F8 N8 hn8 hP8; (try dsimp only at N8); (try k_sweep)) | ((with_reducible show wpAny _ _ (call (Value.ref 237) [Value.ref _, Value.int _ _]) _ _ _); k_dflt (refine' use_draw ?hne ?hm ?hm2 ?hK ?k1 ?k2 ?k3 ?k4 ?k5 ?kK ?kd ?ku ?U ?_; (walk_at "MINE_USE0"); (case hK => assumption); (case hne => first | assumption | omega); (case hm => decide); (case hm2 => decide); (case U => walk_at "MINE_UPD2")); intro r8 t8 od8 ol8 h8 k8 F8 N8 r0 r1 hK8; (try dsimp only at N8); (try k_sweep))))) | ((with_reducible show WhlIf _ _ _); refine whlIf_cases (fun hB => ?_) (fun hB => ?_) <;> simp only [decide_eq_true_eq, decide_eq_false_iff_not] at hB <;> first | (exfalso; omega) | skip) | walk1 | (leave1; (try dsimp only)) | dsimp only | fail "no step"))
  (with_reducible rename Fr _ _ _ _ => F7)
  (with_reducible rename News _ _ _ _ => N7)
  k_dflt (refine' c_tried0 w b bd e ed C0 cd PlB hx PcB u1 u2 u3 u4 u5 u6 v1 v2 v3 v4 v5 6 n2 opB bp z.pl z.len tl r vo vk vc vb vd hr hV hPB z6 z3 (by omega) p loose mean mg mb _ _ _ _ _ _ _ _ _ _ _ _ _ _ _ B F7 X (fun q hq => N7 q (hs7 q hq)) T X T rfl ?kd ?ku ?_; (case kd => ktr_room); (case ku => ktr_units))
  intro v8 h8 tk8 hAg F8 hPost
  obtain ⟨hoi, -, hall⟩ := hPost
  have N8 : News base L h8 ((e, instObj 142 ed) :: (ed, edObj w v1 v2 v3 v4 v5 vo vk vc vb vd n2) :: (tp, tupObj [vo, vk, vc, vb, vd]) :: (I, oI) :: lawL w dk Lf hx hd D W PcW PlW b bd C0 cd PlB PcB q1 q2 q3 u1 u2 u3 u4 u5 u6 bp z.len tl od ol oD ow opW opB vsW npW vsB npB) :=
    news_mix N7 hAg (as' := (asP w b bd e ed C0 cd PlB hx PcB u1 u2 u3 u4 u5 u6 v1 v2 v3 v4 v5 6 n2 opB bp z.len tl vo vk vc vb vd)) rfl hall hs7 (by
      dsimp only [asP, lawL, List.cons_append, List.nil_append]
      ((repeat (first | (refine fa1 (.inl ?_) ?_; (· k_mem)) | (refine fa1 (.inr ⟨?_, ?_⟩) ?_; (· k_mem); (· (simp only [List.cons_append, List.nil_append, List.map_cons, List.map_nil, List.mem_cons, List.not_mem_nil, or_false, not_or]; and_intros <;> k_ne))))); exact List.forall_mem_nil _))
  clear N7 F7 hAg hall hs7
  have hp0 := hp
  cases hx9 : pieceOf bp z.pl z.len r with
  | none =>
    rw [hx9] at hoi hp
    obtain rfl : v8 = .none := hoi
    obtain rfl : vp = .none := hp
    (repeat' (first | (k_unfold; (try dsimp only)) | (k_end; wrow_close) | ((with_reducible show wpAny _ _ _ _ _ _); first | (with_reducible (first | ((with_reducible show wpAny _ _ (compareOp CmpOp.NotEq (Value.ref _) (Value.ref _)) _ _ _); k_dflt (refine' pl_ne ?N ?m ?m2 ?D ?D2 ?u ?_; (case N => k_asm); (case m => k_mem); (case m2 => k_mem); (case D => assumption); (case D2 => assumption); (case u => ktr_units))) | ((with_reducible show wpAny _ _ (call (Value.ref 287) [Value.ref _, Value.ref _]) _ _ _); k_dflt (refine' use_whole ?hnd ?hW ?hV ?hz ?hl ?hP ?hK ?k1 ?k2 ?k3 ?k4 ?k5 ?kK ?kd ?ku ?hs ?U ?_; (walk_at "MINE_USE0"); (case hW => assumption); (case hs => ((repeat (refine fa1 ?_ ?_; (· k_mem))); exact List.forall_mem_nil _)); (case hV => assumption); (case hP => assumption); (case hK => first | assumption | exact kn_dig (by assumption) (by omega)); (case hz => omega); (case hl => omega); (case U => k_updF); (case hnd => (simp only [List.nodup_cons, List.mem_cons, List.not_mem_nil, or_false, not_or, not_false_eq_true, List.nodup_nil, and_true]; and_intros <;> k_ne))); intro t8 n8 o8 h8 k8 F8 N8 hn8 hP8; (try dsimp only at N8); (try k_sweep)) | ((with_reducible show wpAny _ _ (call (Value.ref 182) _) _ _ _); k_dflt (refine' use_close ?hnd ?hV ?hz ?hl ?hP ?hK ?k1 ?k2 ?k3 ?k4 ?k5 ?kK ?kd ?ku ?hs ?U ?_; (walk_at "MINE_USE0"); (case hs => ((repeat (refine fa1 ?_ ?_; (· k_mem))); exact List.forall_mem_nil _)); (case hV => assumption); (case hP => assumption); (case hK => first | assumption | exact kn_dig (by assumption) (by omega)); (case hz => omega); (case hl => omega); (case U => k_updF); (case hnd => (simp only [List.nodup_cons, List.mem_cons, List.not_mem_nil, or_false, not_or, not_false_eq_true, List.nodup_nil, and_true]; and_intros <;> k_ne))); intro t8 n8 o8 h8 k8 F8 N8 hn8 hP8; (try dsimp only at N8); (try k_sweep)) | ((with_reducible show wpAny _ _ (call (Value.ref 237) [Value.ref _, Value.int _ _]) _ _ _); k_dflt (refine' use_draw ?hne ?hm ?hm2 ?hK ?k1 ?k2 ?k3 ?k4 ?k5 ?kK ?kd ?ku ?U ?_; (walk_at "MINE_USE0"); (case hK => assumption); (case hne => first | assumption | omega); (case hm => decide); (case hm2 => decide); (case U => walk_at "MINE_UPD2")); intro r8 t8 od8 ol8 h8 k8 F8 N8 r0 r1 hK8; (try dsimp only at N8); (try k_sweep))))) | ((with_reducible show WhlIf _ _ _); refine whlIf_cases (fun hB => ?_) (fun hB => ?_) <;> simp only [decide_eq_true_eq, decide_eq_false_iff_not] at hB <;> first | (exfalso; omega) | skip) | walk1 | (leave1; (try dsimp only)) | dsimp only | fail "no step"))
    · refine wpC_execs_nil ?_
      try dsimp only
      (with_reducible rename Fr _ _ _ _ => F9)
      (with_reducible rename News _ _ _ _ => N9)
      exact stage4 w dk Lf hx hd D W PcW PlW b bd C0 cd PlB PcB q1 q2 q3 u1 u2 u3 u4 u5 u6 v1 v2 v3 v4 v5 n2 bp z r kn tl od ol oD ow opW opB vsW npW vsB npB tlW i hi hF0 p loose mean mg mb base L m₀ vu vg tp e ed vo vk vc vb vd .none I oI _ Q E hr hV hp0 hpz ht1 ht2 ht3 ht4 ht5 ht6 ht7 ht8 ht9 he1 he2 he3 hI B F9 X T N9 k
  | some pc =>
    rw [hx9] at hoi hp
    obtain ⟨t8, rfl⟩ := hoi
    obtain ⟨t9, rfl⟩ := hp
    (repeat' (first | (k_unfold; (try dsimp only)) | (k_end; wrow_close) | ((with_reducible show wpAny _ _ _ _ _ _); first | (with_reducible (first | ((with_reducible show wpAny _ _ (compareOp CmpOp.NotEq (Value.ref _) (Value.ref _)) _ _ _); k_dflt (refine' pl_ne ?N ?m ?m2 ?D ?D2 ?u ?_; (case N => k_asm); (case m => k_mem); (case m2 => k_mem); (case D => assumption); (case D2 => assumption); (case u => ktr_units))) | ((with_reducible show wpAny _ _ (call (Value.ref 287) [Value.ref _, Value.ref _]) _ _ _); k_dflt (refine' use_whole ?hnd ?hW ?hV ?hz ?hl ?hP ?hK ?k1 ?k2 ?k3 ?k4 ?k5 ?kK ?kd ?ku ?hs ?U ?_; (walk_at "MINE_USE0"); (case hW => assumption); (case hs => ((repeat (refine fa1 ?_ ?_; (· k_mem))); exact List.forall_mem_nil _)); (case hV => assumption); (case hP => assumption); (case hK => first | assumption | exact kn_dig (by assumption) (by omega)); (case hz => omega); (case hl => omega); (case U => k_updF); (case hnd => (simp only [List.nodup_cons, List.mem_cons, List.not_mem_nil, or_false, not_or, not_false_eq_true, List.nodup_nil, and_true]; and_intros <;> k_ne))); intro t8 n8 o8 h8 k8 F8 N8 hn8 hP8; (try dsimp only at N8); (try k_sweep)) | ((with_reducible show wpAny _ _ (call (Value.ref 182) _) _ _ _); k_dflt (refine' use_close ?hnd ?hV ?hz ?hl ?hP ?hK ?k1 ?k2 ?k3 ?k4 ?k5 ?kK ?kd ?ku ?hs ?U ?_; (walk_at "MINE_USE0"); (case hs => ((repeat (refine fa1 ?_ ?_; (· k_mem))); exact List.forall_mem_nil _)); (case hV => assumption); (case hP => assumption); (case hK => first | assumption | exact kn_dig (by assumption) (by omega)); (case hz => omega); (case hl => omega); (case U => k_updF); (case hnd => (simp only [List.nodup_cons, List.mem_cons, List.not_mem_nil, or_false, not_or, not_false_eq_true, List.nodup_nil, and_true]; and_intros <;> k_ne))); intro t8 n8 o8 h8 k8 F8 N8 hn8 hP8; (try dsimp only at N8); (try k_sweep)) | ((with_reducible show wpAny _ _ (call (Value.ref 237) [Value.ref _, Value.int _ _]) _ _ _); k_dflt (refine' use_draw ?hne ?hm ?hm2 ?hK ?k1 ?k2 ?k3 ?k4 ?k5 ?kK ?kd ?ku ?U ?_; (walk_at "MINE_USE0"); (case hK => assumption); (case hne => first | assumption | omega); (case hm => decide); (case hm2 => decide); (case U => walk_at "MINE_UPD2")); intro r8 t8 od8 ol8 h8 k8 F8 N8 r0 r1 hK8; (try dsimp only at N8); (try k_sweep))))) | ((with_reducible show WhlIf _ _ _); refine whlIf_cases (fun hB => ?_) (fun hB => ?_) <;> simp only [decide_eq_true_eq, decide_eq_false_iff_not] at hB <;> first | (exfalso; omega) | skip) | walk1 | (leave1; (try dsimp only)) | dsimp only | fail "no step"))
    refine whlIf_cases (fun hB => ?_) (fun hB => ?_)
    · simp at hB
    · refine wpC_execs_nil ?_
      try dsimp only
      (with_reducible rename Fr _ _ _ _ => F9)
      (with_reducible rename News _ _ _ _ => N9)
      exact stage4 w dk Lf hx hd D W PcW PlW b bd C0 cd PlB PcB q1 q2 q3 u1 u2 u3 u4 u5 u6 v1 v2 v3 v4 v5 n2 bp z r kn tl od ol oD ow opW opB vsW npW vsB npB tlW i hi hF0 p loose mean mg mb base L m₀ vu vg tp e ed vo vk vc vb vd (.bytes pc t9) I oI _ Q E hr hV hp0 hpz ht1 ht2 ht3 ht4 ht5 ht6 ht7 ht8 ht9 he1 he2 he3 hI B F9 X T N9 k


end
theorem walk_reset28 : True ∧ True := by first | (walk1 <;> trivial) | exact ⟨trivial, trivial⟩
section
open PySem PySem.W PySem.Calls PyProof.Rows
set_option Elab.async false
set_option maxRecDepth 100000
theorem mT_three {r e q u g : Option Value} {m₀ : Str → Option Value} {dk hx W b : Addr} {v1 v2 v3 : Option Value} : (fun y => if y = Str.ofString "entry" then v2 else if y = Str.ofString "piece" then v1 else if y = Str.ofString "row" then v3 else mT r e q u g m₀ dk hx W b y) = mT v3 v2 v1 u g m₀ dk hx W b := by
  show (fun y => if y = Str.ofString "entry" then v2 else (fun y => if y = Str.ofString "piece" then v1 else (fun y => if y = Str.ofString "row" then v3 else mT r e q u g m₀ dk hx W b y) y) y) = _
  rw [mT_row, mT_piece, mT_entry]
set_option maxHeartbeats 1000000 in
theorem stage1 (w : World) (dk Lf hx hd D W PcW PlW b bd C0 cd PlB PcB : Addr) (q1 q2 q3 u1 u2 u3 u4 u5 u6 : Tok) (bp : Bool) (z : St) (kn : List (List UInt8 × Int)) (tl : Tok) (od ol oD ow opW opB : Obj) (vsW : List Value) (npW : Nat) (vsB : List Value) (npB : Nat) (tlW : Tok) (i : Nat) (hi : i ≤ 18)
    (hF : Facts w dk Lf hx hd D W PcW PlW b bd C0 cd PlB PcB bp z z kn od ol oD ow opW opB vsW vsB tlW i)
    (p : Program) (loose : List Str) (mean : ExcName → Option Value) (mg mb : Str → Option Value) (base : Heap) (L : Addr) (m₀ : Str → Option Value) (vr ve vq vu vg : Option Value) (I : Addr) (oI : Obj) (s : Shared) (Q : Flow → Shared → Prop) (E : Value → Shared → Prop)
    (hI : PlB < I) (B : Below callerA base [] base) (F : Fr base L s.heap (mT vr ve vq vu vg m₀ dk hx W b)) (X : (KF w.params).In base) (T : Top p loose mean mg mb base)
    (N : News base L s.heap ((I, oI) :: lawL w dk Lf hx hd D W PcW PlW b bd C0 cd PlB PcB q1 q2 q3 u1 u2 u3 u4 u5 u6 bp z.len tl od ol oD ow opW opB vsW npW vsB npB))
    (k : ∀ h' tk' kn' od' ol' oD' ow' opW' opB' vsW' npW' vsB' npB' tl' tlW' z' vr' ve' vq' vu', Fr base L h' (mT vr' ve' vq' vu' vg m₀ dk hx W b) → News base L h' ((I, oI) :: lawL w dk Lf hx hd D W PcW PlW b bd C0 cd PlB PcB q1 q2 q3 u1 u2 u3 u4 u5 u6 bp z'.len tl' od' ol' oD' ow' opW' opB' vsW' npW' vsB' npB') →
      Facts w dk Lf hx hd D W PcW PlW b bd C0 cd PlB PcB bp z' z' kn' od' ol' oD' ow' opW' opB' vsW' vsB' tlW' (i + 2) → Q .next { s with heap := h', toks := tk' }) :
    wpC (model PR w) (AL L) (execs lawTurn (envL L)) Q E s := by
  have hfill : Fill PySem.Challenge.rw_pb0104_01 KF := by k_fill; trivial
  have hF0 := hF
  obtain ⟨o1, o2, o3, o4, o5, o6, o7, o8, o9, o10, o11, o12, o13, o14, o15, hK, hD, hkn, hkl, hW, hPW, hPB, hBW, hBB, ⟨z1, z2, z3, z4, z5, z6⟩, -⟩ := hF
  have hI0 := hI
  replace o1 := ltN o1
  replace o2 := ltN o2
  replace o3 := ltN o3
  replace o4 := ltN o4
  replace o5 := ltN o5
  replace o6 := ltN o6
  replace o7 := ltN o7
  replace o8 := ltN o8
  replace o9 := ltN o9
  replace o10 := ltN o10
  replace o11 := ltN o11
  replace o12 := ltN o12
  replace o13 := ltN o13
  have p14 := neN o14
  have p15 := neN o15
  replace hI := ltN hI
  have hS : Ord dk Lf [hd, hx, D, W, PcW, PlW, cd, C0, bd, b, PcB, PlB, I] := ⟨⟨o1, o3, o4, o5, o6, o7, o8, o9, o10, o11, o12, o13, hI, trivial⟩, ⟨o2, o3, o4, o5, o6, o7, o8, o9, o10, o11, o12, o13, hI, trivial⟩⟩
  dsimp only [lawL, buObj] at N
  refine wpC_execs_consA ?_
  (repeat' (first | (k_unfold; (try dsimp only)) | (k_end; wrow_close) | ((with_reducible show wpAny _ _ _ _ _ _); first | (with_reducible (first | ((with_reducible show wpAny _ _ (call (Value.ref 268) [Value.ref _, Value.ref _]) _ _ _); k_dflt (refine' use0 (c_law_piece _ _ _ _ _ _ _ _ _ _ _ _ _ _ _ _ _ ?n1 ?n2 ?n3 ?hr ?hV ?hW ?hP ?hO ?l0 ?l1) ?k1 ?k2 ?k3 ?k4 ?k5 ?kK ?kd ?ku ?hs (fun _ _ _ hP => hP.2.2) ?_; (walk_at "MINE_USE0"); (case hV => assumption); (case hr => assumption); (case hW => assumption); (case hP => assumption); (case hO => assumption); (case l0 => omega); (case l1 => omega); (case hs => ((repeat (refine fa1 ?_ ?_; (· k_mem))); exact List.forall_mem_nil _)); (case n1 => k_ne); (case n2 => k_ne); (case n3 => k_ne)); intro v' h' tk' F' N' hP; (try k_sweep)) | ((with_reducible show wpAny _ _ (call (Value.ref 273) [Value.ref _, Value.ref _]) _ _ _); refine halt ?_) | ((with_reducible show wpAny _ _ (compareOp CmpOp.NotEq (Value.ref _) (Value.ref _)) _ _ _); k_dflt (refine' pl_ne ?N ?m ?m2 ?D ?D2 ?u ?_; (case N => k_asm); (case m => k_mem); (case m2 => k_mem); (case D => assumption); (case D2 => assumption); (case u => ktr_units))) | ((with_reducible show wpAny _ _ (call (Value.ref 287) [Value.ref _, Value.ref _]) _ _ _); k_dflt (refine' use_whole ?hnd ?hW ?hV ?hz ?hl ?hP ?hK ?k1 ?k2 ?k3 ?k4 ?k5 ?kK ?kd ?ku ?hs ?U ?_; (walk_at "MINE_USE0"); (case hW => assumption); (case hs => ((repeat (refine fa1 ?_ ?_; (· k_mem))); exact List.forall_mem_nil _)); (case hV => assumption); (case hP => assumption); (case hK => first | assumption | exact kn_dig (by assumption) (by omega)); (case hz => omega); (case hl => omega); (case U => k_updF); (case hnd => (simp only [List.nodup_cons, List.mem_cons, List.not_mem_nil, or_false, not_or, not_false_eq_true, List.nodup_nil, and_true]; and_intros <;> k_ne))); intro t8 n8 o8 h8 k8 F8 N8 hn8 hP8; (try dsimp only at N8); (try k_sweep)) | ((with_reducible show wpAny _ _ (call (Value.ref 182) _) _ _ _); k_dflt (refine' use_close ?hnd ?hV ?hz ?hl ?hP ?hK ?k1 ?k2 ?k3 ?k4 ?k5 ?kK ?kd ?ku ?hs ?U ?_; (walk_at "MINE_USE0"); (case hs => ((repeat (refine fa1 ?_ ?_; (· k_mem))); exact List.forall_mem_nil _)); (case hV => assumption); (case hP => assumption); (case hK => first | assumption | exact kn_dig (by assumption) (by omega)); (case hz => omega); (case hl => omega); (case U => k_updF); (case hnd => (simp only [List.nodup_cons, List.mem_cons, List.not_mem_nil, or_false, not_or, not_false_eq_true, List.nodup_nil, and_true]; and_intros <;> k_ne))); intro t8 n8 o8 h8 k8 F8 N8 hn8 hP8; (try dsimp only at N8); (try k_sweep)) | ((with_reducible show wpAny _ _ (call (Value.ref 237) [Value.ref _, Value.int _ _]) _ _ _); k_dflt (refine' use_draw ?hne ?hm ?hm2 ?hK ?k1 ?k2 ?k3 ?k4 ?k5 ?kK ?kd ?ku ?U ?_; (walk_at "MINE_USE0"); (case hK => assumption); (case hne => first | assumption | omega); (case hm => decide); (case hm2 => decide); (case U => walk_at "MINE_UPD2")); intro r8 t8 od8 ol8 h8 k8 F8 N8 r0 r1 hK8; (try dsimp only at N8); (try k_sweep)) | ((with_reducible show wpAny _ _ (subscriptTail _ _ (Value.ref _) (Value.str _ _)) _ _ _); k_dflt (refine' di_tailS (knd := strKind PR _) ?N ?m ?D (strKind_is _ _ _ _) ?v ?_; (case N => k_asm); (case m => k_mem); (case D => assumption); (case v => exact rfl)); intro _) | ((with_reducible show wpAny _ _ (subscriptTail _ _ (Value.ref _) (Value.bytes _ _)) _ _ _); k_dflt (refine' pl_tailS ?N ?m ?D ?v ?_; (case N => k_asm); (case m => k_mem); (case D => assumption); (case v => first | assumption | exact plAt_snoc_some _ _ _ | (simp_all; done))); intro n8 t8 k8 hn8; (try (have hb8 := PlOk.at (by assumption) hn8; obtain ⟨hb8a, hb8b⟩ := hb8)))))) | walk1 | (leave1; (try dsimp only)) | dsimp only | fail "no step"))
  unfold Halt
  k_dflt (refine' use_row o14 hK ?k1 ?k2 ?k3 ?k4 ?k5 ?kK ?kd ?ku ?U ?_; (walk_at "MINE_USE0"); (case U => walk_at "MINE_UPD2"))
  intro tp vo vk vc vb vd row od' ol' h1 tk1 F1 N1 hne9 hV9 ho9 hK9
  try dsimp only at N1
  have ht1 : @Ne Nat tp PlW := fun h => hne9 (PlW, opW) (by k_mem) h.symm
  have ht2 : @Ne Nat tp PcW := fun h => hne9 (PcW, lsObj vsW npW) (by k_mem) h.symm
  have ht3 : @Ne Nat tp W := fun h => hne9 (W, ow) (by k_mem) h.symm
  have ht4 : @Ne Nat tp PlB := fun h => hne9 (PlB, opB) (by k_mem) h.symm
  have ht5 : @Ne Nat tp PcB := fun h => hne9 (PcB, lsObj vsB npB) (by k_mem) h.symm
  have ht6 : @Ne Nat tp b := fun h => hne9 (b, instObj 185 bd) (by k_mem) h.symm
  have ht7 : @Ne Nat tp bd := fun h => hne9 (bd, buObj w u1 u2 u3 u4 u5 u6 hx C0 PcB PlB bp z.len tl 6) (by k_mem) h.symm
  have ht8 : @Ne Nat tp C0 := fun h => hne9 (C0, instObj 221 cd) (by k_mem) h.symm
  have ht9 : @Ne Nat tp cd := fun h => hne9 (cd, emptyDict) (by k_mem) h.symm
  clear hne9
  have hF1 : Facts w dk Lf hx hd D W PcW PlW b bd C0 cd PlB PcB bp z z kn od' ol' oD ow opW opB vsW vsB tlW i := { hF0 with hK := hK9 }
  clear N F hF0 hK
  (repeat' (first | (k_unfold; (try dsimp only)) | (k_end; wrow_close) | ((with_reducible show wpAny _ _ _ _ _ _); first | (with_reducible (first | ((with_reducible show wpAny _ _ (call (Value.ref 268) [Value.ref _, Value.ref _]) _ _ _); k_dflt (refine' use0 (c_law_piece _ _ _ _ _ _ _ _ _ _ _ _ _ _ _ _ _ ?n1 ?n2 ?n3 ?hr ?hV ?hW ?hP ?hO ?l0 ?l1) ?k1 ?k2 ?k3 ?k4 ?k5 ?kK ?kd ?ku ?hs (fun _ _ _ hP => hP.2.2) ?_; (walk_at "MINE_USE0"); (case hV => assumption); (case hr => assumption); (case hW => assumption); (case hP => assumption); (case hO => assumption); (case l0 => omega); (case l1 => omega); (case hs => ((repeat (refine fa1 ?_ ?_; (· k_mem))); exact List.forall_mem_nil _)); (case n1 => k_ne); (case n2 => k_ne); (case n3 => k_ne)); intro v' h' tk' F' N' hP; (try k_sweep)) | ((with_reducible show wpAny _ _ (call (Value.ref 273) [Value.ref _, Value.ref _]) _ _ _); refine halt ?_) | ((with_reducible show wpAny _ _ (compareOp CmpOp.NotEq (Value.ref _) (Value.ref _)) _ _ _); k_dflt (refine' pl_ne ?N ?m ?m2 ?D ?D2 ?u ?_; (case N => k_asm); (case m => k_mem); (case m2 => k_mem); (case D => assumption); (case D2 => assumption); (case u => ktr_units))) | ((with_reducible show wpAny _ _ (call (Value.ref 287) [Value.ref _, Value.ref _]) _ _ _); k_dflt (refine' use_whole ?hnd ?hW ?hV ?hz ?hl ?hP ?hK ?k1 ?k2 ?k3 ?k4 ?k5 ?kK ?kd ?ku ?hs ?U ?_; (walk_at "MINE_USE0"); (case hW => assumption); (case hs => ((repeat (refine fa1 ?_ ?_; (· k_mem))); exact List.forall_mem_nil _)); (case hV => assumption); (case hP => assumption); (case hK => first | assumption | exact kn_dig (by assumption) (by omega)); (case hz => omega); (case hl => omega); (case U => k_updF); (case hnd => (simp only [List.nodup_cons, List.mem_cons, List.not_mem_nil, or_false, not_or, not_false_eq_true, List.nodup_nil, and_true]; and_intros <;> k_ne))); intro t8 n8 o8 h8 k8 F8 N8 hn8 hP8; (try dsimp only at N8); (try k_sweep)) | ((with_reducible show wpAny _ _ (call (Value.ref 182) _) _ _ _); k_dflt (refine' use_close ?hnd ?hV ?hz ?hl ?hP ?hK ?k1 ?k2 ?k3 ?k4 ?k5 ?kK ?kd ?ku ?hs ?U ?_; (walk_at "MINE_USE0"); (case hs => ((repeat (refine fa1 ?_ ?_; (· k_mem))); exact List.forall_mem_nil _)); (case hV => assumption); (case hP => assumption); (case hK => first | assumption | exact kn_dig (by assumption) (by omega)); (case hz => omega); (case hl => omega); (case U => k_updF); (case hnd => (simp only [List.nodup_cons, List.mem_cons, List.not_mem_nil, or_false, not_or, not_false_eq_true, List.nodup_nil, and_true]; and_intros <;> k_ne))); intro t8 n8 o8 h8 k8 F8 N8 hn8 hP8; (try dsimp only at N8); (try k_sweep)) | ((with_reducible show wpAny _ _ (call (Value.ref 237) [Value.ref _, Value.int _ _]) _ _ _); k_dflt (refine' use_draw ?hne ?hm ?hm2 ?hK ?k1 ?k2 ?k3 ?k4 ?k5 ?kK ?kd ?ku ?U ?_; (walk_at "MINE_USE0"); (case hK => assumption); (case hne => first | assumption | omega); (case hm => decide); (case hm2 => decide); (case U => walk_at "MINE_UPD2")); intro r8 t8 od8 ol8 h8 k8 F8 N8 r0 r1 hK8; (try dsimp only at N8); (try k_sweep)) | ((with_reducible show wpAny _ _ (subscriptTail _ _ (Value.ref _) (Value.str _ _)) _ _ _); k_dflt (refine' di_tailS (knd := strKind PR _) ?N ?m ?D (strKind_is _ _ _ _) ?v ?_; (case N => k_asm); (case m => k_mem); (case D => assumption); (case v => exact rfl)); intro _) | ((with_reducible show wpAny _ _ (subscriptTail _ _ (Value.ref _) (Value.bytes _ _)) _ _ _); k_dflt (refine' pl_tailS ?N ?m ?D ?v ?_; (case N => k_asm); (case m => k_mem); (case D => assumption); (case v => first | assumption | exact plAt_snoc_some _ _ _ | (simp_all; done))); intro n8 t8 k8 hn8; (try (have hb8 := PlOk.at (by assumption) hn8; obtain ⟨hb8a, hb8b⟩ := hb8)))))) | walk1 | (leave1; (try dsimp only)) | dsimp only | fail "no step"))
  refine wpC_execs_consA ?_
  (repeat' (first | (k_unfold; (try dsimp only)) | (k_end; wrow_close) | ((with_reducible show wpAny _ _ _ _ _ _); first | (with_reducible (first | ((with_reducible show wpAny _ _ (call (Value.ref 268) [Value.ref _, Value.ref _]) _ _ _); k_dflt (refine' use0 (c_law_piece _ _ _ _ _ _ _ _ _ _ _ _ _ _ _ _ _ ?n1 ?n2 ?n3 ?hr ?hV ?hW ?hP ?hO ?l0 ?l1) ?k1 ?k2 ?k3 ?k4 ?k5 ?kK ?kd ?ku ?hs (fun _ _ _ hP => hP.2.2) ?_; (walk_at "MINE_USE0"); (case hV => assumption); (case hr => assumption); (case hW => assumption); (case hP => assumption); (case hO => assumption); (case l0 => omega); (case l1 => omega); (case hs => ((repeat (refine fa1 ?_ ?_; (· k_mem))); exact List.forall_mem_nil _)); (case n1 => k_ne); (case n2 => k_ne); (case n3 => k_ne)); intro v' h' tk' F' N' hP; (try k_sweep)) | ((with_reducible show wpAny _ _ (call (Value.ref 273) [Value.ref _, Value.ref _]) _ _ _); refine halt ?_) | ((with_reducible show wpAny _ _ (compareOp CmpOp.NotEq (Value.ref _) (Value.ref _)) _ _ _); k_dflt (refine' pl_ne ?N ?m ?m2 ?D ?D2 ?u ?_; (case N => k_asm); (case m => k_mem); (case m2 => k_mem); (case D => assumption); (case D2 => assumption); (case u => ktr_units))) | ((with_reducible show wpAny _ _ (call (Value.ref 287) [Value.ref _, Value.ref _]) _ _ _); k_dflt (refine' use_whole ?hnd ?hW ?hV ?hz ?hl ?hP ?hK ?k1 ?k2 ?k3 ?k4 ?k5 ?kK ?kd ?ku ?hs ?U ?_; (walk_at "MINE_USE0"); (case hW => assumption); (case hs => ((repeat (refine fa1 ?_ ?_; (· k_mem))); exact List.forall_mem_nil _)); (case hV => assumption); (case hP => assumption); (case hK => first | assumption | exact kn_dig (by assumption) (by omega)); (case hz => omega); (case hl => omega); (case U => k_updF); (case hnd => (simp only [List.nodup_cons, List.mem_cons, List.not_mem_nil, or_false, not_or, not_false_eq_true, List.nodup_nil, and_true]; and_intros <;> k_ne))); intro t8 n8 o8 h8 k8 F8 N8 hn8 hP8; (try dsimp only at N8); (try k_sweep)) | ((with_reducible show wpAny _ _ (call (Value.ref 182) _) _ _ _); k_dflt (refine' use_close ?hnd ?hV ?hz ?hl ?hP ?hK ?k1 ?k2 ?k3 ?k4 ?k5 ?kK ?kd ?ku ?hs ?U ?_; (walk_at "MINE_USE0"); (case hs => ((repeat (refine fa1 ?_ ?_; (· k_mem))); exact List.forall_mem_nil _)); (case hV => assumption); (case hP => assumption); (case hK => first | assumption | exact kn_dig (by assumption) (by omega)); (case hz => omega); (case hl => omega); (case U => k_updF); (case hnd => (simp only [List.nodup_cons, List.mem_cons, List.not_mem_nil, or_false, not_or, not_false_eq_true, List.nodup_nil, and_true]; and_intros <;> k_ne))); intro t8 n8 o8 h8 k8 F8 N8 hn8 hP8; (try dsimp only at N8); (try k_sweep)) | ((with_reducible show wpAny _ _ (call (Value.ref 237) [Value.ref _, Value.int _ _]) _ _ _); k_dflt (refine' use_draw ?hne ?hm ?hm2 ?hK ?k1 ?k2 ?k3 ?k4 ?k5 ?kK ?kd ?ku ?U ?_; (walk_at "MINE_USE0"); (case hK => assumption); (case hne => first | assumption | omega); (case hm => decide); (case hm2 => decide); (case U => walk_at "MINE_UPD2")); intro r8 t8 od8 ol8 h8 k8 F8 N8 r0 r1 hK8; (try dsimp only at N8); (try k_sweep)) | ((with_reducible show wpAny _ _ (subscriptTail _ _ (Value.ref _) (Value.str _ _)) _ _ _); k_dflt (refine' di_tailS (knd := strKind PR _) ?N ?m ?D (strKind_is _ _ _ _) ?v ?_; (case N => k_asm); (case m => k_mem); (case D => assumption); (case v => exact rfl)); intro _) | ((with_reducible show wpAny _ _ (subscriptTail _ _ (Value.ref _) (Value.bytes _ _)) _ _ _); k_dflt (refine' pl_tailS ?N ?m ?D ?v ?_; (case N => k_asm); (case m => k_mem); (case D => assumption); (case v => first | assumption | exact plAt_snoc_some _ _ _ | (simp_all; done))); intro n8 t8 k8 hn8; (try (have hb8 := PlOk.at (by assumption) hn8; obtain ⟨hb8a, hb8b⟩ := hb8)))))) | walk1 | (leave1; (try dsimp only)) | dsimp only | fail "no step"))
  (with_reducible rename Fr _ _ _ _ => F9)
  (with_reducible rename News _ _ _ _ => N9)
  (with_reducible rename PiecePost _ _ _ _ => P9)
  rw [mT_three] at F9
  exact stage3 w dk Lf hx hd D W PcW PlW b bd C0 cd PlB PcB q1 q2 q3 u1 u2 u3 u4 u5 u6 _ _ _ _ _ _ bp z row kn tl od' ol' oD ow opW opB vsW npW vsB npB tlW i hi hF1 p loose mean mg mb base L m₀ vu vg tp _ _ vo vk vc vb vd _ I oI _ Q E ho9 hV9 P9.1 P9.2.1 ht1 ht2 ht3 ht4 ht5 ht6 ht7 ht8 ht9 (by omega) (by omega) (by omega) hI0 B F9 X T (fun q hq => N9 q (List.mem_cons_of_mem _ hq))
    (fun h' tk' kn' od' ol' oD' ow' opW' opB' vsW' npW' vsB' npB' tl' tlW' z' vu' F' N' hF' => k h' tk' kn' od' ol' oD' ow' opW' opB' vsW' npW' vsB' npB' tl' tlW' z' _ _ _ _ F' N' hF')


end
theorem walk_reset29 : True ∧ True := by first | (walk1 <;> trivial) | exact ⟨trivial, trivial⟩
section
open PySem PySem.W PySem.Calls PyProof.Rows
set_option Elab.async false
set_option maxRecDepth 100000
theorem kn_dig2 {kn : List (List UInt8 × Int)} {k : List UInt8} (h : Kn kn) (hl : kn.length < 150) : Kn (dig (dig kn k) k) := by rw [dig_again]; exact kn_dig h hl
theorem kn_dig3 {kn : List (List UInt8 × Int)} {k : List UInt8} (h : Kn kn) (hl : kn.length < 150) : Kn (dig (dig (dig kn k) k) k) := by rw [dig_again]; exact kn_dig2 h hl
theorem same_eq {kn : List (List UInt8 × Int)} {c : List UInt8} {P : Array UInt8} {n1 n2 : Int} (h1 : plAt (dig kn c) c = some n1) (h2 : plAt (dig (dig kn c) c) c = some n2) : ((P ++ byteArr [0, 0, 0, n1]).toList == (P ++ byteArr [0, 0, 0, n2]).toList) = true := by
  rw [dig_again, h1] at h2
  cases h2
  simp
set_option maxHeartbeats 1000000 in
theorem stage9 (w : World) (dk Lf hx hd D W PcW PlW b bd C0 cd PlB PcB : Addr) (q1 q2 q3 u1 u2 u3 u4 u5 u6 : Tok) (bp : Bool) (z : St) (kn : List (List UInt8 × Int)) (tl : Tok) (od ol oD ow opW opB : Obj) (vsW : List Value) (npW : Nat) (vsB : List Value) (npB : Nat) (tlW : Tok) (i : Nat) (hi : i ≤ 20)
    (hF : Facts w dk Lf hx hd D W PcW PlW b bd C0 cd PlB PcB bp z z kn od ol oD ow opW opB vsW vsB tlW i)
    (p : Program) (loose : List Str) (mean : ExcName → Option Value) (mg mb : Str → Option Value) (base : Heap) (L : Addr) (m₀ : Str → Option Value) (vr ve vq vu vg : Option Value) (I : Addr) (s : Shared) (Q : Flow → Shared → Prop) (E : Value → Shared → Prop)
    (hI : PlB < I) (B : Below callerA base [] base) (F : Fr base L s.heap (mT vr ve vq vu vg m₀ dk hx W b)) (X : (KF w.params).In base) (T : Top p loose mean mg mb base)
    (N : News base L s.heap (lawL w dk Lf hx hd D W PcW PlW b bd C0 cd PlB PcB q1 q2 q3 u1 u2 u3 u4 u5 u6 bp z.len tl od ol oD ow opW opB vsW npW vsB npB))
    (k : ∀ h' tk', Fr base L h' (mT vr ve vq vu vg m₀ dk hx W b) → Q (.ret (.bool true)) { s with heap := h', toks := tk' }) :
    wpC (model PR w) (AL L) (execs ((fBody (sAt 33)).drop 4) (envL L)) Q E s := by
  have hfill : Fill PySem.Challenge.rw_pb0104_01 KF := by k_fill; trivial
  obtain ⟨pl, ps, len⟩ := z
  obtain ⟨o1, o2, o3, o4, o5, o6, o7, o8, o9, o10, o11, o12, o13, o14, o15, hK, hD, hkn, hkl, hW, hPW, hPB, hBW, hBB, ⟨z1, z2, z3, z4, z5, z6⟩, -⟩ := hF
  dsimp only at *
  replace o1 := ltN o1
  replace o2 := ltN o2
  replace o3 := ltN o3
  replace o4 := ltN o4
  replace o5 := ltN o5
  replace o6 := ltN o6
  replace o7 := ltN o7
  replace o8 := ltN o8
  replace o9 := ltN o9
  replace o10 := ltN o10
  replace o11 := ltN o11
  replace o12 := ltN o12
  replace o13 := ltN o13
  have p14 := neN o14
  have p15 := neN o15
  replace hI := ltN hI
  have hS : Ord dk Lf [hd, hx, D, W, PcW, PlW, cd, C0, bd, b, PcB, PlB, I] := ⟨⟨o1, o3, o4, o5, o6, o7, o8, o9, o10, o11, o12, o13, hI, trivial⟩, ⟨o2, o3, o4, o5, o6, o7, o8, o9, o10, o11, o12, o13, hI, trivial⟩⟩
  dsimp only [lawL, buObj] at N
  refine wpC_execs_consA ?_
  (repeat' (first | (k_unfold; (try dsimp only)) | (k_end; wrow_close) | ((with_reducible show wpAny _ _ _ _ _ _); first | (with_reducible (first | ((with_reducible show wpAny _ _ (call (Value.ref 287) [Value.ref _, Value.ref _]) _ _ _); k_dflt (refine' use_whole ?hnd ?hW ?hV ?hz ?hl ?hP ?hK ?k1 ?k2 ?k3 ?k4 ?k5 ?kK ?kd ?ku ?hs ?U ?_; (walk_at "MINE_USE0"); (case hW => assumption); (case hs => ((repeat (refine fa1 ?_ ?_; (· k_mem))); exact List.forall_mem_nil _)); (case hV => assumption); (case hP => assumption); (case hK => first | assumption | exact kn_dig (by assumption) (by omega) | exact kn_dig2 (by assumption) (by omega) | exact kn_dig3 (by assumption) (by omega)); (case hz => omega); (case hl => omega); (case U => k_updF); (case hnd => (simp only [List.nodup_cons, List.mem_cons, List.not_mem_nil, or_false, not_or, not_false_eq_true, List.nodup_nil, and_true]; and_intros <;> k_ne))); intro t8 n8 o8 h8 k8 F8 N8 hn8 hP8; (try dsimp only at N8); (try k_sweep)) | ((with_reducible show wpAny _ _ (call (Value.ref 182) _) _ _ _); k_dflt (refine' use_close ?hnd ?hV ?hz ?hl ?hP ?hK ?k1 ?k2 ?k3 ?k4 ?k5 ?kK ?kd ?ku ?hs ?U ?_; (walk_at "MINE_USE0"); (case hs => ((repeat (refine fa1 ?_ ?_; (· k_mem))); exact List.forall_mem_nil _)); (case hV => assumption); (case hP => assumption); (case hK => first | assumption | exact kn_dig (by assumption) (by omega) | exact kn_dig2 (by assumption) (by omega) | exact kn_dig3 (by assumption) (by omega)); (case hz => omega); (case hl => omega); (case U => k_updF); (case hnd => (simp only [List.nodup_cons, List.mem_cons, List.not_mem_nil, or_false, not_or, not_false_eq_true, List.nodup_nil, and_true]; and_intros <;> k_ne))); intro t8 n8 o8 h8 k8 F8 N8 hn8 hP8; (try dsimp only at N8); (try k_sweep)) | ((with_reducible show wpAny _ _ (call (Value.ref 237) [Value.ref _, Value.int _ _]) _ _ _); k_dflt (refine' use_draw ?hne ?hm ?hm2 ?hK ?k1 ?k2 ?k3 ?k4 ?k5 ?kK ?kd ?ku ?U ?_; (walk_at "MINE_USE0"); (case hK => assumption); (case hne => first | assumption | omega); (case hm => decide); (case hm2 => decide); (case U => walk_at "MINE_UPD2")); intro r8 t8 od8 ol8 h8 k8 F8 N8 r0 r1 hK8; (try dsimp only at N8); (try k_sweep))))) | walk1 | (leave1; (try dsimp only)) | dsimp only | fail "no step"))
  · (with_reducible rename plAt (dig (dig (dig (dig kn _) _) _) _) _ = some _ => e4)
    (with_reducible rename plAt (dig (dig (dig kn _) _) _) _ = some _ => e3)
    (with_reducible rename Fr _ _ _ _ => F9)
    rw [same_eq e3 e4]
    exact k _ _ F9
  · exfalso
    (with_reducible rename plAt (dig (dig kn _) _) _ = some _ => e4)
    (with_reducible rename plAt (dig kn _) _ = some _ => e3)
    (with_reducible rename (_ == _) = false => e5)
    rw [same_eq e3 e4] at e5
    cases e5


end
theorem walk_reset30 : True ∧ True := by first | (walk1 <;> trivial) | exact ⟨trivial, trivial⟩
section
open PySem PySem.W PySem.Calls PyProof.Rows
set_option Elab.async false
set_option maxRecDepth 100000
noncomputable abbrev itObj (j n : Nat) : Obj := { cls := .type "range_iterator", dict := none, data := .fields #[rawInt (0 + (j : Int) * 1), rawInt ((n : Int) - (j : Int)), rawInt 1], slots := #[] }
/-- what holds when k turns are left -/
inductive LoopI (w : World) (dk Lf hx hd D W PcW PlW b bd C0 cd PlB PcB : Addr) (q1 q2 q3 u1 u2 u3 u4 u5 u6 : Tok) (bp : Bool) (base : Heap) (L : Addr) (m₀ : Str → Option Value) (I : Addr) (n : Nat) (s₀ : Shared) (k : Nat) (s : Shared) : Prop
  | mk (j : Nat) (z : St) (kn : List (List UInt8 × Int)) (tl : Tok) (od ol oD ow opW opB : Obj) (vsW : List Value) (npW : Nat) (vsB : List Value) (npB : Nat) (tlW : Tok) (vr ve vq vu vg : Option Value) (h : Heap) (tk : Nat) :
    j + k = n → s = { s₀ with heap := h, toks := tk } → Facts w dk Lf hx hd D W PcW PlW b bd C0 cd PlB PcB bp z z kn od ol oD ow opW opB vsW vsB tlW (2 * j) → Fr base L h (mT vr ve vq vu vg m₀ dk hx W b) → News base L h ((I, itObj j n) :: lawL w dk Lf hx hd D W PcW PlW b bd C0 cd PlB PcB q1 q2 q3 u1 u2 u3 u4 u5 u6 bp z.len tl od ol oD ow opW opB vsW npW vsB npB) → LoopI w dk Lf hx hd D W PcW PlW b bd C0 cd PlB PcB q1 q2 q3 u1 u2 u3 u4 u5 u6 bp base L m₀ I n s₀ k s
theorem news_it {g h h' : Heap} {L I : Addr} {o o' : Obj} {news : List (Addr × Obj)} (N : News g L h ((I, o) :: news)) (hne : ∀ q ∈ news, q.1 ≠ I) (hk : ∀ b x, b ∉ [I] → h.get? b = some x → h'.get? b = some x) (hI : h'.get? I = some o') : News g L h' ((I, o') :: news) := fun q hq => by
  rcases List.mem_cons.mp hq with rfl | hq
  · exact ⟨hI, (N _ (.head _)).2⟩
  · exact ⟨hk _ _ (fun h => hne q hq (List.mem_singleton.mp h)) (N q (.tail _ hq)).1, (N q (.tail _ hq)).2⟩
theorem law_loop (w : World) (dk Lf hx hd D W PcW PlW b bd C0 cd PlB PcB : Addr) (q1 q2 q3 u1 u2 u3 u4 u5 u6 : Tok) (bp : Bool) (z : St) (kn : List (List UInt8 × Int)) (tl : Tok) (od ol oD ow opW opB : Obj) (vsW : List Value) (npW : Nat) (vsB : List Value) (npB : Nat) (tlW : Tok)
    (hF : Facts w dk Lf hx hd D W PcW PlW b bd C0 cd PlB PcB bp z z kn od ol oD ow opW opB vsW vsB tlW 0)
    (p : Program) (loose : List Str) (mean : ExcName → Option Value) (mg mb : Str → Option Value) (base : Heap) (L : Addr) (m₀ : Str → Option Value) (vr ve vq vu vg : Option Value) (s : Shared) (R : Result → Shared → Prop) (E : Value → Shared → Prop) (c : Int) (rr : Addr) (t₀ t₁ t₂ : Tok) (gp : Pos)
    (hc0 : 0 ≤ c) (hc1 : c < 7) (hR : IsRange s.heap rr 0 c 1 t₀ t₁ t₂) (hsm : Builtin.Range.small 0 c 1 = true) (B : Below callerA base [] base) (F : Fr base L s.heap (mT vr ve vq vu vg m₀ dk hx W b)) (X : (KF w.params).In base) (T : Top p loose mean mg mb base)
    (N : News base L s.heap (lawL w dk Lf hx hd D W PcW PlW b bd C0 cd PlB PcB q1 q2 q3 u1 u2 u3 u4 u5 u6 bp z.len tl od ol oD ow opW opB vsW npW vsB npB))
    (kend : ∀ (j : Nat) (z : St) (kn : List (List UInt8 × Int)) (tl : Tok) (od ol oD ow opW opB : Obj) (vsW : List Value) (npW : Nat) (vsB : List Value) (npB : Nat) (tlW : Tok) (vr ve vq vu vg : Option Value) (h : Heap) (tk : Nat), j ≤ 6 →
      Facts w dk Lf hx hd D W PcW PlW b bd C0 cd PlB PcB bp z z kn od ol oD ow opW opB vsW vsB tlW (2 * j) → Fr base L h (mT vr ve vq vu vg m₀ dk hx W b) → News base L h (lawL w dk Lf hx hd D W PcW PlW b bd C0 cd PlB PcB q1 q2 q3 u1 u2 u3 u4 u5 u6 bp z.len tl od ol oD ow opW opB vsW npW vsB npB) → R (.ok .next) { s with heap := h, toks := tk }) :
    wpAny (model PR w) (AL L) (pyIter (.ref rr)) (fun it s₂ => codeC (model PR w) (AL L) (.forLoop (.Name (Str.ofString "go") gp) it lawTurn [] (envL L)) R s₂) E s := by
  have hn : Builtin.Range.rangeSize 0 c 1 = ((c.toNat : Nat) : Int) := by rw [rangeSize_nat]; simp
  have hn6 : c.toNat ≤ 6 := by omega
  refine wpAny_pyIter_range hR hsm ?_
  have hlt : ∀ q ∈ lawL w dk Lf hx hd D W PcW PlW b bd C0 cd PlB PcB q1 q2 q3 u1 u2 u3 u4 u5 u6 bp z.len tl od ol oD ow opW opB vsW npW vsB npB, q.1 < s.heap.objs.size := fun q hq => Heap.lt_size (N q hq).1
  have hI : PlB < s.heap.objs.size := hlt (PlB, opB) (.head _)
  have hne : ∀ q ∈ lawL w dk Lf hx hd D W PcW PlW b bd C0 cd PlB PcB q1 q2 q3 u1 u2 u3 u4 u5 u6 bp z.len tl od ol oD ow opW opB vsW npW vsB npB, q.1 ≠ s.heap.objs.size := fun q hq => Nat.ne_of_lt (hlt q hq)
  have hadr : ∀ a ∈ [PlB, PcB, b, bd, C0, cd, PlW, PcW, W, D, hx, hd, dk, Lf], a ≠ s.heap.objs.size := fun a ha => by
    have hm : a ∈ (lawL w dk Lf hx hd D W PcW PlW b bd C0 cd PlB PcB q1 q2 q3 u1 u2 u3 u4 u5 u6 bp z.len tl od ol oD ow opW opB vsW npW vsB npB).map (·.1) := ha
    obtain ⟨q, hq, rfl⟩ := List.mem_map.mp hm
    exact hne q hq
  generalize hIe : s.heap.objs.size = I at hI hne hadr ⊢
  have hL : I ≠ L := by
    have := F.ns.lt
    intro q
    rw [← hIe] at q
    exact absurd this (by rw [← q]; exact Nat.lt_irrefl _)
  have hb : base.get? I = none := by rw [← hIe]; exact next_is_new F
  have W0 := Walks.range (prog := PR) (w := w) (A := AL L) rfl I 0 1 c.toNat
  refine codeC_forLoop (fun k s' => LoopI w dk Lf hx hd D W PcW PlW b bd C0 cd PlB PcB q1 q2 q3 u1 u2 u3 u4 u5 u6 bp base L m₀ I c.toNat s k s') (fun k s' hk => ?_) c.toNat ?_
  · obtain ⟨j, z, kn, tl, od, ol, oD, ow, opW, opB, vsW, npW, vsB, npB, tlW, vr, ve, vq, vu, vg, h, tk, hjk, rfl, hF', F', N'⟩ := hk
    have st : IsRangeIter h I (0 + (j : Int) * 1) ((c.toNat : Int) - (j : Int)) 1 := (N' _ (.head _)).1
    have hne' : ∀ q ∈ lawL w dk Lf hx hd D W PcW PlW b bd C0 cd PlB PcB q1 q2 q3 u1 u2 u3 u4 u5 u6 bp z.len tl od ol oD ow opW opB vsW npW vsB npB, q.1 ≠ I := fun q hq => by
      have : q.1 ∈ (lawL w dk Lf hx hd D W PcW PlW b bd C0 cd PlB PcB q1 q2 q3 u1 u2 u3 u4 u5 u6 bp z.len tl od ol oD ow opW opB vsW npW vsB npB).map (·.1) := List.mem_map_of_mem hq
      exact hadr q.1 this
    have hag : ∀ h' : Heap, (∀ b o, b ∉ [I] → h.get? b = some o → h'.get? b = some o) → Agree [(I, itObj j c.toNat)] h h' := fun h' keep b o q hb => keep b o hb q
    have frk : ∀ h' : Heap, (∀ b o, b ∉ [I] → h.get? b = some o → h'.get? b = some o) → Fr base L h' (mT vr ve vq vu vg m₀ dk hx W b) := fun h' keep =>
      fr_agree F' (fun q hq => N' q (List.mem_singleton.mp hq ▸ .head _)) (hag h' keep)
    cases k with
    | zero =>
      obtain rfl : j = c.toNat := by omega
      refine W0.done _ _ _ st fun h' tk' keep => ?_
      refine wpC_execs_nil ?_
      exact kend _ z kn tl od ol oD ow opW opB vsW npW vsB npB tlW vr ve vq vu vg h' tk' hn6 hF' (frk h' keep) (news_agree (as := [(I, itObj c.toNat c.toNat)]) (fun q hq => N' q (.tail _ hq)) (fun q hq hm => hne' q hq (List.mem_singleton.mp hm)) (hag h' keep))
    | succ k =>
      refine W0.item j _ _ _ (by omega) st fun v h' tk' hP hSt keep => ?_
      obtain ⟨t, rfl⟩ := hP
      have N2 := news_it N' hne' keep hSt
      refine wpAny_assign_Name (stN (frk h' keep) N2 (fun h7 F7 N7 => ?_) rfl rfl)
      rw [mT_go] at F7
      exact stage1 w dk Lf hx hd D W PcW PlW b bd C0 cd PlB PcB q1 q2 q3 u1 u2 u3 u4 u5 u6 bp z kn tl od ol oD ow opW opB vsW npW vsB npB tlW (2 * j) (by omega) hF' p loose mean mg mb base L m₀ vr ve vq vu _ I _ _ _ _ hI B F7 X T N7
        (fun h' tk' kn' od' ol' oD' ow' opW' opB' vsW' npW' vsB' npB' tl' tlW' z' vr' ve' vq' vu' F' N' hF' => ⟨k, by omega, j + 1, z', kn', tl', od', ol', oD', ow', opW', opB', vsW', npW', vsB', npB', tlW', vr', ve', vq', vu', _, h', tk', by omega, rfl, hF', F', N'⟩)
  · have e0 : ({ cls := .type "range_iterator", data := .fields #[rawInt 0, rawInt (Builtin.Range.rangeSize 0 c 1), rawInt 1] } : Obj) = itObj 0 c.toNat := by simp [itObj, hn]
    rw [e0]
    have NN := N.push F (itObj 0 c.toNat)
    rw [hIe] at NN
    exact ⟨0, z, kn, tl, od, ol, oD, ow, opW, opB, vsW, npW, vsB, npB, tlW, vr, ve, vq, vu, vg, _, _, by omega, rfl, hF, F.push _, NN⟩


end
theorem walk_reset31 : True ∧ True := by first | (walk1 <;> trivial) | exact ⟨trivial, trivial⟩
section
open PySem PySem.W PySem.Calls PyProof.Rows
set_option Elab.async false
set_option maxRecDepth 100000
theorem mT_self {m : Str → Option Value} {dk hx W b : Addr} (hb : m (Str.ofString "builder") = some (.ref b)) (hw : m (Str.ofString "w") = some (.ref W)) (hd : m (Str.ofString "deck") = some (.ref dk)) (hh : m (Str.ofString "hasher") = some (.ref hx)) :
    mT (m (Str.ofString "row")) (m (Str.ofString "entry")) (m (Str.ofString "piece")) (m (Str.ofString "due")) (m (Str.ofString "go")) m dk hx W b = m := by
  funext y
  simp only [mT]
  repeat' split
  all_goals first
    | rfl
    | (rename_i h; subst h; first | rfl | exact hb.symm | exact hw.symm | exact hd.symm | exact hh.symm)
theorem range_small {c : Int} (h0 : 0 ≤ c) (h1 : c < 7) : Builtin.Range.small 0 c 1 = true := by
  have : c = 0 ∨ c = 1 ∨ c = 2 ∨ c = 3 ∨ c = 4 ∨ c = 5 ∨ c = 6 := by omega
  rcases this with rfl | rfl | rfl | rfl | rfl | rfl | rfl <;> decide +kernel
theorem pl_empty {w : World} {d : Addr} {o : Obj} (lo : (d == sysModules) = false) (h : Obj.IsDictOf (strKind PR w) o []) : Pl w d o [] := by
  obtain ⟨es, ep, h1, h2, -, h4, -⟩ := h
  obtain ⟨l⟩ := es
  cases l with
  | cons a r => cases h4
  | nil => exact ⟨[], ⟨lo, _, ep, h1, h2, fun e he => by simp at he, .nil, List.nodup_nil⟩, trivial⟩
theorem law_start {w : World} {dk Lf hx hd D W PcW PlW b bd C0 cd PlB PcB T9 : Addr} {q1 q2 q3 u1 u2 u3 u4 u5 u6 : Tok} {bp : Bool} {tl tlW : Tok} {od ol oD ow opW opB oT : Obj}
    {p : Program} {loose : List Str} {mean : ExcName → Option Value} {mg mb : Str → Option Value} {base : Heap} {L : Addr} {m : Str → Option Value} {s : Shared} {Q : Flow → Shared → Prop} {R : Result → Shared → Prop} {E : Value → Shared → Prop} {c : Int} {rr : Addr} {t₀ t₁ t₂ : Tok} {gp : Pos}
    (o1 : @LT.lt Nat _ dk hd) (o2 : @LT.lt Nat _ Lf hd) (o3 : @LT.lt Nat _ hd hx) (o4 : @LT.lt Nat _ hx D) (o5 : @LT.lt Nat _ D W) (o6 : @LT.lt Nat _ W PcW) (o7 : @LT.lt Nat _ PcW PlW) (o8 : @LT.lt Nat _ PlW cd) (o9 : @LT.lt Nat _ cd C0) (o10 : @LT.lt Nat _ C0 bd) (o11 : @LT.lt Nat _ bd b) (o12 : @LT.lt Nat _ b PcB) (o13 : @LT.lt Nat _ PcB PlB)
    (o14 : dk ≠ Lf) (hK : Deck w dk Lf od ol) (loD : (D == sysModules) = false) (hD : Obj.IsDictOf (strKind PR w) oD []) (loW : (W == sysModules) = false)
    (hW : Obj.IsDictOf (strKind PR w) ow [(Str.ofString "by_place", .bool bp), (Str.ofString "pieces", .ref PcW), (Str.ofString "places", .ref PlW), (Str.ofString "length", .int 12 tlW)])
    (loP : (PlW == sysModules) = false) (hPW : Obj.IsDictOf (strKind PR w) opW []) (loB : (PlB == sysModules) = false) (hPB : Obj.IsDictOf (strKind PR w) opB [])
    (hc0 : 0 ≤ c) (hc1 : c < 7) (hR : IsRange s.heap rr 0 c 1 t₀ t₁ t₂) (hsm : Builtin.Range.small 0 c 1 = true) (B : Below callerA base [] base) (F : Fr base L s.heap m) (X : (KF w.params).In base) (T : Top p loose mean mg mb base)
    (hmb : m (Str.ofString "builder") = some (.ref b)) (hmw : m (Str.ofString "w") = some (.ref W)) (hmd : m (Str.ofString "deck") = some (.ref dk)) (hmh : m (Str.ofString "hasher") = some (.ref hx))
    (N : News base L s.heap [(PlB, opB), (PcB, lsObj [] 0), (b, instObj 185 bd), (bd, buObj w u1 u2 u3 u4 u5 u6 hx C0 PcB PlB bp 12 tl 6), (C0, instObj 221 cd), (cd, emptyDict), (PlW, opW), (PcW, lsObj [] 0), (W, ow), (T9, oT), (D, oD), (hx, instObj 105 hd), (hd, hsObj w q1 q2 q3 D), (dk, od), (Lf, ol)])
    (hRn : ∀ s', wpC (model PR w) (AL L) (execs ((fBody (sAt 33)).drop 4) (envL L)) Q E s' → R (.ok .next) s')
    (kend : ∀ h' tk' m', Fr base L h' m' → Q (.ret (.bool true)) { s with heap := h', toks := tk' }) :
    wpAny (model PR w) (AL L) (pyIter (.ref rr)) (fun it s₂ => codeC (model PR w) (AL L) (.forLoop (.Name (Str.ofString "go") gp) it lawTurn [] (envL L)) R s₂) E s := by
  have F' := F
  rw [← mT_self hmb hmw hmd hmh] at F'
  have z0 : StOk 0 ⟨[], [], 12⟩ := ⟨Nat.le_refl _, Nat.le_refl _, by decide, by decide, Nat.le_refl _, by simp, fun q hq => nomatch hq⟩
  have hF : Facts w dk Lf hx hd D W PcW PlW b bd C0 cd PlB PcB bp ⟨[], [], 12⟩ ⟨[], [], 12⟩ [] od ol oD ow opW opB [] [] tlW 0 :=
    ⟨o1, o2, o3, o4, o5, o6, o7, o8, o9, o10, o11, o12, o13, o14, Ne.symm o14, hK, pl_empty loD hD, ⟨by simp, fun q hq => nomatch hq⟩, Nat.le_refl _, ⟨loW, hW⟩, pl_empty loP hPW, pl_empty loB hPB, trivial, trivial, z0, z0⟩
  refine law_loop w dk Lf hx hd D W PcW PlW b bd C0 cd PlB PcB q1 q2 q3 u1 u2 u3 u4 u5 u6 bp ⟨[], [], 12⟩ [] tl od ol oD ow opW opB [] 0 [] 0 tlW hF p loose mean mg mb base L m _ _ _ _ _ s R E c rr t₀ t₁ t₂ gp hc0 hc1 hR hsm B F' X T (fun q hq => N q ?_) ?_
  · have key : ∀ q ∈ lawL w dk Lf hx hd D W PcW PlW b bd C0 cd PlB PcB q1 q2 q3 u1 u2 u3 u4 u5 u6 bp 12 tl od ol oD ow opW opB [] 0 [] 0, q ∈ [(PlB, opB), (PcB, lsObj [] 0), (b, instObj 185 bd), (bd, buObj w u1 u2 u3 u4 u5 u6 hx C0 PcB PlB bp 12 tl 6), (C0, instObj 221 cd), (cd, emptyDict), (PlW, opW), (PcW, lsObj [] 0), (W, ow), (T9, oT), (D, oD), (hx, instObj 105 hd), (hd, hsObj w q1 q2 q3 D), (dk, od), (Lf, ol)] := by
      dsimp only [lawL]
      ((repeat (refine fa1 ?_ ?_; (· k_mem))); exact List.forall_mem_nil _)
    exact key q hq
  · intro j z kn tl od ol oD ow opW opB vsW npW vsB npB tlW vr ve vq vu vg h tk hj hF9 F9 N9
    exact hRn _ (stage9 w dk Lf hx hd D W PcW PlW b bd C0 cd PlB PcB q1 q2 q3 u1 u2 u3 u4 u5 u6 bp z kn tl od ol oD ow opW opB vsW npW vsB npB tlW (2 * j) (by omega) hF9 p loose mean mg mb base L m vr ve vq vu vg (PlB + 1) _ _ _ (Nat.lt_succ_self _) B F9 X T N9 fun h' tk' F' => kend h' tk' _ F')


end
theorem walk_reset32 : True ∧ True := by first | (walk1 <;> trivial) | exact ⟨trivial, trivial⟩
section
open PySem PySem.W PySem.Calls PyProof.Rows
set_option Elab.async false
set_option maxRecDepth 100000
section
variable {w : World} {s : Shared} {R : Result → Shared → Prop} {p : Program} {loose : List Str} {mean : ExcName → Option Value} {mg mb : Str → Option Value}
  {name qual : Str} {params : Arguments} {body : List Stmt} {scope : Scope} {dV kV doc pm cdv ct oc : Value} {an od : Option Addr} {osl : Array (Option Value)} {f : Addr} {args : Args} {binds : List (Str × Value)} {K : Frag}
theorem enter_top (X : K.In s.heap) (T : Top p loose mean mg mb s.heap) (ho : K.lookup f = some ⟨oc, od, .func (fnOf name qual params body scope dV kV doc pm an cdv ct), osl⟩) (hcd : codeIn K cdv qual = true)
    (hbind : BindsTo s (fnOf name qual params body scope dV kV doc pm an cdv ct) args binds) (hloc : ∀ y ∈ binds, scope.names.lookup y.1 = some .local)
    (h : ∀ L' h₁ tk₁, Fr s.heap L' h₁ (fun y => binds.reverse.lookup y) → News s.heap L' h₁ [] → Below callerA s.heap [] s.heap →
      wpC (model PR w) (callerA.deeper (envOf qual scope L' f cdv)) (execs body (envOf qual scope L' f cdv)) (fun fl s' => R (.ok (.ret (match fl with | .ret v => v | _ => .none))) s')
        (fun e s' => wpAny (model PR w) (callerA.deeper (envOf qual scope L' f cdv)) («leaving» (envOf qual scope L' f cdv) e) (fun _ s'' => R (.error e) s'') (fun e' s'' => R (.error e') s'') s')
        { s with heap := h₁, toks := tk₁ })
    (hco : scope.isCoroutine = false) (hgen : scope.isGenerator = false) (hk : scope.kind = .function) (hcell : ∀ x ∈ scope.names, x.2 ≠ .cell) : codeC (model PR w) callerA (.call (.ref f) args) R s :=
  codeC_call_def (fd := fnOf name qual params body scope dV kV doc pm an cdv ct) (body := body) (binds := binds) (by decide) (X _ _ ho) rfl T.nolimit (codeRec_of X hcd) rfl hbind hcell hloc
    (fun h₁ hns hk₁ => h _ h₁ _ ⟨hns, hk₁, Nat.le_refl _⟩ (fun q hq => nomatch hq) (below_caller _)) hco hgen hk
end
set_option maxHeartbeats 1000000 in
theorem law_walk (w : World) (lst : Addr) (vs : List Value) (ns : List Int) (hI : IntsAre vs ns) (hlen : vs.length ≤ 63) (p : Program) (loose : List Str) (mean : ExcName → Option Value) (mg mb : Str → Option Value) (s : Shared) (R : Result → Shared → Prop)
    (hL : s.heap.IsList lst vs.toArray) (X : (KF w.params).In s.heap) (T : Top p loose mean mg mb s.heap)
    (hret : ∀ L' h' tk' m', Fr s.heap L' h' m' → R (.ok (.ret (.bool true))) { s with heap := h', toks := tk' }) : codeC (model PR w) callerA (.call (.ref 294) ⟨[.ref lst], []⟩) R s := by
  have hfill : Fill PySem.Challenge.rw_pb0104_01 KF := by k_fill; trivial
  k_dflt (refine' enter_top ?k1 ?k2 ?k3 ?k4 ?k5 ?k6 ?_ ?c1 ?c2 ?c3 ?c4; (case k1 => exact X); (case k2 => exact T); (case k3 => k_is); (case k4 => k_is); (case k5 => exact BindsTo.of_eq rfl); (case k6 => exact locs rfl); (case c1 => exact rfl); (case c2 => exact rfl); (case c3 => exact rfl); (case c4 => decide))
  intro L' h₁ tk₁ F1 N1 B1
  try dsimp only
  (show (let qk9 : Flow → Shared → Prop := _; let ek9 : Value → Shared → Prop := _; wpC _ _ _ qk9 ek9 _)); intro qk9 ek9
  refine wpC_execs_consA ?_
  (repeat' (first | (k_unfold; (try dsimp only)) | (k_end; wrow_close) | ((with_reducible show wpAny _ _ _ _ _ _); first | (with_reducible (first | ((with_reducible show wpAny _ _ (call (Value.ref 230) [Value.ref _]) _ _ _); k_dflt (refine' use_deck ?hI ?hlen ?k1 ?k2 ?k3 ?k4 ?k5 ?kK ?kd ?ku ?hL ?_; (walk_at "MINE_USE0"); (case hI => assumption); (case hlen => assumption); (case hL => assumption)); intro dk8 Lf8 od8 ol8 h8 k8 F8 N8 ne8 hK8; (try k_sweep)) | ((with_reducible show wpAny _ _ (call (Value.ref 237) [Value.ref _, Value.int _ _]) _ _ _); k_dflt (refine' use_draw ?hne ?hm ?hm2 ?hK ?k1 ?k2 ?k3 ?k4 ?k5 ?kK ?kd ?ku ?U ?_; (walk_at "MINE_USE0"); (case hK => assumption); (case hne => first | assumption | omega); (case hm => decide); (case hm2 => decide); (case U => walk_at "MINE_UPD2")); intro r8 t8 od8 ol8 h8 k8 F8 N8 r0 r1 hK8; (try dsimp only at N8); (try k_sweep))))) | walk1 | (leave1; (try dsimp only)) | dsimp only | fail "no step"))
  refine wpC_execs_consA ?_
  (repeat' (first | (k_unfold; (try dsimp only)) | (k_end; wrow_close) | ((with_reducible show wpAny _ _ _ _ _ _); first | (with_reducible (first | ((with_reducible show wpAny _ _ (call (Value.ref 230) [Value.ref _]) _ _ _); k_dflt (refine' use_deck ?hI ?hlen ?k1 ?k2 ?k3 ?k4 ?k5 ?kK ?kd ?ku ?hL ?_; (walk_at "MINE_USE0"); (case hI => assumption); (case hlen => assumption); (case hL => assumption)); intro dk8 Lf8 od8 ol8 h8 k8 F8 N8 ne8 hK8; (try k_sweep)) | ((with_reducible show wpAny _ _ (call (Value.ref 237) [Value.ref _, Value.int _ _]) _ _ _); k_dflt (refine' use_draw ?hne ?hm ?hm2 ?hK ?k1 ?k2 ?k3 ?k4 ?k5 ?kK ?kd ?ku ?U ?_; (walk_at "MINE_USE0"); (case hK => assumption); (case hne => first | assumption | omega); (case hm => decide); (case hm2 => decide); (case U => walk_at "MINE_UPD2")); intro r8 t8 od8 ol8 h8 k8 F8 N8 r0 r1 hK8; (try dsimp only at N8); (try k_sweep))))) | walk1 | (leave1; (try dsimp only)) | dsimp only | fail "no step"))
  refine wpC_execs_consA ?_
  (repeat' (first | (k_unfold; (try dsimp only)) | (k_end; wrow_close) | ((with_reducible show wpAny _ _ _ _ _ _); first | (with_reducible (first | ((with_reducible show wpAny _ _ (call (Value.ref 230) [Value.ref _]) _ _ _); k_dflt (refine' use_deck ?hI ?hlen ?k1 ?k2 ?k3 ?k4 ?k5 ?kK ?kd ?ku ?hL ?_; (walk_at "MINE_USE0"); (case hI => assumption); (case hlen => assumption); (case hL => assumption)); intro dk8 Lf8 od8 ol8 h8 k8 F8 N8 ne8 hK8; (try k_sweep)) | ((with_reducible show wpAny _ _ (call (Value.ref 237) [Value.ref _, Value.int _ _]) _ _ _); k_dflt (refine' use_draw ?hne ?hm ?hm2 ?hK ?k1 ?k2 ?k3 ?k4 ?k5 ?kK ?kd ?ku ?U ?_; (walk_at "MINE_USE0"); (case hK => assumption); (case hne => first | assumption | omega); (case hm => decide); (case hm2 => decide); (case U => walk_at "MINE_UPD2")); intro r8 t8 od8 ol8 h8 k8 F8 N8 r0 r1 hK8; (try dsimp only at N8); (try k_sweep))))) | walk1 | (leave1; (try dsimp only)) | dsimp only | fail "no step"))
  refine wpC_execs_cons (wpC_For ?_)
  (repeat' (first | (k_unfold; (try dsimp only)) | (k_end; wrow_close) | ((with_reducible show wpAny _ _ _ _ _ _); first | (with_reducible (first | ((with_reducible show wpAny _ _ (call (Value.ref 230) [Value.ref _]) _ _ _); k_dflt (refine' use_deck ?hI ?hlen ?k1 ?k2 ?k3 ?k4 ?k5 ?kK ?kd ?ku ?hL ?_; (walk_at "MINE_USE0"); (case hI => assumption); (case hlen => assumption); (case hL => assumption)); intro dk8 Lf8 od8 ol8 h8 k8 F8 N8 ne8 hK8; (try k_sweep)) | ((with_reducible show wpAny _ _ (call (Value.ref 237) [Value.ref _, Value.int _ _]) _ _ _); k_dflt (refine' use_draw ?hne ?hm ?hm2 ?hK ?k1 ?k2 ?k3 ?k4 ?k5 ?kK ?kd ?ku ?U ?_; (walk_at "MINE_USE0"); (case hK => assumption); (case hne => first | assumption | omega); (case hm => decide); (case hm2 => decide); (case U => walk_at "MINE_UPD2")); intro r8 t8 od8 ol8 h8 k8 F8 N8 r0 r1 hK8; (try dsimp only at N8); (try k_sweep))))) | walk1 | (leave1; (try dsimp only)) | dsimp only | fail "no step"))
  (with_reducible rename IsRange _ _ _ _ _ _ _ _ => hR)
  (with_reducible rename Fr _ _ _ _ => F9)
  (with_reducible rename News _ _ _ _ => N9)
  (with_reducible rename Deck _ _ _ _ _ => K9)
  refine' law_start ?o1 ?o2 ?o3 ?o4 ?o5 ?o6 ?o7 ?o8 ?o9 ?o10 ?o11 ?o12 ?o13 ?o14 K9 ?loD ?hD ?loW ?hW ?loP ?hPW ?loB ?hPB ?c0 ?c1 hR ?sm B1 F9 X T ?hmb ?hmw ?hmd ?hmh N9 (fun s' h => h) (fun h' tk' m' F' => hret L' h' tk' m' F')
  case o1 => omega
  case o2 => omega
  case o3 => omega
  case o4 => omega
  case o5 => omega
  case o6 => omega
  case o7 => omega
  case o8 => omega
  case o9 => omega
  case o10 => omega
  case o11 => omega
  case o12 => omega
  case o13 => omega
  case o14 => assumption
  case hD => assumption
  case loD => assumption
  case hW => assumption
  case loW => assumption
  case hPW => assumption
  case loP => assumption
  case hPB => assumption
  case loB => assumption
  case c0 => assumption
  case c1 => assumption
  case hmb => rfl
  case hmw => rfl
  case hmd => rfl
  case hmh => rfl
  case sm => exact range_small (by assumption) (by assumption)


end
theorem walk_reset33 : True ∧ True := by first | (walk1 <;> trivial) | exact ⟨trivial, trivial⟩
section
open PySem PySem.W PySem.Calls PyProof.Rows
set_option Elab.async false
set_option maxRecDepth 100000
theorem enter_callC {M : Model} {A : Around} {s : Shared} {f : Value} {pos : List Value} {kw : List (Str × Value)} {c : ClaimW} {cl : Str → Option Addr} {mean : ExcName → Option Value} {args : List WData} {s₁ : Shared}
    (h : codeC M A (.call f ⟨pos, kw⟩) (GoodWG c cl mean args s₁) s) : wpC M A (PySem.call f pos kw) (fun v s' => GoodWG c cl mean args s₁ (.ok (.ret v)) s') (fun e s' => GoodWG c cl mean args s₁ (.error e) s') s :=
  wpC_call (codeC_mono h fun res s' g => by rcases g.1 with ⟨v, _, _, rfl, _⟩ | ⟨e, _, _, rfl, _⟩ <;> exact g)

end
end Mine
open Mine
set_option maxHeartbeats 4000000 in
theorem PySem.Challenge.cw_pb0104_01_holds : PySem.Challenge.rw_pb0104_01.Holds := by
  w_on
  o_law
  refine holds_C (q := qV) (loose := looseL) (Xt := XtV) (XP := XL qV []) (Yf := Hook.obs hookK) (Ya := Hook.val hookK) (YP := Hook.says hookK) (N := 4604) left15 (Hook.of hookK) (Hook.keeps hookK) (fun s e => xl_of s (Bool.and_eq_true_iff.mp e).1) XL.keeps (by rfl) (by rfl) (by rfl) (fun s e => recFacts_of (Bool.and_eq_true_iff.mp e).2) (by rfl) (by first | assumption | decide +kernel) (by decide +kernel) ⟨rfl, rfl, rfl, rfl, rfl, by decide +kernel⟩ ?hw ?hc
  case hw => w_witness2
  case hc =>
    have hfill : Fill PySem.Challenge.rw_pb0104_01 KF := by k_fill; trivial
    intro w s₀ s₁ mg mb G Y fa o pm cd doc dV kV ho hd hcd hD hmg hg args vals as hpre hlay hrd hwl hlo
    have KX := kIn_of Y
    have X := (Ground.X G).1
    have V := (Ground.X G).2
    refine Ground.open G ?_
    intro T B D TE TW
    try (refine guard_noD D (by decide +kernel) ?_; clear D)
    obtain ⟨_, _, M⟩ := bmod_of_top T
    have TA := at_of_top T
    try (obtain ⟨_, _, he, B0⟩ := based_of_top T rfl hmg ho hd; have he' : cd = _ := he; subst he'; clear he)
    have hfa : mg (Str.ofString "law") = some (.ref 294) := mg_of KX T.g (by k_is)
    have hfa2 : mg (Str.ofString "law") = some (.ref fa) := hmg
    rw [hfa] at hfa2
    cases hfa2
    clear hmg hfa
    wrow_args hpre hlay hrd hwl hlo
    refine enter_callC (law_walk w _ _ _ (by assumption) ?len _ _ _ _ _ _ _ (by assumption) KX T fun L' h' tk' m' F' => (goodW_bool (s' := { s₁ with heap := h', toks := tk' }) F' hg (fun _ => rfl) ?post rfl).toG)
    case post => wrow_post
    case len => (have hl := IntsAre.length (by assumption)); omega
end
