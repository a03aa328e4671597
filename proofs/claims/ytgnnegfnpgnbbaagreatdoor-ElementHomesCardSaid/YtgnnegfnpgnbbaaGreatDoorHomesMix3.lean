/- The law of drawn regions once more: a store to a new block turns only blocks of one type of cells (59), so what lies in blocks of other types abides. No program stands here. -/
import Derived.Test.YtgnnegfnpgnbbaaGreatDoorHomesTab
import Derived.Test.YtgnnegfnpgnbbaaGreatDoorHomesMapL
set_option linter.unusedVariables false
set_option linter.unusedSimpArgs false
namespace Go.Mix3
open Go Go.RowKit Go.Mix
section
variable {F : Fence} {P : Program} {ops : Array Oper} {Ef : Nat → World → World → Prop} {Cl : Nat → World → Prop} {Fin : World → Prop} {n0 : Nat} {X : Nat → Prop} {Sp : Nat → Loud} {T : Act → World → Prop}
/-- Only blocks of cells of type 59 have turned. -/
def Ty (w w' : World) : Prop := ∀ (k : Nat) (cs : Array Value) (T : TypeId), T ≠ 59 → w.heap[k]? = some (.cells cs T (0, 0)) → w'.heap[k]? = some (.cells cs T (0, 0))
def stoE (G : World → Prop) (J : Nat × Nat) (w : World) (v : Value) (w' : World) : Prop := Eng.Fr (inI J) w w' ∧ Ty w w' ∧ v = undef ∧ G w'

/-- Ef: what an operation may do to a world; Cl: the worlds in which it may come up; Fin: those behind all. -/
def Walk (F : Fence) (P : Program) (ops : Array Oper) (Ef : Nat → World → World → Prop) (Cl : Nat → World → Prop) (Fin : World → Prop) (X : Nat → Prop) (Sp : Nat → Loud) (T : Act → World → Prop) : List Nat → Act → Facts → Prop
  | [], a, Γ => ∀ w, Fin w → Hold Γ w → Sep X Γ w → T a w
  | i :: L, a, Γ =>
    match ops[i]? with
    | none => False
    | some o =>
      if Region.wanted o (yielded ops a.tmps) = true then
        match Sp i with
        | .none => ∃ v, (∀ w, Cls (Cl i) ops o Γ w → Go.Mix.Calm P o a v w) ∧ Walk F P ops Ef Cl Fin X Sp T L (a.put o.dst v) Γ
        | .val c => (∀ w, Cls (Cl i) ops o Γ w → Does F P o a w (fun v w' => Ef i w w' ∧ v = c)) ∧ Walk F P ops Ef Cl Fin X Sp T L (a.put o.dst c) Γ
        | .any G => (∀ w, Cls (Cl i) ops o Γ w → Does F P o a w (fun v w' => Ef i w w' ∧ G (w.heap.size, w'.heap.size) v w')) ∧ ∀ I v, Walk F P ops Ef Cl Fin X Sp T L (a.put o.dst v) (addF o (I, G I v) Γ)
        | .sto s y G => ∃ J f, Γ s = some (J, f) ∧ (∀ w, Cls (Cl i) ops o Γ w → J.2 ≤ w.heap.size → Does F P o a w (stoE (G J (a.eval (.tmp y))) J w)) ∧ Walk F P ops Ef Cl Fin X Sp T L (a.put o.dst undef) (upd Γ s (J, fun w => (∃ w0, f w0) ∧ G J (a.eval (.tmp y)) w))
      else Walk F P ops Ef Cl Fin X Sp T L (a.put o.dst undef) Γ

theorem For.put {o : Oper} {Γ : Facts} {w : World} {d : Tmp} {f : (Nat × Nat) × (World → Prop)} (hd : d ∉ o.looksAt ops) : For ops o (upd Γ d f) w ↔ For ops o Γ w := by
  constructor
  · intro h e p he hl
    exact h e p (by rw [upd_ne (by intro x; subst x; exact hd hl)]; exact he) hl
  · intro h e p he hl
    rcases upd_cases he with ⟨h1, _⟩ | ⟨_, h2⟩
    · exact absurd (h1 ▸ hl) hd
    · exact h e p h2 hl
theorem addF_none {o : Oper} {f : (Nat × Nat) × (World → Prop)} {Γ : Facts} (h : o.dst = none) : addF o f Γ = Γ := by unfold addF; rw [h]
theorem addF_some {o : Oper} {f : (Nat × Nat) × (World → Prop)} {Γ : Facts} {d : Tmp} (h : o.dst = some d) : addF o f Γ = upd Γ d f := by unfold addF; rw [h]
theorem For.addF {o o' : Oper} {Γ : Facts} {w : World} {f : (Nat × Nat) × (World → Prop)} (hd : ∀ t, o'.dst = some t → t ∉ o.looksAt ops) : For ops o (addF o' f Γ) w ↔ For ops o Γ w := by
  cases h : o'.dst with
  | none => rw [addF_none h]
  | some d => rw [addF_some h]; exact For.put (hd d h)

/-- What is known of the value that operation o yields in state a, in the world w. -/
def Res (P : Program) (ops : Array Oper) (k : Loud) (o : Oper) (a : Act) (w : World) (v : Value) : Prop :=
  if Region.wanted o (yielded ops a.tmps) = true then
    match k with
    | .none => Go.Mix.Calm P o a v w
    | .val c => v = c
    | .any _ => True
    | .sto _ _ _ => v = undef
  else v = undef
/-- What is owed of operation o in state a, in the world w. -/
def Owed (F : Fence) (P : Program) (ops : Array Oper) (R : World → World → Prop) (k : Loud) (o : Oper) (a : Act) (Γ : Facts) (w : World) : Prop :=
  if Region.wanted o (yielded ops a.tmps) = true then
    match k with
    | .none => ∃ v, Go.Mix.Calm P o a v w
    | .val c => Does F P o a w (fun v w' => R w w' ∧ v = c)
    | .any G => Does F P o a w (fun v w' => R w w' ∧ G (w.heap.size, w'.heap.size) v w')
    | .sto s y G => ∃ J f, Γ s = some (J, f) ∧ (J.2 ≤ w.heap.size → Does F P o a w (stoE (G J (a.eval (.tmp y))) J w))
  else True
def addS (ops : Array Oper) (k : Loud) (o : Oper) (a : Act) (I : Nat × Nat) (v : Value) (Γ : Facts) : Facts :=
  if Region.wanted o (yielded ops a.tmps) = true then
    match k with
    | .any G => addF o (I, G I v) Γ
    | .sto s y G => (match Γ s with | some p => upd Γ s (p.1, fun w => (∃ w0, p.2 w0) ∧ G p.1 (a.eval (.tmp y)) w) | none => Γ)
    | _ => Γ
  else Γ

theorem Calm.put {o : Oper} {a : Act} {v u : Value} {w : World} {d : Option Tmp} (hs : ∀ cs b, o.op ≠ .select cs b) (h : ∀ t, d = some t → t ∉ o.looksAt ops) :
    Go.Mix.Calm P o (a.put d u) v w ↔ Go.Mix.Calm P o a v w := by
  unfold Go.Mix.Calm
  rw [execOp_put o hs a d u h]
theorem Does.put {o : Oper} {a : Act} {u : Value} {w : World} {d : Option Tmp} {G : Value → World → Prop} (hs : ∀ cs b, o.op ≠ .select cs b)
    (h : ∀ t, d = some t → t ∉ o.looksAt ops) : Does F P o (a.put d u) w G ↔ Does F P o a w G := by
  unfold Does
  rw [execOp_put o hs a d u h]

theorem addS_upd {k : Loud} {o : Oper} {a : Act} {I : Nat × Nat} {v : Value} {Γ : Facts} {e : Tmp} {f : (Nat × Nat) × (World → Prop)} (hd : ∀ d, o.dst = some d → d ≠ e) (hs : ∀ s y G, k = .sto s y G → s ≠ e) :
    addS ops k o a I v (upd Γ e f) = upd (addS ops k o a I v Γ) e f := by
  unfold addS
  split
  · cases k with
    | none => rfl
    | val c => rfl
    | any G =>
      simp only
      cases h : o.dst with
      | none => rw [addF_none h, addF_none h]
      | some d => rw [addF_some h, addF_some h]; exact upd_comm (Ne.symm (hd d h))
    | sto s y G =>
      simp only
      rw [upd_ne (hs s y G rfl)]
      cases Γ s with
      | none => rfl
      | some p => exact upd_comm (Ne.symm (hs s y G rfl))
  · rfl
theorem addS_at {k : Loud} {o : Oper} {a : Act} {I : Nat × Nat} {v : Value} {Γ : Facts} {e : Tmp} (hd : ∀ d, o.dst = some d → d ≠ e) (hs : ∀ s y G, k = .sto s y G → s ≠ e) :
    addS ops k o a I v Γ e = Γ e := by
  unfold addS
  split
  · cases k with
    | none => rfl
    | val c => rfl
    | any G =>
      simp only
      cases h : o.dst with
      | none => rw [addF_none h]
      | some d => rw [addF_some h]; exact upd_ne (Ne.symm (hd d h))
    | sto s y G =>
      simp only
      cases Γ s with
      | none => rfl
      | some p => exact upd_ne (Ne.symm (hs s y G rfl))
  · rfl
theorem For.addS {k : Loud} {o o' : Oper} {a : Act} {I : Nat × Nat} {v : Value} {Γ : Facts} {w : World} (hd : ∀ t, o.dst = some t → t ∉ o'.looksAt ops) (hs : ∀ s y G, k = .sto s y G → s ∉ o'.looksAt ops) (h : For ops o' (addS ops k o a I v Γ) w) : For ops o' Γ w := by
  intro d p hp hl
  refine h d p ?_ hl
  rw [addS_at (fun t ht e => hd t ht (e ▸ hl)) (fun s y G hk e => hs s y G hk (e ▸ hl))]; exact hp
/-- The operation i may come up though those of 'pre' have not: it owes nothing to them. -/
theorem extract {i : Nat} {o : Oper} (hi : ops[i]? = some o) (hsel : ∀ (j : Nat) (o : Oper) cs b, ops[j]? = some o → o.op ≠ .select cs b) (hsto : ∀ s y G, Sp i = .sto s y G → s ∈ o.looksAt ops ∧ y ∈ o.looksAt ops) (post : List Nat) :
    ∀ (pre : List Nat) (a : Act) (Γ : Facts), Walk F P ops Ef Cl Fin X Sp T (pre ++ i :: post) a Γ →
      (∀ j ∈ pre, ∀ oj, ops[j]? = some oj → oj.apart ops o = true) → (∀ j ∈ pre, ∀ s y G, Sp j = .sto s y G → (∀ oj, ops[j]? = some oj → s ∈ oj.looksAt ops ∧ y ∈ oj.looksAt ops) ∧ s ∉ o.looksAt ops) →
      (∀ j ∈ pre, ∀ s y G, Sp i = .sto s y G → ∀ oj, ops[j]? = some oj → s ∉ oj.looksAt ops) → ∀ w, Cl i w → For ops o Γ w →
      Owed F P ops (Ef i) (Sp i) o a Γ w ∧ ∀ I v, Res P ops (Sp i) o a w v → Walk F P ops Ef Cl Fin X Sp T (pre ++ post) (a.put o.dst v) (addS ops (Sp i) o a I v Γ)
  | [], a, Γ, h, _, _, _, w, hR, hf => by
    simp only [List.nil_append] at h ⊢
    unfold Walk at h
    simp only [hi] at h
    unfold Owed Res addS
    split at h
    · rename_i hw
      simp only [hw, if_true]
      cases hk : Sp i with
      | none =>
        simp only [hk] at h
        obtain ⟨v, h1, h2⟩ := h
        refine ⟨⟨v, h1 w ⟨hR, hf⟩⟩, fun I u hu => ?_⟩
        have e : u = v := by
          have h3 := (h1 w ⟨hR, hf⟩).2
          have h4 := hu.2
          rw [h3] at h4
          injection h4 with h5
          injection h5 with h6
          exact h6.symm
        rw [e]; exact h2
      | val c =>
        simp only [hk] at h
        exact ⟨h.1 w ⟨hR, hf⟩, fun I u hu => by rw [hu]; exact h.2⟩
      | any G =>
        simp only [hk] at h
        exact ⟨h.1 w ⟨hR, hf⟩, fun I u _ => h.2 I u⟩
      | sto s y G =>
        simp only [hk] at h
        obtain ⟨J, f, h1, h2, h3⟩ := h
        exact ⟨⟨J, f, h1, fun hJ => h2 w ⟨hR, hf⟩ hJ⟩, fun I u hu => by rw [hu]; simp only [h1]; exact h3⟩
    · rename_i hw
      simp only [hw, if_false, Bool.false_eq_true]
      exact ⟨trivial, fun I u hu => by rw [hu]; exact h⟩
  | j :: pre, a, Γ, h, hap, hst1, hst2, w, hR, hf => by
    simp only [List.cons_append] at h ⊢
    unfold Walk at h
    cases hj : ops[j]? with
    | none => simp only [hj] at h
    | some oj =>
      simp only [hj] at h
      obtain ⟨g1, g2, g3⟩ := Oper.apart_spec (hap j (List.mem_cons_self ..) oj hj)
      have hsi := fun cs b => hsel i o cs b hi
      have hsj := fun cs b => hsel j oj cs b hj
      have hap' : ∀ k ∈ pre, ∀ ok, ops[k]? = some ok → ok.apart ops o = true := fun k hk => hap k (List.mem_cons_of_mem _ hk)
      have hst1' : ∀ k ∈ pre, ∀ s y G, Sp k = .sto s y G → (∀ oj, ops[k]? = some oj → s ∈ oj.looksAt ops ∧ y ∈ oj.looksAt ops) ∧ s ∉ o.looksAt ops := fun k hk => hst1 k (List.mem_cons_of_mem _ hk)
      have hst2' : ∀ k ∈ pre, ∀ s y G, Sp i = .sto s y G → ∀ oj, ops[k]? = some oj → s ∉ oj.looksAt ops := fun k hk => hst2 k (List.mem_cons_of_mem _ hk)
      have hlk : ∀ s y G, Sp i = .sto s y G → s ∉ oj.looksAt ops := fun s y G hk => hst2 j (List.mem_cons_self ..) s y G hk oj hj
      have hev : ∀ (u : Value) s y G, Sp i = .sto s y G → (a.put oj.dst u).eval (.tmp y) = a.eval (.tmp y) := fun u s y G hk => Act.eval_put (fun d hd e => by injection e with e; subst e; exact g1 _ hd (hsto s _ G hk).2)
      have back : ∀ (u : Value) (Γ' : Facts), (∀ s y G, Sp i = .sto s y G → Γ' s = Γ s) → Owed F P ops (Ef i) (Sp i) o (a.put oj.dst u) Γ' w → Owed F P ops (Ef i) (Sp i) o a Γ w := fun u Γ' hΓ h => by
        unfold Owed at *
        rw [wanted_put o a oj.dst u g1] at h
        split
        · rename_i hw
          rw [if_pos hw] at h
          cases hk : Sp i with
          | none => simp only [hk] at h ⊢; obtain ⟨v, hv⟩ := h; exact ⟨v, (Calm.put hsi g1).1 hv⟩
          | val c => simp only [hk] at h ⊢; exact (Does.put hsi g1).1 h
          | any G => simp only [hk] at h ⊢; exact (Does.put hsi g1).1 h
          | sto s y G =>
            simp only [hk] at h ⊢
            obtain ⟨J, f, h1, h2⟩ := h
            exact ⟨J, f, by rw [← hΓ s y G hk]; exact h1, fun hJ => by have := (Does.put hsi g1).1 (h2 hJ); rw [hev u s y G hk] at this; exact this⟩
        · trivial
      have forth : ∀ (u v : Value), Res P ops (Sp i) o a w v → Res P ops (Sp i) o (a.put oj.dst u) w v := fun u v h => by
        unfold Res at *
        rw [wanted_put o a oj.dst u g1]
        split
        · rename_i hw
          rw [if_pos hw] at h
          cases hk : Sp i with
          | none => simp only [hk] at h ⊢; exact (Calm.put hsi g1).2 h
          | val c => simp only [hk] at h ⊢; exact h
          | any G => trivial
          | sto s y G => simp only [hk] at h ⊢; exact h
        · rename_i hw
          rw [if_neg hw] at h
          exact h
      have same : ∀ (u : Value) (I : Nat × Nat) (v : Value) (Γ : Facts), addS ops (Sp i) o (a.put oj.dst u) I v Γ = addS ops (Sp i) o a I v Γ := fun u I v Γ => by
        unfold addS
        rw [wanted_put o a oj.dst u g1]
        split
        · cases hk : Sp i with
          | none => rfl
          | val c => rfl
          | any G => rfl
          | sto s y G => simp only [hev u s y G hk]
        · rfl
      have hsub : ∀ (I : Nat × Nat) (v : Value) {w' : World}, For ops oj (addS ops (Sp i) o a I v Γ) w' → For ops oj Γ w' := fun I v w' h => For.addS g3 hlk h
      have comm : ∀ (u v : Value), (a.put oj.dst u).put o.dst v = (a.put o.dst v).put oj.dst u := fun u v => Act.put_comm a u v g2
      split at h
      · rename_i hw
        have hw' : ∀ v, Region.wanted oj (yielded ops (a.put o.dst v).tmps) = true := fun v => by rw [wanted_put oj a o.dst v g3]; exact hw
        cases hk : Sp j with
        | none =>
          simp only [hk] at h
          obtain ⟨u, h1, h2⟩ := h
          obtain ⟨e1, e2⟩ := extract hi hsel hsto post pre _ Γ h2 hap' hst1' hst2' w hR hf
          refine ⟨back u Γ (fun _ _ _ _ => rfl) e1, fun I v hv => ?_⟩
          have h3 := e2 I v (forth u v hv)
          rw [comm, same] at h3
          unfold Walk
          simp only [hj, hw', if_true, hk]
          exact ⟨u, fun w' hc => (Calm.put hsj g3).2 (h1 w' ⟨hc.1, hsub I v hc.2⟩), h3⟩
        | val c =>
          simp only [hk] at h
          obtain ⟨h1, h2⟩ := h
          obtain ⟨e1, e2⟩ := extract hi hsel hsto post pre _ Γ h2 hap' hst1' hst2' w hR hf
          refine ⟨back c Γ (fun _ _ _ _ => rfl) e1, fun I v hv => ?_⟩
          have h3 := e2 I v (forth c v hv)
          rw [comm, same] at h3
          unfold Walk
          simp only [hj, hw', if_true, hk]
          exact ⟨fun w' hc => (Does.put hsj g3).2 (h1 w' ⟨hc.1, hsub I v hc.2⟩), h3⟩
        | any G =>
          simp only [hk] at h
          obtain ⟨h1, h2⟩ := h
          have hf' : ∀ J u, For ops o (addF oj (J, G J u) Γ) w := fun J u => (For.addF g1).2 hf
          have hat : ∀ J u s y G', Sp i = .sto s y G' → addF oj (J, G J u) Γ s = Γ s := fun J u s y G' hk' => by
            cases hd : oj.dst with
            | none => rw [addF_none hd]
            | some d => rw [addF_some hd]; exact upd_ne (fun e => g1 d hd (e ▸ (hsto s y G' hk').1))
          refine ⟨back undef _ (hat (0, 0) undef) (extract hi hsel hsto post pre _ _ (h2 (0, 0) undef) hap' hst1' hst2' w hR (hf' (0, 0) undef)).1, fun I v hv => ?_⟩
          unfold Walk
          simp only [hj, hw', if_true, hk]
          refine ⟨fun w' hc => (Does.put hsj g3).2 (h1 w' ⟨hc.1, hsub I v hc.2⟩), fun J u => ?_⟩
          have h3 := (extract hi hsel hsto post pre _ _ (h2 J u) hap' hst1' hst2' w hR (hf' J u)).2 I v (forth u v hv)
          rw [comm, same] at h3
          have e : addS ops (Sp i) o a I v (addF oj (J, G J u) Γ) = addF oj (J, G J u) (addS ops (Sp i) o a I v Γ) := by
            cases hd : oj.dst with
            | none => rw [addF_none hd, addF_none hd]
            | some d =>
              rw [addF_some hd, addF_some hd]
              exact addS_upd (fun d' hd' e => g2 d hd (e ▸ hd')) (fun s y G' hk' e => g1 d hd (e ▸ (hsto s y G' hk').1))
          rw [e] at h3; exact h3
        | sto s y G =>
          simp only [hk] at h
          obtain ⟨J, f, h0, h1, h2⟩ := h
          obtain ⟨hs1, hs2⟩ := hst1 j (List.mem_cons_self ..) s y G hk
          have hdi : ∀ d, o.dst = some d → d ≠ s := fun d hd e => g3 d hd (e ▸ (hs1 oj hj).1)
          have hsi' : ∀ s' y' G', Sp i = .sto s' y' G' → s' ≠ s := fun s' y' G' hk' e => hs2 (e ▸ (hsto s' y' G' hk').1)
          have hevj : ∀ v : Value, (a.put o.dst v).eval (.tmp y) = a.eval (.tmp y) := fun v => Act.eval_put (fun d hd e => by injection e with e; subst e; exact g3 _ hd (hs1 oj hj).2)
          obtain ⟨e1, e2⟩ := extract hi hsel hsto post pre _ _ h2 hap' hst1' hst2' w hR ((For.put hs2).2 hf)
          refine ⟨back undef _ (fun s' y' G' hk' => upd_ne (hsi' s' y' G' hk')) e1, fun I v hv => ?_⟩
          have h3 := e2 I v (forth undef v hv)
          rw [comm, same, addS_upd hdi hsi'] at h3
          unfold Walk
          simp only [hj, hw', if_true, hk, hevj]
          exact ⟨J, f, by rw [addS_at hdi hsi']; exact h0, fun w' hc hJ => (Does.put hsj g3).2 (h1 w' ⟨hc.1, hsub I v hc.2⟩ hJ), h3⟩
      · rename_i hw
        have hw' : ∀ v, ¬ Region.wanted oj (yielded ops (a.put o.dst v).tmps) = true := fun v => by rw [wanted_put oj a o.dst v g3]; exact hw
        obtain ⟨e1, e2⟩ := extract hi hsel hsto post pre _ Γ h hap' hst1' hst2' w hR hf
        refine ⟨back undef Γ (fun _ _ _ _ => rfl) e1, fun I v hv => ?_⟩
        have h3 := e2 I v (forth undef v hv)
        rw [comm, same] at h3
        unfold Walk
        simp only [hj, hw', if_false]
        exact h3

/-! ### What is asked of the region's edges: a Bool, by the kernel -/

/-- For whom an operation waits, as a row of bits; L are those of the operations before it. -/
def mask1 (L : List Nat) : List Edge → Nat
  | [] => 0
  | e :: es => (if Region.binds .any e then 1 <<< e.on ||| L.getD e.on 0 else 0) ||| mask1 L es
def maskAt (ops : Array Oper) (L : List Nat) (i : Nat) : Nat :=
  match ops[i]? with
  | some o => mask1 L o.after.toList
  | none => 0
def masks (ops : Array Oper) : Nat → List Nat
  | 0 => []
  | n + 1 => masks ops n ++ [maskAt ops (masks ops n) n]
def waits (ops : Array Oper) (i j : Nat) : Bool := (maskAt ops (masks ops i) i).testBit j
def early (ops : Array Oper) : Bool := (List.range ops.size).all fun i =>
  match ops[i]? with
  | some o => o.after.all fun e => !Region.binds .any e || decide (e.on < i)
  | none => false
def pairs (ops : Array Oper) (m : Nat) : Bool := (List.range m).all fun i => (List.range i).all fun j =>
  (match ops[j]?, ops[i]? with
   | some x, some y => x.apart ops y
   | _, _ => false) || waits ops i j
def tails (ops : Array Oper) (m : Nat) : Bool := (List.range ops.size).all fun t => decide (t < m) || (List.range t).all fun j => waits ops t j
/-- The first m operations in whatever order their edges allow; the others behind them, in the text's order. -/
def fine (ops : Array Oper) (m : Nat) : Bool := Region.noSelect ops && early ops && pairs ops m && tails ops m && decide (m ≤ ops.size)

def Closed (ops : Array Oper) (listed : Array Bool) : Prop :=
  ∀ i o, ops[i]? = some o → listed.getD i false = true → ∀ e ∈ o.after, Region.binds .any e = true → listed.getD e.on false = true

theorem mask1_spec {L : List Nat} {j : Nat} : ∀ {es : List Edge}, (mask1 L es).testBit j = true → ∃ e ∈ es, Region.binds .any e = true ∧ (e.on = j ∨ (L.getD e.on 0).testBit j = true)
  | [], h => by simp [mask1] at h
  | e :: es, h => by
    unfold mask1 at h
    rw [Nat.testBit_or, Bool.or_eq_true] at h
    rcases h with h | h
    · split at h
      · rename_i hb
        rw [Nat.testBit_or, Bool.or_eq_true] at h
        refine ⟨e, List.mem_cons_self .., hb, ?_⟩
        rcases h with h | h
        · left
          rw [Nat.shiftLeft_eq, Nat.one_mul, Nat.testBit_two_pow] at h
          exact of_decide_eq_true h
        · exact .inr h
      · simp at h
    · obtain ⟨e', h1, h2⟩ := mask1_spec h
      exact ⟨e', List.mem_cons_of_mem _ h1, h2⟩
theorem masks_len (ops : Array Oper) : ∀ n, (masks ops n).length = n
  | 0 => rfl
  | n + 1 => by simp [masks, masks_len ops n]
theorem masks_get (ops : Array Oper) : ∀ n k, k < n → (masks ops n).getD k 0 = maskAt ops (masks ops k) k
  | 0, k, h => by omega
  | n + 1, k, h => by
    have hl := masks_len ops n
    simp only [masks, List.getD_eq_getElem?_getD]
    rcases Nat.lt_or_ge k n with h1 | h1
    · rw [List.getElem?_append_left (by omega), ← List.getD_eq_getElem?_getD]; exact masks_get ops n k h1
    · obtain rfl : k = n := by omega
      rw [List.getElem?_append_right (by omega), hl]; simp
theorem masks_none (ops : Array Oper) (n k : Nat) (h : n ≤ k) : (masks ops n).getD k 0 = 0 := by
  rw [List.getD_eq_getElem?_getD, List.getElem?_eq_none (by rw [masks_len]; exact h)]; rfl
theorem waits_listed {listed : Array Bool} (hc : Closed ops listed) : ∀ (i j : Nat) (o : Oper), ops[i]? = some o → (∀ e ∈ o.after, Region.binds .any e = true → listed.getD e.on false = true) →
    waits ops i j = true → listed.getD j false = true := by
  intro i
  induction i using Nat.strongRecOn with
  | ind i ih =>
    intro j o ho hall h
    unfold waits maskAt at h
    simp only [ho] at h
    obtain ⟨e, he, hb, h⟩ := mask1_spec h
    have he' : e ∈ o.after := by simpa using he
    have hl := hall e he' hb
    rcases h with h | h
    · exact h ▸ hl
    · rcases Nat.lt_or_ge e.on i with h1 | h1
      · rw [masks_get ops i e.on h1] at h
        cases hoe : ops[e.on]? with
        | none => unfold maskAt at h; simp [hoe] at h
        | some oe => exact ih e.on h1 j oe hoe (hc e.on oe hoe hl) h
      · rw [masks_none ops i e.on h1] at h; simp at h

theorem fine_spec {m : Nat} (h : fine ops m = true) : Region.noSelect ops = true ∧ early ops = true ∧ pairs ops m = true ∧ tails ops m = true ∧ m ≤ ops.size := by
  unfold fine at h
  simp only [Bool.and_eq_true, decide_eq_true_eq] at h
  exact ⟨h.1.1.1.1, h.1.1.1.2, h.1.1.2, h.1.2, h.2⟩
theorem early_spec (h : early ops = true) {i : Nat} {o : Oper} (ho : ops[i]? = some o) {e : Edge} (he : e ∈ o.after) (hb : Region.binds .any e = true) : e.on < i := by
  have hlt : i < ops.size := (Array.getElem?_eq_some_iff.1 ho).1
  have h1 := List.all_eq_true.1 h i (List.mem_range.2 hlt)
  simp only [ho] at h1
  have h2 := Array.all_eq_true_iff_forall_mem.1 h1 e he
  simp only [hb, Bool.not_true, Bool.false_or, decide_eq_true_eq] at h2
  exact h2
theorem pairs_spec {m : Nat} (h : pairs ops m = true) {i j : Nat} (hi : i < m) (hj : j < i) {x y : Oper} (hx : ops[j]? = some x) (hy : ops[i]? = some y) : x.apart ops y = true ∨ waits ops i j = true := by
  have h1 := List.all_eq_true.1 (List.all_eq_true.1 h i (List.mem_range.2 hi)) j (List.mem_range.2 hj)
  simp only [hx, hy, Bool.or_eq_true] at h1
  exact h1
theorem tails_spec {m : Nat} (h : tails ops m = true) {t j : Nat} (ht : m ≤ t) (hts : t < ops.size) (hj : j < t) : waits ops t j = true := by
  have h1 := List.all_eq_true.1 h t (List.mem_range.2 hts)
  rw [Bool.or_eq_true] at h1
  rcases h1 with h1 | h1
  · simp only [decide_eq_true_eq] at h1; omega
  · exact List.all_eq_true.1 h1 j (List.mem_range.2 hj)

/-- The state of the listing while the first m operations come up: L are those that have not. -/
structure Head (ops : Array Oper) (m : Nat) (listed : Array Bool) (L : List Nat) : Prop where
  size : listed.size = ops.size
  closed : Closed ops listed
  mem : ∀ i, i ∈ L ↔ i < m ∧ listed.getD i true = false
  sorted : L.Pairwise (· < ·)
  tail : ∀ t, m ≤ t → t < ops.size → listed.getD t true = false

theorem getD_both' {listed : Array Bool} {i : Nat} (h : listed.getD i true = false) : listed.getD i false = false := by
  rcases Nat.lt_or_ge i listed.size with h' | h'
  · simp [h'] at h ⊢; exact h
  · simp [Array.getElem?_eq_none h'] at h
theorem getD_true_of {listed : Array Bool} {i : Nat} (hi : i < listed.size) (h : listed.getD i true ≠ false) : listed.getD i false = true := by
  simp [hi] at h ⊢; exact h
theorem Closed.set {listed : Array Bool} {i : Nat} (h : Closed ops listed) (hr : i ∈ Region.ready .any ops listed) : Closed ops (listed.setIfInBounds i true) := by
  obtain ⟨_, oi, hoi, hall⟩ := mem_ready.1 hr
  intro k o hk hl e he hb
  by_cases hik : i = k
  · subst hik
    have : o = oi := Option.some.inj (hk.symm.trans hoi)
    subst this
    exact getD_set_true (hall e he hb)
  · rw [getD_set_ne false hik] at hl
    exact getD_set_true (h k o hk hl e he hb)

theorem Head.set {m : Nat} {listed : Array Bool} {pre post : List Nat} {i : Nat} (h : Head ops m listed (pre ++ i :: post)) (hr : i ∈ Region.ready .any ops listed) : Head ops m (listed.setIfInBounds i true) (pre ++ post) := by
  have him : i < m := ((h.mem i).1 (by simp)).1
  have hp := List.pairwise_append.1 h.sorted
  have hp2 := List.pairwise_cons.1 hp.2.1
  refine ⟨by simp [h.size], h.closed.set hr, fun k => ?_, ?_, fun t ht hts => by rw [getD_set_ne true (by omega)]; exact h.tail t ht hts⟩
  · by_cases hik : i = k
    · subst hik
      have h1 : ¬ i ∈ pre ++ post := by
        rw [List.mem_append]
        rintro (h1 | h1)
        · have := hp.2.2 i h1 i (by simp); omega
        · have := hp2.1 i h1; omega
      have h2 : (listed.setIfInBounds i true).getD i true ≠ false := by
        rcases Nat.lt_or_ge i listed.size with h' | h'
        · simp [h']
        · simp [Array.getElem?_eq_none (show (listed.setIfInBounds i true).size ≤ i by simpa using h')]
      exact ⟨fun h => absurd h h1, fun h => absurd h.2 h2⟩
    · rw [getD_set_ne true hik]
      have := h.mem k
      rw [List.mem_append, List.mem_cons] at this
      rw [List.mem_append]
      constructor
      · rintro (h1 | h1)
        · exact this.1 (.inl h1)
        · exact this.1 (.inr (.inr h1))
      · intro h1
        rcases this.2 h1 with h2 | h2 | h2
        · exact .inl h2
        · exact absurd h2.symm hik
        · exact .inr h2
  · refine List.pairwise_append.2 ⟨hp.1, hp2.2, fun x hx y hy => hp.2.2 x hx y (by simp [hy])⟩

theorem DoesUpon.mono {G G' : Value → World → Prop} (h : ∀ v w, G v w → G' v w) {r : Result Next} (hr : DoesUpon F P G r) : DoesUpon F P G' r := by
  cases r with
  | halt x w => exact hr
  | ok x w =>
    cases x <;> simp only [DoesUpon] at hr ⊢ <;>
      first
        | exact h _ _ hr
        | exact CallsIn.mono hr (fun e w'' ⟨v, he, hg⟩ => ⟨v, he, h _ _ hg⟩)
        | exact RoundIn.mono hr (fun e w'' ⟨v, he, hg⟩ => ⟨v, he, h _ _ hg⟩)

theorem wpIn_of_does {o : Oper} {a : Act} {w : World} {G : Value → World → Prop} {K : Act → World → Prop} {Q : Exit → Act → World → Prop} (hF : ∀ f, F.fn f) (hd : F.depth = none)
    (h : Does F P o a w G) (hK : ∀ v w', G v w' → K (a.put o.dst v) w') : o.wpIn F 0 P a w K Q := by
  obtain ⟨h1, h2⟩ := h
  refine ⟨fun f _ => hF f, ?_⟩
  rw [Oper.semAt_eq _ _ _ h1]
  generalize (execOp a.eval o).run P w = r at *
  cases r with
  | halt x w' => exact h2.elim
  | ok x w' =>
    cases x <;> simp only [DoesUpon] at h2 <;> simp only [Oper.uponIn]
    case value v => exact hK _ _ h2
    case skip => exact hK _ _ h2
    case enter f args => exact ⟨fun hs => by simp [hd] at hs, CallsIn.mono h2 (fun e w'' ⟨v, he, hg⟩ => by subst he; exact hK _ _ hg)⟩
    case round l f tmps assign body => exact ⟨fun hs => by simp [hd] at hs, RoundIn.mono h2 (fun e w'' ⟨v, he, hg⟩ => by subst he; exact hK _ _ hg)⟩
theorem Calm.does {o : Oper} {a : Act} {v : Value} {w : World} (h : Go.Mix.Calm P o a v w) : Does F P o a w (fun u w' => w' = w ∧ u = v) :=
  ⟨h.1, by rw [h.2]; exact ⟨rfl, rfl⟩⟩

/-- Behind the first m: the others, in the text's order. -/
theorem tail_any {m : Nat} {Q : Exit → Act → World → Prop} (ht : tails ops m = true) (he : early ops = true) : ∀ (k t : Nat) (listed : Array Bool) (a : Act) (w : World), m ≤ t → t + k = ops.size → listed.size = ops.size → Closed ops listed →
    (∀ i, i < t → listed.getD i false = true) → (∀ i, t ≤ i → i < ops.size → listed.getD i true = false) →
    wpOpsIn F 0 P ops Q (List.range' t k) a w → ∀ fuel, k ≤ fuel → wpAnyIn F 0 P .any ops Q fuel listed a w
  | 0, t, listed, a, w, _, hk, hs, _, hl, _, h, fuel, _ => by
    refine wpAnyIn_done ?_ (by simpa [wpOpsIn] using h) fuel
    rw [List.eq_nil_iff_forall_not_mem]
    intro i hi
    have h1 := (mem_ready.1 hi).1
    obtain ⟨o, ho, _⟩ := (mem_ready.1 hi).2
    have hlt := (Array.getElem?_eq_some_iff.1 ho).1
    have h2 := hl i (by omega)
    rw [getD_both' h1] at h2; cases h2
  | k + 1, t, listed, a, w, hm, hk, hs, hc, hl, hu, h, 0, hf => by omega
  | k + 1, t, listed, a, w, hm, hk, hs, hc, hl, hu, h, fuel + 1, hf => by
    have hts : t < ops.size := by omega
    have hget : ops[t]? = some ops[t] := Array.getElem?_eq_getElem hts
    have hrt : t ∈ Region.ready .any ops listed := mem_ready.2 ⟨hu t (Nat.le_refl _) hts, _, hget, fun e he' hb => hl _ (early_spec he hget he' hb)⟩
    refine ⟨fun h0 => (by rw [h0] at hrt; cases hrt), fun i hi => ?_⟩
    obtain ⟨h1, oi, hoi, hall⟩ := mem_ready.1 hi
    have hlt := (Array.getElem?_eq_some_iff.1 hoi).1
    have hit : i = t := by
      rcases Nat.lt_trichotomy i t with h2 | h2 | h2
      · have h3 := hl i h2; rw [getD_both' h1] at h3; cases h3
      · exact h2
      · have h3 := waits_listed hc i t oi hoi hall (tails_spec ht (by omega) hlt h2)
        rw [getD_both' (hu t (Nat.le_refl _) hts)] at h3; cases h3
    subst hit
    rw [List.range'_succ, wpOpsIn_cons] at h
    refine wpOpIn_mono (fun a' w' h' => ?_) h
    refine tail_any ht he k (i + 1) _ a' w' (by omega) (by omega) (by simp [hs]) (hc.set hi) (fun j hj => ?_) (fun j hj hjs => ?_) h' fuel (by omega)
    · by_cases hji : j = i
      · subst hji; simp [hs, hts]
      · exact getD_set_true (hl j (by omega))
    · rw [getD_set_ne true (by omega)]; exact hu j (by omega) hjs

/-- The store j of slot s: it looks at s, and no other operation of the first m does. -/
def lone (ops : Array Oper) (m j : Nat) (s y : Tmp) : Bool := (List.range m).all fun i =>
  match ops[i]? with
  | some o => if i = j then (o.looksAt ops).contains s && (o.looksAt ops).contains y else !(o.looksAt ops).contains s
  | none => true
theorem lone_spec {m j : Nat} {s y : Tmp} (h : lone ops m j s y = true) {i : Nat} {o : Oper} (hi : i < m) (ho : ops[i]? = some o) : (i = j → s ∈ o.looksAt ops ∧ y ∈ o.looksAt ops) ∧ (i ≠ j → s ∉ o.looksAt ops) := by
  have h1 := List.all_eq_true.1 h i (List.mem_range.2 hi)
  simp only [ho] at h1
  constructor
  · intro e; rw [if_pos e] at h1; simpa using h1
  · intro e; rw [if_neg e] at h1; simpa using h1
def HasSto (Sp : Nat → Loud) : Prop := ∃ k s y G, Sp k = .sto s y G
def StbI (X : Nat → Prop) (I : Nat × Nat) (f : World → Prop) : Prop := ∀ w w', Eng.Fr (fun x => X x ∧ ¬ inI I x) w w' → Ty w w' → f w → f w'

theorem head_any {m : Nat} {Q : Exit → Act → World → Prop} (hF : ∀ f, F.fn f) (hd : F.depth = none) (hfine : fine ops m = true)
    (hcl : ∀ i j w w', i ≠ j → Cl i w → Ef j w w' → Cl i w') (hfin : ∀ j w w', Fin w → Ef j w w' → Fin w')
    (hX : ∀ x, n0 ≤ x → X x) (hclS : ∀ i w w', Cl i w → Eng.Fr X w w' → Cl i w') (hfinS : ∀ w w', Fin w → Eng.Fr X w w' → Fin w')
    (hst : ∀ k G, Sp k = .any G → (∀ j, k ≠ j → ∀ I v w w', Ef j w w' → G I v w → G I v w') ∧ (HasSto Sp → ∀ I v, StbI X I (G I v)))
    (hstS : ∀ k s y G, Sp k = .sto s y G → lone ops m k s y = true ∧ (∀ j, k ≠ j → ∀ I v w w', Ef j w w' → G I v w → G I v w') ∧ ∀ I v, StbI X I (G I v))
    (hgr : ∀ j w w', Ef j w w' → w.heap.size ≤ w'.heap.size) :
    ∀ (n : Nat) (L : List Nat), L.length = n → ∀ (listed : Array Bool) (a : Act) (Γ : Facts) (w : World), Head ops m listed L →
      Walk F P ops Ef Cl Fin X Sp (fun a' w' => wpOpsIn F 0 P ops Q (List.range' m (ops.size - m)) a' w') L a Γ → (∀ i ∈ L, Cl i w) → Fin w → Hold Γ w →
      (∀ d p, Γ d = some p → (∀ j ∈ L, ∀ w w', Ef j w w' → p.2 w → p.2 w') ∧ (HasSto Sp → StbI X p.1 p.2)) → Sep X Γ w → n0 ≤ w.heap.size →
      ∀ fuel, n + (ops.size - m) ≤ fuel → wpAnyIn F 0 P .any ops Q fuel listed a w := by
  obtain ⟨f1, f2, f3, f4, f5⟩ := fine_spec hfine
  intro n
  induction n with
  | zero =>
    intro L hL listed a Γ w hh hw _ hR hΓ _ hS _ fuel hf
    obtain rfl : L = [] := List.eq_nil_of_length_eq_zero hL
    unfold Walk at hw
    refine tail_any f4 f2 (ops.size - m) m listed a w (Nat.le_refl _) (by omega) hh.size hh.closed (fun i hi => ?_) hh.tail (hw w hR hΓ hS) fuel (by omega)
    refine getD_true_of (by rw [hh.size]; omega) (fun h0 => ?_)
    have := (hh.mem i).2 ⟨hi, h0⟩
    cases this
  | succ n ih =>
    intro L hL listed a Γ w hh hw hC hR hΓ hΓs hS hn0 fuel hf
    obtain ⟨fuel, rfl⟩ : ∃ g, fuel = g + 1 := ⟨fuel - 1, by omega⟩
    cases L with
    | nil => simp at hL
    | cons i0 L0 =>
    have hi0 := (hh.mem i0).1 (by simp)
    have hget : ops[i0]? = some ops[i0] := Array.getElem?_eq_getElem (by omega)
    have hlo : ∀ j, j < i0 → listed.getD j false = true := fun j hj => by
      refine getD_true_of (by rw [hh.size]; omega) (fun h0 => ?_)
      have h1 := (hh.mem j).2 ⟨by omega, h0⟩
      rcases List.mem_cons.1 h1 with h2 | h2
      · omega
      · have := (List.pairwise_cons.1 hh.sorted).1 j h2; omega
    have hr0 : i0 ∈ Region.ready .any ops listed := mem_ready.2 ⟨hi0.2, _, hget, fun e he hb => hlo _ (early_spec f2 hget he hb)⟩
    refine ⟨fun h0 => (by rw [h0] at hr0; cases hr0), fun i hi => ?_⟩
    obtain ⟨h1, oi, hoi, hall⟩ := mem_ready.1 hi
    have hlt := (Array.getElem?_eq_some_iff.1 hoi).1
    have him : i < m := by
      rcases Nat.lt_or_ge i m with h2 | h2
      · exact h2
      · have h3 := waits_listed hh.closed i i0 oi hoi hall (tails_spec f4 h2 hlt (by omega))
        rw [getD_both' hi0.2] at h3; cases h3
    obtain ⟨pre, post, hsplit⟩ := List.append_of_mem ((hh.mem i).2 ⟨him, h1⟩)
    have hmem : ∀ k, k ∈ pre ++ i :: post → k < m := fun k hk => ((hh.mem k).1 (hsplit ▸ hk)).1
    rw [hsplit] at hh hw hL hC hΓs
    have hsub : ∀ k ∈ pre ++ post, k ∈ pre ++ i :: post := fun k hk => by rcases List.mem_append.1 hk with h | h <;> simp [h]
    have hΓs' : ∀ d p, Γ d = some p → (∀ j ∈ pre ++ post, ∀ w w', Ef j w w' → p.2 w → p.2 w') ∧ (HasSto Sp → StbI X p.1 p.2) := fun d p hp => ⟨fun j hj => (hΓs d p hp).1 j (hsub j hj), (hΓs d p hp).2⟩
    have hCi : Cl i w := hC i (by simp)
    have hCo : ∀ k ∈ pre ++ post, Cl k w := fun k hk => hC k (hsub k hk)
    have hne : ∀ k ∈ pre ++ post, k ≠ i := fun k hk e => by
      subst e
      have hp := List.pairwise_append.1 hh.sorted
      rcases List.mem_append.1 hk with h | h
      · have := hp.2.2 k h k (by simp); omega
      · have := (List.pairwise_cons.1 hp.2.1).1 k h; omega
    have hpre : ∀ j ∈ pre, ∀ oj, ops[j]? = some oj → oj.apart ops oi = true := fun j hj oj hoj => by
      have hji : j < i := (List.pairwise_append.1 hh.sorted).2.2 j hj i (by simp)
      have hjm := (hh.mem j).1 (by simp [hj])
      rcases pairs_spec f3 him hji hoj hoi with h2 | h2
      · exact h2
      · have h3 := waits_listed hh.closed i j oi hoi hall h2
        rw [getD_both' hjm.2] at h3; cases h3
    have hnepre : ∀ j ∈ pre, j ≠ i := fun j hj => hne j (List.mem_append.2 (.inl hj))
    have hpm : ∀ j ∈ pre, j < m := fun j hj => hmem j (by simp [hj])
    obtain ⟨howed, hnext⟩ := extract hoi (Region.noSelect_spec f1) (fun s y G hk => (lone_spec (hstS i s y G hk).1 him hoi).1 rfl) post pre a Γ hw hpre
      (fun j hj s y G hk => ⟨fun oj hoj => (lone_spec (hstS j s y G hk).1 (hpm j hj) hoj).1 rfl, (lone_spec (hstS j s y G hk).1 him hoi).2 (Ne.symm (hnepre j hj))⟩)
      (fun j hj s y G hk oj hoj => (lone_spec (hstS i s y G hk).1 (hpm j hj) hoj).2 (hnepre j hj)) w hCi (fun d p hp _ => hΓ d p hp)
    have hh' := hh.set hi
    have hlen : (pre ++ post).length = n := by simp at hL ⊢; omega
    unfold wpOpIn
    simp only [hoi]
    unfold Owed at howed
    split
    · rename_i hwant
      rw [if_pos hwant] at howed
      cases hk : Sp i with
      | none =>
        simp only [hk] at howed
        obtain ⟨v, hv⟩ := howed
        refine wpIn_of_does hF hd hv.does ?_
        rintro u w' ⟨rfl, rfl⟩
        have h2 := hnext (0, 0) u (by unfold Res; rw [if_pos hwant, hk]; exact hv)
        unfold addS at h2
        rw [if_pos hwant, hk] at h2
        exact ih _ hlen _ _ Γ w' hh' h2 hCo hR hΓ hΓs' hS hn0 fuel (by omega)
      | val c =>
        simp only [hk] at howed
        refine wpIn_of_does hF hd howed ?_
        rintro u w' ⟨hRw, rfl⟩
        have h2 := hnext (0, 0) u (by unfold Res; rw [if_pos hwant, hk])
        unfold addS at h2
        rw [if_pos hwant, hk] at h2
        exact ih _ hlen _ _ Γ w' hh' h2 (fun k hk => hcl k i _ _ (hne k hk) (hCo k hk) hRw) (hfin i _ _ hR hRw) (fun d p hp => (hΓs d p hp).1 i (by simp) _ _ hRw (hΓ d p hp)) hΓs' ⟨fun d p hp => ⟨(hS.1 d p hp).1, Nat.le_trans (hS.1 d p hp).2 (hgr i _ _ hRw)⟩, hS.2⟩ (Nat.le_trans hn0 (hgr i _ _ hRw)) fuel (by omega)
      | any G =>
        simp only [hk] at howed
        refine wpIn_of_does hF hd howed ?_
        rintro u w' ⟨hRw, hG⟩
        have h2 := hnext (w.heap.size, w'.heap.size) u (by unfold Res; rw [if_pos hwant, hk]; trivial)
        unfold addS at h2
        rw [if_pos hwant, hk] at h2
        obtain ⟨hs1, hs2⟩ := hst i G hk
        have key : ∀ {d p}, addF oi ((w.heap.size, w'.heap.size), G (w.heap.size, w'.heap.size) u) Γ d = some p → (oi.dst = some d ∧ p = ((w.heap.size, w'.heap.size), G (w.heap.size, w'.heap.size) u)) ∨ (oi.dst ≠ some d ∧ Γ d = some p) := fun {d p} hp => by
          cases ho : oi.dst with
          | none => rw [addF_none ho] at hp; exact .inr ⟨by simp, hp⟩
          | some e =>
            rw [addF_some ho] at hp
            rcases upd_cases hp with ⟨g1, g2⟩ | ⟨g1, g2⟩
            · exact .inl ⟨by rw [g1], g2⟩
            · exact .inr ⟨fun h => g1 (Option.some.inj h).symm, g2⟩
        refine ih _ hlen _ _ _ w' hh' h2 (fun k hk => hcl k i _ _ (hne k hk) (hCo k hk) hRw) (hfin i _ _ hR hRw) (fun d p hp => ?_) (fun d p hp => ?_) ⟨fun d p hp => ?_, fun d p e q hp hq hpq => ?_⟩ (Nat.le_trans hn0 (hgr i _ _ hRw)) fuel (by omega)
        · rcases key hp with ⟨_, hp⟩ | ⟨_, hp⟩
          · rw [hp]; exact hG
          · exact (hΓs d p hp).1 i (by simp) _ _ hRw (hΓ d p hp)
        · rcases key hp with ⟨_, hp⟩ | ⟨_, hp⟩
          · rw [hp]; exact ⟨fun j hj w w' => hs1 j (fun e => hne j hj e.symm) _ u w w', fun h => hs2 h _ u⟩
          · exact hΓs' d p hp
        · rcases key hp with ⟨_, hp⟩ | ⟨_, hp⟩
          · rw [hp]; exact ⟨fun x hx => hX x (Nat.le_trans hn0 hx.1), Nat.le_refl _⟩
          · exact ⟨(hS.1 d p hp).1, Nat.le_trans (hS.1 d p hp).2 (hgr i _ _ hRw)⟩
        · rcases key hp with ⟨hp1, hp⟩ | ⟨hp1, hp⟩ <;> rcases key hq with ⟨hq1, hq⟩ | ⟨hq1, hq⟩
          · rw [hp1] at hq1; exact absurd (Option.some.inj hq1) hpq
          · rw [hp]; exact .inr (hS.1 e q hq).2
          · rw [hq]; exact .inl (hS.1 d p hp).2
          · exact hS.2 d p e q hp hq hpq
      | sto s y G =>
        simp only [hk] at howed
        obtain ⟨J, f, hJ, hdo⟩ := howed
        obtain ⟨hl1, hs1, hs2⟩ := hstS i s y G hk
        obtain ⟨hJ1, hJ2⟩ := hS.1 s _ hJ
        refine wpIn_of_does hF hd (hdo hJ2) ?_
        rintro u w' ⟨hE, hTy, rfl, hG⟩
        have h2 := hnext (0, 0) undef (by unfold Res; rw [if_pos hwant, hk])
        unfold addS at h2
        rw [if_pos hwant, hk] at h2
        simp only [hJ] at h2
        have hE0 : Eng.Fr X w w' := ⟨hE.os, hE.tape, hE.output, hE.size, fun k hk hn => hE.block k hk (fun hi => hn (hJ1 k hi))⟩
        have hkeep : ∀ d p, d ≠ s → Γ d = some p → p.2 w' := fun d p hds hp => by
          refine (hΓs d p hp).2 ⟨i, s, y, G, hk⟩ w w' ⟨hE.os, hE.tape, hE.output, hE.size, fun k hk hn => hE.block k hk (fun hi => hn ⟨hJ1 k hi, fun hp2 => ?_⟩)⟩ hTy (hΓ d p hp)
          have := hS.2 d p s _ hp hJ hds
          have h3 := hi.1; have h4 := hi.2; have h5 := hp2.1; have h6 := hp2.2
          simp only at this h3 h4
          omega
        refine ih _ hlen _ _ _ w' hh' h2 (fun k hk => hclS k _ _ (hCo k hk) hE0) (hfinS _ _ hR hE0) (fun d p hp => ?_) (fun d p hp => ?_) ⟨fun d p hp => ?_, fun d p e q hp hq hpq => ?_⟩ (Nat.le_trans hn0 hE.size) fuel (by omega)
        · rcases upd_cases hp with ⟨_, hp⟩ | ⟨h3, hp⟩
          · rw [hp]; exact ⟨⟨w, hΓ s _ hJ⟩, hG⟩
          · exact hkeep d p h3 hp
        · rcases upd_cases hp with ⟨_, hp⟩ | ⟨h3, hp⟩
          · rw [hp]; exact ⟨fun j hj w w' hE h => ⟨h.1, hs1 j (fun e => hne j hj e.symm) _ _ w w' hE h.2⟩, fun _ w w' hE hT h => ⟨h.1, hs2 _ _ w w' hE hT h.2⟩⟩
          · exact hΓs' d p hp
        · rcases upd_cases hp with ⟨_, hp⟩ | ⟨h3, hp⟩
          · rw [hp]; exact ⟨hJ1, Nat.le_trans hJ2 hE.size⟩
          · exact ⟨(hS.1 d p hp).1, Nat.le_trans (hS.1 d p hp).2 hE.size⟩
        · rcases upd_cases hp with ⟨g1, hp2⟩ | ⟨g1, hp2⟩ <;> rcases upd_cases hq with ⟨g2, hq2⟩ | ⟨g2, hq2⟩
          · exact absurd (g1.trans g2.symm) hpq
          · rw [hp2]; have := hS.2 s _ e q hJ hq2 (fun h => hpq (g1.trans h)); exact this
          · rw [hq2]; have := hS.2 d p s _ hp2 hJ (fun h => hpq (h.trans g2.symm)); exact this
          · exact hS.2 d p e q hp2 hq2 hpq
    · rename_i hwant
      refine ⟨fun f _ => hF f, ?_⟩
      have h2 := hnext (0, 0) undef (by unfold Res; rw [if_neg hwant])
      unfold addS at h2
      rw [if_neg hwant] at h2
      exact ih _ hlen _ _ Γ w hh' h2 hCo hR hΓ hΓs' hS hn0 fuel (by omega)

/-- ONE WALK IN THE TEXT's ORDER SERVES EVERY ORDER. -/
theorem wpIn_region_mix {id m : Nat} {Q : Exit → Act → World → Prop} {a : Act} {w : World} (Γ0 : Facts) (hm : P.follows .mixedOrders = true) (hF : ∀ f, F.fn f) (hd : F.depth = none) (hfine : fine ops m = true)
    (hcl0 : ∀ i, Cl i { w with drawn := w.drawn + 1 }) (hfin0 : Fin { w with drawn := w.drawn + 1 })
    (hcl : ∀ i j w w', i ≠ j → Cl i w → Ef j w w' → Cl i w') (hfin : ∀ j w w', Fin w → Ef j w w' → Fin w')
    (hX : ∀ x, w.heap.size ≤ x → X x) (hclS : ∀ i w1 w', Cl i w1 → Eng.Fr X w1 w' → Cl i w') (hfinS : ∀ w1 w', Fin w1 → Eng.Fr X w1 w' → Fin w')
    (hst : ∀ k G, Sp k = .any G → (∀ j, k ≠ j → ∀ I v w w', Ef j w w' → G I v w → G I v w') ∧ (HasSto Sp → ∀ I v, StbI X I (G I v)))
    (hstS : ∀ k s y G, Sp k = .sto s y G → lone ops m k s y = true ∧ (∀ j, k ≠ j → ∀ I v w w', Ef j w w' → G I v w → G I v w') ∧ ∀ I v, StbI X I (G I v))
    (hgr : ∀ j w w', Ef j w w' → w.heap.size ≤ w'.heap.size)
    (hΓ : Hold Γ0 { w with drawn := w.drawn + 1 }) (hΓs : ∀ d p, Γ0 d = some p → (∀ j w w', Ef j w w' → p.2 w → p.2 w') ∧ (HasSto Sp → StbI X p.1 p.2)) (hS : Sep X Γ0 { w with drawn := w.drawn + 1 })
    (h : Walk F P ops Ef Cl Fin X Sp (fun a' w' => wpOpsIn F 0 P ops Q (List.range' m (ops.size - m)) a' w') (List.range m) a Γ0) : (Code.region id ops true).wpIn F 0 P Q a w := by
  have h5 := (fine_spec hfine).2.2.2.2
  refine wpIn_region_any hm (head_any (n0 := w.heap.size) hF hd hfine hcl hfin hX hclS hfinS hst hstS hgr m (List.range m) (by simp) _ a Γ0 _ ⟨by simp, ?_, fun i => ?_, List.pairwise_lt_range, fun t _ hts => by simp [hts]⟩ h (fun i _ => hcl0 i) hfin0 hΓ (fun d p hp => ⟨fun j _ => (hΓs d p hp).1 j, (hΓs d p hp).2⟩) hS (Nat.le_refl _) _ (by omega))
  · intro i o ho hl
    rw [getD_replicate_false'] at hl; cases hl
  · rw [List.mem_range]
    constructor
    · intro hi; exact ⟨hi, by simp [show i < ops.size by omega]⟩
    · exact fun h => h.1
where
  getD_replicate_false' : ∀ {m j : Nat}, (Array.replicate m false).getD j false = false := by
    intro m j
    rcases Nat.lt_or_ge j m with h | h
    · simp [h]
    · simp [h]
end
#print axioms wpIn_region_mix
end Go.Mix3
namespace Go.Eng
open Go Go.RowKit Go.Mix
section drawn3
variable {P : Program} {N : Nat} {o : Oper} {ρ : Nat → Value} {w w' : World} {v : Value} {r : Option Nat}
variable {ds : List Deferred} {lo rest : List Oper} {K : (Nat → Value) → World → Prop}
structure MX3 (r : Option Nat) (P : Program) (N : Nat) (ds : List Deferred) (lo : List Oper) (Ef : Nat → World → World → Prop) (Cl : Nat → World → Prop) (Fin : World → Prop) (X : Nat → Prop) (Sp : Nat → Loud) (K : (Nat → Value) → World → Prop) (tl : List Oper)
    (k : Nat) (l : List Oper) (ρ : Nat → Value) (Γ : Facts) : Prop where
  out : (∀ j, j < l.length → lo[k + j]? = l[j]?) →
    Mix3.Walk (FR r) P lo.toArray Ef Cl Fin X Sp (fun a w => wpListIn (FR r) 0 P lo.toArray (fun e a w => e = .normal ∧ ∃ ρ, a = mk N ρ ds ∧ K ρ w) tl a w) (List.range' k l.length) (mk N ρ ds) Γ
section mx3
variable {Ef : Nat → World → World → Prop} {Cl : Nat → World → Prop} {Fin : World → Prop} {X : Nat → Prop} {Sp : Nat → Loud} {tl : List Oper} {k : Nat} {Γ : Facts}
theorem m3_nil (h : ∀ w, Fin w → Hold Γ w → Sep X Γ w → LX r P N ds lo K tl ρ w) : MX3 r P N ds lo Ef Cl Fin X Sp K tl k [] ρ Γ :=
  ⟨fun _ => by simp only [List.length_nil, List.range'_zero]; exact fun w hw hf hS => (h w hw hf hS).out⟩
theorem m3_open {l : List Oper} (hl : ∀ j, j < (o :: l).length → lo[k + j]? = (o :: l)[j]?) : lo.toArray[k]? = some o ∧ ∀ j, j < l.length → lo[k + 1 + j]? = l[j]? := by
  refine ⟨by have := hl 0 (by simp); simpa using this, fun j hj => ?_⟩
  have := hl (j + 1) (by simpa using hj)
  rw [show k + 1 + j = k + (j + 1) by omega]
  simpa using this
/-- An operation that yields v in every world that can come, and turns nothing. -/
theorem m3_calm (hs : Sp k = .none) (hw : Want N lo o ρ true) (h : ∀ w, Cl k w → For lo.toArray o Γ w → Rn P N o ρ w v w) (g : MX3 r P N ds lo Ef Cl Fin X Sp K tl (k + 1) rest (up ρ o.dst v) Γ) : MX3 r P N ds lo Ef Cl Fin X Sp K tl k (o :: rest) ρ Γ :=
  ⟨fun hl => by
    obtain ⟨h1, h2⟩ := m3_open hl
    rw [List.length_cons, List.range'_succ]
    unfold Mix3.Walk
    simp only [h1, hw.out ds, if_true, hs]
    refine ⟨v, fun w hc => ?_, by rw [mk_put]; exact g.out h2⟩
    have h3 := h w hc.1 hc.2
    exact ⟨h3.nd, by rw [mk_eval]; exact h3.run⟩⟩
theorem m3_val {c : Value} (hs : Sp k = .val c) (hw : Want N lo o ρ true) (h : ∀ w, Cl k w → For lo.toArray o Γ w → Do P N o ρ w (fun v w' => Ef k w w' ∧ v = c)) (g : MX3 r P N ds lo Ef Cl Fin X Sp K tl (k + 1) rest (up ρ o.dst c) Γ) : MX3 r P N ds lo Ef Cl Fin X Sp K tl k (o :: rest) ρ Γ :=
  ⟨fun hl => by
    obtain ⟨h1, h2⟩ := m3_open hl
    rw [List.length_cons, List.range'_succ]
    unfold Mix3.Walk
    simp only [h1, hw.out ds, if_true, hs]
    exact ⟨fun w hc => (h w hc.1 hc.2).out r ds, by rw [mk_put]; exact g.out h2⟩⟩
theorem m3_any {G : Nat × Nat → Value → World → Prop} {d : Tmp} (hs : Sp k = .any G) (hd : o.dst = some d) (hw : Want N lo o ρ true) (h : ∀ w, Cl k w → For lo.toArray o Γ w → Do P N o ρ w (fun v w' => Ef k w w' ∧ G (w.heap.size, w'.heap.size) v w'))
    (g : ∀ I v, MX3 r P N ds lo Ef Cl Fin X Sp K tl (k + 1) rest (up ρ o.dst v) (upd Γ d (I, G I v))) : MX3 r P N ds lo Ef Cl Fin X Sp K tl k (o :: rest) ρ Γ :=
  ⟨fun hl => by
    obtain ⟨h1, h2⟩ := m3_open hl
    rw [List.length_cons, List.range'_succ]
    unfold Mix3.Walk
    simp only [h1, hw.out ds, if_true, hs]
    exact ⟨fun w hc => (h w hc.1 hc.2).out r ds, fun I v => by rw [mk_put, addF_some hd]; exact (g I v).out h2⟩⟩
/-- a store to the new block of slot s -/
theorem m3_sto {G : Nat × Nat → Value → World → Prop} {s y : Tmp} {J : Nat × Nat} {f : World → Prop} {u : Value} (hs : Sp k = .sto s y G) (hy : ev N ρ (.tmp y) = u) (hd : o.dst = none) (hJ : Γ s = some (J, f)) (hw : Want N lo o ρ true) (h : ∀ w, Cl k w → For lo.toArray o Γ w → J.2 ≤ w.heap.size → Do P N o ρ w (fun v w' => Fr (inI J) w w' ∧ Mix3.Ty w w' ∧ v = undef ∧ G J u w'))
    (g : MX3 r P N ds lo Ef Cl Fin X Sp K tl (k + 1) rest (up ρ o.dst undef) (upd Γ s (J, fun w => (∃ w0, f w0) ∧ G J u w))) : MX3 r P N ds lo Ef Cl Fin X Sp K tl k (o :: rest) ρ Γ :=
  ⟨fun hl => by
    obtain ⟨h1, h2⟩ := m3_open hl
    rw [List.length_cons, List.range'_succ]
    unfold Mix3.Walk
    simp only [h1, hw.out ds, if_true, hs, mk_eval, hy]
    exact ⟨J, f, hJ, fun w hc hJ2 => (h w hc.1 hc.2 hJ2).out r ds, by rw [mk_put]; exact g.out h2⟩⟩
end mx3
variable {C : Cont} {c c1 c2 : Code}
theorem wk_mixG3 {id : Nat} {l : List Oper} (m : Nat) (Ef : Nat → World → World → Prop) (Cl : Nat → World → Prop) (Fin : World → Prop) (X : Nat → Prop) (Γ0 : Facts) (Sp : Nat → Loud) (hm : P.follows .mixedOrders = true) (hf : Mix3.fine l.toArray m = true)
    (hcl0 : ∀ i, Cl i { w with drawn := w.drawn + 1 }) (hfin0 : Fin { w with drawn := w.drawn + 1 })
    (hcl : ∀ i j w w', i ≠ j → Cl i w → Ef j w w' → Cl i w') (hfin : ∀ j w w', Fin w → Ef j w w' → Fin w')
    (hX : ∀ x, w.heap.size ≤ x → X x) (hclS : ∀ i w1 w', Cl i w1 → Fr X w1 w' → Cl i w') (hfinS : ∀ w1 w', Fin w1 → Fr X w1 w' → Fin w')
    (hst : ∀ k G, Sp k = .any G → (∀ j, k ≠ j → ∀ I v w w', Ef j w w' → G I v w → G I v w') ∧ (Mix3.HasSto Sp → ∀ I v, Mix3.StbI X I (G I v)))
    (hstS : ∀ k s y G, Sp k = .sto s y G → Mix3.lone l.toArray m k s y = true ∧ (∀ j, k ≠ j → ∀ I v w w', Ef j w w' → G I v w → G I v w') ∧ ∀ I v, Mix3.StbI X I (G I v))
    (hgr : ∀ j w w', Ef j w w' → w.heap.size ≤ w'.heap.size)
    (hΓ : Hold Γ0 { w with drawn := w.drawn + 1 }) (hΓs : ∀ d p, Γ0 d = some p → (∀ j w w', Ef j w w' → p.2 w → p.2 w') ∧ (Mix3.HasSto Sp → Mix3.StbI X p.1 p.2)) (hS : Sep X Γ0 { w with drawn := w.drawn + 1 })
    (h : MX3 r P N ds l Ef Cl Fin X Sp (fun ρ w => C .normal ds ρ w) (l.drop m) 0 (l.take m) ρ Γ0) : WK r P N (.region id l.toArray true) C ds ρ w := by
  have h5 : m ≤ l.length := by have := (Mix3.fine_spec hf).2.2.2.2; simpa using this
  refine ⟨wpIn_mono (Mix3.wpIn_region_mix (Γ0 := Γ0) (X := X) (Ef := Ef) (Cl := Cl) (Fin := Fin) (Sp := Sp) (m := m) (Q := fun e a w => e = .normal ∧ ∃ ρ, a = mk N ρ ds ∧ C .normal ds ρ w) hm (fun _ => trivial) rfl hf hcl0 hfin0 hcl hfin hX hclS hfinS hst hstS hgr hΓ hΓs hS ?_)
    fun e a w ⟨h1, ρ, ha, hk⟩ => by subst h1; exact ⟨fun _ e => (by cases e), fun e => (by cases e), ρ, ds, ha, hk⟩⟩
  have h6 := h.out (fun j hj => by
    simp only [List.length_take] at hj
    rw [Nat.zero_add, List.getElem?_take_of_lt (by omega)])
  have e1 : (l.take m).length = m := by simp [h5]
  rw [e1, ← List.range_eq_range'] at h6
  have e2 : wpOpsIn (FR r) 0 P l.toArray (fun e a w => e = .normal ∧ ∃ ρ, a = mk N ρ ds ∧ C .normal ds ρ w) (List.range' m (l.toArray.size - m)) =
      wpListIn (FR r) 0 P l.toArray (fun e a w => e = .normal ∧ ∃ ρ, a = mk N ρ ds ∧ C .normal ds ρ w) (l.drop m) := by
    have := wpOpsIn_eq_wpListIn (F := FR r) (n := 0) (P := P) (ops := l.toArray) (Q := fun e a w => e = .normal ∧ ∃ ρ, a = mk N ρ ds ∧ C .normal ds ρ w) (l.drop m) m (fun j => by simp)
    simpa using this
  simp only [e2]
  exact h6
/-- no operation turns what was there -/
theorem wk_mix3 {id : Nat} {l : List Oper} (m : Nat) (Sp : Nat → Loud) (hm : P.follows .mixedOrders = true) (hf : Mix3.fine l.toArray m = true)
    (hst : ∀ k G, Sp k = .any G → (∀ j, k ≠ j → ∀ I v w w', Ext w w' → G I v w → G I v w') ∧ (Mix3.HasSto Sp → ∀ I v, Mix3.StbI (fun x => w.heap.size ≤ x) I (G I v)))
    (hstS : ∀ k s y G, Sp k = .sto s y G → Mix3.lone l.toArray m k s y = true ∧ (∀ j, k ≠ j → ∀ I v w w', Ext w w' → G I v w → G I v w') ∧ ∀ I v, Mix3.StbI (fun x => w.heap.size ≤ x) I (G I v))
    (h : MX3 r P N ds l (fun _ => Ext) (fun _ => Ext { w with drawn := w.drawn + 1 }) (Ext { w with drawn := w.drawn + 1 }) (fun x => w.heap.size ≤ x) Sp (fun ρ w => C .normal ds ρ w) (l.drop m) 0 (l.take m) ρ nof) : WK r P N (.region id l.toArray true) C ds ρ w :=
  wk_mixG3 m _ _ _ _ nof Sp hm hf (fun _ => Fr.refl no _) (Fr.refl no _) (fun _ _ _ _ _ h k => Fr.trans' h k) (fun _ _ _ h k => Fr.trans' h k) (fun _ h => h) (fun _ _ _ h k => Fr.new h k (fun _ hx => hx)) (fun _ _ h k => Fr.new h k (fun _ hx => hx)) hst hstS (fun _ _ _ h => h.size) (fun d p hp => by cases hp) (fun d p hp => by cases hp) ⟨fun d p hp => (by cases hp), fun d p e q hp => (by cases hp)⟩ h
theorem ty_of {w w' : World} {b : Nat} {cs : List Value} (B : Blk w b cs 59) (h : Fr (· = b) w w') : Mix3.Ty w w' := fun k cs' T hT hk => by
  by_cases e : k = b
  · subst e
    have B : w.heap[k]? = some (.cells cs.toArray 59 (0, 0)) := B
    rw [B] at hk
    injection hk with hk
    injection hk with h1 h2
    exact absurd h2.symm hT
  · rw [h.block k (Array.getElem?_eq_some_iff.1 hk).1 e]; exact hk
theorem Mix3.Ty.blk {w w' : World} {b : Nat} {cs : List Value} {T : TypeId} (h : Mix3.Ty w w') (hT : T ≠ 59) (B : Blk w b cs T) : Blk w' b cs T := h b _ T hT B
theorem Mix3.Ty.own {w w' : World} {e : TypeId} {sz n c : Nat} {s : Option Addr} {xs : List Value} (h : Mix3.Ty w w') (hT : e ≠ 59) (ho : OwnS w e sz s n c xs) : OwnS w' e sz s n c xs := ⟨ho.1, ho.2.imp id (fun ⟨g, o, cur, h1, h2, h3⟩ => ⟨g, o, cur, h1, Mix3.Ty.blk h hT h2, h3⟩)⟩
/-- a whole block of type 59 is stored -/
theorem do_sto3 {cs vs : List Value} {u : Value} {sT : TypeId} {n b : Nat} {J : Nat × Nat} {d : Option Tmp} {x y : Operand} {t : TypeId} {p : String} {a : Array Edge} {g : Option (Nat × Bool)} (hs : ∀ w, (sizeOf sT).run P w = .ok n w) (hx : ev N ρ x = .pointer (some ⟨b, 0, none⟩)) (hy : ev N ρ y = u) (hu : u.cells = vs.toArray) (hn : vs.length = n) (h1 : vs.all (fun u => u.oneCell') = true)
    (B : Blk w b cs 59) (hl : cs.length = n) (hJ : J.1 ≤ b ∧ b < J.2) : Do P N ⟨d, .store sT x y, t, p, a, g⟩ ρ w (fun v w' => Fr (inI J) w w' ∧ Mix3.Ty w w' ∧ v = undef ∧ Blk w' b vs 59) := by
  subst hn
  obtain ⟨w', hr, hB, hf⟩ := run_storeCells_blk (P := P) b 59 vs 0 cs 0 w B (by simp [hl]) (fun u hu => List.all_eq_true.1 h1 u hu)
  refine do_store (w' := w') ⟨fun _ h => (by cases h), ?_⟩ ⟨hf.mono (fun i _ hi => by subst hi; exact hJ), ty_of B hf, rfl, ?_⟩
  · simp [execOp, hx, hy, Instr.storeAt, Instr.sureAddr, storeVar, hs, hu, hr]
  · have := hB; simp only [Nat.add_zero, Nat.zero_add, List.take_zero, List.nil_append] at this
    rwa [← hl, List.drop_length, List.append_nil] at this
end drawn3
end Go.Eng
