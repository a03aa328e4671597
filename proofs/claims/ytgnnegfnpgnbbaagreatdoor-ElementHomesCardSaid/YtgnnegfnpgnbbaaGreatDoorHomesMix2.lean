/- A region whose order is open, second form: what is known of an operation's effect is kept at a key; an operation for which another one waits need not stand it. No program stands here. -/
import Derived.Test.YtgnnegfnpgnbbaaGreatDoorHomesMem
set_option linter.unusedVariables false
set_option linter.unusedSimpArgs false
namespace Go.Mix2
open Go Go.RowKit
open Go.Mix (Facts upd nof Hold upd_same upd_ne upd_comm upd_cases For Cls Does DoesUpon waits waits_listed fine fine_spec early_spec pairs_spec tails_spec Head getD_both' getD_true_of tail_any wpIn_of_does Closed)
inductive Loud where
  | none
  | val (c : Value)
  | any (e : Tmp) (G : Nat × Nat → Value → World → Prop)
section
variable {F : Fence} {P : Program} {ops : Array Oper} {Ef : Nat → World → World → Prop} {Cl : Nat → World → Prop} {Fin : World → Prop} {Sp : Nat → Loud} {T : Act → World → Prop}
structure KeyOk (ops : Array Oper) (Sp : Nat → Loud) : Prop where
  out : ∀ i e G o, Sp i = .any e G → ops[i]? = some o → o.dst = some e ∨ ∀ j oj, ops[j]? = some oj → e ∉ oj.looksAt ops ∧ oj.dst ≠ some e ∧ ∀ G', j ≠ i → Sp j ≠ .any e G'
def Walk (F : Fence) (P : Program) (ops : Array Oper) (Ef : Nat → World → World → Prop) (Cl : Nat → World → Prop) (Fin : World → Prop) (Sp : Nat → Loud) (T : Act → World → Prop) : List Nat → Act → Facts → Prop
  | [], a, Γ => ∀ w, Fin w → Hold Γ w → T a w
  | i :: L, a, Γ =>
    match ops[i]? with
    | none => False
    | some o =>
      if Region.wanted o (yielded ops a.tmps) = true then
        match Sp i with
        | .none => ∃ v, (∀ w, Cls (Cl i) ops o Γ w → Mix.Calm P o a v w) ∧ Walk F P ops Ef Cl Fin Sp T L (a.put o.dst v) Γ
        | .val c => (∀ w, Cls (Cl i) ops o Γ w → Does F P o a w (fun v w' => Ef i w w' ∧ v = c)) ∧ Walk F P ops Ef Cl Fin Sp T L (a.put o.dst c) Γ
        | .any e G => (∀ w, Cls (Cl i) ops o Γ w → Does F P o a w (fun v w' => Ef i w w' ∧ G (w.heap.size, w'.heap.size) v w')) ∧ ∀ I v, Walk F P ops Ef Cl Fin Sp T L (a.put o.dst v) (upd Γ e (I, G I v))
      else Walk F P ops Ef Cl Fin Sp T L (a.put o.dst undef) Γ
def Res (P : Program) (ops : Array Oper) (k : Loud) (o : Oper) (a : Act) (w : World) (v : Value) : Prop :=
  if Region.wanted o (yielded ops a.tmps) = true then
    match k with
    | .none => Mix.Calm P o a v w
    | .val c => v = c
    | .any _ _ => True
  else v = undef
def Owed (F : Fence) (P : Program) (ops : Array Oper) (R : World → World → Prop) (k : Loud) (o : Oper) (a : Act) (w : World) : Prop :=
  if Region.wanted o (yielded ops a.tmps) = true then
    match k with
    | .none => ∃ v, Mix.Calm P o a v w
    | .val c => Does F P o a w (fun v w' => R w w' ∧ v = c)
    | .any _ G => Does F P o a w (fun v w' => R w w' ∧ G (w.heap.size, w'.heap.size) v w')
  else True
def addS (ops : Array Oper) (k : Loud) (o : Oper) (a : Act) (I : Nat × Nat) (v : Value) (Γ : Facts) : Facts :=
  if Region.wanted o (yielded ops a.tmps) = true then
    match k with
    | .any e G => upd Γ e (I, G I v)
    | _ => Γ
  else Γ
theorem addS_upd {k : Loud} {o : Oper} {a : Act} {I : Nat × Nat} {v : Value} {Γ : Facts} {e : Tmp} {f : (Nat × Nat) × (World → Prop)} (hs : ∀ s G, k = .any s G → s ≠ e) :
    addS ops k o a I v (upd Γ e f) = upd (addS ops k o a I v Γ) e f := by
  unfold addS
  split
  · cases k with
    | none => rfl
    | val c => rfl
    | any s G => exact upd_comm (Ne.symm (hs s G rfl))
  · rfl
theorem For.addS {k : Loud} {o o' : Oper} {a : Act} {I : Nat × Nat} {v : Value} {Γ : Facts} {w : World} (hs : ∀ s G, k = .any s G → s ∉ o'.looksAt ops) (h : For ops o' (addS ops k o a I v Γ) w) : For ops o' Γ w := by
  intro d p hp hl
  refine h d p ?_ hl
  unfold Mix2.addS
  split
  · cases k with
    | none => exact hp
    | val c => exact hp
    | any s G => exact (upd_ne (d := s) (k := d) (fun e => hs s G rfl (by subst e; exact hl))).trans hp
  · exact hp
theorem key_apart (hK : KeyOk ops Sp) {i j : Nat} (hij : j ≠ i) {o oj : Oper} (hi : ops[i]? = some o) (hj : ops[j]? = some oj) (hap : oj.apart ops o = true) :
    (∀ e G, Sp i = .any e G → e ∉ oj.looksAt ops) ∧ (∀ e G, Sp j = .any e G → e ∉ o.looksAt ops) ∧ ∀ e G e' G', Sp i = .any e G → Sp j = .any e' G' → e ≠ e' := by
  obtain ⟨g1, g2, g3⟩ := Oper.apart_spec hap
  refine ⟨fun e G hk => ?_, fun e G hk => ?_, fun e G e' G' hk hk' he => ?_⟩
  · rcases hK.out i e G o hk hi with h | h
    · exact g3 e h
    · exact (h j oj hj).1
  · rcases hK.out j e G oj hk hj with h | h
    · exact g1 e h
    · exact (h i o hi).1
  · subst he
    rcases hK.out i e G o hk hi with h | h
    · rcases hK.out j e G' oj hk' hj with h' | h'
      · exact g2 e h' h
      · exact (h' i o hi).2.1 h
    · exact (h j oj hj).2.2 G' hij hk'
theorem extract {i : Nat} {o : Oper} (hK : KeyOk ops Sp) (hi : ops[i]? = some o) (hsel : ∀ (j : Nat) (o : Oper) cs b, ops[j]? = some o → o.op ≠ .select cs b) (post : List Nat) :
    ∀ (pre : List Nat) (a : Act) (Γ : Facts), Walk F P ops Ef Cl Fin Sp T (pre ++ i :: post) a Γ →
      (∀ j ∈ pre, j ≠ i) → (∀ j ∈ pre, ∀ oj, ops[j]? = some oj → oj.apart ops o = true) → ∀ w, Cl i w → For ops o Γ w →
      Owed F P ops (Ef i) (Sp i) o a w ∧ ∀ I v, Res P ops (Sp i) o a w v → Walk F P ops Ef Cl Fin Sp T (pre ++ post) (a.put o.dst v) (addS ops (Sp i) o a I v Γ)
  | [], a, Γ, h, _, _, w, hR, hf => by
    simp only [List.nil_append] at h ⊢
    unfold Walk at h
    simp only [hi] at h
    unfold Owed Res addS
    split at h
    · rename_i hw
      simp only [hw, if_true]
      cases hk : Sp i with
      | none =>
        simp only [hk] at h
        obtain ⟨v, h1, h2⟩ := h
        refine ⟨⟨v, h1 w ⟨hR, hf⟩⟩, fun I u hu => ?_⟩
        have e : u = v := by
          have h3 := (h1 w ⟨hR, hf⟩).2
          have h4 := hu.2
          rw [h3] at h4
          injection h4 with h5
          injection h5 with h6
          exact h6.symm
        rw [e]; exact h2
      | val c =>
        simp only [hk] at h
        exact ⟨h.1 w ⟨hR, hf⟩, fun I u hu => by rw [hu]; exact h.2⟩
      | any e G =>
        simp only [hk] at h
        exact ⟨h.1 w ⟨hR, hf⟩, fun I u _ => h.2 I u⟩
    · rename_i hw
      simp only [hw, if_false, Bool.false_eq_true]
      exact ⟨trivial, fun I u hu => by rw [hu]; exact h⟩
  | j :: pre, a, Γ, h, hne, hap, w, hR, hf => by
    simp only [List.cons_append] at h ⊢
    unfold Walk at h
    cases hj : ops[j]? with
    | none => simp only [hj] at h
    | some oj =>
      simp only [hj] at h
      obtain ⟨g1, g2, g3⟩ := Oper.apart_spec (hap j (List.mem_cons_self ..) oj hj)
      obtain ⟨k1, k2, k3⟩ := key_apart hK (hne j (List.mem_cons_self ..)) hi hj (hap j (List.mem_cons_self ..) oj hj)
      have hsi := fun cs b => hsel i o cs b hi
      have hsj := fun cs b => hsel j oj cs b hj
      have hap' : ∀ k ∈ pre, ∀ ok, ops[k]? = some ok → ok.apart ops o = true := fun k hk => hap k (List.mem_cons_of_mem _ hk)
      have hne' : ∀ k ∈ pre, k ≠ i := fun k hk => hne k (List.mem_cons_of_mem _ hk)
      have back : ∀ (u : Value), Owed F P ops (Ef i) (Sp i) o (a.put oj.dst u) w → Owed F P ops (Ef i) (Sp i) o a w := fun u h => by
        unfold Owed at *
        rw [wanted_put o a oj.dst u g1] at h
        split
        · rename_i hw
          rw [if_pos hw] at h
          cases hk : Sp i with
          | none => simp only [hk] at h ⊢; obtain ⟨v, hv⟩ := h; exact ⟨v, (Mix.Calm.put hsi g1).1 hv⟩
          | val c => simp only [hk] at h ⊢; exact (Mix.Does.put hsi g1).1 h
          | any e G => simp only [hk] at h ⊢; exact (Mix.Does.put hsi g1).1 h
        · trivial
      have forth : ∀ (u v : Value), Res P ops (Sp i) o a w v → Res P ops (Sp i) o (a.put oj.dst u) w v := fun u v h => by
        unfold Res at *
        rw [wanted_put o a oj.dst u g1]
        split
        · rename_i hw
          rw [if_pos hw] at h
          cases hk : Sp i with
          | none => simp only [hk] at h ⊢; exact (Mix.Calm.put hsi g1).2 h
          | val c => simp only [hk] at h ⊢; exact h
          | any e G => trivial
        · rename_i hw
          rw [if_neg hw] at h
          exact h
      have same : ∀ (u : Value) (I : Nat × Nat) (v : Value) (Γ : Facts), addS ops (Sp i) o (a.put oj.dst u) I v Γ = addS ops (Sp i) o a I v Γ := fun u I v Γ => by
        unfold addS
        rw [wanted_put o a oj.dst u g1]
      have hsub : ∀ (I : Nat × Nat) (v : Value) {w' : World}, For ops oj (addS ops (Sp i) o a I v Γ) w' → For ops oj Γ w' := fun I v w' h => For.addS k1 h
      have comm : ∀ (u v : Value), (a.put oj.dst u).put o.dst v = (a.put o.dst v).put oj.dst u := fun u v => Act.put_comm a u v g2
      split at h
      · rename_i hw
        have hw' : ∀ v, Region.wanted oj (yielded ops (a.put o.dst v).tmps) = true := fun v => by rw [wanted_put oj a o.dst v g3]; exact hw
        cases hk : Sp j with
        | none =>
          simp only [hk] at h
          obtain ⟨u, h1, h2⟩ := h
          obtain ⟨e1, e2⟩ := extract hK hi hsel post pre _ Γ h2 hne' hap' w hR hf
          refine ⟨back u e1, fun I v hv => ?_⟩
          have h3 := e2 I v (forth u v hv)
          rw [comm, same] at h3
          unfold Walk
          simp only [hj, hw', if_true, hk]
          exact ⟨u, fun w' hc => (Mix.Calm.put hsj g3).2 (h1 w' ⟨hc.1, hsub I v hc.2⟩), h3⟩
        | val c =>
          simp only [hk] at h
          obtain ⟨h1, h2⟩ := h
          obtain ⟨e1, e2⟩ := extract hK hi hsel post pre _ Γ h2 hne' hap' w hR hf
          refine ⟨back c e1, fun I v hv => ?_⟩
          have h3 := e2 I v (forth c v hv)
          rw [comm, same] at h3
          unfold Walk
          simp only [hj, hw', if_true, hk]
          exact ⟨fun w' hc => (Mix.Does.put hsj g3).2 (h1 w' ⟨hc.1, hsub I v hc.2⟩), h3⟩
        | any e G =>
          simp only [hk] at h
          obtain ⟨h1, h2⟩ := h
          have hf' : ∀ J u, For ops o (upd Γ e (J, G J u)) w := fun J u => (Mix.For.put (k2 e G hk)).2 hf
          refine ⟨back undef (extract hK hi hsel post pre _ _ (h2 (0, 0) undef) hne' hap' w hR (hf' (0, 0) undef)).1, fun I v hv => ?_⟩
          unfold Walk
          simp only [hj, hw', if_true, hk]
          refine ⟨fun w' hc => (Mix.Does.put hsj g3).2 (h1 w' ⟨hc.1, hsub I v hc.2⟩), fun J u => ?_⟩
          have h3 := (extract hK hi hsel post pre _ _ (h2 J u) hne' hap' w hR (hf' J u)).2 I v (forth u v hv)
          rw [comm, same, addS_upd (fun s G' hs => k3 s G' e G hs hk)] at h3
          exact h3
      · rename_i hw
        have hw' : ∀ v, ¬ Region.wanted oj (yielded ops (a.put o.dst v).tmps) = true := fun v => by rw [wanted_put oj a o.dst v g3]; exact hw
        obtain ⟨e1, e2⟩ := extract hK hi hsel post pre _ Γ h hne' hap' w hR hf
        refine ⟨back undef e1, fun I v hv => ?_⟩
        have h3 := e2 I v (forth undef v hv)
        rw [comm, same] at h3
        unfold Walk
        simp only [hj, hw', if_false]
        exact h3
theorem head_any {m : Nat} {Q : Exit → Act → World → Prop} (hF : ∀ f, F.fn f) (hd : F.depth = none) (hfine : fine ops m = true) (hK : KeyOk ops Sp)
    (hcl : ∀ i j w w', i ≠ j → waits ops j i = false → Cl i w → Ef j w w' → Cl i w') (hfin : ∀ j w w', Fin w → Ef j w w' → Fin w')
    (hst : ∀ k e G, Sp k = .any e G → ∀ j, k ≠ j → waits ops k j = false → ∀ I v w w', Ef j w w' → G I v w → G I v w') :
    ∀ (n : Nat) (L : List Nat), L.length = n → ∀ (listed : Array Bool) (a : Act) (Γ : Facts) (w : World), Head ops m listed L →
      Walk F P ops Ef Cl Fin Sp (fun a' w' => wpOpsIn F 0 P ops Q (List.range' m (ops.size - m)) a' w') L a Γ → (∀ i ∈ L, Cl i w) → Fin w → Hold Γ w →
      (∀ d p, Γ d = some p → ∀ j ∈ L, ∀ w w', Ef j w w' → p.2 w → p.2 w') →
      ∀ fuel, n + (ops.size - m) ≤ fuel → wpAnyIn F 0 P .any ops Q fuel listed a w := by
  obtain ⟨f1, f2, f3, f4, f5⟩ := fine_spec hfine
  intro n
  induction n with
  | zero =>
    intro L hL listed a Γ w hh hw _ hR hΓ _ fuel hf
    obtain rfl : L = [] := List.eq_nil_of_length_eq_zero hL
    unfold Walk at hw
    refine tail_any f4 f2 (ops.size - m) m listed a w (Nat.le_refl _) (by omega) hh.size hh.closed (fun i hi => ?_) hh.tail (hw w hR hΓ) fuel (by omega)
    refine getD_true_of (by rw [hh.size]; omega) (fun h0 => ?_)
    have := (hh.mem i).2 ⟨hi, h0⟩
    cases this
  | succ n ih =>
    intro L hL listed a Γ w hh hw hC hR hΓ hΓs fuel hf
    obtain ⟨fuel, rfl⟩ : ∃ g, fuel = g + 1 := ⟨fuel - 1, by omega⟩
    cases L with
    | nil => simp at hL
    | cons i0 L0 =>
    have hi0 := (hh.mem i0).1 (by simp)
    have hget : ops[i0]? = some ops[i0] := Array.getElem?_eq_getElem (by omega)
    have hlo : ∀ j, j < i0 → listed.getD j false = true := fun j hj => by
      refine getD_true_of (by rw [hh.size]; omega) (fun h0 => ?_)
      have h1 := (hh.mem j).2 ⟨by omega, h0⟩
      rcases List.mem_cons.1 h1 with h2 | h2
      · omega
      · have := (List.pairwise_cons.1 hh.sorted).1 j h2; omega
    have hr0 : i0 ∈ Region.ready .any ops listed := mem_ready.2 ⟨hi0.2, _, hget, fun e he hb => hlo _ (early_spec f2 hget he hb)⟩
    refine ⟨fun h0 => (by rw [h0] at hr0; cases hr0), fun i hi => ?_⟩
    obtain ⟨h1, oi, hoi, hall⟩ := mem_ready.1 hi
    have hlt := (Array.getElem?_eq_some_iff.1 hoi).1
    have him : i < m := by
      rcases Nat.lt_or_ge i m with h2 | h2
      · exact h2
      · have h3 := waits_listed hh.closed i i0 oi hoi hall (tails_spec f4 h2 hlt (by omega))
        rw [getD_both' hi0.2] at h3; cases h3
    obtain ⟨pre, post, hsplit⟩ := List.append_of_mem ((hh.mem i).2 ⟨him, h1⟩)
    have hmemL : ∀ k, k ∈ pre ++ i :: post → k < m ∧ listed.getD k true = false := fun k hk => (hh.mem k).1 (hsplit ▸ hk)
    rw [hsplit] at hh hw hL hC hΓs
    have hsub : ∀ k ∈ pre ++ post, k ∈ pre ++ i :: post := fun k hk => by rcases List.mem_append.1 hk with h | h <;> simp [h]
    have hΓs' : ∀ d p, Γ d = some p → ∀ j ∈ pre ++ post, ∀ w w', Ef j w w' → p.2 w → p.2 w' := fun d p hp j hj => hΓs d p hp j (hsub j hj)
    have hCi : Cl i w := hC i (by simp)
    have hCo : ∀ k ∈ pre ++ post, Cl k w := fun k hk => hC k (hsub k hk)
    have hne : ∀ k ∈ pre ++ post, k ≠ i := fun k hk e => by
      subst e
      have hp := List.pairwise_append.1 hh.sorted
      rcases List.mem_append.1 hk with h | h
      · have := hp.2.2 k h k (by simp); omega
      · have := (List.pairwise_cons.1 hp.2.1).1 k h; omega
    have hnw : ∀ k ∈ pre ++ post, waits ops i k = false := fun k hk => by
      cases hw2 : waits ops i k with
      | false => rfl
      | true =>
        have h3 := waits_listed hh.closed i k oi hoi hall hw2
        rw [getD_both' (hmemL k (hsub k hk)).2] at h3; cases h3
    have hpre : ∀ j ∈ pre, ∀ oj, ops[j]? = some oj → oj.apart ops oi = true := fun j hj oj hoj => by
      have hji : j < i := (List.pairwise_append.1 hh.sorted).2.2 j hj i (by simp)
      rcases pairs_spec f3 him hji hoj hoi with h2 | h2
      · exact h2
      · rw [hnw j (List.mem_append.2 (.inl hj))] at h2; cases h2
    obtain ⟨howed, hnext⟩ := extract hK hoi (Region.noSelect_spec f1) post pre a Γ hw (fun j hj => hne j (List.mem_append.2 (.inl hj))) hpre w hCi (fun d p hp _ => hΓ d p hp)
    have hh' := hh.set hi
    have hlen : (pre ++ post).length = n := by simp at hL ⊢; omega
    have hCl : ∀ w', Ef i w w' → ∀ k ∈ pre ++ post, Cl k w' := fun w' hE k hk => hcl k i _ _ (hne k hk) (hnw k hk) (hCo k hk) hE
    unfold wpOpIn
    simp only [hoi]
    unfold Owed at howed
    split
    · rename_i hwant
      rw [if_pos hwant] at howed
      cases hk : Sp i with
      | none =>
        simp only [hk] at howed
        obtain ⟨v, hv⟩ := howed
        refine wpIn_of_does hF hd hv.does ?_
        rintro u w' ⟨rfl, rfl⟩
        have h2 := hnext (0, 0) u (by unfold Res; rw [if_pos hwant, hk]; exact hv)
        unfold addS at h2
        rw [if_pos hwant, hk] at h2
        exact ih _ hlen _ _ Γ w' hh' h2 hCo hR hΓ hΓs' fuel (by omega)
      | val c =>
        simp only [hk] at howed
        refine wpIn_of_does hF hd howed ?_
        rintro u w' ⟨hRw, rfl⟩
        have h2 := hnext (0, 0) u (by unfold Res; rw [if_pos hwant, hk])
        unfold addS at h2
        rw [if_pos hwant, hk] at h2
        exact ih _ hlen _ _ Γ w' hh' h2 (hCl w' hRw) (hfin i _ _ hR hRw) (fun d p hp => hΓs d p hp i (by simp) _ _ hRw (hΓ d p hp)) hΓs' fuel (by omega)
      | any e G =>
        simp only [hk] at howed
        refine wpIn_of_does hF hd howed ?_
        rintro u w' ⟨hRw, hG⟩
        have h2 := hnext (w.heap.size, w'.heap.size) u (by unfold Res; rw [if_pos hwant, hk]; trivial)
        unfold addS at h2
        rw [if_pos hwant, hk] at h2
        refine ih _ hlen _ _ _ w' hh' h2 (hCl w' hRw) (hfin i _ _ hR hRw) (fun d p hp => ?_) (fun d p hp => ?_) fuel (by omega)
        · rcases upd_cases hp with ⟨_, hp⟩ | ⟨_, hp⟩
          · rw [hp]; exact hG
          · exact hΓs d p hp i (by simp) _ _ hRw (hΓ d p hp)
        · rcases upd_cases hp with ⟨_, hp⟩ | ⟨_, hp⟩
          · rw [hp]; exact fun j hj w w' => hst i e G hk j (fun e => hne j hj e.symm) (hnw j hj) _ u w w'
          · exact hΓs' d p hp
    · rename_i hwant
      refine ⟨fun f _ => hF f, ?_⟩
      have h2 := hnext (0, 0) undef (by unfold Res; rw [if_neg hwant])
      unfold addS at h2
      rw [if_neg hwant] at h2
      exact ih _ hlen _ _ Γ w hh' h2 hCo hR hΓ hΓs' fuel (by omega)
theorem wpIn_region_mix {id m : Nat} {Q : Exit → Act → World → Prop} {a : Act} {w : World} (hm : P.follows .mixedOrders = true) (hF : ∀ f, F.fn f) (hd : F.depth = none) (hfine : fine ops m = true) (hK : KeyOk ops Sp)
    (hcl0 : ∀ i, Cl i { w with drawn := w.drawn + 1 }) (hfin0 : Fin { w with drawn := w.drawn + 1 })
    (hcl : ∀ i j w w', i ≠ j → waits ops j i = false → Cl i w → Ef j w w' → Cl i w') (hfin : ∀ j w w', Fin w → Ef j w w' → Fin w')
    (hst : ∀ k e G, Sp k = .any e G → ∀ j, k ≠ j → waits ops k j = false → ∀ I v w w', Ef j w w' → G I v w → G I v w')
    (h : Walk F P ops Ef Cl Fin Sp (fun a' w' => wpOpsIn F 0 P ops Q (List.range' m (ops.size - m)) a' w') (List.range m) a nof) : (Code.region id ops true).wpIn F 0 P Q a w := by
  have h5 := (fine_spec hfine).2.2.2.2
  refine wpIn_region_any hm (head_any hF hd hfine hK hcl hfin hst m (List.range m) (by simp) _ a nof _ ⟨by simp, ?_, fun i => ?_, List.pairwise_lt_range, fun t _ hts => by simp [hts]⟩ h (fun i _ => hcl0 i) hfin0 (fun d p hp => by cases hp) (fun d p hp => by cases hp) _ (by omega))
  · intro i o ho hl
    rw [getD_replicate_false2] at hl; cases hl
  · rw [List.mem_range]
    constructor
    · intro hi; exact ⟨hi, by simp [show i < ops.size by omega]⟩
    · exact fun h => h.1
where
  getD_replicate_false2 : ∀ {m j : Nat}, (Array.replicate m false).getD j false = false := by
    intro m j
    rcases Nat.lt_or_ge j m with h | h
    · simp [h]
    · simp [h]
end
end Go.Mix2
namespace Go.Eng
open Go Go.RowKit Go.Mix
section
variable {r : Option Nat} {P : Program} {N : Nat} {ρ : Nat → Value} {w w1 : World} {ds : List Deferred} {lo rest : List Oper} {K : (Nat → Value) → World → Prop} {o : Oper} {v : Value} {C : Cont}
structure MW (r : Option Nat) (P : Program) (N : Nat) (ds : List Deferred) (lo : List Oper) (Ef : Nat → World → World → Prop) (Cl : Nat → World → Prop) (Fin : World → Prop) (Sp : Nat → Mix2.Loud) (K : (Nat → Value) → World → Prop) (tl : List Oper)
    (k : Nat) (l : List Oper) (ρ : Nat → Value) (Γ : Facts) : Prop where
  out : (∀ j, j < l.length → lo[k + j]? = l[j]?) →
    Mix2.Walk (FR r) P lo.toArray Ef Cl Fin Sp (fun a w => wpListIn (FR r) 0 P lo.toArray (fun e a w => e = .normal ∧ ∃ ρ, a = mk N ρ ds ∧ K ρ w) tl a w) (List.range' k l.length) (mk N ρ ds) Γ
variable {Ef : Nat → World → World → Prop} {Cl : Nat → World → Prop} {Fin : World → Prop} {Sp : Nat → Mix2.Loud} {tl : List Oper} {k : Nat} {Γ : Facts}
theorem mw_nil (h : ∀ w, Fin w → Hold Γ w → LX r P N ds lo K tl ρ w) : MW r P N ds lo Ef Cl Fin Sp K tl k [] ρ Γ :=
  ⟨fun _ => by simp only [List.length_nil, List.range'_zero]; exact fun w hw hf => (h w hw hf).out⟩
theorem mw_calm (hs : Sp k = .none) (hw : Want N lo o ρ true) (h : ∀ w, Cl k w → For lo.toArray o Γ w → Rn P N o ρ w v w) (g : MW r P N ds lo Ef Cl Fin Sp K tl (k + 1) rest (up ρ o.dst v) Γ) : MW r P N ds lo Ef Cl Fin Sp K tl k (o :: rest) ρ Γ :=
  ⟨fun hl => by
    obtain ⟨h1, h2⟩ := mx_open hl
    rw [List.length_cons, List.range'_succ]
    unfold Mix2.Walk
    simp only [h1, hw.out ds, if_true, hs]
    refine ⟨v, fun w hc => ?_, by rw [mk_put]; exact g.out h2⟩
    have h3 := h w hc.1 hc.2
    exact ⟨h3.nd, by rw [mk_eval]; exact h3.run⟩⟩
theorem mw_any {G : Nat × Nat → Value → World → Prop} {d : Tmp} (hs : Sp k = .any d G) (hd : o.dst = some d) (hw : Want N lo o ρ true) (h : ∀ w, Cl k w → For lo.toArray o Γ w → Do P N o ρ w (fun v w' => Ef k w w' ∧ G (w.heap.size, w'.heap.size) v w'))
    (g : ∀ I v, MW r P N ds lo Ef Cl Fin Sp K tl (k + 1) rest (up ρ o.dst v) (upd Γ d (I, G I v))) : MW r P N ds lo Ef Cl Fin Sp K tl k (o :: rest) ρ Γ :=
  ⟨fun hl => by
    obtain ⟨h1, h2⟩ := mx_open hl
    rw [List.length_cons, List.range'_succ]
    unfold Mix2.Walk
    simp only [h1, hw.out ds, if_true, hs]
    exact ⟨fun w hc => (h w hc.1 hc.2).out r ds, fun I v => by rw [mk_put]; exact (g I v).out h2⟩⟩
/-- an operation that yields nothing; its effect is kept at the key e -/
theorem mw_eff {G : Nat × Nat → Value → World → Prop} {e : Tmp} (hs : Sp k = .any e G) (hw : Want N lo o ρ true) (h : ∀ w, Cl k w → For lo.toArray o Γ w → Do P N o ρ w (fun v w' => Ef k w w' ∧ G (w.heap.size, w'.heap.size) v w'))
    (g : ∀ I v, MW r P N ds lo Ef Cl Fin Sp K tl (k + 1) rest (up ρ o.dst v) (upd Γ e (I, G I v))) : MW r P N ds lo Ef Cl Fin Sp K tl k (o :: rest) ρ Γ :=
  ⟨fun hl => by
    obtain ⟨h1, h2⟩ := mx_open hl
    rw [List.length_cons, List.range'_succ]
    unfold Mix2.Walk
    simp only [h1, hw.out ds, if_true, hs]
    exact ⟨fun w hc => (h w hc.1 hc.2).out r ds, fun I v => by rw [mk_put]; exact (g I v).out h2⟩⟩
theorem wk_mixW {id : Nat} {l : List Oper} (m : Nat) (Sf : Nat → Nat → Prop) (Xf : Nat → World → World → Prop) (Cf : Nat → Nat → Prop) (Uf : Nat → Prop) (Sp : Nat → Mix2.Loud) (hm : P.follows .mixedOrders = true) (hf : fine l.toArray m = true) (hK : Mix2.KeyOk l.toArray Sp)
    (hC : ∀ i j, i ≠ j → waits l.toArray j i = false → ∀ k, Sf j k → Cf i k) (hU : ∀ j k, Sf j k → Uf k)
    (hst : ∀ k e G, Sp k = .any e G → ∀ j, k ≠ j → waits l.toArray k j = false → ∀ I v w w', Fr (Sf j) w w' → Xf j w w' → G I v w → G I v w')
    (h : MW r P N ds l (fun j w w' => Fr (Sf j) w w' ∧ Xf j w w') (fun i w' => Fr (Cf i) { w with drawn := w.drawn + 1 } w') (Fr Uf { w with drawn := w.drawn + 1 }) Sp (fun ρ w => C .normal ds ρ w) (l.drop m) 0 (l.take m) ρ nof) : WK r P N (.region id l.toArray true) C ds ρ w := by
  have h5 : m ≤ l.length := by have := (fine_spec hf).2.2.2.2; simpa using this
  refine ⟨wpIn_mono (Mix2.wpIn_region_mix (Ef := fun j w w' => Fr (Sf j) w w' ∧ Xf j w w') (Cl := fun i w' => Fr (Cf i) { w with drawn := w.drawn + 1 } w') (Fin := Fr Uf { w with drawn := w.drawn + 1 }) (Sp := Sp) (m := m) (Q := fun e a w => e = .normal ∧ ∃ ρ, a = mk N ρ ds ∧ C .normal ds ρ w) hm (fun _ => trivial) rfl hf hK
      (fun _ => Fr.refl _ _) (Fr.refl _ _) (fun i j w w' hij hw h k => h.trans k.1 (fun x _ hx => hC i j hij hw x hx)) (fun j w w' h k => h.trans k.1 (fun x _ hx => hU j x hx)) (fun k e G hk j hkj hw I v w w' hE hG => hst k e G hk j hkj hw I v w w' hE.1 hE.2 hG) ?_)
    fun e a w ⟨h1, ρ, ha, hk⟩ => by subst h1; exact ⟨fun _ e => (by cases e), fun e => (by cases e), ρ, ds, ha, hk⟩⟩
  have h6 := h.out (fun j hj => by
    simp only [List.length_take] at hj
    rw [Nat.zero_add, List.getElem?_take_of_lt (by omega)])
  have e1 : (l.take m).length = m := by simp [h5]
  rw [e1, ← List.range_eq_range'] at h6
  have e2 : wpOpsIn (FR r) 0 P l.toArray (fun e a w => e = .normal ∧ ∃ ρ, a = mk N ρ ds ∧ C .normal ds ρ w) (List.range' m (l.toArray.size - m)) =
      wpListIn (FR r) 0 P l.toArray (fun e a w => e = .normal ∧ ∃ ρ, a = mk N ρ ds ∧ C .normal ds ρ w) (l.drop m) := by
    have := wpOpsIn_eq_wpListIn (F := FR r) (n := 0) (P := P) (ops := l.toArray) (Q := fun e a w => e = .normal ∧ ∃ ρ, a = mk N ρ ds ∧ C .normal ds ρ w) (l.drop m) m (fun j => by simp)
    simpa using this
  simp only [e2]
  exact h6
/-- a key that no operation names -/
theorem ghost_ok {ops : Array Oper} {e : Tmp} (h : (ops.toList.all fun o => !(o.looksAt ops).contains e && decide (o.dst ≠ some e)) = true) : ∀ (j : Nat) (oj : Oper), ops[j]? = some oj → e ∉ oj.looksAt ops ∧ oj.dst ≠ some e := fun j oj hj => by
  have hm : oj ∈ ops.toList := by rw [Array.mem_toList_iff]; exact Array.mem_of_getElem? hj
  have := List.all_eq_true.1 h oj hm
  simp only [Bool.and_eq_true, decide_eq_true_eq] at this
  refine ⟨?_, this.2⟩
  have h1 := this.1
  simpa using h1
end
end Go.Eng
