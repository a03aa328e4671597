/- Tables whose elements are two slices of our own each. No program stands here. -/
import Derived.Test.YtgnnegfnpgnbbaaGreatDoorHomesMapV
import Derived.Test.YtgnnegfnpgnbbaaGreatDoorHomesTab
set_option linter.unusedVariables false
set_option linter.unusedSimpArgs false
namespace Go.Eng
open Go Go.RowKit Go.Mix
section
variable {w w' : World} {e : TypeId} {size n cap : Nat} {s : Option Addr} {xs : List Value}
variable {P : Program} {N : Nat} {ρ : Nat → Value} {d : Option Tmp} {t : TypeId} {p : String} {a : Array Edge} {g : Option (Nat × Bool)} {r : Option Nat} {ds : List Deferred} {lo rest : List Oper} {K : (Nat → Value) → World → Prop} {x y : Operand}
/-- some cells of a slice of our own are stored -/
theorem lx_owncell {sT : TypeId} {u : Value} {us : List Value} {j b o nc : Nat} (hw : Want N lo ⟨d, .store sT x y, t, p, a, g⟩ ρ true)
    (hs : ∀ w, (sizeOf sT).run P w = .ok nc w) (hx : ev N ρ x = .pointer (some ⟨b, o + j, none⟩)) (hy : ev N ρ y = u) (hu : u.cells = us.toArray) (hl : us.length = nc) (h1 : us.all (fun u => u.oneCell') = true)
    (hown : OwnS w e size (some ⟨b, o, none⟩) n cap xs) (hi : j + nc ≤ n * size)
    (k : ∀ w', Fr (· = b) w w' → OwnS w' e size (some ⟨b, o, none⟩) n cap (xs.take j ++ us ++ xs.drop (j + nc)) → LX r P N ds lo K rest (up ρ d undef) w') :
    LX r P N ds lo K (⟨d, .store sT x y, t, p, a, g⟩ :: rest) ρ w := by
  obtain ⟨hlen, h⟩ := hown
  rcases h with ⟨h, _⟩ | ⟨g', o', cur, he, hB, hnc, hcm, hcl, htk⟩
  · cases h
  · injection he with he
    injection he with e1 e2
    subst e1; subst e2
    have hi2 : n * size ≤ cap * size := Nat.mul_le_mul_right _ hnc
    refine lx_set (T' := e) hw hs hx hy hu hl h1 hB (by omega) fun w' E B => k w' E ⟨?_, .inr ⟨b, o, _, rfl, B, hnc, hcm, ?_, ?_⟩⟩
    · simp only [List.length_append, List.length_take, List.length_drop, hl]; omega
    · simp only [List.length_append, List.length_take, List.length_drop]; omega
    · have hto : (cur.take (o + j)).drop o = xs.take j := by
        rw [List.drop_take, Nat.add_sub_cancel_left, ← htk, List.take_take, Nat.min_eq_left (by omega)]
      rw [List.append_assoc, List.drop_append_of_le_length (by rw [List.length_take]; omega), hto, ← List.append_assoc, List.take_append, List.length_append, List.length_take, Nat.min_eq_left (by omega), hl]
      rw [List.take_of_length_le (by rw [List.length_append, List.length_take, hl]; omega)]
      congr 1
      rw [← htk, List.drop_take, List.drop_drop]
      congr 1 <;> first | omega | (congr 1; omega)
end
section
variable {P : Program} {N : Nat} {ρ : Nat → Value} {w w' : World} {d : Option Tmp} {t : TypeId} {p : String} {a : Array Edge} {g : Option (Nat × Bool)}
variable {x y : Operand} {T e ty : TypeId} {size m cx bytes : Nat} {s sx : Option Addr} {news z : List Value}
end
/-- a structure of a table: two lists -/
abbrev SE (α β : Type) := TE α × TE β
def SE.vs {α β : Type} (e : SE α β) : List Value := [TE.v e.1, TE.v e.2]
def eb {α β : Type} (e : SE α β) (k : Nat) : Prop := ob e.1.1 k ∨ ob e.2.1 k
/-- a structure that is read, in two cells -/
def CC {α β : Type} (F : Nat → Prop) (szA : Nat) (CA : World → Nat → Nat → α → Prop) (szB : Nat) (CB : World → Nat → Nat → β → Prop) : World → Nat → Nat → List α × List β → Prop := fun w b off x =>
  ∃ s c s' c', w.cell? ⟨b, off, none⟩ = some (.slice s x.1.length c) ∧ w.cell? ⟨b, off + 1, none⟩ = some (.slice s' x.2.length c') ∧ Sl F w s szA x.1 CA ∧ Sl F w s' szB x.2 CB
theorem CC.stab {α β : Type} {F : Nat → Prop} {szA szB : Nat} {CA : World → Nat → Nat → α → Prop} {CB : World → Nat → Nat → β → Prop} (hA : Stab F CA) (hB : Stab F CB) : Stab F (CC F szA CA szB CB) := fun S w w' b off x hf hS hF ⟨s, c, s', c', h1, h2, h3, h4⟩ =>
  ⟨s, c, s', c', hf.cell (p := ⟨b, _, none⟩) (hS b hF) h1, hf.cell (p := ⟨b, _, none⟩) (hS b hF) h2, h3.fr hA hf hS, h4.fr hB hf hS⟩
structure MTab {α β : Type} (w : World) (eO eA : TypeId) (szA : Nat) (cA : α → List Value) (eB : TypeId) (szB : Nat) (cB : β → List Value) (s : Option Addr) (cap : Nat) (T : List (SE α β)) : Prop where
  out : OwnS w eO 2 s T.length cap (T.flatMap SE.vs)
  ownA : ∀ (i : Nat) (e : SE α β), T[i]? = some e → OwnS w eA szA e.1.1 e.1.2.2.length e.1.2.1 (e.1.2.2.flatMap cA)
  ownB : ∀ (i : Nat) (e : SE α β), T[i]? = some e → OwnS w eB szB e.2.1 e.2.2.2.length e.2.2.1 (e.2.2.2.flatMap cB)
  sep : ∀ (i : Nat) (e : SE α β), T[i]? = some e → ∀ k, eb e k → ¬ ob s k
  sepAB : ∀ (i : Nat) (e : SE α β), T[i]? = some e → ∀ k, ob e.1.1 k → ¬ ob e.2.1 k
  apart : ∀ (i j : Nat) (e f : SE α β), T[i]? = some e → T[j]? = some f → i ≠ j → ∀ k, eb e k → ¬ eb f k
/-- its blocks -/
def mtb {α β : Type} (s : Option Addr) (T : List (SE α β)) (k : Nat) : Prop := ob s k ∨ ∃ (i : Nat) (e : SE α β), T[i]? = some e ∧ eb e k
section
variable {α β : Type} {w w1 w2 w' : World} {eO eA eB : TypeId} {szA szB cap : Nat} {cA : α → List Value} {cB : β → List Value} {s : Option Addr} {T : List (SE α β)} {e : SE α β} {i : Nat}
theorem MTab.nil (w : World) (eO eA : TypeId) (szA : Nat) (cA : α → List Value) (eB : TypeId) (szB : Nat) (cB : β → List Value) : MTab w eO eA szA cA eB szB cB none 0 ([] : List (SE α β)) :=
  ⟨OwnS.nil _ _ _, fun i e h => by simp at h, fun i e h => by simp at h, fun i e h => by simp at h, fun i e h => by simp at h, fun i j e f h => by simp at h⟩
theorem MTab.fr (h : MTab w eO eA szA cA eB szB cB s cap T) {S : Nat → Prop} (hf : Fr S w w') (hS : ∀ k, mtb s T k → ¬ S k) : MTab w' eO eA szA cA eB szB cB s cap T :=
  ⟨h.out.fr hf (fun k hk => hS k (.inl hk)), fun i e he => (h.ownA i e he).fr hf (fun k hk => hS k (.inr ⟨i, e, he, .inl hk⟩)), fun i e he => (h.ownB i e he).fr hf (fun k hk => hS k (.inr ⟨i, e, he, .inr hk⟩)), h.sep, h.sepAB, h.apart⟩
theorem MTab.ext (h : MTab w eO eA szA cA eB szB cB s cap T) (hf : Ext w w') : MTab w' eO eA szA cA eB szB cB s cap T := h.fr hf (fun _ _ hn => hn)
theorem MTab.lt (h : MTab w eO eA szA cA eB szB cB s cap T) {k : Nat} (hk : mtb s T k) : k < w.heap.size := by
  rcases hk with hk | ⟨i, e, he, hk | hk⟩
  · exact h.out.lt hk
  · exact (h.ownA i e he).lt hk
  · exact (h.ownB i e he).lt hk
/-- a structure more, at the end -/
theorem MTab.snoc {s' : Option Addr} {cap' : Nat} (h : MTab w1 eO eA szA cA eB szB cB s cap T) (hA : OwnS w1 eA szA e.1.1 e.1.2.2.length e.1.2.1 (e.1.2.2.flatMap cA)) (hB : OwnS w1 eB szB e.2.1 e.2.2.2.length e.2.2.1 (e.2.2.2.flatMap cB))
    (hAB : ∀ k, ob e.1.1 k → ¬ ob e.2.1 k) (hn : ∀ k, eb e k → ¬ mtb s T k) (ha : Apd w1 eO 2 s (T.length + 1) (T.flatMap SE.vs ++ SE.vs e) s' cap' w') :
    MTab w' eO eA szA cA eB szB cB s' cap' (T ++ [e]) ∧ ∀ k, mtb s' (T ++ [e]) k → (mtb s T k ∨ eb e k ∨ w1.heap.size ≤ k) := by
  have key : ∀ {i f}, (T ++ [e])[i]? = some f → (T[i]? = some f) ∨ (i = T.length ∧ f = e) := fun {i f} hf => by
    rcases Nat.lt_or_ge i T.length with h1 | h1
    · rw [List.getElem?_append_left h1] at hf; exact .inl hf
    · rw [List.getElem?_append_right h1] at hf
      rcases Nat.eq_zero_or_pos (i - T.length) with h2 | h2
      · rw [h2] at hf; simp at hf; exact .inr ⟨by omega, hf.symm⟩
      · rw [List.getElem?_eq_none (by simp; omega)] at hf; cases hf
  have hsn : ∀ k, eb e k → ¬ ob s k := fun k hk hs => hn k hk (.inl hs)
  refine ⟨⟨?_, ?_, ?_, ?_, ?_, ?_⟩, ?_⟩
  · have := ha.own
    rw [List.length_append, List.flatMap_append]
    simpa using this
  · intro i f hf
    rcases key hf with hf | ⟨_, rfl⟩
    · exact (h.ownA i f hf).fr ha.fr (fun k hk => h.sep i f hf k (.inl hk))
    · exact hA.fr ha.fr (fun k hk => hsn k (.inl hk))
  · intro i f hf
    rcases key hf with hf | ⟨_, rfl⟩
    · exact (h.ownB i f hf).fr ha.fr (fun k hk => h.sep i f hf k (.inr hk))
    · exact hB.fr ha.fr (fun k hk => hsn k (.inr hk))
  · intro i f hf k hk hs
    rcases key hf with hf | ⟨_, rfl⟩
    · rcases ha.blk k hs with h1 | h1
      · exact h.sep i f hf k hk h1
      · have := h.lt (.inr ⟨i, f, hf, hk⟩); omega
    · rcases ha.blk k hs with h1 | h1
      · exact hsn k hk h1
      · rcases hk with hk | hk
        · have := hA.lt hk; omega
        · have := hB.lt hk; omega
  · intro i f hf
    rcases key hf with hf | ⟨_, rfl⟩
    · exact h.sepAB i f hf
    · exact hAB
  · intro i j f g hf hg hij k hk hk2
    rcases key hf with hf1 | ⟨hi, rfl⟩ <;> rcases key hg with hg1 | ⟨hj, rfl⟩
    · exact h.apart i j f g hf1 hg1 hij k hk hk2
    · exact hn k hk2 (.inr ⟨i, f, hf1, hk⟩)
    · exact hn k hk (.inr ⟨j, g, hg1, hk2⟩)
    · omega
  · intro k hk
    rcases hk with hk | ⟨i, f, hf, hk⟩
    · rcases ha.blk k hk with h1 | h1
      · exact .inl (.inl h1)
      · exact .inr (.inr h1)
    · rcases key hf with hf | ⟨_, rfl⟩
      · exact .inl (.inr ⟨i, f, hf, hk⟩)
      · exact .inr (.inl hk)
/-- a structure that is put in place of another one -/
theorem MTab.set {e' : SE α β} (h : MTab w eO eA szA cA eB szB cB s cap T) (hi : T[i]? = some e) (hE : Fr (eb e) w w1) (hA : OwnS w1 eA szA e'.1.1 e'.1.2.2.length e'.1.2.1 (e'.1.2.2.flatMap cA)) (hB : OwnS w1 eB szB e'.2.1 e'.2.2.2.length e'.2.2.1 (e'.2.2.2.flatMap cB))
    (hAB : ∀ k, ob e'.1.1 k → ¬ ob e'.2.1 k) (hb : ∀ k, eb e' k → (eb e k ∨ ¬ mtb s T k)) (hE2 : Fr (ob s) w1 w2) (ho : OwnS w2 eO 2 s T.length cap ((T.set i e').flatMap SE.vs)) :
    MTab w2 eO eA szA cA eB szB cB s cap (T.set i e') ∧ ∀ k, mtb s (T.set i e') k → (mtb s T k ∨ eb e' k) := by
  have hlt : i < T.length := (List.getElem?_eq_some_iff.1 hi).1
  have key : ∀ {j f}, (T.set i e')[j]? = some f → (j ≠ i ∧ T[j]? = some f) ∨ (j = i ∧ f = e') := fun {j f} hf => by
    by_cases hj : i = j
    · subst hj; rw [List.getElem?_set_self hlt] at hf; exact .inr ⟨rfl, (Option.some.inj hf).symm⟩
    · rw [List.getElem?_set_ne hj] at hf; exact .inl ⟨fun h => hj h.symm, hf⟩
  have hnb : ∀ k, eb e' k → ¬ ob s k := fun k hk hs => by
    rcases hb k hk with h1 | h1
    · exact h.sep i e hi k h1 hs
    · exact h1 (.inl hs)
  refine ⟨⟨?_, ?_, ?_, ?_, ?_, ?_⟩, ?_⟩
  · rw [List.length_set]; exact ho
  · intro j f hf
    rcases key hf with ⟨hj, hf⟩ | ⟨_, rfl⟩
    · exact ((h.ownA j f hf).fr hE (fun k hk h2 => h.apart j i f e hf hi hj k (.inl hk) h2)).fr hE2 (fun k hk => h.sep j f hf k (.inl hk))
    · exact hA.fr hE2 (fun k hk => hnb k (.inl hk))
  · intro j f hf
    rcases key hf with ⟨hj, hf⟩ | ⟨_, rfl⟩
    · exact ((h.ownB j f hf).fr hE (fun k hk h2 => h.apart j i f e hf hi hj k (.inr hk) h2)).fr hE2 (fun k hk => h.sep j f hf k (.inr hk))
    · exact hB.fr hE2 (fun k hk => hnb k (.inr hk))
  · intro j f hf k hk
    rcases key hf with ⟨_, hf⟩ | ⟨_, rfl⟩
    · exact h.sep j f hf k hk
    · exact hnb k hk
  · intro j f hf
    rcases key hf with ⟨_, hf⟩ | ⟨_, rfl⟩
    · exact h.sepAB j f hf
    · exact hAB
  · intro j l f g hf hg hjl k hk hk2
    have h3 : ∀ j f, j ≠ i → T[j]? = some f → eb f k → eb e' k → False := fun j f hj hf h1 h2 => by
      rcases hb k h2 with h4 | h4
      · exact h.apart j i f e hf hi hj k h1 h4
      · exact h4 (.inr ⟨j, f, hf, h1⟩)
    rcases key hf with ⟨hj, hf1⟩ | ⟨hj, rfl⟩ <;> rcases key hg with ⟨hl, hg1⟩ | ⟨hl, rfl⟩
    · exact h.apart j l f g hf1 hg1 hjl k hk hk2
    · exact h3 j f hj hf1 hk hk2
    · exact h3 l g hl hg1 hk2 hk
    · omega
  · intro k hk
    rcases hk with hk | ⟨j, f, hf, hk⟩
    · exact .inl (.inl hk)
    · rcases key hf with ⟨_, hf⟩ | ⟨_, rfl⟩
      · exact .inl (.inr ⟨j, f, hf, hk⟩)
      · exact .inr hk
def SE.abs (e : SE α β) : List α × List β := (e.1.2.2, e.2.2.2)
/-- a structure of the table, from its cells -/
theorem MTab.get (h : MTab w eO eA szA cA eB szB cB s cap T) (hi : T[i]? = some e) : ∃ b o, s = some ⟨b, o, none⟩ ∧ w.cell? ⟨b, o + i * 2, none⟩ = some (TE.v e.1) ∧ w.cell? ⟨b, o + i * 2 + 1, none⟩ = some (TE.v e.2) := by
  obtain ⟨b, o, h1, _, h3⟩ := h.out.sl (by decide) (l := T) (cells := SE.vs) rfl (fun _ _ => rfl) (F := fun _ => True) (fun _ _ => trivial) i e hi
  exact ⟨b, o, h1, h3 0 _ rfl, h3 1 _ rfl⟩
theorem own_some {e : TypeId} {sz n c : Nat} {xs : List Value} (h : OwnS w e sz s n c xs) (hn : 0 < n) : ∃ b o, s = some ⟨b, o, none⟩ := by
  rcases h.2 with ⟨_, h0, _⟩ | ⟨g, o, _, h0, _⟩
  · omega
  · exact ⟨g, o, h0⟩
/-- the table as it is read -/
theorem MTab.read (h : MTab w eO eA szA cA eB szB cB s cap T) (hA : 0 < szA) (hcA : ∀ x, (cA x).length = szA) (hB : 0 < szB) (hcB : ∀ x, (cB x).length = szB) {F : Nat → Prop} (hF : ∀ k, mtb s T k → F k) : Sl F w s 2 (T.map SE.abs) (CC F szA (Fl cA) szB (Fl cB)) := by
  intro i x hx
  rw [List.getElem?_map] at hx
  cases he : T[i]? with
  | none => rw [he] at hx; cases hx
  | some e =>
    rw [he] at hx
    simp only [Option.map_some, Option.some.injEq] at hx
    subst hx
    obtain ⟨b, o, rfl, h1, h2⟩ := h.get he
    exact ⟨b, o, rfl, hF b (.inl ⟨o, none, rfl⟩), e.1.1, e.1.2.1, e.2.1, e.2.2.1, h1, h2, (h.ownA i e he).sl hA rfl (fun x _ => hcA x) (fun k hk => hF k (.inr ⟨i, e, he, .inl hk⟩)), (h.ownB i e he).sl hB rfl (fun x _ => hcB x) (fun k hk => hF k (.inr ⟨i, e, he, .inr hk⟩))⟩
end
section
variable {P : Program} {N : Nat} {ρ : Nat → Value} {w w' : World} {d : Option Tmp} {t : TypeId} {p : String} {a : Array Edge} {g : Option (Nat × Bool)} {x y : Operand} {T E : TypeId}
theorem flatten_get {z : List Value} {sz : Nat} (hz : z.length = sz) : ∀ (n j : Nat), j < n * sz → ((List.replicate n z).flatten)[j]? = z[j % sz]?
  | 0, j, h => by omega
  | n + 1, j, h => by
    rw [List.replicate_succ, List.flatten_cons]
    rcases Nat.lt_or_ge j sz with hj | hj
    · rw [List.getElem?_append_left (by omega), Nat.mod_eq_of_lt hj]
    · rw [List.getElem?_append_right (by omega), hz, flatten_get hz n (j - sz) (by rw [Nat.succ_mul] at h; omega), Nat.mod_eq_sub_mod hj]
theorem flatten_len {z : List Value} {sz : Nat} (hz : z.length = sz) (n : Nat) : ((List.replicate n z).flatten).length = n * sz := by
  induction n with
  | zero => simp
  | succ n ih => rw [List.replicate_succ, List.flatten_cons, List.length_append, ih, hz, Nat.succ_mul, Nat.add_comm]
/-- a row that is made, of elements of several cells -/
theorem rn_makeSliceN {z : List Value} {size bytes n : Nat} (ht : P.underlying T = some (.slice E)) (hi : TI P E z size bytes) (hzl : z.length = size) (hsz : 0 < size) (hby : bytes.ble 65536 = true) (hx : ev N ρ x = .int .i64 (n : Int)) (hy : ev N ρ y = .int .i64 (n : Int)) (hn : n ≤ 1073741824) :
    Rn P N ⟨d, .makeSlice T x y, t, p, a, g⟩ ρ w (.slice (some ⟨w.heap.size, 0, none⟩) n n) (w.alloc (.cells ((List.replicate n z).flatten).toArray E)) :=
  ⟨fun _ h => (by cases h), by
    obtain ⟨i, u, hi, hz, hu, hs, hb⟩ := hi
    have hby := Nat.le_of_ble_eq_true hby
    have h1 : n * bytes ≤ 1073741824 * 65536 := Nat.mul_le_mul hn hby
    have h2 : (i.bytes : Int) * (n : Int) ≤ 281474976710656 := by
      rw [hb, ← Int.natCast_mul, Nat.mul_comm]; omega
    have h := run_make (P := P) w T E i u ht hi hz .i64 .i64 (n : Int) (n : Int) (by omega) (Int.le_refl _) h2 (by omega)
    have hm : madeCells u.cells (n * i.size) = ((List.replicate n z).flatten).toArray := by
      rw [hs, hu]
      apply Array.ext
      · simp [madeCells, flatten_len hzl]
      · intro j h1 h2
        have hj : j < n * size := by simpa [madeCells] using h1
        have := flatten_get hzl n j hj
        rw [List.getElem?_eq_getElem (by rw [flatten_len hzl]; exact hj), List.getElem?_eq_getElem (by rw [hzl]; exact Nat.mod_lt _ hsz)] at this
        have := Option.some.inj this
        simp [madeCells, this, hzl]
        rw [List.getElem?_eq_getElem (by rw [hzl]; exact Nat.mod_lt _ hsz)]; rfl
    simp only [Int.toNat_natCast] at h
    rw [hm] at h
    simp [execOp, hx, hy, h]⟩
end
section
variable {r : Option Nat} {P : Program} {N : Nat} {ρ : Nat → Value} {w : World} {ds : List Deferred} {C : Cont}
end
section
variable {r : Option Nat} {P : Program} {N : Nat} {ρ : Nat → Value} {w w1 w2 : World} {ds : List Deferred} {C : Cont} {A B i j : Nat} {SA SB : Nat → Prop}
end
section
variable {P : Program} {N : Nat} {ρ : Nat → Value} {w : World} {d : Option Tmp} {t : TypeId} {p : String} {a : Array Edge} {g : Option (Nat × Bool)} {x y : Operand} {T : TypeId} {u v : ByteArray}
theorem rn_eqlS {Ty : TypeId} (hx : ev N ρ x = .string u) (hy : ev N ρ y = .string v) : Rn P N ⟨d, .binOp .eql T x y Ty, t, p, a, g⟩ ρ w (.bool (decide (u.toList = v.toList))) w :=
  ⟨fun _ h => (by cases h), by
    have he : (eqGuard .eql T x y (.string u) (.string v)).run P w = .ok () w := by unfold eqGuard; simp
    have h : (binOp .eql T (.string u) (.string v)).run P w = .ok (.bool (decide (u.toList = v.toList))) w := by
      have e : (u.toList == v.toList) = decide (u.toList = v.toList) := by rw [Bool.eq_iff_iff]; simp
      simp [binOp, Op.stringOp, e]
    simp [execOp, hx, hy, he, h]⟩
end
end Go.Eng
