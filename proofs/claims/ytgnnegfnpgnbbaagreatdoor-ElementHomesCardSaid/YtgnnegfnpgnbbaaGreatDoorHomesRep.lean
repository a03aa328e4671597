/- What lies in memory: slices read as lists; slices of our own making that grow. No program stands here. -/
import Derived.Test.YtgnnegfnpgnbbaaGreatDoorHomesOps
set_option linter.unusedVariables false
set_option linter.unusedSimpArgs false
namespace Go.Eng
open Go Go.RowKit Go.Mix

/-! ### Slices that are read -/
/-- The blocks from lo on, below hi. -/
def Iv (lo hi : Nat) : Nat → Prop := fun b => lo ≤ b ∧ b < hi
/-- The slice at s reads as l, an element in every sz cells, all of it in blocks of F. -/
def Sl {α : Type} (F : Nat → Prop) (w : World) (s : Option Addr) (sz : Nat) (l : List α) (C : World → Nat → Nat → α → Prop) : Prop :=
  ∀ i x, l[i]? = some x → ∃ b o, s = some ⟨b, o, none⟩ ∧ F b ∧ C w b (o + i * sz) x
/-- The cells of one element. -/
def Fl {α : Type} (cells : α → List Value) : World → Nat → Nat → α → Prop := fun w b off x => ∀ j v, (cells x)[j]? = some v → w.cell? ⟨b, off + j, none⟩ = some v
/-- A reading that abides while its blocks do. -/
def Stab {α : Type} (F : Nat → Prop) (C : World → Nat → Nat → α → Prop) : Prop :=
  ∀ (S : Nat → Prop) (w w' : World) b off x, Fr S w w' → (∀ k, F k → ¬ S k) → F b → C w b off x → C w' b off x
theorem Fl.stab {α : Type} (F : Nat → Prop) (cells : α → List Value) : Stab F (Fl cells) := fun _ _ _ b _ _ hf hS hF h j v hv => hf.cell (p := ⟨b, _, none⟩) (hS b hF) (h j v hv)
section
variable {α : Type} {F : Nat → Prop} {w w' : World} {s : Option Addr} {sz : Nat} {l : List α} {C : World → Nat → Nat → α → Prop}
theorem Sl.fr (h : Sl F w s sz l C) (hC : Stab F C) {S : Nat → Prop} (hf : Fr S w w') (hS : ∀ k, F k → ¬ S k) : Sl F w' s sz l C := fun i x hx => by
  obtain ⟨b, o, h1, h2, h4⟩ := h i x hx
  exact ⟨b, o, h1, h2, hC S w w' b _ x hf hS h2 h4⟩
theorem Sl.ext (h : Sl F w s sz l C) (hC : Stab F C) (hf : Ext w w') : Sl F w' s sz l C := h.fr hC hf (fun _ _ hn => hn)
theorem Sl.ne (h : Sl F w s sz l C) (hC : Stab F C) {b : Nat} (hf : Fr (· = b) w w') (hn : ¬ F b) : Sl F w' s sz l C := h.fr hC hf (fun _ hk e => hn (by subst e; exact hk))
theorem Sl.wide (h : Sl F w s sz l C) {F' : Nat → Prop} (h1 : ∀ b, F b → F' b) : Sl F' w s sz l C := fun i x hx => by
  obtain ⟨b, o, g1, g2, g4⟩ := h i x hx
  exact ⟨b, o, g1, h1 b g2, g4⟩
theorem Sl.nil (C : World → Nat → Nat → α → Prop) : Sl F w s sz ([] : List α) C := fun i x hx => by simp at hx
theorem Sl.map (h : Sl F w s sz l C) {C' : World → Nat → Nat → α → Prop} (hc : ∀ b off x, F b → C w b off x → C' w b off x) : Sl F w s sz l C' := fun i x hx => by
  obtain ⟨b, o, g1, g2, g4⟩ := h i x hx
  exact ⟨b, o, g1, g2, hc _ _ _ g2 g4⟩
theorem Sl.get {b o : Nat} (h : Sl F w (some ⟨b, o, none⟩) sz l C) {i : Nat} {x : α} (hx : l[i]? = some x) : C w b (o + i * sz) x := by
  obtain ⟨b', o', g1, g2, g4⟩ := h i x hx
  injection g1 with g1; injection g1 with g1 g3; subst g1; subst g3; exact g4
end
/-- a slice of slices -/
def SlC {α : Type} (F : Nat → Prop) (sz : Nat) (C : World → Nat → Nat → α → Prop) : World → Nat → Nat → List α → Prop :=
  fun w b off l => ∃ s c, w.cell? ⟨b, off, none⟩ = some (.slice s l.length c) ∧ Sl F w s sz l C
theorem SlC.stab {α : Type} {F : Nat → Prop} {sz : Nat} {C : World → Nat → Nat → α → Prop} (hC : Stab F C) : Stab F (SlC F sz C) := fun _ _ _ b _ _ hf hS hF ⟨s, c, h1, h2⟩ =>
  ⟨s, c, hf.cell (p := ⟨b, _, none⟩) (hS b hF) h1, h2.fr hC hf hS⟩
def intC (z : Int) : List Value := [.int .i64 z]
/-- The values xs are slices that read as the lists of L. -/
def InS {α : Type} (F : Nat → Prop) (w : World) (sz : Nat) (C : World → Nat → Nat → α → Prop) (xs : List Value) (L : List (List α)) : Prop :=
  xs.length = L.length ∧ ∀ (i : Nat) (l : List α), L[i]? = some l → ∃ (s : Option Addr) (c : Nat), xs[i]? = some (Value.slice s l.length c) ∧ Sl F w s sz l C
theorem InS.nil {α : Type} (F : Nat → Prop) (w : World) (sz : Nat) (C : World → Nat → Nat → α → Prop) : InS F w sz C [] [] := ⟨rfl, fun i l h => by simp at h⟩
theorem InS.fr {α : Type} {F : Nat → Prop} {w w' : World} {sz : Nat} {C : World → Nat → Nat → α → Prop} {xs : List Value} {L : List (List α)} (h : InS F w sz C xs L) (hC : Stab F C) {S : Nat → Prop} (hf : Fr S w w') (hS : ∀ k, F k → ¬ S k) : InS F w' sz C xs L :=
  ⟨h.1, fun i l hl => by obtain ⟨s, c, h1, h2⟩ := h.2 i l hl; exact ⟨s, c, h1, h2.fr hC hf hS⟩⟩
theorem InS.wide {α : Type} {F F' : Nat → Prop} {w : World} {sz : Nat} {C : World → Nat → Nat → α → Prop} {xs : List Value} {L : List (List α)} (h : InS F w sz C xs L) (h1 : ∀ b, F b → F' b) : InS F' w sz C xs L :=
  ⟨h.1, fun i l hl => by obtain ⟨s, c, g1, g2⟩ := h.2 i l hl; exact ⟨s, c, g1, g2.wide h1⟩⟩
theorem InS.snoc {α : Type} {F : Nat → Prop} {w : World} {sz : Nat} {C : World → Nat → Nat → α → Prop} {xs : List Value} {L : List (List α)} (h : InS F w sz C xs L) {s : Option Addr} {l : List α} {n c : Nat} (hn : n = l.length) (hl : Sl F w s sz l C) :
    InS F w sz C (xs ++ [Value.slice s n c]) (L ++ [l]) := by
  subst hn
  refine ⟨by simp [h.1], fun i l' hi => ?_⟩
  rcases Nat.lt_or_ge i L.length with hlt | hge
  · rw [List.getElem?_append_left hlt] at hi
    obtain ⟨s', c', h1, h2⟩ := h.2 i l' hi
    exact ⟨s', c', by rw [List.getElem?_append_left (by rw [h.1]; exact hlt)]; exact h1, h2⟩
  · rw [List.getElem?_append_right hge] at hi
    have hi0 : i - L.length = 0 := by
      rcases Nat.eq_zero_or_pos (i - L.length) with h0 | h0
      · exact h0
      · rw [List.getElem?_eq_none (by simp; omega)] at hi; cases hi
    rw [hi0] at hi
    simp at hi; subst hi
    exact ⟨s, c, by rw [List.getElem?_append_right (by rw [h.1]; exact hge), h.1, hi0]; rfl, hl⟩

/-! ### Slices of our own that grow -/
/-- The slice (s, n, cap) is ours: nobody else looks at its block; its first cells are xs. -/
def OwnS (w : World) (e : TypeId) (size : Nat) (s : Option Addr) (n cap : Nat) (xs : List Value) : Prop :=
  xs.length = n * size ∧
  ((s = none ∧ n = 0 ∧ cap = 0) ∨
   ∃ g o cur, s = some ⟨g, o, none⟩ ∧ Blk w g cur e ∧ n ≤ cap ∧ cap ≤ maxLen ∧ o + cap * size ≤ cur.length ∧ (cur.drop o).take (n * size) = xs)
/-- its block -/
def ob (s : Option Addr) (k : Nat) : Prop := ∃ o sp, s = some ⟨k, o, sp⟩
section own
variable {w w' : World} {e : TypeId} {size n cap : Nat} {s : Option Addr} {xs : List Value}
theorem OwnS.nil (w : World) (e : TypeId) (size : Nat) : OwnS w e size none 0 0 [] := ⟨by simp, .inl ⟨rfl, rfl, rfl⟩⟩
theorem OwnS.lt (h : OwnS w e size s n cap xs) {k : Nat} (hk : ob s k) : k < w.heap.size := by
  obtain ⟨o, sp, rfl⟩ := hk
  rcases h.2 with ⟨h, _⟩ | ⟨g, o', cur, h, hB, _⟩
  · cases h
  · injection h with h; injection h with h1; subst h1; exact hB.lt
theorem OwnS.fr (h : OwnS w e size s n cap xs) {S : Nat → Prop} (hf : Fr S w w') (hS : ∀ k, ob s k → ¬ S k) : OwnS w' e size s n cap xs := by
  refine ⟨h.1, ?_⟩
  rcases h.2 with h | ⟨g, o, cur, rfl, hB, h⟩
  · exact .inl h
  · exact .inr ⟨g, o, cur, rfl, hB.fr hf (hS g ⟨o, none, rfl⟩), h⟩
theorem OwnS.ext (h : OwnS w e size s n cap xs) (hf : Ext w w') : OwnS w' e size s n cap xs := h.fr hf (fun _ _ hn => hn)
theorem OwnS.ne (h : OwnS w e size s n cap xs) {b : Nat} (hf : Fr (· = b) w w') (hS : ¬ ob s b) : OwnS w' e size s n cap xs := h.fr hf (fun k hk e => hS (by subst e; exact hk))
/-- a block that was just laid, with no spare -/
theorem OwnS.full {b : Nat} (hB : Blk w b xs e) (hl : xs.length = n * size) (hm : n ≤ maxLen) : OwnS w e size (some ⟨b, 0, none⟩) n n xs :=
  ⟨hl, .inr ⟨b, 0, xs, rfl, hB, Nat.le_refl _, hm, by omega, by rw [List.drop_zero, ← hl, List.take_length]⟩⟩
/-- as a list that is read -/
theorem OwnS.sl {α : Type} (h : OwnS w e size s n cap xs) (hsz : 0 < size) {l : List α} {cells : α → List Value} (hx : xs = l.flatMap cells) (hc : ∀ x ∈ l, (cells x).length = size) {F : Nat → Prop} (hlo : ∀ k, ob s k → F k) :
    Sl F w s size l (Fl cells) := by
  intro i x hi
  have key : ∀ (l : List α) (i : Nat) (x : α), (∀ x ∈ l, (cells x).length = size) → l[i]? = some x → ∀ j v, (cells x)[j]? = some v → (l.flatMap cells)[i * size + j]? = some v := by
    intro l
    induction l with
    | nil => intro i x _ h; simp at h
    | cons y l ih =>
      intro i x hc h j v hv
      rw [List.flatMap_cons]
      cases i with
      | zero =>
        simp only [List.getElem?_cons_zero, Option.some.injEq] at h
        subst h
        rw [Nat.zero_mul, Nat.zero_add, List.getElem?_append_left (List.getElem?_eq_some_iff.1 hv).1]; exact hv
      | succ i =>
        simp only [List.getElem?_cons_succ] at h
        have hy := hc y (List.mem_cons_self ..)
        have := ih i x (fun z hz => hc z (List.mem_cons_of_mem _ hz)) h j v hv
        rw [List.getElem?_append_right (by rw [hy, Nat.succ_mul]; omega), hy, Nat.succ_mul, show i * size + size + j - size = i * size + j by omega]
        exact this
  subst hx
  rcases h.2 with ⟨h1, h2, _⟩ | ⟨g, o, cur, rfl, hB, h1, _, h3, h4⟩
  · have hlen := h.1
    subst h2
    have hcx := hc x (List.mem_of_getElem? hi)
    cases hcl : cells x with
    | nil => rw [hcl] at hcx; simp at hcx; omega
    | cons v vs =>
      have := (List.getElem?_eq_some_iff.1 (key l i x hc hi 0 v (by rw [hcl]; rfl))).1
      rw [hlen] at this; simp at this
  · refine ⟨g, o, rfl, hlo g ⟨o, none, rfl⟩, fun j v hv => ?_⟩
    have := key l i x hc hi j v hv
    refine hB.cell _ ?_
    rw [← h4, List.getElem?_take, List.getElem?_drop] at this
    split at this
    · rw [Nat.add_assoc]; exact this
    · cases this

/-- What is appended. -/
def Src (w : World) (size : Nat) (s : Option Addr) (m : Nat) (news : List Value) : Prop :=
  news.length = m * size ∧ (∀ u ∈ news, u.oneCell' = true) ∧ ∀ j v, news[j]? = some v → ∃ b o, s = some ⟨b, o, none⟩ ∧ w.cell? ⟨b, o + j, none⟩ = some v
/-- A type's row of the table. -/
def TI (P : Program) (e : TypeId) (z : List Value) (size bytes : Nat) : Prop := ∃ i u, P.info? e = some i ∧ i.zero = some u ∧ u.cells = z.toArray ∧ i.size = size ∧ i.bytes = bytes
theorem TI.of {P : Program} {e : TypeId} {z : List Value} {size bytes : Nat} {u : Value} (h : (P.info? e).map (fun i => (i.zero, i.size, i.bytes)) = some (some u, size, bytes)) (hu : u.cells = z.toArray) : TI P e z size bytes := by
  cases hi : P.info? e with
  | none => rw [hi] at h; cases h
  | some i =>
    rw [hi] at h
    simp only [Option.map_some, Option.some.injEq, Prod.mk.injEq] at h
    exact ⟨i, u, hi, h.1, hu, h.2.1, h.2.2⟩
theorem ob_none {q : Prop} {k : Nat} (h : ob none k) : q := by obtain ⟨_, _, h⟩ := h; cases h
theorem ob_some {b o k : Nat} {sp : Option Nat} (h : ob (some ⟨b, o, sp⟩) k) : k = b := by obtain ⟨_, _, h⟩ := h; injection h with h; injection h with h; exact h.symm
theorem Src.ext {size m : Nat} {news : List Value} (h : Src w size s m news) (hf : Ext w w') : Src w' size s m news :=
  ⟨h.1, h.2.1, fun j v hv => by obtain ⟨b, o, h1, h2⟩ := h.2.2 j v hv; exact ⟨b, o, h1, hf.cell (fun hn => hn) h2⟩⟩
theorem run_append {P : Program} {t ty : TypeId} {z : List Value} {bytes m cx : Nat} {sx : Option Addr} {news : List Value} (ht : P.underlying t = some (.slice e)) (hi : TI P e z size bytes) (hzl : z.length = size) (hsz : 0 < size) (hby : bytes ≤ 65536)
    (hown : OwnS w e size s n cap xs) (hsrc : Src w size sx m news) (hbd : n + m ≤ 1073741824) :
    ∃ s' cap' w', (Builtin.append_ #[t, t] ty #[.slice s n cap, .slice sx m cx]).run P w = .ok (.slice s' (n + m) cap') w' ∧ OwnS w' e size s' (n + m) cap' (xs ++ news) ∧ Fr (ob s) w w' ∧
      (∀ k, ob s' k → (ob s k ∨ w.heap.size ≤ k)) := by
  obtain ⟨i, u, hi, hz, hzu, hs, hb⟩ := hi
  subst hs
  obtain ⟨hnl, hn1, hnc⟩ := hsrc
  have hlen : (xs ++ news).length = (n + m) * i.size := by rw [List.length_append, hown.1, hnl, Nat.add_mul]
  have hprod : (n + m) * i.bytes ≤ 140737488355328 := by rw [hb]; exact Nat.le_trans (Nat.mul_le_mul hbd hby) (by decide)
  have hsrc' : ∀ w', Ext w w' → (Builtin.firstCells i.size m (.slice sx m cx)).run P w' = .ok news.toArray w' := fun w' hE => by
    cases sx with
    | none =>
      have hne : news = [] := by
        cases news with
        | nil => rfl
        | cons v vs => obtain ⟨b, o, h1, _⟩ := hnc 0 v rfl; cases h1
      subst hne; simp [Builtin.firstCells]
    | some a =>
      refine run_firstCells_some (P := P) w' i.size m a m cx news hnl (fun j v hj => ?_)
      obtain ⟨b, o, h1, h2⟩ := hnc j v hj
      injection h1 with h1; subst h1
      rw [addr_add]; exact hE.cell (fun hn => hn) h2
  have hroomy : ∀ c, n + m ≤ c → c ≤ maxLen → True := fun _ _ _ => trivial
  by_cases hroom : n + m ≤ cap
  · rcases hown.2 with ⟨rfl, rfl, rfl⟩ | ⟨g, o, cur, rfl, hB, hnc', hcm, hcl, htk⟩
    · obtain rfl : m = 0 := by omega
      have hne : news = [] := List.eq_nil_of_length_eq_zero (by simpa using hnl)
      subst hne
      have hx : xs = [] := List.eq_nil_of_length_eq_zero (by simpa using hown.1)
      subst hx
      refine ⟨none, 0, w, ?_, by simpa using OwnS.nil w e i.size, Fr.refl _ _, fun k hk => .inl hk⟩
      simp [Builtin.append_, run_underlying ht, sizeOf, typeInfo, hi, Builtin.lenOf, hsrc' w (Fr.refl _ _)]
    · have hfit : o + n * i.size + news.length ≤ cur.length := by
        have h1 := Nat.mul_le_mul_right i.size hroom
        rw [Nat.add_mul] at h1; omega
      obtain ⟨w', hr, hB', hf⟩ := run_storeCells_blk (P := P) g e news 0 cur (o + n * i.size) w hB (by simpa using hfit) hn1
      refine ⟨some ⟨g, o, none⟩, cap, w', ?_, ⟨hlen, .inr ⟨g, o, _, rfl, hB', hroom, hcm, ?_, ?_⟩⟩, hf.mono (fun k _ hk => by subst hk; exact ⟨o, none, rfl⟩), fun k hk => .inl hk⟩
      · simp [Builtin.append_, run_underlying ht, sizeOf, typeInfo, hi, Builtin.lenOf, hroom, hsrc' w (Fr.refl _ _), addr_add, hr]
      · simp only [Nat.add_zero, List.length_append, List.length_take, List.length_drop]; omega
      · have hto : (cur.take (o + n * i.size)).drop o = xs := by rw [List.drop_take, Nat.add_sub_cancel_left]; exact htk
        rw [Nat.add_zero, List.append_assoc, List.drop_append_of_le_length (by rw [List.length_take]; omega), hto, ← List.append_assoc, ← hlen]; exact List.take_left
  · have hm0 : 0 < m := by
      rcases hown.2 with ⟨_, rfl, rfl⟩ | ⟨_, _, _, _, _, h, _⟩ <;> omega
    have hnl0 : 0 < news.length := by rw [hnl]; exact Nat.mul_pos hm0 hsz
    obtain ⟨v0, hv0⟩ : ∃ v, news[0]? = some v := ⟨news[0], by simp [hnl0]⟩
    obtain ⟨b, ox, rfl, _⟩ := hnc 0 v0 hv0
    have hnews : ∀ j v, news[j]? = some v → w.cell? ((⟨b, ox, none⟩ : Addr).add j) = some v := fun j v hj => by
      obtain ⟨b', o', h1, h2⟩ := hnc j v hj
      injection h1 with h1; injection h1 with h1 h3; subst h1; subst h3
      rw [addr_add]; exact h2
    have hge := fun old => grownCap_ge w (n + m) old e
    have hcm : ∀ old, grownCap w (n + m) old e ≤ maxLen := fun old => grownCap_le_maxLen w (n + m) old e (by unfold maxLen; omega)
    have fin : ∀ (old : Nat), OwnS (w.drew.alloc (.cells (xs.toArray ++ news.toArray ++ Builtin.zeroCells u.cells (grownCap w (n + m) old e - (n + m))) e)) e i.size (some ⟨w.heap.size, 0, none⟩) (n + m) (grownCap w (n + m) old e) (xs ++ news) := fun old => by
      refine ⟨hlen, .inr ⟨w.heap.size, 0, (xs.toArray ++ news.toArray ++ Builtin.zeroCells u.cells (grownCap w (n + m) old e - (n + m))).toList, rfl, ?_, hge old, hcm old, ?_, ?_⟩⟩
      · exact Blk.alloc w.drew _ e
      · simp only [Array.length_toList, Array.size_append, List.size_toArray, size_zeroCells, hzu, hzl, hown.1, hnl, ← Nat.add_mul]
        refine Nat.le_of_eq ((Nat.zero_add _).trans ?_)
        congr 1
        have := hge old; omega
      · simp only [Array.toList_append, List.append_assoc, List.drop_zero]
        rw [← List.append_assoc, ← hlen]
        exact List.take_left
    have hex : ∀ o : Obj, Fr (ob s) w (w.drew.alloc o) := fun o => ((ext_drew w).trans' (ext_alloc _ _)).fr
    have hnew : ∀ k, ob (some (⟨w.heap.size, 0, none⟩ : Addr)) k → (ob s k ∨ w.heap.size ≤ k) := fun k ⟨o, sp, h⟩ => by
      injection h with h; injection h with h1; omega
    rcases hown.2 with ⟨rfl, rfl, rfl⟩ | ⟨g, og, cur, rfl, hB, hnc', hcm', hcl, htk⟩
    · have hx : xs = [] := List.eq_nil_of_length_eq_zero (by simpa using hown.1)
      subst hx
      have hr := run_append_nil (P := P) (w := w) t ty e i u ht hi hz ⟨b, ox, none⟩ m cx news hnl hnews hm0 (by omega) (by simp only [Nat.zero_add] at hprod; omega)
      have hf := fin 0
      simp only [Nat.zero_add, List.nil_append, Array.empty_append] at hf ⊢
      exact ⟨_, _, _, hr, hf, hex _, by simpa using hnew⟩
    · have holds : ∀ j v, xs[j]? = some v → w.cell? ((⟨g, og, none⟩ : Addr).add j) = some v := fun j v hj => by
        rw [addr_add]
        refine hB.cell _ ?_
        rw [← htk, List.getElem?_take, List.getElem?_drop] at hj
        split at hj
        · exact hj
        · cases hj
      have hr := run_append_grow (P := P) (w := w) t ty e i u ht hi hz ⟨g, og, none⟩ n cap xs hown.1 holds ⟨b, ox, none⟩ m cx news hnl hnews (by omega) (by omega) (growslice_fits (by omega) hprod)
      exact ⟨_, _, _, hr, fin cap, hex _, hnew⟩
theorem Sl.src {α : Type} {F : Nat → Prop} {l : List α} {cells : α → List Value} (h : Sl F w s size l (Fl cells)) (hc : ∀ x ∈ l, (cells x).length = size) (h1 : ∀ x ∈ l, ∀ u ∈ cells x, u.oneCell' = true) (hsz : 0 < size) :
    Src w size s l.length (l.flatMap cells) := by
  have hlen : ∀ l : List α, (∀ x ∈ l, (cells x).length = size) → (l.flatMap cells).length = l.length * size := by
    intro l
    induction l with
    | nil => intro _; simp
    | cons x l ih =>
      intro hc
      rw [List.flatMap_cons, List.length_append, hc x (List.mem_cons_self ..), ih (fun y hy => hc y (List.mem_cons_of_mem _ hy)), List.length_cons, Nat.succ_mul]; omega
  have key : ∀ (l : List α), (∀ x ∈ l, (cells x).length = size) → ∀ j v, (l.flatMap cells)[j]? = some v → ∃ x, l[j / size]? = some x ∧ (cells x)[j % size]? = some v := by
    intro l
    induction l with
    | nil => intro _ j v h; simp at h
    | cons y l ih =>
      intro hc j v h
      have hy := hc y (List.mem_cons_self ..)
      rw [List.flatMap_cons] at h
      rcases Nat.lt_or_ge j size with hj | hj
      · rw [List.getElem?_append_left (by omega)] at h
        exact ⟨y, by rw [Nat.div_eq_of_lt hj]; rfl, by rw [Nat.mod_eq_of_lt hj]; exact h⟩
      · rw [List.getElem?_append_right (by omega), hy] at h
        obtain ⟨x, g1, g2⟩ := ih (fun z hz => hc z (List.mem_cons_of_mem _ hz)) _ v h
        refine ⟨x, ?_, ?_⟩
        · rw [Nat.div_eq_sub_div hsz hj]; simpa using g1
        · rw [Nat.mod_eq_sub_mod hj]; exact g2
  refine ⟨hlen l hc, fun u hu => ?_, fun j v hv => ?_⟩
  · obtain ⟨x, hx, hu⟩ := List.mem_flatMap.1 hu
    exact h1 x hx u hu
  · obtain ⟨x, g1, g2⟩ := key l hc j v hv
    obtain ⟨b, o, e1, _, e4⟩ := h _ x g1
    refine ⟨b, o, e1, ?_⟩
    have := e4 _ v g2
    rwa [Nat.add_assoc, show j / size * size + j % size = j from by rw [Nat.mul_comm]; exact Nat.div_add_mod j size] at this
theorem Src.blk {b : Nat} {news : List Value} {T : TypeId} {m : Nat} (hB : Blk w b news T) (hl : news.length = m * size) (h1 : news.all (fun u => u.oneCell') = true) : Src w size (some ⟨b, 0, none⟩) m news :=
  ⟨hl, fun u hu => List.all_eq_true.1 h1 u hu, fun j v hv => ⟨b, 0, rfl, hB.cell _ (by rw [Nat.zero_add]; exact hv)⟩⟩
theorem Src.none (w : World) (size : Nat) : Src w size none 0 [] := ⟨by simp, fun _ h => (by cases h), fun _ _ h => (by simp at h)⟩
/-- a list of slices of our own, as one that is read -/
theorem OwnS.slC {α : Type} (h : OwnS w e 1 s n cap xs) {L : List (List α)} {F : Nat → Prop} {sz : Nat} {C : World → Nat → Nat → α → Prop} (hin : InS F w sz C xs L) (hlo : ∀ k, ob s k → F k) : Sl F w s 1 L (SlC F sz C) := by
  have hx : xs = xs.flatMap (fun v => [v]) := by simp
  have h1 := h.sl (by decide) hx (fun _ _ => rfl) hlo
  intro i l hl
  obtain ⟨si, ci, g1, g2⟩ := hin.2 i l hl
  obtain ⟨b, o, k1, k2, k3⟩ := h1 i _ g1
  exact ⟨b, o, k1, k2, si, ci, k3 0 _ rfl, g2⟩
/-- without its first elements -/
def dropAt (s : Option Addr) (k cap size : Nat) : Option Addr := if cap = k then s else s.map (·.add (k * size))
theorem OwnS.drop (h : OwnS w e size s n cap xs) {k : Nat} (hk : k ≤ n) : OwnS w e size (dropAt s k cap size) (n - k) (cap - k) (xs.drop (k * size)) := by
  refine ⟨by rw [List.length_drop, h.1, Nat.sub_mul], ?_⟩
  rcases h.2 with ⟨rfl, rfl, rfl⟩ | ⟨g, o, cur, rfl, hB, h1, h2, h3, h4⟩
  · obtain rfl : k = 0 := by omega
    exact .inl ⟨rfl, rfl, rfl⟩
  · right
    have hsub : (cap - k) * size = cap * size - k * size := Nat.sub_mul ..
    have hle : k * size ≤ cap * size := Nat.mul_le_mul_right _ (by omega)
    unfold dropAt
    split
    · next hc =>
      subst hc
      obtain rfl : n = cap := by omega
      refine ⟨g, o, cur, rfl, hB, by omega, by omega, by simp; omega, ?_⟩
      rw [Nat.sub_self, Nat.zero_mul, List.take_zero, List.drop_eq_nil_of_le (by rw [h.1]; exact Nat.le_refl _)]
    · refine ⟨g, o + k * size, cur, by simp [addr_add], hB, by omega, by omega, by omega, ?_⟩
      rw [← h4, List.drop_take, List.drop_drop, Nat.sub_mul]
theorem OwnS.len (h : OwnS w e size s n cap xs) : xs.length = n * size := h.1
end own

/-! ### The operations -/
section ops
variable {P : Program} {N : Nat} {ρ : Nat → Value} {w w' : World} {v : Value} {d : Option Tmp} {t : TypeId} {p : String} {a : Array Edge} {g : Option (Nat × Bool)}
variable {r : Option Nat} {ds : List Deferred} {lo rest : List Oper} {K : (Nat → Value) → World → Prop}
variable {x y : Operand} {T e : TypeId} {size n cap m cx bytes : Nat} {s sx : Option Addr} {xs news z : List Value}
/-- what an append leaves -/
structure Apd (w : World) (e : TypeId) (size : Nat) (s : Option Addr) (k : Nat) (ys : List Value) (s' : Option Addr) (cap' : Nat) (w' : World) : Prop where
  own : OwnS w' e size s' k cap' ys
  fr : Fr (ob s) w w'
  blk : ∀ k, ob s' k → (ob s k ∨ w.heap.size ≤ k)
theorem lx_append {z : List Value} (bytes : Nat) (hw : Want N lo ⟨d, .call { callee := .builtin .append, args := #[x, y], argTypes := #[T, T] }, t, p, a, g⟩ ρ true) (ht : P.underlying T = some (.slice e)) (hi : TI P e z size bytes) (hsz : 0 < size) (hzl : z.length = size) (hby : bytes ≤ 65536)
    (hx : ev N ρ x = .slice s n cap) (hy : ev N ρ y = .slice sx m cx) (hown : OwnS w e size s n cap xs) (hsrc : Src w size sx m news) (hbd : n + m ≤ 1073741824)
    (k : ∀ s' cap' w', Apd w e size s (n + m) (xs ++ news) s' cap' w' → LX r P N ds lo K rest (up ρ d (.slice s' (n + m) cap')) w') :
    LX r P N ds lo K (⟨d, .call { callee := .builtin .append, args := #[x, y], argTypes := #[T, T] }, t, p, a, g⟩ :: rest) ρ w := by
  obtain ⟨s', cap', w', hr, h1, h2, h3⟩ := run_append (P := P) (ty := t) (cx := cx) ht hi hzl hsz hby hown hsrc hbd
  refine lx_value hw (v := .slice s' (n + m) cap') (w' := w') ⟨fun _ h => (by cases h), ?_⟩ (k s' cap' w' ⟨h1, h2, h3⟩)
  simp [execOp, resolve, invoke, builtin, hx, hy, hr]
theorem do_append {z : List Value} (bytes : Nat) (ht : P.underlying T = some (.slice e)) (hi : TI P e z size bytes) (hsz : 0 < size) (hzl : z.length = size) (hby : bytes ≤ 65536)
    (hx : ev N ρ x = .slice s n cap) (hy : ev N ρ y = .slice sx m cx) (hown : OwnS w e size s n cap xs) (hsrc : Src w size sx m news) (hbd : n + m ≤ 1073741824) {G : Value → World → Prop}
    (hG : ∀ s' cap' w', Apd w e size s (n + m) (xs ++ news) s' cap' w' → G (.slice s' (n + m) cap') w') :
    Do P N ⟨d, .call { callee := .builtin .append, args := #[x, y], argTypes := #[T, T] }, t, p, a, g⟩ ρ w G := by
  obtain ⟨s', cap', w', hr, h1, h2, h3⟩ := run_append (P := P) (ty := t) (cx := cx) ht hi hzl hsz hby hown hsrc hbd
  refine do_value (v := .slice s' (n + m) cap') (w' := w') ⟨fun _ h => (by cases h), ?_⟩ (hG s' cap' w' ⟨h1, h2, h3⟩)
  simp [execOp, resolve, invoke, builtin, hx, hy, hr]

/-! a slice that is written out -/
def idx : Nat → List Operand → List (Nat × Operand)
  | _, [] => []
  | i, x :: xs => (i, x) :: idx (i + 1) xs
inductive CL (sz : Nat) : List Value → List Value → Prop
  | nil : CL sz [] []
  | cons {u : Value} {c vs cs : List Value} (h : u.cells = c.toArray) (hl : c.length = sz) (k : CL sz vs cs) : CL sz (u :: vs) (c ++ cs)
theorem CL.length {sz : Nat} {vs cs : List Value} (h : CL sz vs cs) : cs.length = vs.length * sz := by
  induction h with
  | nil => simp
  | cons h hl k ih => rw [List.length_append, hl, ih, List.length_cons, Nat.succ_mul]; omega
theorem foldl_set (c : List Value) : ∀ (A B : List Value) (k : Nat), (∀ i, i = A.length + k → True) → c.length ≤ B.length →
    ((c.zipIdx k).foldl (fun (cs : Array Value) (q : Value × Nat) => cs.setIfInBounds (A.length - k + q.2) q.1) (A ++ B).toArray) = ((A ++ c) ++ B.drop c.length).toArray ∨ A.length < k := by
  induction c with
  | nil => intro A B k _ _; left; simp
  | cons x c ih =>
    intro A B k _ hB
    rcases Nat.lt_or_ge A.length k with h | h
    · exact .inr h
    left
    cases B with
    | nil => simp at hB
    | cons y B =>
      rw [List.zipIdx_cons, List.foldl_cons]
      have e : (A ++ y :: B).toArray.setIfInBounds (A.length - k + k) x = ((A ++ [x]) ++ B).toArray := by
        rw [Nat.sub_add_cancel h, List.setIfInBounds_toArray]
        congr 1
        rw [List.set_append]; simp
      rw [e]
      have := ih (A ++ [x]) B (k + 1) (fun _ _ => trivial) (by simp at hB; omega)
      rcases this with h1 | h1
      · have e2 : (A ++ [x]).length - (k + 1) = A.length - k := by simp
        rw [e2] at h1
        rw [h1]; simp
      · simp at h1; omega
theorem fill_seq (sz : Nat) {vs cs : List Value} (h : CL sz vs cs) : ∀ (A B : List Value) (i : Nat), A.length = i * sz → B.length = vs.length * sz →
    Instr.fill (fun i => some (i * sz, sz)) (A ++ B).toArray ((List.range' i vs.length).zip vs) = some (A ++ cs).toArray := by
  induction h with
  | nil => intro A B i hA hB; have : B = [] := List.eq_nil_of_length_eq_zero (by simpa using hB); subst this; simp [Instr.fill]
  | @cons u c vs cs h hl k ih =>
    intro A B i hA hB
    rw [List.length_cons, Nat.succ_mul] at hB
    rw [List.length_cons, List.range'_succ, List.zip_cons_cons]
    unfold Instr.fill
    have h1 : u.cells.size = sz := by rw [h]; simpa using hl
    have h2 : ¬ (i * sz + u.cells.size > (A ++ B).toArray.size) := by rw [h1]; simp; omega
    simp only [h1, ne_eq, not_true_eq_false, false_or, h1 ▸ h2, if_false]
    have h3 := foldl_set c A B 0 (fun _ _ => trivial) (by omega)
    rcases h3 with h3 | h3
    · rw [Nat.sub_zero] at h3
      have e : Array.foldl (fun (cs : Array Value) (q : Value × Nat) => cs.setIfInBounds (i * sz + q.2) q.1) (A ++ B).toArray u.cells.zipIdx = ((A ++ c) ++ B.drop c.length).toArray := by
        rw [h, ← h3, ← hA, ← Array.foldl_toList]; simp
      have e' : Array.foldl (fun (cs : Array Value) (x : Value × Nat) => match x with | (c, j) => cs.setIfInBounds (i * sz + j) c) (A ++ B).toArray u.cells.zipIdx = ((A ++ c) ++ B.drop c.length).toArray := e
      rw [e']
      have := ih (A ++ c) (B.drop c.length) (i + 1) (by rw [List.length_append, hA, hl, Nat.succ_mul]) (by rw [List.length_drop]; omega)
      rw [this, List.append_assoc]; simp
    · omega
theorem rn_bslice {E n : TypeId} {z vs cs : List Value} {xs : List Operand} {ps : Array (Nat × Operand)} (ht : P.underlying T = some (.slice E)) (hs : ∀ w, (sizeOf E).run P w = .ok size w)
    (hz : ∀ w, ∃ u : Value, u.cells = z.toArray ∧ (zeroValue E).run P w = .ok u w) (hp : ps = (idx 0 xs).toArray) (hx : xs.map (ev N ρ) = vs) (hc : CL size vs cs) (hn : vs.length = n) (hsm : n * size ≤ 16777216) :
    Rn P N ⟨d, .buildSlice T n ps, t, p, a, g⟩ ρ w (.slice (some ⟨w.heap.size, 0, none⟩) n n) (w.alloc (.cells cs.toArray E)) :=
  ⟨fun _ h => (by cases h), by
    subst hn; subst hp; subst hx
    obtain ⟨u, hu, hz⟩ := hz w
    have hidx : ∀ (xs : List Operand) (i : Nat), (idx i xs).map (fun q => (q.1, ev N ρ q.2)) = (List.range' i (xs.map (ev N ρ)).length).zip (xs.map (ev N ρ)) := by
      intro xs
      induction xs with
      | nil => intro i; simp [idx]
      | cons x xs ih => intro i; simp only [idx, List.map_cons, List.length_cons, List.range'_succ, List.zip_cons_cons]; rw [ih]
    have hf : ∀ B : List Value, B.length = (xs.map (ev N ρ)).length * size → Instr.fill (fun i => some (i * size, size)) B.toArray ((List.range' 0 (xs.map (ev N ρ)).length).zip (xs.map (ev N ρ))) = some cs.toArray := fun B hB => by
      simpa using fill_seq size hc [] B 0 (by simp) hB
    have h24 : ¬ ((xs.map (ev N ρ)).length * size > 2 ^ 24) := by have e : 2 ^ 24 = 16777216 := by decide
                                                                  rw [e]; exact Nat.not_lt.2 hsm
    have key : ∀ Z : Array Value, Z.size = (xs.map (ev N ρ)).length * size → Instr.fill (fun i => some (i * size, size)) Z ((idx 0 xs).map fun q => (q.1, ev N ρ q.2)) = some cs.toArray := fun Z hZ => by
      rw [hidx]
      have := hf Z.toList (by simpa using hZ)
      simpa using this
    have hps : ((idx 0 xs).toArray.map fun x => match x with | (i, x) => (i, ev N ρ x)).toList = (idx 0 xs).map fun q => (q.1, ev N ρ q.2) := by simp
    unfold execOp
    simp only [Instr.buildSlice, Sem.run_bind, run_underlying ht, Result.andThen_ok, hs, h24, Sem.run_ite, if_false, Sem.run_pure]
    by_cases h0 : (xs.map (ev N ρ)).length * size = 0
    · simp only [h0, if_true, Sem.run_pure, Result.andThen_ok, hps]
      rw [key _ (by rw [h0]; simp only [Array.size_map, Array.size_range])]
      simp [newRow]
    · simp only [h0, if_false, Sem.run_bind, hz, Result.andThen_ok, Sem.run_pure, hps]
      rw [key _ (by simp)]
      simp [newRow]⟩
theorem lx_newS {T : TypeId} {n : Nat} {cs : List Value} {o : Oper} (hw : Want N lo o ρ true) (h : Rn P N o ρ w (.slice (some ⟨w.heap.size, 0, none⟩) n n) (w.alloc (.cells cs.toArray T)))
    (k : ∀ b w', b = w.heap.size → Ext w w' → Blk w' b cs T → b < w'.heap.size → LX r P N ds lo K rest (up ρ o.dst (.slice (some ⟨b, 0, none⟩) n n)) w') : LX r P N ds lo K (o :: rest) ρ w :=
  lx_value hw h (k _ _ rfl (ext_alloc _ _) (by have := Blk.alloc w cs.toArray T; simpa using this) (by simp))
end ops

/-! ### Results that lie in memory -/
section res
variable {P : Program} {N : Nat} {ρ : Nat → Value} {w : World} {fn : Func} {S : Nat → Prop} {R : Value → World → Prop} {w0 : World}
theorem run_loadVar_blk {T : TypeId} {b o n : Nat} {cs vs : List Value} {T' : TypeId} (ha : ∀ w, (isAgg T).run P w = .ok true w) (hs : ∀ w, (sizeOf T).run P w = .ok n w) (B : Blk w b cs T') (hv : (cs.drop o).take n = vs) (hn : vs.length = n) :
    (loadVar T ⟨b, o, none⟩).run P w = .ok (.agg vs.toArray) w := by
  subst hn
  have h1 := run_loadCells_list (P := P) (w := w) ⟨b, o, none⟩ vs (fun j u hj => by
    rw [addr_add]
    refine B.cell _ ?_
    rw [← hv, List.getElem?_take] at hj
    split at hj
    · rw [List.getElem?_drop] at hj; exact hj
    · cases hj)
  simp [loadVar, ha, hs, h1]
theorem run_loadVar_blk1 {T : TypeId} {b o : Nat} {cs : List Value} {v : Value} {T' : TypeId} (ha : ∀ w, (isAgg T).run P w = .ok false w) (B : Blk w b cs T') (hv : cs[o]? = some v) : (loadVar T ⟨b, o, none⟩).run P w = .ok v w := by
  simp [loadVar, ha, B.cell o hv]
/-- a result: in a slot, or in memory -/
inductive RV (P : Program) (N : Nat) (ρ : Nat → Value) (w : World) : ResultVar → Value → Prop
  | tmp {t : Tmp} {v : Value} (hv : ev N ρ (.tmp t) = v) : RV P N ρ w (.tmp t) v
  | cell {t : Tmp} {T : TypeId} {a : Addr} {v : Value} (hv : ev N ρ (.tmp t) = .pointer (some a)) (hl : (loadVar T a).run P w = .ok v w) : RV P N ρ w (.cell t T) v
def resOne (tmps : Array Value) : ResultVar → Sem Value
  | .tmp t => pure (tmps.getD t undef)
  | .cell a t => do loadVar t (← asAddr (tmps.getD a undef))
theorem RV.run {x : ResultVar} {v : Value} (h : RV P N ρ w x v) (ds : List Deferred) : (resOne (mk N ρ ds).tmps x).run P w = .ok v w := by
  cases h with
  | tmp hv => simp only [resOne, mk_getD, Sem.run_pure]; simp only [ev] at hv; rw [hv]
  | cell hv hl => simp only [ev] at hv; simp only [resOne, mk_getD, hv, asAddr, Sem.run_bind, Sem.run_pure, Result.andThen_ok, hl]
theorem results_eq (fn : Func) (tmps : Array Value) : results fn tmps = (do let vs ← fn.results.mapM (resOne tmps); pure (if h : vs.size = 1 then vs[0] else .tuple vs)) := by
  unfold results
  congr 1
theorem retR1 {x : ResultVar} {v : Value} (hr : fn.results = #[x]) (h : RV P N ρ w x v) (hf : Fr S w0 w) (hR : R v w) : retK P fn N S R w0 .ret [] ρ w :=
  ⟨rfl, v, by rw [results_eq, hr]; simp [h.run], hf, hR⟩
theorem retR2 {x y : ResultVar} {u v : Value} (hr : fn.results = #[x, y]) (h : RV P N ρ w x u) (k : RV P N ρ w y v) (hf : Fr S w0 w) (hR : R (.tuple #[u, v]) w) : retK P fn N S R w0 .ret [] ρ w :=
  ⟨rfl, _, by rw [results_eq, hr]; simp [h.run, k.run], hf, hR⟩
theorem retR3 {x y z : ResultVar} {u v q : Value} (hr : fn.results = #[x, y, z]) (h : RV P N ρ w x u) (k : RV P N ρ w y v) (l : RV P N ρ w z q) (hf : Fr S w0 w) (hR : R (.tuple #[u, v, q]) w) : retK P fn N S R w0 .ret [] ρ w :=
  ⟨rfl, _, by rw [results_eq, hr]; simp [h.run, k.run, l.run], hf, hR⟩
end res
end Go.Eng
