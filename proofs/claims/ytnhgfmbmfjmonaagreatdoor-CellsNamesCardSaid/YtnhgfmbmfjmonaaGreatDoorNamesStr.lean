/- Strings that are written into slices of bytes of our own, and read from them. No program stands here. -/
import Derived.Test.YtnhgfmbmfjmonaaGreatDoorNamesMem
import Derived.Lib.UnsafeStr
set_option linter.unusedVariables false
set_option linter.unusedSimpArgs false
namespace Go.Eng
open Go Go.RowKit Go.Mix Go.Lib
section
variable {w w' : World} {e : TypeId} {n cap : Nat} {s : Option Addr} {xs : List Value}
theorem run_appendS {P : Program} {t u ty : TypeId} {str : ByteArray} (ht : P.underlying t = some (.slice e)) (hu : P.underlying u = some .string) (hi : TI P e [.int .u8 0] 1 1)
    (hown : OwnS w e 1 s n cap xs) (hbd : n + str.size ≤ 1073741824) :
    ∃ s' cap' w', (Builtin.append_ #[t, u] ty #[.slice s n cap, .string str]).run P w = .ok (.slice s' (n + str.size) cap') w' ∧ OwnS w' e 1 s' (n + str.size) cap' (xs ++ strCells str) ∧ Fr (ob s) w w' ∧
      (∀ k, ob s' k → (ob s k ∨ w.heap.size ≤ k)) ∧ ((s' = s ∧ cap' = cap) ∨ (s' = some ⟨w.heap.size, 0, none⟩ ∧ 0 < cap')) := by
  obtain ⟨i, z, hi, hz, hzu, hs, hb⟩ := hi
  have hnl : (strCells str).length = str.size := strCells_length str
  have hlen : (xs ++ strCells str).length = (n + str.size) * 1 := by rw [List.length_append, hown.1, hnl, Nat.add_mul, Nat.mul_one str.size]
  have hprod : (n + str.size) * i.bytes ≤ 140737488355328 := by rw [hb]; omega
  have hfc : ∀ w', (Builtin.firstCells i.size str.size (.string str)).run P w' = .ok (strCells str).toArray w' := fun w' => run_firstCells_string (P := P) w' i.size str
  by_cases hroom : n + str.size ≤ cap
  · rcases hown.2 with ⟨rfl, rfl, rfl⟩ | ⟨g, o, cur, rfl, hB, hnc', hcm, hcl, htk⟩
    · have hm : str.size = 0 := by omega
      have hne : strCells str = [] := List.eq_nil_of_length_eq_zero (by rw [hnl]; exact hm)
      have hx : xs = [] := List.eq_nil_of_length_eq_zero (by simpa using hown.1)
      subst hx
      refine ⟨none, 0, w, ?_, by rw [hne, hm]; simpa using OwnS.nil w e 1, Fr.refl _ _, fun k hk => .inl hk, .inl ⟨rfl, rfl⟩⟩
      have hf := hfc w
      rw [hm, hs, hne] at hf
      simp [Builtin.append_, run_underlying ht, run_underlying hu, sizeOf, typeInfo, hi, Builtin.lenOf, hm, hf, hs]
    · have hfit : o + n * 1 + (strCells str).length ≤ cur.length := by
        rw [hnl]; omega
      obtain ⟨w', hr, hB', hf⟩ := run_storeCells_blk (P := P) g e (strCells str) 0 cur (o + n * 1) w hB (by simpa using hfit) (strCells_oneCell str)
      refine ⟨some ⟨g, o, none⟩, cap, w', ?_, ⟨hlen, .inr ⟨g, o, _, rfl, hB', hroom, hcm, ?_, ?_⟩⟩, hf.mono (fun k _ hk => by subst hk; exact ⟨o, none, rfl⟩), fun k hk => .inl hk, .inl ⟨rfl, rfl⟩⟩
      · have hr2 : (storeCells ((⟨g, o, none⟩ : Addr).add n) (strCells str)).run P w = .ok () w' := by
          rw [addr_add]; simpa using hr
        have hf2 := hfc w
        rw [hs] at hf2
        simp [Builtin.append_, run_underlying ht, run_underlying hu, sizeOf, typeInfo, hi, Builtin.lenOf, hroom, hf2, hs, hr2]
      · simp only [Nat.add_zero, List.length_append, List.length_take, List.length_drop, hnl]; omega
      · have hto : (cur.take (o + n * 1)).drop o = xs := by rw [List.drop_take, Nat.add_sub_cancel_left]; exact htk
        rw [Nat.add_zero, List.append_assoc, List.drop_append_of_le_length (by rw [List.length_take]; omega), hto, ← List.append_assoc, ← hlen]; exact List.take_left
  · have hge := fun old => grownCap_ge w (n + str.size) old e
    have hcm : ∀ old, grownCap w (n + str.size) old e ≤ maxLen := fun old => grownCap_le_maxLen w (n + str.size) old e (by unfold maxLen; omega)
    have fin : ∀ (old : Nat), OwnS (w.drew.alloc (.cells (xs.toArray ++ (strCells str).toArray ++ Builtin.zeroCells z.cells (grownCap w (n + str.size) old e - (n + str.size))) e)) e 1 (some ⟨w.heap.size, 0, none⟩) (n + str.size) (grownCap w (n + str.size) old e) (xs ++ strCells str) := fun old => by
      refine ⟨hlen, .inr ⟨w.heap.size, 0, (xs.toArray ++ (strCells str).toArray ++ Builtin.zeroCells z.cells (grownCap w (n + str.size) old e - (n + str.size))).toList, rfl, ?_, hge old, hcm old, ?_, ?_⟩⟩
      · exact Blk.alloc w.drew _ e
      · have hzl : ([Value.int .u8 0] : List Value).length = 1 := rfl
        have hox := hown.1
        simp only [Array.length_toList, Array.size_append, List.size_toArray, size_zeroCells, hzu, hzl, hox, hnl]
        have := hge old; omega
      · simp only [Array.toList_append, List.append_assoc, List.drop_zero]
        rw [← List.append_assoc, ← hlen]
        exact List.take_left
    have hex : ∀ o : Obj, Fr (ob s) w (w.drew.alloc o) := fun o => ((ext_drew w).trans' (ext_alloc _ _)).fr
    have hnew : ∀ k, ob (some (⟨w.heap.size, 0, none⟩ : Addr)) k → (ob s k ∨ w.heap.size ≤ k) := fun k ⟨o, sp, h⟩ => by
      injection h with h; injection h with h1; omega
    rcases hown.2 with ⟨rfl, rfl, rfl⟩ | ⟨g, og, cur, rfl, hB, hnc', hcm', hcl, htk⟩
    · have hx : xs = [] := List.eq_nil_of_length_eq_zero (by simpa using hown.1)
      subst hx
      have hr := run_append_nil_string (P := P) w t u ty e i z ht hu hi hz str (by omega) (by omega) (by simp only [Nat.zero_add] at hprod; omega)
      have e1 : (str.data.map fun b => Value.int .u8 b.toNat) = (strCells str).toArray := by
        apply Array.ext'
        simp [strCells]
      rw [e1] at hr
      have hf := fin 0
      simp only [Nat.zero_add, List.nil_append, Array.empty_append] at hf ⊢
      exact ⟨_, _, _, hr, hf, hex _, by simpa using hnew, .inr ⟨rfl, by have := hge 0; simp only [Nat.zero_add] at this; omega⟩⟩
    · have holds : ∀ j v, xs[j]? = some v → w.cell? ((⟨g, og, none⟩ : Addr).add j) = some v := fun j v hj => by
        rw [addr_add]
        refine hB.cell _ ?_
        rw [← htk, List.getElem?_take, List.getElem?_drop] at hj
        split at hj
        · exact hj
        · cases hj
      have hr := run_append_grow_string (P := P) w t u ty e i z ht hu hi hz ⟨g, og, none⟩ n cap xs (by rw [hs]; exact hown.1) holds str (by omega) (by omega) (growslice_fits (by omega) hprod)
      exact ⟨_, _, _, hr, fin cap, hex _, hnew, .inr ⟨rfl, by have := hge cap; omega⟩⟩
end
section
variable {P : Program} {N : Nat} {ρ : Nat → Value} {w : World} {d : Option Tmp} {t : TypeId} {p : String} {a : Array Edge} {g : Option (Nat × Bool)} {r : Option Nat} {ds : List Deferred} {lo rest : List Oper} {K : (Nat → Value) → World → Prop}
variable {x y : Operand} {T U e : TypeId} {n cap : Nat} {s : Option Addr} {xs : List Value} {str : ByteArray}
theorem lx_appendS (hw : Want N lo ⟨d, .call { callee := .builtin .append, args := #[x, y], argTypes := #[T, U] }, t, p, a, g⟩ ρ true) (ht : P.underlying T = some (.slice e)) (hu : P.underlying U = some .string) (hi : TI P e [.int .u8 0] 1 1)
    (hx : ev N ρ x = .slice s n cap) (hy : ev N ρ y = .string str) (hown : OwnS w e 1 s n cap xs) (hbd : n + str.size ≤ 1073741824)
    (k : ∀ s' cap' w', Apd w e 1 s (n + str.size) (xs ++ strCells str) s' cap' w' → ((s' = s ∧ cap' = cap) ∨ (s' = some ⟨w.heap.size, 0, none⟩ ∧ 0 < cap')) → LX r P N ds lo K rest (up ρ d (.slice s' (n + str.size) cap')) w') :
    LX r P N ds lo K (⟨d, .call { callee := .builtin .append, args := #[x, y], argTypes := #[T, U] }, t, p, a, g⟩ :: rest) ρ w := by
  obtain ⟨s', cap', w', hr, h1, h2, h3, h4⟩ := run_appendS (P := P) (ty := t) (str := str) ht hu hi hown hbd
  refine lx_value hw (v := .slice s' (n + str.size) cap') (w' := w') ⟨fun _ h => (by cases h), ?_⟩ (k s' cap' w' ⟨h1, h2, h3⟩ h4)
  simp [execOp, resolve, invoke, builtin, hx, hy, hr]
theorem fr_freeze (w : World) (g n : Nat) : Fr (· = g) w (w.freeze ⟨g, 0, none⟩ n) := by
  unfold World.freeze
  split
  · exact Fr.refl _ _
  · refine ⟨rfl, rfl, rfl, by simp, fun k hk hn => ?_⟩
    show (w.heap.modify g _)[k]? = _
    rw [Array.getElem?_modify]
    have : ¬ g = k := fun h => hn h.symm
    simp [this]
end
end Go.Eng
namespace Go.Eng
open Go Go.RowKit Go.Mix Go.Lib
section
variable {P : Program} {N : Nat} {ρ : Nat → Value} {w : World} {d : Option Tmp} {t : TypeId} {p : String} {a : Array Edge} {g : Option (Nat × Bool)} {r : Option Nat} {ds : List Deferred} {lo rest : List Oper} {K : (Nat → Value) → World → Prop}
variable {x y : Operand} {e : TypeId} {cap : Nat} {s : Option Addr}
theorem run_unsafeStringS {pt it ty : TypeId} {l : List UInt8} (hp : P.underlying pt = some (.pointer e)) (hc : P.cellsOf e = 1) (hown : OwnS w e 1 s l.length cap (l.map fun b => .int .u8 (b.toNat : Nat)))
    (h0 : ∀ b o sp, s = some ⟨b, o, sp⟩ → o = 0 ∧ sp = none) (h63 : l.length ≤ 1073741824) :
    ∃ w', (Builtin.unsafeString_ #[pt, it] ty #[.pointer s, .int .i64 (l.length : Nat)]).run P w = .ok (.string ⟨l.toArray⟩) w' ∧ Fr (ob s) w w' := by
  cases l with
  | nil => exact ⟨w, run_unsafeString_none (P := P) (w := w) pt it ty s, Fr.refl _ _⟩
  | cons b l =>
    rcases hown.2 with ⟨_, h, _⟩ | ⟨gb, o, cur, rfl, hB, hnc, hcm, hcl, htk⟩
    · simp at h
    · obtain ⟨rfl, _⟩ := h0 gb o none rfl
      refine ⟨_, run_unsafeString_row (P := P) (w := w) pt it ty e hp hc gb cur.length ?_ (b :: l) (by simp) (by rw [Nat.mul_one, Nat.zero_add] at hcl; omega) (by omega) (fun j x hj => ?_), (fr_freeze w gb _).mono (fun k _ hk => by subst hk; exact ⟨0, none, rfl⟩)⟩
      · unfold Blk at hB
        simp [World.shape?, hB]
      · have hj2 : ((b :: l).map fun b => Value.int .u8 (b.toNat : Nat))[j]? = some (.int .u8 (x.toNat : Nat)) := by rw [List.getElem?_map, hj]; rfl
        rw [addr_add]
        refine hB.cell _ ?_
        rw [← htk, List.getElem?_take, List.getElem?_drop] at hj2
        split at hj2
        · exact hj2
        · cases hj2
theorem lx_unsafeString {pt it ty : TypeId} {l : List UInt8} (hw : Want N lo ⟨d, .call { callee := .builtin .unsafeString, args := #[x, y], argTypes := #[pt, it] }, ty, p, a, g⟩ ρ true) (hp : P.underlying pt = some (.pointer e)) (hc : P.cellsOf e = 1) (hx : ev N ρ x = .pointer s) (hy : ev N ρ y = .int .i64 (l.length : Nat)) (hown : OwnS w e 1 s l.length cap (l.map fun b => .int .u8 (b.toNat : Nat)))
    (h0 : ∀ b o sp, s = some ⟨b, o, sp⟩ → o = 0 ∧ sp = none) (h63 : l.length ≤ 1073741824) (k : ∀ w', Fr (ob s) w w' → LX r P N ds lo K rest (up ρ d (.string ⟨l.toArray⟩)) w') :
    LX r P N ds lo K (⟨d, .call { callee := .builtin .unsafeString, args := #[x, y], argTypes := #[pt, it] }, ty, p, a, g⟩ :: rest) ρ w := by
  obtain ⟨w', h1, h2⟩ := run_unsafeStringS (P := P) (it := it) (ty := ty) hp hc hown h0 h63
  refine lx_value hw (v := .string ⟨l.toArray⟩) (w' := w') ⟨fun _ h => (by cases h), ?_⟩ (k w' h2)
  simp [execOp, resolve, invoke, builtin, hx, hy, h1]
/-- where a slice's elements lie -/
theorem rn_sliceData {n c : Nat} {Ts : Array TypeId} (hx : ev N ρ x = .slice s n c) (hc : s ≠ none → c ≠ 0) : Rn P N ⟨d, .call { callee := .builtin .unsafeSliceData, args := #[x], argTypes := Ts }, t, p, a, g⟩ ρ w (.pointer s) w := ⟨fun _ h => (by cases h), by
  cases s with
  | none =>
    have h1 : (Builtin.unsafeSliceData_ Ts t #[.slice none n c]).run P w = .ok (.pointer none) w := rfl
    simp [execOp, resolve, invoke, builtin, hx, h1]
  | some ad =>
    have h1 : (Builtin.unsafeSliceData_ Ts t #[.slice (some ad) n c]).run P w = .ok (.pointer (some ad)) w := by
      have hdef : Builtin.unsafeSliceData_ Ts t #[.slice (some ad) n c] = (do if c ≠ 0 then pure (.pointer (some ad)) else if (← viewAt ad.block).isSome then pure (.pointer (some ad)) else pure (.pointer (some ⟨← newObj (.view ad (← elemOf t)), 0, none⟩))) := rfl
      rw [hdef, if_pos (hc (by simp))]; rfl
    simp [execOp, resolve, invoke, builtin, hx, h1]⟩
end
end Go.Eng
