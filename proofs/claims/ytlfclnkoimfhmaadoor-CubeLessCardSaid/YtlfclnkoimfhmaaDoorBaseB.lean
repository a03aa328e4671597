/- What the rows of filled cubes share: how bytes are read. -/
import Derived.Test.YtlfclnkoimfhmaaDoorBase
import Derived.Test.YtlfclnkoimfhmaaDoorPreB
set_option maxRecDepth 100000
set_option linter.unusedVariables false
set_option linter.unusedSimpArgs false
namespace Go.Proofs.YtlfclnkoimfhmaaDoor
open Go Go.RowKit Go.Mix Go.Eng Go.ChangeShapes Go.WideShapes Go.ChangeAt
theorem cells61 : Tryd.prog.cellsOf 61 = 3 := by kernel_rfl
theorem cells103 : Tryd.prog.cellsOf 103 = 3 := by kernel_rfl
theorem read5 : Tryd.prog.readableRec 5 = true ∧ 5 < Tryd.prog.types.size := ⟨by kernel_rfl, of_decide_eq_true (by kernel_rfl)⟩
theorem read61 : Tryd.prog.readableRec 61 = true ∧ 61 < Tryd.prog.types.size := ⟨by kernel_rfl, of_decide_eq_true (by kernel_rfl)⟩
theorem read62 : Tryd.prog.readableRec 62 = true ∧ 62 < Tryd.prog.types.size := ⟨by kernel_rfl, of_decide_eq_true (by kernel_rfl)⟩
theorem u8_fin {n : Int} (h : (Lit.int .u8 n).wf = true) : ∃ k : Fin 256, n = (k.val : Int) := by
  have := bounds_u8 h
  exact ⟨⟨n.toNat, by omega⟩, by simp; omega⟩
section
variable {H : Type} {enc : TypeId × Value → H} {W : World} {base b : Nat} {spare : Nat → Bool} {held : Bool} {v : Value} {d : DataW H} {p : List MemPlace}
theorem open_u8 (hv : Value.okWide Tryd.prog W .any b 5 v) (h : DataW.Trod enc Tryd.prog W base spare held 5 v d p) : ∃ k : Nat, v = .int .u8 (k : Nat) ∧ k < 256 := by
  obtain ⟨n, rfl, _, _, hw⟩ := open_int Tryd.underlying5 hv h
  obtain ⟨k, rfl⟩ := u8_fin hw
  exact ⟨k.val, rfl, k.isLt⟩
abbrev fC (q : Fin 256) : List Value := [.int .u8 (q.val : Nat)]
abbrev tC (q : Fin 256 × Fin 256 × Fin 256) : List Value := [.int .u8 (q.1.val : Nat), .int .u8 (q.2.1.val : Nat), .int .u8 (q.2.2.val : Nat)]
theorem reads_byte : Reads enc Tryd.prog W base spare held 5 1 (Fl fC) := fun fuel cs x h => by
  obtain ⟨n, rfl, _, hw⟩ := DataW.trod_int Tryd.underlying5 h
  obtain ⟨k, rfl⟩ := u8_fin hw
  refine ⟨k, fun b off hc j v hj => ?_⟩
  have hlt : j < 1 := (List.getElem?_eq_some_iff.1 hj).1
  exact hc j v hlt hj
theorem reads_tri : Reads enc Tryd.prog W base spare held 103 3 (Fl tC) := fun fuel cs x h => by
  obtain ⟨xs, m, _, _, hl, hxs, hi⟩ := DataW.trod_array Tryd.underlying103 h
  rw [cells103] at hl
  rw [cells5] at hi
  match cs, hl with
  | [u, v, z], _ =>
    have g0 := hi 0 (by omega)
    have g1 := hi 1 (by omega)
    have g2 := hi 2 (by omega)
    rw [List.getElem?_eq_getElem (by omega)] at g0 g1 g2
    obtain ⟨a0, e0, _, w0⟩ := DataW.trod_int Tryd.underlying5 g0
    obtain ⟨a1, e1, _, w1⟩ := DataW.trod_int Tryd.underlying5 g1
    obtain ⟨a2, e2, _, w2⟩ := DataW.trod_int Tryd.underlying5 g2
    obtain ⟨k0, rfl⟩ := u8_fin w0
    obtain ⟨k1, rfl⟩ := u8_fin w1
    obtain ⟨k2, rfl⟩ := u8_fin w2
    simp at e0 e1 e2
    subst e0; subst e1; subst e2
    refine ⟨(k0, k1, k2), fun b off hc j v hj => ?_⟩
    have hlt : j < 3 := (List.getElem?_eq_some_iff.1 hj).1
    exact hc j v hlt hj
theorem sl_map {α β : Type} {F : Nat → Prop} {w : World} {s : Option Addr} {sz : Nat} {l : List α} {f : α → List Value} {g : α → β} {f' : β → List Value} (hl : Sl F w s sz l (Fl f)) (hg : ∀ x, f' (g x) = f x) : Sl F w s sz (l.map g) (Fl f') := fun i y hy => by
  rw [List.getElem?_map] at hy
  cases hx : l[i]? with
  | none => rw [hx] at hy; cases hy
  | some x =>
    rw [hx] at hy
    obtain rfl := Option.some.inj hy
    obtain ⟨b, o, h1, h2, h3⟩ := hl i x hx
    exact ⟨b, o, h1, h2, fun j v hj => h3 j v (by rw [← hg]; exact hj)⟩
theorem open_sent (hv : Value.okWide Tryd.prog W .any b 61 v) (h : DataW.Trod enc Tryd.prog W base spare held 61 v d p) :
    ∃ (xd xr : Nat) (X : List (Nat × Nat × Nat)) (s : Option Addr) (c : Nat), v = .agg #[.int .u8 (xd : Nat), .int .u8 (xr : Nat), .slice s X.length c] ∧ xd < 256 ∧ xr < 256 ∧ (∀ x ∈ X, x.1 < 256 ∧ x.2.1 < 256 ∧ x.2.2 < 256) ∧ Sl (fun _ => True) W s 3 X (Fl sC) := by
  obtain ⟨c0, c1, c2, y0, y1, y2, n, rfl, _, _, h0, h1, h2⟩ := Go.Joins.open_agg3 Tryd.underlying61 (by kernel_rfl) cells61 hv h
  obtain ⟨a0, e0, _, w0⟩ := DataW.trod_int Tryd.underlying5 h0
  obtain ⟨a1, e1, _, w1⟩ := DataW.trod_int Tryd.underlying5 h1
  obtain ⟨k0, rfl⟩ := u8_fin w0
  obtain ⟨k1, rfl⟩ := u8_fin w1
  obtain ⟨s, c, l, e2, hl⟩ := read_slice Tryd.underlying59 cells103 (by decide) reads_tri h2
  simp only [List.cons.injEq, and_true] at e0 e1 e2
  subst e0; subst e1; subst e2
  refine ⟨k0.val, k1.val, l.map (fun q => (q.1.val, q.2.1.val, q.2.2.val)), s, c, by rw [List.length_map], k0.isLt, k1.isLt, fun x hx => ?_, sl_map hl (fun _ => rfl)⟩
  obtain ⟨q, _, rfl⟩ := List.mem_map.1 hx
  exact ⟨q.1.isLt, q.2.1.isLt, q.2.2.isLt⟩
theorem open_bytes (hv : Value.okWide Tryd.prog W .any b 62 v) (h : DataW.Trod enc Tryd.prog W base spare held 62 v d p) : ∃ (s : Option Addr) (c : Nat) (l : List Nat), v = .slice s l.length c ∧ (∀ z ∈ l, z < 256) ∧ Sl (fun _ => True) W s 1 l (Fl nC) := by
  obtain ⟨s0, n0, c0, rfl⟩ := okWide_slice Tryd.underlying62 hv
  obtain ⟨fuel, hf⟩ := h
  obtain ⟨s, c, l, e, hl⟩ := read_slice Tryd.underlying62 cells5 (by decide) reads_byte hf
  simp only [Value.cells, List.cons.injEq, and_true] at e
  refine ⟨s, c, l.map (fun q => q.val), by rw [List.length_map]; exact e, fun z hz => ?_, sl_map hl (fun _ => rfl)⟩
  obtain ⟨q, _, rfl⟩ := List.mem_map.1 hz
  exact q.isLt
end

end Go.Proofs.YtlfclnkoimfhmaaDoor
