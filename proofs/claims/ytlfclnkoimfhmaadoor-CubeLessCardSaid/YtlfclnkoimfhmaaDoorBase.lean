/- What the rows of this seat share: the two tables of math/bits, and how a law is closed. -/
import Derived.Test.YtlfclnkoimfhmaaDoorCards
import Derived.Test.YtlfclnkoimfhmaaDoorTie
import Derived.Test.YtlfclnkoimfhmaaDoorRead
import Derived.Test.YtlfclnkoimfhmaaDoorPre
import Derived.Stop.LaidErr
set_option maxRecDepth 100000
set_option linter.unusedVariables false
set_option linter.unusedSimpArgs false
namespace Go.Proofs.YtlfclnkoimfhmaaDoor
open Go Go.RowKit Go.Mix Go.Eng Go.ChangeShapes Go.WideShapes Go.ChangeAt
theorem ownG : ownKnob Tryd.prog.godebug = none := by kernel_rfl
theorem gTab64 : Tryd.prog.globalNamed "math/bits.deBruijn64tab" = some 1 := by kernel_rfl
theorem gTy64 : (Tryd.prog.globals[1]?).map (·.type) = some 135 := by kernel_rfl
theorem cells135 : Tryd.prog.cellsOf 135 = 64 := by kernel_rfl
theorem cells5 : Tryd.prog.cellsOf 5 = 1 := by kernel_rfl
theorem cells3 : Tryd.prog.cellsOf 3 = 1 := by kernel_rfl
theorem cells24 : Tryd.prog.cellsOf 24 = 3 := by kernel_rfl
theorem cells41 : Tryd.prog.cellsOf 41 = 3 := by kernel_rfl
theorem cells49 : Tryd.prog.cellsOf 49 = 1 := by kernel_rfl
theorem laidOut : laidOutB Tryd.prog = true := by kernel_rfl
theorem read24 : Tryd.prog.readableRec 24 = true ∧ 24 < Tryd.prog.types.size := ⟨by kernel_rfl, of_decide_eq_true (by kernel_rfl)⟩
theorem read3 : Tryd.prog.readableRec 3 = true ∧ 3 < Tryd.prog.types.size := ⟨by kernel_rfl, of_decide_eq_true (by kernel_rfl)⟩
abbrev laidL : List (String × DataW Unit) := [("math/bits.deBruijn32tab", Rows.laid_math_bits_deBruijn32tab), ("math/bits.deBruijn64tab", Rows.laid_math_bits_deBruijn64tab)]
/-- what the row's list gives -/
theorem tb_of {W : World} (h : laidMetH Tryd.prog laidL W) : Tb W 1 := by
  have h1 : laidMet Tryd.prog laidL W := h
  have h2 := Go.Lib.tabIs_of_head (zs := tab64) (rest := []) gTab64 gTy64 Tryd.underlying135 Tryd.underlying5 cells5 cells135 (laidMet.tail h1)
  intro i z hz
  have hlt := (List.getElem?_eq_some_iff.1 hz).1
  have := h2.cell gTab64 i hlt
  rw [List.getD_eq_getElem?_getD, hz] at this
  exact this
def tab32 : List Int := [0, 1, 28, 2, 29, 14, 24, 3, 30, 22, 20, 15, 25, 17, 4, 8, 31, 27, 13, 23, 21, 19, 16, 7, 26, 12, 18, 6, 11, 5, 10, 9]
def laidAs (zs : List Int) : Obj → Obj
  | .cells _ t frozen => .cells (zs.map (Value.int .u8)).toArray t frozen
  | o => o
/-- a world for the witness: the settled one, the tables holding what their initialisers lay -/
noncomputable def laidWorld (os : Os) : World :=
  { World.holding Tryd.prog os ⟨#[], #[], []⟩ with heap := ((World.holding Tryd.prog os ⟨#[], #[], []⟩).heap.modify 0 (laidAs tab32)).modify 1 (laidAs tab64) }
theorem law_done {f : FuncId} {fn : Func} {s : ChangeSpec} {H : Type} {enc : TypeId × Value → H} {W : World} {args : List Value} {arr : Array Value} {ds gs : List (DataW H)} {before : List MemPlace} {apart fresh handsOn : Bool} (hct : CT Tryd.prog f args W no (fun v _ => v = .bool true)) (ha : arr = args.toArray)
    (hW : DataW.Whole enc Tryd.prog fn.params.toList s.vars apart W arr.toList ds gs before) (hv : s.vars = []) (hs : s.fn H (ds ++ gs) = { results := [.lit (.bool true)], args := ds, vars := [] })
    (hr : ∀ t ∈ fn.params.toList, Tryd.prog.readableRec t = true ∧ t < Tryd.prog.types.size) (ht : fn.resultTypes = #[4]) :
    Calls Tryd.prog f arr W fun e W' => ∃ v, e = .returned v ∧ s.post enc Tryd.prog fn apart fresh handsOn false W arr v W' := by
  subst ha
  refine hct.calls.mono fun e W' ⟨v, he, hf, hv'⟩ => ?_
  subst hv'
  exact ⟨_, he, law_post hW hv hs (Ext.below hf) laidOut hr ht Tryd.underlying4⟩
theorem cells45 : Tryd.prog.cellsOf 45 = 2 := by kernel_rfl
theorem read41 : Tryd.prog.readableRec 41 = true ∧ 41 < Tryd.prog.types.size := ⟨by kernel_rfl, of_decide_eq_true (by kernel_rfl)⟩
theorem read45 : Tryd.prog.readableRec 45 = true ∧ 45 < Tryd.prog.types.size := ⟨by kernel_rfl, of_decide_eq_true (by kernel_rfl)⟩
theorem read28 : Tryd.prog.readableRec 28 = true ∧ 28 < Tryd.prog.types.size := ⟨by kernel_rfl, of_decide_eq_true (by kernel_rfl)⟩
section
variable {H : Type} {enc : TypeId × Value → H} {W : World} {base b : Nat} {spare : Nat → Bool} {held : Bool} {v : Value} {d : DataW H} {p : List MemPlace}
theorem reads_pk : Reads enc Tryd.prog W base spare held 41 3 (Fl pkC) := reads_ints3 Tryd.underlying41 Tryd.underlying3 ⟨rfl, rfl⟩ ⟨rfl, rfl⟩ ⟨rfl, rfl⟩ cells3 cells41
theorem open_cube (hv : Value.okWide Tryd.prog W .any b 24 v) (h : DataW.Trod enc Tryd.prog W base spare held 24 v d p) : ∃ (a r : Int) (s : Option Addr) (c : Nat) (L : List (List Pk)), v = .agg #[.int .i64 a, .int .i64 r, .slice s L.length c] ∧ BufS (fun _ => True) W s L := by
  obtain ⟨c0, c1, c2, y0, y1, y2, n, rfl, _, _, h0, h1, h2⟩ := Go.Joins.open_agg3 Tryd.underlying24 (by kernel_rfl) cells24 hv h
  obtain ⟨a, e0, _⟩ := DataW.trod_int Tryd.underlying3 h0
  obtain ⟨r, e1, _⟩ := DataW.trod_int Tryd.underlying3 h1
  obtain ⟨s, c, L, e2, hL⟩ := read_slice Tryd.underlying22 cells49 (by decide) (reads_slice Tryd.underlying49 cells41 (by decide) reads_pk) h2
  simp only [List.cons.injEq, and_true] at e0 e1 e2
  subst e0; subst e1; subst e2
  exact ⟨a, r, s, c, L, rfl, hL⟩
theorem open_pk (hv : Value.okWide Tryd.prog W .any b 41 v) (h : DataW.Trod enc Tryd.prog W base spare held 41 v d p) : ∃ p1 p2 p3 : Int, v = .agg #[.int .i64 p1, .int .i64 p2, .int .i64 p3] := by
  obtain ⟨c0, c1, c2, y0, y1, y2, n, rfl, _, _, h0, h1, h2⟩ := Go.Joins.open_agg3 Tryd.underlying41 (by kernel_rfl) cells41 hv h
  obtain ⟨x0, e0, _⟩ := DataW.trod_int Tryd.underlying3 h0
  obtain ⟨x1, e1, _⟩ := DataW.trod_int Tryd.underlying3 h1
  obtain ⟨x2, e2, _⟩ := DataW.trod_int Tryd.underlying3 h2
  simp only [List.cons.injEq, and_true] at e0 e1 e2
  subst e0; subst e1; subst e2
  exact ⟨x0, x1, x2, rfl⟩
theorem open_mv (hv : Value.okWide Tryd.prog W .any b 45 v) (h : DataW.Trod enc Tryd.prog W base spare held 45 v d p) : ∃ p1 p2 : Int, v = .agg #[.int .i64 p1, .int .i64 p2] := by
  obtain ⟨c0, c1, y0, y1, n, rfl, _, _, h0, h1⟩ := Go.Joins.open_agg2 Tryd.underlying45 (by kernel_rfl) cells45 hv h
  obtain ⟨x0, e0, _⟩ := DataW.trod_int Tryd.underlying3 h0
  obtain ⟨x1, e1, _⟩ := DataW.trod_int Tryd.underlying3 h1
  simp only [List.cons.injEq, and_true] at e0 e1
  subst e0; subst e1
  exact ⟨x0, x1, rfl⟩
theorem open_ints (hv : Value.okWide Tryd.prog W .any b 28 v) (h : DataW.Trod enc Tryd.prog W base spare held 28 v d p) : ∃ (s : Option Addr) (c : Nat) (l : List Int), v = .slice s l.length c ∧ IntS (fun _ => True) W s l := by
  obtain ⟨s0, n0, c0, rfl⟩ := okWide_slice Tryd.underlying28 hv
  obtain ⟨fuel, hf⟩ := h
  obtain ⟨s, c, l, e, hl⟩ := read_slice Tryd.underlying28 cells3 (by decide) (reads_int Tryd.underlying3) hf
  simp only [Value.cells, List.cons.injEq, and_true] at e
  exact ⟨s, c, l, e, hl⟩
end

end Go.Proofs.YtlfclnkoimfhmaaDoor
