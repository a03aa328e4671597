/- What the rows of this seat share: the two tables of math/bits, and how a law is closed. -/
import Derived.Test.YtnhgfmbmfjmonaaGreatDoorCards
import Derived.Test.YtnhgfmbmfjmonaaGreatDoorTie
import Derived.Test.YtnhgfmbmfjmonaaGreatDoorNamesRead
import Derived.Test.YtnhgfmbmfjmonaaGreatDoorNamesPre
import Derived.Stop.LaidErr
set_option maxRecDepth 100000
set_option linter.unusedVariables false
set_option linter.unusedSimpArgs false
namespace Go.Proofs.YtnhgfmbmfjmonaaGreatDoor
open Go Go.RowKit Go.Mix Go.Eng Go.ChangeShapes Go.WideShapes Go.ChangeAt
theorem ownG : ownKnob Tryz.prog.godebug = none := by kernel_rfl
theorem cells3 : Tryz.prog.cellsOf 3 = 1 := by kernel_rfl
theorem cells5 : Tryz.prog.cellsOf 5 = 1 := by kernel_rfl
theorem cells36 : Tryz.prog.cellsOf 36 = 2 := by kernel_rfl
theorem cells115 : Tryz.prog.cellsOf 115 = 2 := by kernel_rfl
theorem cells65 : Tryz.prog.cellsOf 65 = 2 := by kernel_rfl
theorem cells24 : Tryz.prog.cellsOf 24 = 1 := by kernel_rfl
theorem cells30 : Tryz.prog.cellsOf 30 = 1 := by kernel_rfl
theorem cells63 : Tryz.prog.cellsOf 63 = 1 := by kernel_rfl
theorem cells22 : Tryz.prog.cellsOf 22 = 1 := by kernel_rfl
theorem cells43 : Tryz.prog.cellsOf 43 = 1 := by kernel_rfl
theorem cells45 : Tryz.prog.cellsOf 45 = 2 := by kernel_rfl
theorem cells38 : Tryz.prog.cellsOf 38 = 8 := by kernel_rfl
theorem laidOut : laidOutB Tryz.prog = true := by kernel_rfl
theorem read24 : Tryz.prog.readableRec 24 = true ∧ 24 < Tryz.prog.types.size := ⟨by kernel_rfl, of_decide_eq_true (by kernel_rfl)⟩
theorem read25 : Tryz.prog.readableRec 25 = true ∧ 25 < Tryz.prog.types.size := ⟨by kernel_rfl, of_decide_eq_true (by kernel_rfl)⟩
theorem read9 : Tryz.prog.readableRec 9 = true ∧ 9 < Tryz.prog.types.size := ⟨by kernel_rfl, of_decide_eq_true (by kernel_rfl)⟩
theorem read30 : Tryz.prog.readableRec 30 = true ∧ 30 < Tryz.prog.types.size := ⟨by kernel_rfl, of_decide_eq_true (by kernel_rfl)⟩
theorem read36 : Tryz.prog.readableRec 36 = true ∧ 36 < Tryz.prog.types.size := ⟨by kernel_rfl, of_decide_eq_true (by kernel_rfl)⟩
theorem read45 : Tryz.prog.readableRec 45 = true ∧ 45 < Tryz.prog.types.size := ⟨by kernel_rfl, of_decide_eq_true (by kernel_rfl)⟩
theorem read89 : Tryz.prog.readableRec 89 = true ∧ 89 < Tryz.prog.types.size := ⟨by kernel_rfl, of_decide_eq_true (by kernel_rfl)⟩
theorem cells77 : Tryz.prog.cellsOf 77 = 1 := by kernel_rfl
theorem cells4 : Tryz.prog.cellsOf 4 = 1 := by kernel_rfl
theorem read95 : Tryz.prog.readableRec 95 = true ∧ 95 < Tryz.prog.types.size := ⟨by kernel_rfl, of_decide_eq_true (by kernel_rfl)⟩
theorem read96 : Tryz.prog.readableRec 96 = true ∧ 96 < Tryz.prog.types.size := ⟨by kernel_rfl, of_decide_eq_true (by kernel_rfl)⟩
theorem read5 : Tryz.prog.readableRec 5 = true ∧ 5 < Tryz.prog.types.size := ⟨by kernel_rfl, of_decide_eq_true (by kernel_rfl)⟩
theorem read3 : Tryz.prog.readableRec 3 = true ∧ 3 < Tryz.prog.types.size := ⟨by kernel_rfl, of_decide_eq_true (by kernel_rfl)⟩
theorem cells141 : Tryz.prog.cellsOf 141 = 4 := by kernel_rfl
theorem read70 : Tryz.prog.readableRec 70 = true ∧ 70 < Tryz.prog.types.size := ⟨by kernel_rfl, of_decide_eq_true (by kernel_rfl)⟩
theorem read38 : Tryz.prog.readableRec 38 = true ∧ 38 < Tryz.prog.types.size := ⟨by kernel_rfl, of_decide_eq_true (by kernel_rfl)⟩
abbrev laidL : List (String × DataW Unit) := [("math/bits.deBruijn32tab", Rows.laid_math_bits_deBruijn32tab), ("math/bits.deBruijn64tab", Rows.laid_math_bits_deBruijn64tab), ("internal/strconv.uint64pow10", Rows.laid_internal_strconv_uint64pow10)]
/-- the tables are not looked at -/
theorem tb_of {W : World} (_ : laidMetH Tryz.prog laidL W) : True := trivial
def tab32 : List Int := [0, 1, 28, 2, 29, 14, 24, 3, 30, 22, 20, 15, 25, 17, 4, 8, 31, 27, 13, 23, 21, 19, 16, 7, 26, 12, 18, 6, 11, 5, 10, 9]
def tab64 : List Int := [0, 1, 56, 2, 57, 49, 28, 3, 61, 58, 42, 50, 38, 29, 17, 4, 62, 47, 59, 36, 45, 43, 51, 22, 53, 39, 33, 30, 24, 18, 12, 5, 63, 55, 48, 27, 60, 41, 37, 16, 46, 35, 44, 21, 52, 32, 23, 11, 54, 26, 40, 15, 34, 20, 31, 10, 25, 14, 19, 9, 13, 8, 7, 6]
def tab10 : List Int := [1, 10, 100, 1000, 10000, 100000, 1000000, 10000000, 100000000, 1000000000, 10000000000, 100000000000, 1000000000000, 10000000000000, 100000000000000, 1000000000000000, 10000000000000000, 100000000000000000, 1000000000000000000, 10000000000000000000]
theorem cells207 : Tryz.prog.cellsOf 207 = 1 := by kernel_rfl
theorem cells218 : Tryz.prog.cellsOf 218 = 20 := by kernel_rfl
theorem gTab10 : Tryz.prog.globalNamed "internal/strconv.uint64pow10" = some 0 := by kernel_rfl
theorem gTy10 : (Tryz.prog.globals[0]?).map (·.type) = some 218 := by kernel_rfl
theorem itoa_of {W : World} (h : laidMetH Tryz.prog laidL W) : Go.Lib.TabIs Tryz.prog W "internal/strconv.uint64pow10" .u64 tab10 := by
  have h1 : laidMet Tryz.prog laidL W := h
  exact Go.Lib.tabIs_of_head (zs := tab10) (rest := []) gTab10 gTy10 Tryz.underlying218 Tryz.underlying207 cells207 cells218 (laidMet.tail (laidMet.tail h1))
def laidAs (k : IntKind) (zs : List Int) : Obj → Obj
  | .cells _ t frozen => .cells (zs.map (Value.int k)).toArray t frozen
  | o => o
/-- a world for the witness: the settled one, the tables holding what their initialisers lay -/
noncomputable def laidWorld (os : Os) : World :=
  { World.holding Tryz.prog os ⟨#[], #[], []⟩ with heap := (((World.holding Tryz.prog os ⟨#[], #[], []⟩).heap.modify 0 (laidAs .u64 tab10)).modify 1 (laidAs .u8 tab32)).modify 2 (laidAs .u8 tab64) }
theorem law_done {f : FuncId} {fn : Func} {s : ChangeSpec} {H : Type} {enc : TypeId × Value → H} {W : World} {args : List Value} {arr : Array Value} {ds gs : List (DataW H)} {before : List MemPlace} {apart fresh handsOn : Bool} (hct : CT Tryz.prog f args W no (fun v _ => v = .bool true)) (ha : arr = args.toArray)
    (hW : DataW.Whole enc Tryz.prog fn.params.toList s.vars apart W arr.toList ds gs before) (hv : s.vars = []) (hs : s.fn H (ds ++ gs) = { results := [.lit (.bool true)], args := ds, vars := [] })
    (hr : ∀ t ∈ fn.params.toList, Tryz.prog.readableRec t = true ∧ t < Tryz.prog.types.size) (ht : fn.resultTypes = #[4]) :
    Calls Tryz.prog f arr W fun e W' => ∃ v, e = .returned v ∧ s.post enc Tryz.prog fn apart fresh handsOn false W arr v W' := by
  subst ha
  refine hct.calls.mono fun e W' ⟨v, he, hf, hv'⟩ => ?_
  subst hv'
  exact ⟨_, he, law_post hW hv hs (Ext.below hf) laidOut hr ht Tryz.underlying4⟩
theorem list2 {α : Type} {l : List α} (h : l.length = 2) : ∃ a b, l = [a, b] := by
  match l, h with
  | [a, b], _ => exact ⟨a, b, rfl⟩
theorem list8 {α : Type} {l : List α} (h : l.length = 8) : ∃ a b c d e f g i, l = [a, b, c, d, e, f, g, i] := by
  match l, h with
  | [a, b, c, d, e, f, g, i], _ => exact ⟨a, b, c, d, e, f, g, i, rfl⟩
section
variable {H : Type} {enc : TypeId × Value → H} {W : World} {base b : Nat} {spare : Nat → Bool} {held : Bool} {v : Value} {d : DataW H} {p : List MemPlace}
theorem trod_vl {fuel : Nat} {cs : List Value} {x : DataW H × List MemPlace} (h : DataW.trod enc Tryz.prog W base spare held fuel 36 cs = some x) : ∃ a : Vl, cs = vlC a := by
  obtain ⟨y0, y1, n, _, hlen, g0, g1⟩ := trod_struct2 Tryz.underlying36 h
  simp only [cells5, cells3, cells36] at g0 g1 hlen
  obtain ⟨a, ea, _⟩ := DataW.trod_int Tryz.underlying5 g0
  obtain ⟨b, eb, _⟩ := DataW.trod_int Tryz.underlying3 g1
  obtain ⟨u, v, rfl⟩ := list2 hlen
  simp at ea eb
  subst ea; subst eb
  exact ⟨(a, b), rfl⟩
theorem trod_rd {fuel : Nat} {cs : List Value} {x : DataW H × List MemPlace} (h : DataW.trod enc Tryz.prog W base spare held fuel 115 cs = some x) : ∃ a : Rd, cs = rdC a := by
  obtain ⟨y0, y1, n, _, hlen, g0, g1⟩ := trod_struct2 Tryz.underlying115 h
  simp only [cells3, cells115] at g0 g1 hlen
  obtain ⟨a, ea, _⟩ := DataW.trod_int Tryz.underlying3 g0
  obtain ⟨b, eb, _⟩ := DataW.trod_int Tryz.underlying3 g1
  obtain ⟨u, v, rfl⟩ := list2 hlen
  simp at ea eb
  subst ea; subst eb
  exact ⟨(a, b), rfl⟩
theorem reads_of {α : Type} {e : TypeId} {sz : Nat} {f : α → List Value} (hf : ∀ a, (f a).length = sz) (hx : ∀ fuel cs x, DataW.trod enc Tryz.prog W base spare held fuel e cs = some x → ∃ a : α, cs = f a) : Reads enc Tryz.prog W base spare held e sz (Fl f) := fun fuel cs x h => by
  obtain ⟨a, rfl⟩ := hx fuel cs x h
  refine ⟨a, fun b' off hc j v hj => ?_⟩
  have hlt : j < (f a).length := (List.getElem?_eq_some_iff.1 hj).1
  exact hc j v (by rw [hf] at hlt; exact hlt) hj
theorem reads_vl : Reads enc Tryz.prog W base spare held 36 2 (Fl vlC) := reads_of (fun _ => rfl) (fun _ _ _ h => trod_vl h)
theorem reads_rd : Reads enc Tryz.prog W base spare held 115 2 (Fl rdC) := reads_of (fun _ => rfl) (fun _ _ _ h => trod_rd h)
theorem reads_st : Reads enc Tryz.prog W base spare held 65 2 (StC (fun _ => True)) := fun fuel cs x h => by
  obtain ⟨y0, y1, n, _, hlen, g0, g1⟩ := trod_struct2 Tryz.underlying65 h
  simp only [cells30, cells63, cells65] at g0 g1 hlen
  obtain ⟨s, c, l, e0, hl⟩ := read_slice Tryz.underlying30 cells36 (by decide) reads_vl g0
  obtain ⟨s', c', r, e1, hr⟩ := read_slice Tryz.underlying63 cells115 (by decide) reads_rd g1
  obtain ⟨u, v, rfl⟩ := list2 hlen
  simp at e0 e1
  subst e0; subst e1
  exact ⟨(l, r), fun b' off hc => ⟨s, c, s', c', by have := hc 0 _ (by decide) rfl; rwa [Nat.add_zero] at this, hc 1 _ (by decide) rfl, hl, hr⟩⟩
abbrev OpB : Type := { o : Op // 0 ≤ o.kind ∧ o.kind < 256 }
instance : Inhabited OpB := ⟨⟨⟨0, (0, 0), (0, 0), (0, 0), 0⟩, by decide⟩⟩
theorem trod_op {fuel : Nat} {cs : List Value} {x : DataW H × List MemPlace} (h : DataW.trod enc Tryz.prog W base spare held fuel 38 cs = some x) : ∃ o : OpB, cs = opC o.1 := by
  obtain ⟨xs, n, _, _, hlen, hx, hf⟩ := DataW.trod_struct Tryz.underlying38 h
  have g0 : DataW.trod enc Tryz.prog W base spare held n 5 ((cs.drop 0).take (Tryz.prog.cellsOf 5)) = xs[0]? := hf 0 _ rfl
  have g1 : DataW.trod enc Tryz.prog W base spare held n 36 ((cs.drop 1).take (Tryz.prog.cellsOf 36)) = xs[1]? := hf 1 _ rfl
  have g2 : DataW.trod enc Tryz.prog W base spare held n 36 ((cs.drop 3).take (Tryz.prog.cellsOf 36)) = xs[2]? := hf 2 _ rfl
  have g3 : DataW.trod enc Tryz.prog W base spare held n 36 ((cs.drop 5).take (Tryz.prog.cellsOf 36)) = xs[3]? := hf 3 _ rfl
  have g4 : DataW.trod enc Tryz.prog W base spare held n 3 ((cs.drop 7).take (Tryz.prog.cellsOf 3)) = xs[4]? := hf 4 _ rfl
  simp only [List.size_toArray, List.length_cons, List.length_nil] at hx
  rw [List.getElem?_eq_getElem (by omega)] at g0 g1 g2 g3 g4
  simp only [cells5, cells3, cells36, cells38] at g0 g1 g2 g3 g4 hlen
  obtain ⟨k, ek, _, hw⟩ := DataW.trod_int Tryz.underlying5 g0
  obtain ⟨v1, e1⟩ := trod_vl g1
  obtain ⟨v2, e2⟩ := trod_vl g2
  obtain ⟨v3, e3⟩ := trod_vl g3
  obtain ⟨r, er, _⟩ := DataW.trod_int Tryz.underlying3 g4
  obtain ⟨a, b, c, d, e, f, g, i, rfl⟩ := list8 hlen
  have hb := bounds_u8 hw
  unfold vlC at e1 e2 e3
  simp at ek e1 e2 e3 er
  refine ⟨⟨⟨k, v1, v2, v3, r⟩, show 0 ≤ k ∧ k < 256 from by omega⟩, ?_⟩
  unfold opC
  simp [ek, e1, e2, e3, er]
theorem reads_op : Reads enc Tryz.prog W base spare held 38 8 (Fl fun o : OpB => opC o.1) := reads_of (fun _ => rfl) (fun _ _ _ h => trod_op h)
theorem open_mem (hv : Value.okWide Tryz.prog W .any b 24 v) (h : DataW.Trod enc Tryz.prog W base spare held 24 v d p) : ∃ (s : Option Addr) (c : Nat) (m : Mem), v = .agg #[.slice s m.length c] ∧ MemS (fun _ => True) W s m := by
  obtain ⟨cs, rfl, hsz⟩ := okWide_struct Tryz.underlying24 hv
  obtain ⟨fuel, hf⟩ := h
  obtain ⟨y0, n, _, hlen, g0⟩ := trod_struct1 Tryz.underlying24 hf
  simp only [cells22, Value.cells] at g0
  obtain ⟨s, c, m, e, hm⟩ := read_slice Tryz.underlying22 cells65 (by decide) reads_st g0
  rw [cells24] at hsz
  obtain ⟨l⟩ := cs
  match l, hsz with
  | [u], _ =>
    simp at e
    subst e
    exact ⟨s, c, m, rfl, hm⟩
theorem open_op (hv : Value.okWide Tryz.prog W .any b 38 v) (h : DataW.Trod enc Tryz.prog W base spare held 38 v d p) : ∃ o : Op, v = .agg #[.int .u8 o.kind, .int .u8 o.v.1, .int .i64 o.v.2, .int .u8 o.ix.1, .int .i64 o.ix.2, .int .u8 o.val.1, .int .i64 o.val.2, .int .i64 o.rd] ∧ 0 ≤ o.kind ∧ o.kind < 256 := by
  obtain ⟨cs, rfl, hsz⟩ := okWide_struct Tryz.underlying38 hv
  obtain ⟨fuel, hf⟩ := h
  obtain ⟨o, ho⟩ := trod_op hf
  obtain ⟨l⟩ := cs
  have ho : l = opC o.1 := ho
  subst ho
  exact ⟨o.1, rfl, o.2⟩
theorem open_ops (hv : Value.okWide Tryz.prog W .any b 25 v) (h : DataW.Trod enc Tryz.prog W base spare held 25 v d p) : ∃ (s : Option Addr) (c : Nat) (l : List Op), v = .slice s l.length c ∧ (∀ o ∈ l, 0 ≤ o.kind ∧ o.kind < 256) ∧ OpS (fun _ => True) W s l := by
  obtain ⟨s0, n0, c0, rfl⟩ := okWide_slice Tryz.underlying25 hv
  obtain ⟨fuel, hf⟩ := h
  obtain ⟨s, c, l, e, hl⟩ := read_slice Tryz.underlying25 cells38 (by decide) reads_op hf
  simp only [Value.cells, List.cons.injEq, and_true] at e
  refine ⟨s, c, l.map (·.1), by rw [List.length_map]; exact e, fun o ho => ?_, fun i y hy => ?_⟩
  · obtain ⟨q, _, rfl⟩ := List.mem_map.1 ho; exact q.2
  · rw [List.getElem?_map] at hy
    cases hx : l[i]? with
    | none => rw [hx] at hy; cases hy
    | some q =>
      rw [hx] at hy
      obtain rfl := Option.some.inj hy
      exact hl i q hx
theorem open_vals (hv : Value.okWide Tryz.prog W .any b 30 v) (h : DataW.Trod enc Tryz.prog W base spare held 30 v d p) : ∃ (s : Option Addr) (c : Nat) (l : List Vl), v = .slice s l.length c ∧ VlS (fun _ => True) W s l := by
  obtain ⟨s0, n0, c0, rfl⟩ := okWide_slice Tryz.underlying30 hv
  obtain ⟨fuel, hf⟩ := h
  obtain ⟨s, c, l, e, hl⟩ := read_slice Tryz.underlying30 cells36 (by decide) reads_vl hf
  simp only [Value.cells, List.cons.injEq, and_true] at e
  exact ⟨s, c, l, e, hl⟩
theorem open_val (hv : Value.okWide Tryz.prog W .any b 36 v) (h : DataW.Trod enc Tryz.prog W base spare held 36 v d p) : ∃ a : Vl, v = .agg #[.int .u8 a.1, .int .i64 a.2] := by
  obtain ⟨cs, rfl, hsz⟩ := okWide_struct Tryz.underlying36 hv
  obtain ⟨fuel, hf⟩ := h
  obtain ⟨a, ha⟩ := trod_vl hf
  obtain ⟨l⟩ := cs
  have ha : l = vlC a := ha
  subst ha
  exact ⟨a, rfl⟩
theorem open_pic (hv : Value.okWide Tryz.prog W .any b 45 v) (h : DataW.Trod enc Tryz.prog W base spare held 45 v d p) : ∃ (s : Option Addr) (c : Nat) (s2 : Option Addr) (c2 : Nat) (q : Pic), v = .agg #[.slice s q.1.length c, .slice s2 q.2.length c2] ∧ VlS (fun _ => True) W s q.1 ∧ VvS (fun _ => True) W s2 q.2 := by
  obtain ⟨cs, rfl, hsz⟩ := okWide_struct Tryz.underlying45 hv
  obtain ⟨fuel, hf⟩ := h
  obtain ⟨y0, y1, n, _, hlen, g0, g1⟩ := trod_struct2 Tryz.underlying45 hf
  simp only [cells30, cells43, Value.cells] at g0 g1
  obtain ⟨s, c, l, e0, hl⟩ := read_slice Tryz.underlying30 cells36 (by decide) reads_vl g0
  obtain ⟨s', c', L, e1, hL⟩ := read_slice Tryz.underlying43 cells30 (by decide) (reads_slice Tryz.underlying30 cells36 (by decide) reads_vl) g1
  rw [cells45] at hsz
  obtain ⟨k⟩ := cs
  match k, hsz with
  | [u, z], _ =>
    simp at e0 e1
    subst e0; subst e1
    exact ⟨s, c, s', c', (l, L), rfl, hl, hL⟩
theorem open_u32 (hv : Value.okWide Tryz.prog W .any b 89 v) (h : DataW.Trod enc Tryz.prog W base spare held 89 v d p) : ∃ n : Nat, v = .int .u32 (n : Nat) ∧ n < 4294967296 := by
  obtain ⟨n, rfl, _, _, hw⟩ := open_int Tryz.underlying89 hv h
  have hb : 0 ≤ n ∧ n ≤ 4294967295 := by
    simp [Lit.wf, IntKind.min, IntKind.max, IntKind.signed, IntKind.bits] at hw
    omega
  exact ⟨n.toNat, by rw [Int.toNat_of_nonneg hb.1], by omega⟩
abbrev Q4E : Type := { q : Q4 // q.1 < 256 ∧ q.2.1 < 256 ∧ q.2.2.1 < 256 ∧ q.2.2.2 < 256 }
instance : Inhabited Q4E := ⟨⟨(0, 0, 0, 0), by decide⟩⟩
theorem byte_of {a : Int} (h : Lit.wf (.int .u8 a) = true) : ∃ k : Nat, a = (k : Int) ∧ k < 256 := ⟨a.toNat, by have := bounds_u8 h; omega, by have := bounds_u8 h; omega⟩
theorem trod_q4 {fuel : Nat} {cs : List Value} {x : DataW H × List MemPlace} (h : DataW.trod enc Tryz.prog W base spare held fuel 141 cs = some x) : ∃ q : Q4E, cs = q4C q.1 := by
  obtain ⟨xs, m, _, _, hl, hxs, hi⟩ := DataW.trod_array Tryz.underlying141 h
  rw [cells141] at hl
  rw [cells5] at hi
  match cs, hl with
  | [u, v, z, y], _ =>
    have g0 := hi 0 (by omega)
    have g1 := hi 1 (by omega)
    have g2 := hi 2 (by omega)
    have g3 := hi 3 (by omega)
    rw [List.getElem?_eq_getElem (by omega)] at g0 g1 g2 g3
    obtain ⟨a0, e0, _, w0⟩ := DataW.trod_int Tryz.underlying5 g0
    obtain ⟨a1, e1, _, w1⟩ := DataW.trod_int Tryz.underlying5 g1
    obtain ⟨a2, e2, _, w2⟩ := DataW.trod_int Tryz.underlying5 g2
    obtain ⟨a3, e3, _, w3⟩ := DataW.trod_int Tryz.underlying5 g3
    obtain ⟨k0, rfl, h0⟩ := byte_of w0
    obtain ⟨k1, rfl, h1⟩ := byte_of w1
    obtain ⟨k2, rfl, h2⟩ := byte_of w2
    obtain ⟨k3, rfl, h3⟩ := byte_of w3
    simp at e0 e1 e2 e3
    subst e0; subst e1; subst e2; subst e3
    exact ⟨⟨(k0, k1, k2, k3), h0, h1, h2, h3⟩, rfl⟩
theorem reads_q4 : Reads enc Tryz.prog W base spare held 141 4 (Fl fun q : Q4E => q4C q.1) := reads_of (fun _ => rfl) (fun _ _ _ h => trod_q4 h)
theorem open_storm (hv : Value.okWide Tryz.prog W .any b 70 v) (h : DataW.Trod enc Tryz.prog W base spare held 70 v d p) : ∃ (s : Option Addr) (c : Nat) (l : List Q4), v = .slice s l.length c ∧ q4B l ∧ Q4S (fun _ => True) W s l := by
  obtain ⟨s0, n0, c0, rfl⟩ := okWide_slice Tryz.underlying70 hv
  obtain ⟨fuel, hf⟩ := h
  obtain ⟨s, c, l, e, hl⟩ := read_slice Tryz.underlying70 cells141 (by decide) reads_q4 hf
  simp only [Value.cells, List.cons.injEq, and_true] at e
  refine ⟨s, c, l.map (·.1), by rw [List.length_map]; exact e, fun o ho => ?_, fun i y hy => ?_⟩
  · obtain ⟨q, _, rfl⟩ := List.mem_map.1 ho; exact q.2
  · rw [List.getElem?_map] at hy
    cases hx : l[i]? with
    | none => rw [hx] at hy; cases hy
    | some q =>
      rw [hx] at hy
      obtain rfl := Option.some.inj hy
      exact hl i q hx
theorem trod_bool4 {fuel : Nat} {cs : List Value} {x : DataW H × List MemPlace} (h : DataW.trod enc Tryz.prog W base spare held fuel 4 cs = some x) : ∃ b : Bool, cs = boC b := by
  cases fuel with
  | zero => simp [DataW.trod] at h
  | succ n =>
    unfold DataW.trod at h
    rw [Tryz.underlying4] at h
    split at h <;> simp_all [boC]
theorem reads_bool4 : Reads enc Tryz.prog W base spare held 4 1 (Fl boC) := reads_of (fun _ => rfl) (fun _ _ _ h => trod_bool4 h)
theorem open_ints2 (hv : Value.okWide Tryz.prog W .any b 95 v) (h : DataW.Trod enc Tryz.prog W base spare held 95 v d p) : ∃ (s : Option Addr) (c : Nat) (L : List (List Int)), v = .slice s L.length c ∧ IIS (fun _ => True) W s L := by
  obtain ⟨s0, n0, c0, rfl⟩ := okWide_slice Tryz.underlying95 hv
  obtain ⟨fuel, hf⟩ := h
  obtain ⟨s, c, l, e, hl⟩ := read_slice Tryz.underlying95 cells77 (by decide) (reads_slice Tryz.underlying77 cells3 (by decide) (reads_int Tryz.underlying3)) hf
  simp only [Value.cells, List.cons.injEq, and_true] at e
  exact ⟨s, c, l, e, hl⟩
theorem open_bools (hv : Value.okWide Tryz.prog W .any b 96 v) (h : DataW.Trod enc Tryz.prog W base spare held 96 v d p) : ∃ (s : Option Addr) (c : Nat) (l : List Bool), v = .slice s l.length c ∧ BoS (fun _ => True) W s l := by
  obtain ⟨s0, n0, c0, rfl⟩ := okWide_slice Tryz.underlying96 hv
  obtain ⟨fuel, hf⟩ := h
  obtain ⟨s, c, l, e, hl⟩ := read_slice Tryz.underlying96 cells4 (by decide) reads_bool4 hf
  simp only [Value.cells, List.cons.injEq, and_true] at e
  exact ⟨s, c, l, e, hl⟩
theorem open_byte (hv : Value.okWide Tryz.prog W .any b 5 v) (h : DataW.Trod enc Tryz.prog W base spare held 5 v d p) : ∃ k : Nat, v = .int .u8 (k : Nat) ∧ k < 256 := by
  obtain ⟨n, rfl, _, _, hw⟩ := open_int Tryz.underlying5 hv h
  obtain ⟨k, rfl, hk⟩ := byte_of hw
  exact ⟨k, rfl, hk⟩
theorem open_int3 (hv : Value.okWide Tryz.prog W .any b 3 v) (h : DataW.Trod enc Tryz.prog W base spare held 3 v d p) : ∃ n : Int, v = .int .i64 n ∧ -9223372036854775808 ≤ n ∧ n ≤ 9223372036854775807 := by
  obtain ⟨n, rfl, _, _, hw⟩ := open_int Tryz.underlying3 hv h
  refine ⟨n, rfl, ?_⟩
  simp [Lit.wf, IntKind.min, IntKind.max, IntKind.signed, IntKind.bits] at hw
  omega
end

end Go.Proofs.YtnhgfmbmfjmonaaGreatDoor
