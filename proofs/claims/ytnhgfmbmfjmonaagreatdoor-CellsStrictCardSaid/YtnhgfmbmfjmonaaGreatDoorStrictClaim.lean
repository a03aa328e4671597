/- The law CellsStrict answers true of every input, and each argument reads behind the call as it did before (the card: the two tables of math/bits hold what the program's text lays). -/
import Derived.Test.YtnhgfmbmfjmonaaGreatDoorStrictBase
import Derived.Test.YtnhgfmbmfjmonaaGreatDoorStrictWalk16
set_option maxRecDepth 100000
set_option linter.unusedVariables false
set_option linter.unusedSimpArgs false
namespace Go.Proofs.YtnhgfmbmfjmonaaGreatDoor
open Go Go.RowKit Go.Mix Go.Eng Go.ChangeShapes Go.WideShapes Go.ChangeAt
theorem cellsStrict_contract (H : Type) (enc : TypeId × Value → H) (W : World) (base : Nat) (args : Array Value) (ds gs : List (DataW H)) (before : List MemPlace)
    (hval : ∀ (j : Nat) t v, Tryz.f5.params[j]? = some t → args[j]? = some v → Value.okWide Tryz.prog W .any base t v)
    (hW : DataW.Whole enc Tryz.prog Tryz.f5.params.toList Rows.cellsStrictSpec.vars false W args.toList ds gs before) (hL : laidMetH Tryz.prog laidL W) :
    Calls Tryz.prog 5 args W fun e W' => ∃ v, e = .returned v ∧ Rows.cellsStrictSpec.post enc Tryz.prog Tryz.f5 false true false false W args v W' := by
  have hT := tb_of hL
  have hW' := hW
  obtain ⟨p, q, hA0, hV, rfl, hfz, hnd⟩ := hW
  have hA : DataW.TrodAll enc Tryz.prog W 0 (fun _ => true) true Tryz.f5.params.toList args.toList ds p := hA0
  rw [Tryz.params5] at hA hval
  obtain ⟨v0, vs0, d0, ds0, p0, q0, hargs0, rfl, rfl, h0, r0⟩ := trodAll_cons hA
  obtain ⟨v1, vs1, d1, ds1, p1, q1, hargs1, rfl, rfl, h1, r1⟩ := trodAll_cons r0
  obtain ⟨e1, rfl, rfl⟩ := trodAll_nil r1
  subst hargs1
  obtain ⟨rfl, rfl⟩ := trodVars_none hV
  have hargs : args = #[v0, v1] := by cases args; simp_all
  subst hargs
  obtain ⟨a0, rfl⟩ := open_val (hval 0 36 v0 rfl rfl) h0
  obtain ⟨a1, rfl⟩ := open_val (hval 1 36 v1 rfl rfl) h1
  exact law_done (cellsstrict_ct a0 a1 W) rfl hW' rfl rfl (by rw [Tryz.params5]; intro t ht; simp only [List.mem_cons, List.not_mem_nil, or_false] at ht; rcases ht with rfl | rfl; exact read36; exact read36) rfl
theorem cellsStrict_laid (os : Os) : laidMet Tryz.prog Rows.cellsStrictRow.laid ((laidWorld os).forCall (fun _ _ => 0) ⟨#[], #[.agg #[.int .u8 0, .int .i64 0], .agg #[.int .u8 0, .int .i64 0]], []⟩).memory := laidMet_of_run' 8 (by kernel_rfl) (by kernel_rfl)
theorem cellsStrict_reads (os : Os) {H : Type} (enc : TypeId × Value → H) : ∃ places, DataW.whole enc Tryz.prog ((laidWorld os).forCall (fun _ _ => 0) ⟨#[], #[.agg #[.int .u8 0, .int .i64 0], .agg #[.int .u8 0, .int .i64 0]], []⟩).memory Tryz.f5.params.toList Rows.cellsStrictSpec.vars false (#[.agg #[.int .u8 0, .int .i64 0], .agg #[.int .u8 0, .int .i64 0]] : Array Value).toList 8 = some ([.agg [.lit (.int .u8 0), .lit (.int .i64 0)], .agg [.lit (.int .u8 0), .lit (.int .i64 0)]], [], places) := ⟨[], by kernel_rfl⟩
theorem cellsStrict_lifted (os : Os) (started : os.Started) (H : Type) (enc : TypeId × Value → H) (F : Stop.Interp) :
    ReturnsInHanded {} Tryz.checked os 5 .any ((OpenSpec.ofChange Rows.cellsStrictSpec).preRow enc Tryz.prog Tryz.f5 Rows.cellsStrictRow.domain false Rows.cellsStrictRow.laid) (((OpenSpec.ofChange Rows.cellsStrictSpec).at F).post enc Tryz.prog Tryz.f5 false true false false) := by
  obtain ⟨places, hx⟩ := cellsStrict_reads os enc
  refine returnsInHanded_of_row (C := Tryz.checked) (s := OpenSpec.ofChange Rows.cellsStrictSpec) ownG started (by kernel_rfl) Tryz.func5
    (witness_row_at (enc := enc) (C := Tryz.checked) false (laidWorld os) #[.agg #[.int .u8 0, .int .i64 0], .agg #[.int .u8 0, .int .i64 0]] rfl (by kernel_rfl) (by kernel_rfl) (by kernel_rfl)
      (OpenSpec.preRow_of_cond 8 hx (by kernel_rfl) (fun k hk => by cases hk) (by kernel_rfl) (cellsStrict_laid os))) ?_
  intro W base args ds gs before hval hW _ _ _ hL _ _
  exact cellsStrict_contract H enc W base args ds gs before hval hW hL
theorem cellsStrict_named : Tryz.pinned.checked.prog.funcNamed Rows.cellsStrictRow.func = some 5 := by kernel_rfl
theorem cellsStrict_facts : joinedFacts Tryz.pinned.checked.prog 5 Tryz.f5 (OpenSpec.ofChange Rows.cellsStrictSpec).bare Rows.cellsStrictRow = true := by kernel_rfl
theorem cellsStrict_inst : Tryz.f5.isInstance Tryz.pinned.checked.prog Rows.cellsStrictRow.origin Rows.cellsStrictRow.targs := of_decide_eq_true (by kernel_rfl)
theorem cellsStrict_wrap : Tryz.f5.isWrapper Tryz.pinned.checked.prog Rows.cellsStrictRow.wrapper Rows.cellsStrictRow.mainSum := by unfold Func.isWrapper; first | (rw [if_pos (by decide +kernel)]; kernel_rfl) | (rw [if_neg (by decide +kernel)]; exact ⟨rfl, rfl⟩)
theorem cellsStrict_said : Rows.CellsStrictSaid :=
  OpenClaim.holds_of_cond 5 Tryz.f5 rfl rfl rfl rfl rfl rfl rfl ⟨rfl, rfl, rfl, rfl, rfl⟩ rfl rfl rfl rfl rfl cellsStrict_named Tryz.func5 cellsStrict_facts cellsStrict_inst cellsStrict_wrap
    (fun os started H enc _ F => by rw [OpenClaim.pre_eq_preRow]; exact cellsStrict_lifted os started H enc F)
theorem cellsStrict_plain (f : FuncId) (fn : Func) (hf : Tryz.pinned.checked.prog.funcNamed "floodgate/floodgatelaw06.CellsStrict" = some f) (hfn : Tryz.pinned.checked.prog.funcs[f]? = some fn) :
    false = Tryz.pinned.checked.prog.looks [] ∧ ∀ (j : Nat) t, fn.params[j]? = some t → Tryz.pinned.checked.prog.wantsStandIn t = false := by
  obtain rfl : f = 5 := Option.some.inj ((show Tryz.prog.funcNamed "floodgate/floodgatelaw06.CellsStrict" = some 5 by kernel_rfl).symm.trans hf) |>.symm
  obtain rfl : fn = Tryz.f5 := (Option.some.inj (Tryz.func5.symm.trans hfn)).symm
  refine ⟨by kernel_rfl, fun j t ht => ?_⟩
  rw [Tryz.params5] at ht
  have hm := Array.mem_of_getElem? ht
  simp only [List.mem_toArray, List.mem_cons, List.not_mem_nil, or_false] at hm
  rcases hm with rfl | rfl
  · exact (show Tryz.prog.wantsStandIn 36 = false by kernel_rfl)
  · exact (show Tryz.prog.wantsStandIn 36 = false by kernel_rfl)
theorem cellsStrict_holds : Rows.CellsStrictCardSaid :=
  Claim7.holds_tied_plain_at .later [] _ _ _ _ cellsStrict_said (fun _ h => by cases h) (by kernel_rfl) (fun _ h => by cases h) cellsStrict_row_tie rfl ⟨rfl, rfl⟩ (by kernel_rfl) rfl cellsStrict_plain (by kernel_rfl)
#print axioms cellsStrict_holds
end Go.Proofs.YtnhgfmbmfjmonaaGreatDoor
