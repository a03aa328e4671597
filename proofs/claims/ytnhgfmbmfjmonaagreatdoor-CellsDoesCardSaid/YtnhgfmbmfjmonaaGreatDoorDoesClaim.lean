/- The law CellsDoes answers true of every input, and each argument reads behind the call as it did before (the card: the two tables of math/bits hold what the program's text lays). -/
import Derived.Test.YtnhgfmbmfjmonaaGreatDoorDoesBase
import Derived.Test.YtnhgfmbmfjmonaaGreatDoorDoesWalk21
set_option maxRecDepth 100000
set_option linter.unusedVariables false
set_option linter.unusedSimpArgs false
namespace Go.Proofs.YtnhgfmbmfjmonaaGreatDoor
open Go Go.RowKit Go.Mix Go.Eng Go.ChangeShapes Go.WideShapes Go.ChangeAt
theorem cellsDoes_contract (H : Type) (enc : TypeId × Value → H) (W : World) (base : Nat) (args : Array Value) (ds gs : List (DataW H)) (before : List MemPlace)
    (hval : ∀ (j : Nat) t v, Tryz.f8.params[j]? = some t → args[j]? = some v → Value.okWide Tryz.prog W .any base t v)
    (hW : DataW.Whole enc Tryz.prog Tryz.f8.params.toList Rows.cellsDoesSpec.vars false W args.toList ds gs before) (hL : laidMetH Tryz.prog laidL W) :
    Calls Tryz.prog 8 args W fun e W' => ∃ v, e = .returned v ∧ Rows.cellsDoesSpec.post enc Tryz.prog Tryz.f8 false true false false W args v W' := by
  have hT := tb_of hL
  have hW' := hW
  obtain ⟨p, q, hA0, hV, rfl, hfz, hnd⟩ := hW
  have hA : DataW.TrodAll enc Tryz.prog W 0 (fun _ => true) true Tryz.f8.params.toList args.toList ds p := hA0
  rw [Tryz.params8] at hA hval
  obtain ⟨v0, vs0, d0, ds0, p0, q0, hargs0, rfl, rfl, h0, r0⟩ := trodAll_cons hA
  obtain ⟨v1, vs1, d1, ds1, p1, q1, hargs1, rfl, rfl, h1, r1⟩ := trodAll_cons r0
  obtain ⟨e1, rfl, rfl⟩ := trodAll_nil r1
  subst hargs1
  obtain ⟨rfl, rfl⟩ := trodVars_none hV
  have hargs : args = #[v0, v1] := by cases args; simp_all
  subst hargs
  obtain ⟨sm, cm, mm, rfl, hmm⟩ := open_mem (hval 0 24 v0 rfl rfl) h0
  obtain ⟨oo, rfl, hoo⟩ := open_op (hval 1 38 v1 rfl rfl) h1
  exact law_done (cellsdoes_ct mm sm cm (fun _ => True) oo hoo W hmm) rfl hW' rfl rfl (by rw [Tryz.params8]; intro t ht; simp only [List.mem_cons, List.not_mem_nil, or_false] at ht; rcases ht with rfl | rfl; exact read24; exact read38) rfl
theorem cellsDoes_laid (os : Os) : laidMet Tryz.prog Rows.cellsDoesRow.laid ((laidWorld os).forCall (fun _ _ => 0) ⟨#[], #[.agg #[.slice none 0 0], .agg #[.int .u8 0, .int .u8 0, .int .i64 0, .int .u8 0, .int .i64 0, .int .u8 0, .int .i64 0, .int .i64 0]], []⟩).memory := laidMet_of_run' 8 (by kernel_rfl) (by kernel_rfl)
theorem cellsDoes_reads (os : Os) {H : Type} (enc : TypeId × Value → H) : ∃ places, DataW.whole enc Tryz.prog ((laidWorld os).forCall (fun _ _ => 0) ⟨#[], #[.agg #[.slice none 0 0], .agg #[.int .u8 0, .int .u8 0, .int .i64 0, .int .u8 0, .int .i64 0, .int .u8 0, .int .i64 0, .int .i64 0]], []⟩).memory Tryz.f8.params.toList Rows.cellsDoesSpec.vars false (#[.agg #[.slice none 0 0], .agg #[.int .u8 0, .int .u8 0, .int .i64 0, .int .u8 0, .int .i64 0, .int .u8 0, .int .i64 0, .int .i64 0]] : Array Value).toList 8 = some ([.agg [.nil], .agg [.lit (.int .u8 0), .agg [.lit (.int .u8 0), .lit (.int .i64 0)], .agg [.lit (.int .u8 0), .lit (.int .i64 0)], .agg [.lit (.int .u8 0), .lit (.int .i64 0)], .lit (.int .i64 0)]], [], places) := ⟨[], by kernel_rfl⟩
theorem cellsDoes_lifted (os : Os) (started : os.Started) (H : Type) (enc : TypeId × Value → H) (F : Stop.Interp) :
    ReturnsInHanded {} Tryz.checked os 8 .any ((OpenSpec.ofChange Rows.cellsDoesSpec).preRow enc Tryz.prog Tryz.f8 Rows.cellsDoesRow.domain false Rows.cellsDoesRow.laid) (((OpenSpec.ofChange Rows.cellsDoesSpec).at F).post enc Tryz.prog Tryz.f8 false true false false) := by
  obtain ⟨places, hx⟩ := cellsDoes_reads os enc
  refine returnsInHanded_of_row (C := Tryz.checked) (s := OpenSpec.ofChange Rows.cellsDoesSpec) ownG started (by kernel_rfl) Tryz.func8
    (witness_row_at (enc := enc) (C := Tryz.checked) false (laidWorld os) #[.agg #[.slice none 0 0], .agg #[.int .u8 0, .int .u8 0, .int .i64 0, .int .u8 0, .int .i64 0, .int .u8 0, .int .i64 0, .int .i64 0]] rfl (by kernel_rfl) (by kernel_rfl) (by kernel_rfl)
      (OpenSpec.preRow_of_cond 8 hx (by kernel_rfl) (fun k hk => by cases hk) (by kernel_rfl) (cellsDoes_laid os))) ?_
  intro W base args ds gs before hval hW _ _ _ hL _ _
  exact cellsDoes_contract H enc W base args ds gs before hval hW hL
theorem cellsDoes_named : Tryz.pinned.checked.prog.funcNamed Rows.cellsDoesRow.func = some 8 := by kernel_rfl
theorem cellsDoes_facts : joinedFacts Tryz.pinned.checked.prog 8 Tryz.f8 (OpenSpec.ofChange Rows.cellsDoesSpec).bare Rows.cellsDoesRow = true := by kernel_rfl
theorem cellsDoes_inst : Tryz.f8.isInstance Tryz.pinned.checked.prog Rows.cellsDoesRow.origin Rows.cellsDoesRow.targs := of_decide_eq_true (by kernel_rfl)
theorem cellsDoes_wrap : Tryz.f8.isWrapper Tryz.pinned.checked.prog Rows.cellsDoesRow.wrapper Rows.cellsDoesRow.mainSum := by unfold Func.isWrapper; first | (rw [if_pos (by decide +kernel)]; kernel_rfl) | (rw [if_neg (by decide +kernel)]; exact ⟨rfl, rfl⟩)
theorem cellsDoes_said : Rows.CellsDoesSaid :=
  OpenClaim.holds_of_cond 8 Tryz.f8 rfl rfl rfl rfl rfl rfl rfl ⟨rfl, rfl, rfl, rfl, rfl⟩ rfl rfl rfl rfl rfl cellsDoes_named Tryz.func8 cellsDoes_facts cellsDoes_inst cellsDoes_wrap
    (fun os started H enc _ F => by rw [OpenClaim.pre_eq_preRow]; exact cellsDoes_lifted os started H enc F)
theorem cellsDoes_plain (f : FuncId) (fn : Func) (hf : Tryz.pinned.checked.prog.funcNamed "floodgate/floodgatelaw06.CellsDoes" = some f) (hfn : Tryz.pinned.checked.prog.funcs[f]? = some fn) :
    false = Tryz.pinned.checked.prog.looks [] ∧ ∀ (j : Nat) t, fn.params[j]? = some t → Tryz.pinned.checked.prog.wantsStandIn t = false := by
  obtain rfl : f = 8 := Option.some.inj ((show Tryz.prog.funcNamed "floodgate/floodgatelaw06.CellsDoes" = some 8 by kernel_rfl).symm.trans hf) |>.symm
  obtain rfl : fn = Tryz.f8 := (Option.some.inj (Tryz.func8.symm.trans hfn)).symm
  refine ⟨by kernel_rfl, fun j t ht => ?_⟩
  rw [Tryz.params8] at ht
  have hm := Array.mem_of_getElem? ht
  simp only [List.mem_toArray, List.mem_cons, List.not_mem_nil, or_false] at hm
  rcases hm with rfl | rfl
  · exact (show Tryz.prog.wantsStandIn 24 = false by kernel_rfl)
  · exact (show Tryz.prog.wantsStandIn 38 = false by kernel_rfl)
theorem cellsDoes_holds : Rows.CellsDoesCardSaid :=
  Claim7.holds_tied_plain_at .later [] _ _ _ _ cellsDoes_said (fun _ h => by cases h) (by kernel_rfl) (fun _ h => by cases h) cellsDoes_row_tie rfl ⟨rfl, rfl⟩ (by kernel_rfl) rfl cellsDoes_plain (by kernel_rfl)
#print axioms cellsDoes_holds
end Go.Proofs.YtnhgfmbmfjmonaaGreatDoor
