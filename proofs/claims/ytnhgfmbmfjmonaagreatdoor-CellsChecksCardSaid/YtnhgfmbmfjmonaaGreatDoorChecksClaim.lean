/- The law CellsChecks answers true of every input, and each argument reads behind the call as it did before (the card: the two tables of math/bits hold what the program's text lays). -/
import Derived.Test.YtnhgfmbmfjmonaaGreatDoorChecksBase
import Derived.Test.YtnhgfmbmfjmonaaGreatDoorChecksWalk16
set_option maxRecDepth 100000
set_option linter.unusedVariables false
set_option linter.unusedSimpArgs false
namespace Go.Proofs.YtnhgfmbmfjmonaaGreatDoor
open Go Go.RowKit Go.Mix Go.Eng Go.ChangeShapes Go.WideShapes Go.ChangeAt
theorem cellsChecks_contract (H : Type) (enc : TypeId × Value → H) (W : World) (base : Nat) (args : Array Value) (ds gs : List (DataW H)) (before : List MemPlace)
    (hval : ∀ (j : Nat) t v, Tryz.f11.params[j]? = some t → args[j]? = some v → Value.okWide Tryz.prog W .any base t v)
    (hW : DataW.Whole enc Tryz.prog Tryz.f11.params.toList Rows.cellsChecksSpec.vars false W args.toList ds gs before) (hL : laidMetH Tryz.prog laidL W) :
    Calls Tryz.prog 11 args W fun e W' => ∃ v, e = .returned v ∧ Rows.cellsChecksSpec.post enc Tryz.prog Tryz.f11 false true false false W args v W' := by
  have hT := tb_of hL
  have hW' := hW
  obtain ⟨p, q, hA0, hV, rfl, hfz, hnd⟩ := hW
  have hA : DataW.TrodAll enc Tryz.prog W 0 (fun _ => true) true Tryz.f11.params.toList args.toList ds p := hA0
  rw [Tryz.params11] at hA hval
  obtain ⟨v0, vs0, d0, ds0, p0, q0, hargs0, rfl, rfl, h0, r0⟩ := trodAll_cons hA
  obtain ⟨e1, rfl, rfl⟩ := trodAll_nil r0
  obtain ⟨rfl, rfl⟩ := trodVars_none hV
  have hargs : args = #[v0] := by cases args; simp_all
  subst hargs
  obtain ⟨sm, cm, mm, rfl, hmm⟩ := open_mem (hval 0 24 v0 rfl rfl) h0
  exact law_done (cellschecks_ct mm sm cm (fun _ => True) W hmm) rfl hW' rfl rfl (by rw [Tryz.params11]; intro t ht; simp only [List.mem_cons, List.not_mem_nil, or_false] at ht; rcases ht with rfl; exact read24) rfl
theorem cellsChecks_laid (os : Os) : laidMet Tryz.prog Rows.cellsChecksRow.laid ((laidWorld os).forCall (fun _ _ => 0) ⟨#[], #[.agg #[.slice none 0 0]], []⟩).memory := laidMet_of_run' 8 (by kernel_rfl) (by kernel_rfl)
theorem cellsChecks_reads (os : Os) {H : Type} (enc : TypeId × Value → H) : ∃ places, DataW.whole enc Tryz.prog ((laidWorld os).forCall (fun _ _ => 0) ⟨#[], #[.agg #[.slice none 0 0]], []⟩).memory Tryz.f11.params.toList Rows.cellsChecksSpec.vars false (#[.agg #[.slice none 0 0]] : Array Value).toList 8 = some ([.agg [.nil]], [], places) := ⟨[], by kernel_rfl⟩
theorem cellsChecks_lifted (os : Os) (started : os.Started) (H : Type) (enc : TypeId × Value → H) (F : Stop.Interp) :
    ReturnsInHanded {} Tryz.checked os 11 .any ((OpenSpec.ofChange Rows.cellsChecksSpec).preRow enc Tryz.prog Tryz.f11 Rows.cellsChecksRow.domain false Rows.cellsChecksRow.laid) (((OpenSpec.ofChange Rows.cellsChecksSpec).at F).post enc Tryz.prog Tryz.f11 false true false false) := by
  obtain ⟨places, hx⟩ := cellsChecks_reads os enc
  refine returnsInHanded_of_row (C := Tryz.checked) (s := OpenSpec.ofChange Rows.cellsChecksSpec) ownG started (by kernel_rfl) Tryz.func11
    (witness_row_at (enc := enc) (C := Tryz.checked) false (laidWorld os) #[.agg #[.slice none 0 0]] rfl (by kernel_rfl) (by kernel_rfl) (by kernel_rfl)
      (OpenSpec.preRow_of_cond 8 hx (by kernel_rfl) (fun k hk => by cases hk) (by kernel_rfl) (cellsChecks_laid os))) ?_
  intro W base args ds gs before hval hW _ _ _ hL _ _
  exact cellsChecks_contract H enc W base args ds gs before hval hW hL
theorem cellsChecks_named : Tryz.pinned.checked.prog.funcNamed Rows.cellsChecksRow.func = some 11 := by kernel_rfl
theorem cellsChecks_facts : joinedFacts Tryz.pinned.checked.prog 11 Tryz.f11 (OpenSpec.ofChange Rows.cellsChecksSpec).bare Rows.cellsChecksRow = true := by kernel_rfl
theorem cellsChecks_inst : Tryz.f11.isInstance Tryz.pinned.checked.prog Rows.cellsChecksRow.origin Rows.cellsChecksRow.targs := of_decide_eq_true (by kernel_rfl)
theorem cellsChecks_wrap : Tryz.f11.isWrapper Tryz.pinned.checked.prog Rows.cellsChecksRow.wrapper Rows.cellsChecksRow.mainSum := by unfold Func.isWrapper; first | (rw [if_pos (by decide +kernel)]; kernel_rfl) | (rw [if_neg (by decide +kernel)]; exact ⟨rfl, rfl⟩)
theorem cellsChecks_said : Rows.CellsChecksSaid :=
  OpenClaim.holds_of_cond 11 Tryz.f11 rfl rfl rfl rfl rfl rfl rfl ⟨rfl, rfl, rfl, rfl, rfl⟩ rfl rfl rfl rfl rfl cellsChecks_named Tryz.func11 cellsChecks_facts cellsChecks_inst cellsChecks_wrap
    (fun os started H enc _ F => by rw [OpenClaim.pre_eq_preRow]; exact cellsChecks_lifted os started H enc F)
theorem cellsChecks_plain (f : FuncId) (fn : Func) (hf : Tryz.pinned.checked.prog.funcNamed "floodgate/floodgatelaw06.CellsChecks" = some f) (hfn : Tryz.pinned.checked.prog.funcs[f]? = some fn) :
    false = Tryz.pinned.checked.prog.looks [] ∧ ∀ (j : Nat) t, fn.params[j]? = some t → Tryz.pinned.checked.prog.wantsStandIn t = false := by
  obtain rfl : f = 11 := Option.some.inj ((show Tryz.prog.funcNamed "floodgate/floodgatelaw06.CellsChecks" = some 11 by kernel_rfl).symm.trans hf) |>.symm
  obtain rfl : fn = Tryz.f11 := (Option.some.inj (Tryz.func11.symm.trans hfn)).symm
  refine ⟨by kernel_rfl, fun j t ht => ?_⟩
  rw [Tryz.params11] at ht
  have hm := Array.mem_of_getElem? ht
  simp only [List.mem_toArray, List.mem_cons, List.not_mem_nil, or_false] at hm
  rcases hm with rfl
  · exact (show Tryz.prog.wantsStandIn 24 = false by kernel_rfl)
theorem cellsChecks_holds : Rows.CellsChecksCardSaid :=
  Claim7.holds_tied_plain_at .later [] _ _ _ _ cellsChecks_said (fun _ h => by cases h) (by kernel_rfl) (fun _ h => by cases h) cellsChecks_row_tie rfl ⟨rfl, rfl⟩ (by kernel_rfl) rfl cellsChecks_plain (by kernel_rfl)
#print axioms cellsChecks_holds
end Go.Proofs.YtnhgfmbmfjmonaaGreatDoor
