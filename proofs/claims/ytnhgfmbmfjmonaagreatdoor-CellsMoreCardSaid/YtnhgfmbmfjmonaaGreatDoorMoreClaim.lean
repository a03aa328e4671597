/- The law CellsMore answers true of every input, and each argument reads behind the call as it did before (the card: the two tables of math/bits hold what the program's text lays). -/
import Derived.Test.YtnhgfmbmfjmonaaGreatDoorMoreHold
import Derived.Test.YtnhgfmbmfjmonaaGreatDoorMoreBase
import Derived.Test.YtnhgfmbmfjmonaaGreatDoorMoreWalk18
set_option maxRecDepth 100000
set_option linter.unusedVariables false
set_option linter.unusedSimpArgs false
namespace Go.Proofs.YtnhgfmbmfjmonaaGreatDoor
open Go Go.RowKit Go.Mix Go.Eng Go.ChangeShapes Go.WideShapes Go.ChangeAt
theorem cellsMore_contract (H : Type) (enc : TypeId × Value → H) (W : World) (base : Nat) (args : Array Value) (ds gs : List (DataW H)) (before : List MemPlace)
    (hval : ∀ (j : Nat) t v, Tryz.f14.params[j]? = some t → args[j]? = some v → Value.okWide Tryz.prog W .any base t v)
    (hW : DataW.Whole enc Tryz.prog Tryz.f14.params.toList Rows.cellsMoreSpec.vars false W args.toList ds gs before) (hL : laidMetH Tryz.prog laidL W) :
    Calls Tryz.prog 14 args W fun e W' => ∃ v, e = .returned v ∧ Rows.cellsMoreSpec.post enc Tryz.prog Tryz.f14 false true false false W args v W' := by
  have hT := tb_of hL
  have hW' := hW
  obtain ⟨p, q, hA0, hV, rfl, hfz, hnd⟩ := hW
  have hA : DataW.TrodAll enc Tryz.prog W 0 (fun _ => true) true Tryz.f14.params.toList args.toList ds p := hA0
  rw [Tryz.params14] at hA hval
  obtain ⟨v0, vs0, d0, ds0, p0, q0, hargs0, rfl, rfl, h0, r0⟩ := trodAll_cons hA
  obtain ⟨e1, rfl, rfl⟩ := trodAll_nil r0
  obtain ⟨rfl, rfl⟩ := trodVars_none hV
  have hargs : args = #[v0] := by cases args; simp_all
  subst hargs
  obtain ⟨sq0, cq0, xq0, rfl, hqb0, hxq0⟩ := open_storm (hval 0 70 v0 rfl rfl) h0
  exact law_done (cellsmore_ct xq0 sq0 cq0 (fun _ => True) hqb0 W hxq0) rfl hW' rfl rfl (by rw [Tryz.params14]; intro t ht; simp only [List.mem_cons, List.not_mem_nil, or_false] at ht; rcases ht with rfl; exact read70) rfl
theorem cellsMore_laid (os : Os) : laidMet Tryz.prog Rows.cellsMoreRow.laid ((laidWorld os).forCall (fun _ _ => 0) ⟨#[], #[.slice none 0 0], []⟩).memory := laidMet_of_run' 8 (by kernel_rfl) (by kernel_rfl)
theorem cellsMore_reads (os : Os) {H : Type} (enc : TypeId × Value → H) : ∃ places, DataW.whole enc Tryz.prog ((laidWorld os).forCall (fun _ _ => 0) ⟨#[], #[.slice none 0 0], []⟩).memory Tryz.f14.params.toList Rows.cellsMoreSpec.vars false (#[.slice none 0 0] : Array Value).toList 8 = some ([.nil], [], places) := ⟨[], by kernel_rfl⟩
theorem cellsMore_lifted (os : Os) (started : os.Started) (H : Type) (enc : TypeId × Value → H) (F : Stop.Interp) :
    ReturnsInHanded {} Tryz.checked os 14 .any ((OpenSpec.ofChange Rows.cellsMoreSpec).preRow enc Tryz.prog Tryz.f14 Rows.cellsMoreRow.domain false Rows.cellsMoreRow.laid) (((OpenSpec.ofChange Rows.cellsMoreSpec).at F).post enc Tryz.prog Tryz.f14 false true false false) := by
  obtain ⟨places, hx⟩ := cellsMore_reads os enc
  refine returnsInHanded_of_row (C := Tryz.checked) (s := OpenSpec.ofChange Rows.cellsMoreSpec) ownG started (by kernel_rfl) Tryz.func14
    (witness_row_at (enc := enc) (C := Tryz.checked) false (laidWorld os) #[.slice none 0 0] rfl (by kernel_rfl) (by kernel_rfl) (by kernel_rfl)
      (OpenSpec.preRow_of_cond 8 hx (by kernel_rfl) (fun k hk => by cases hk) (by kernel_rfl) (cellsMore_laid os))) ?_
  intro W base args ds gs before hval hW _ _ _ hL _ _
  exact cellsMore_contract H enc W base args ds gs before hval hW hL
theorem cellsMore_said : Rows.CellsMoreSaid :=
  OpenClaim.holds_of_cond 14 Tryz.f14 rfl rfl rfl rfl rfl rfl rfl ⟨rfl, rfl, rfl, rfl, rfl⟩ rfl rfl rfl rfl rfl cellsMore_named Tryz.func14 cellsMore_facts cellsMore_inst cellsMore_wrap
    (fun os started H enc _ F => by rw [OpenClaim.pre_eq_preRow]; exact cellsMore_lifted os started H enc F)
theorem cellsMore_plain (f : FuncId) (fn : Func) (hf : Tryz.pinned.checked.prog.funcNamed "floodgate/floodgatelaw06.CellsMore" = some f) (hfn : Tryz.pinned.checked.prog.funcs[f]? = some fn) :
    false = Tryz.pinned.checked.prog.looks [] ∧ ∀ (j : Nat) t, fn.params[j]? = some t → Tryz.pinned.checked.prog.wantsStandIn t = false := by
  obtain rfl : f = 14 := Option.some.inj ((show Tryz.prog.funcNamed "floodgate/floodgatelaw06.CellsMore" = some 14 by kernel_rfl).symm.trans hf) |>.symm
  obtain rfl : fn = Tryz.f14 := (Option.some.inj (Tryz.func14.symm.trans hfn)).symm
  refine ⟨by kernel_rfl, fun j t ht => ?_⟩
  rw [Tryz.params14] at ht
  have hm := Array.mem_of_getElem? ht
  simp only [List.mem_toArray, List.mem_cons, List.not_mem_nil, or_false] at hm
  rcases hm with rfl
  · exact (show Tryz.prog.wantsStandIn 70 = false by kernel_rfl)
theorem cellsMore_holds : Rows.CellsMoreCardSaid :=
  Claim7.holds_tied_plain_at .later [] _ _ _ _ cellsMore_said (fun _ h => by cases h) (by kernel_rfl) (fun _ h => by cases h) cellsMore_row_tie rfl ⟨rfl, rfl⟩ (by kernel_rfl) rfl cellsMore_plain (by kernel_rfl)
#print axioms cellsMore_holds
end Go.Proofs.YtnhgfmbmfjmonaaGreatDoor
