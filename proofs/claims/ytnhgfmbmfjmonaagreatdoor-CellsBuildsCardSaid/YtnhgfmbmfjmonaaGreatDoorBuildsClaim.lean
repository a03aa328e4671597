/- The law CellsBuilds answers true of every input, and each argument reads behind the call as it did before (the card: the two tables of math/bits hold what the program's text lays). -/
import Derived.Test.YtnhgfmbmfjmonaaGreatDoorBuildsHold
import Derived.Test.YtnhgfmbmfjmonaaGreatDoorBuildsBase
import Derived.Test.YtnhgfmbmfjmonaaGreatDoorBuildsWalk18
set_option maxRecDepth 100000
set_option linter.unusedVariables false
set_option linter.unusedSimpArgs false
namespace Go.Proofs.YtnhgfmbmfjmonaaGreatDoor
open Go Go.RowKit Go.Mix Go.Eng Go.ChangeShapes Go.WideShapes Go.ChangeAt
theorem cellsBuilds_contract (H : Type) (enc : TypeId × Value → H) (W : World) (base : Nat) (args : Array Value) (ds gs : List (DataW H)) (before : List MemPlace)
    (hval : ∀ (j : Nat) t v, Tryz.f15.params[j]? = some t → args[j]? = some v → Value.okWide Tryz.prog W .any base t v)
    (hW : DataW.Whole enc Tryz.prog Tryz.f15.params.toList Rows.cellsBuildsSpec.vars false W args.toList ds gs before) (hL : laidMetH Tryz.prog laidL W) :
    Calls Tryz.prog 15 args W fun e W' => ∃ v, e = .returned v ∧ Rows.cellsBuildsSpec.post enc Tryz.prog Tryz.f15 false true false false W args v W' := by
  have hT := tb_of hL
  have hW' := hW
  obtain ⟨p, q, hA0, hV, rfl, hfz, hnd⟩ := hW
  have hA : DataW.TrodAll enc Tryz.prog W 0 (fun _ => true) true Tryz.f15.params.toList args.toList ds p := hA0
  rw [Tryz.params15] at hA hval
  obtain ⟨v0, vs0, d0, ds0, p0, q0, hargs0, rfl, rfl, h0, r0⟩ := trodAll_cons hA
  obtain ⟨v1, vs1, d1, ds1, p1, q1, hargs1, rfl, rfl, h1, r1⟩ := trodAll_cons r0
  obtain ⟨e1, rfl, rfl⟩ := trodAll_nil r1
  subst hargs1
  obtain ⟨rfl, rfl⟩ := trodVars_none hV
  have hargs : args = #[v0, v1] := by cases args; simp_all
  subst hargs
  obtain ⟨sL0, cL0, xL0, rfl, hxL0⟩ := open_ints2 (hval 0 95 v0 rfl rfl) h0
  obtain ⟨sB1, cB1, xB1, rfl, hxB1⟩ := open_bools (hval 1 96 v1 rfl rfl) h1
  exact law_done (cellsbuilds_ct xL0 sL0 cL0 (fun _ => True) xB1 sB1 cB1 (fun _ => True) W hxL0 hxB1) rfl hW' rfl rfl (by rw [Tryz.params15]; intro t ht; simp only [List.mem_cons, List.not_mem_nil, or_false] at ht; rcases ht with rfl | rfl; exact read95; exact read96) rfl
theorem cellsBuilds_laid (os : Os) : laidMet Tryz.prog Rows.cellsBuildsRow.laid ((laidWorld os).forCall (fun _ _ => 0) ⟨#[], #[.slice none 0 0, .slice none 0 0], []⟩).memory := laidMet_of_run' 8 (by kernel_rfl) (by kernel_rfl)
theorem cellsBuilds_reads (os : Os) {H : Type} (enc : TypeId × Value → H) : ∃ places, DataW.whole enc Tryz.prog ((laidWorld os).forCall (fun _ _ => 0) ⟨#[], #[.slice none 0 0, .slice none 0 0], []⟩).memory Tryz.f15.params.toList Rows.cellsBuildsSpec.vars false (#[.slice none 0 0, .slice none 0 0] : Array Value).toList 8 = some ([.nil, .nil], [], places) := ⟨[], by kernel_rfl⟩
theorem cellsBuilds_lifted (os : Os) (started : os.Started) (H : Type) (enc : TypeId × Value → H) (F : Stop.Interp) :
    ReturnsInHanded {} Tryz.checked os 15 .any ((OpenSpec.ofChange Rows.cellsBuildsSpec).preRow enc Tryz.prog Tryz.f15 Rows.cellsBuildsRow.domain false Rows.cellsBuildsRow.laid) (((OpenSpec.ofChange Rows.cellsBuildsSpec).at F).post enc Tryz.prog Tryz.f15 false true false false) := by
  obtain ⟨places, hx⟩ := cellsBuilds_reads os enc
  refine returnsInHanded_of_row (C := Tryz.checked) (s := OpenSpec.ofChange Rows.cellsBuildsSpec) ownG started (by kernel_rfl) Tryz.func15
    (witness_row_at (enc := enc) (C := Tryz.checked) false (laidWorld os) #[.slice none 0 0, .slice none 0 0] rfl (by kernel_rfl) (by kernel_rfl) (by kernel_rfl)
      (OpenSpec.preRow_of_cond 8 hx (by kernel_rfl) (fun k hk => by cases hk) (by kernel_rfl) (cellsBuilds_laid os))) ?_
  intro W base args ds gs before hval hW _ _ _ hL _ _
  exact cellsBuilds_contract H enc W base args ds gs before hval hW hL
theorem cellsBuilds_said : Rows.CellsBuildsSaid :=
  OpenClaim.holds_of_cond 15 Tryz.f15 rfl rfl rfl rfl rfl rfl rfl ⟨rfl, rfl, rfl, rfl, rfl⟩ rfl rfl rfl rfl rfl cellsBuilds_named Tryz.func15 cellsBuilds_facts cellsBuilds_inst cellsBuilds_wrap
    (fun os started H enc _ F => by rw [OpenClaim.pre_eq_preRow]; exact cellsBuilds_lifted os started H enc F)
theorem cellsBuilds_plain (f : FuncId) (fn : Func) (hf : Tryz.pinned.checked.prog.funcNamed "floodgate/floodgatelaw06.CellsBuilds" = some f) (hfn : Tryz.pinned.checked.prog.funcs[f]? = some fn) :
    false = Tryz.pinned.checked.prog.looks [] ∧ ∀ (j : Nat) t, fn.params[j]? = some t → Tryz.pinned.checked.prog.wantsStandIn t = false := by
  obtain rfl : f = 15 := Option.some.inj ((show Tryz.prog.funcNamed "floodgate/floodgatelaw06.CellsBuilds" = some 15 by kernel_rfl).symm.trans hf) |>.symm
  obtain rfl : fn = Tryz.f15 := (Option.some.inj (Tryz.func15.symm.trans hfn)).symm
  refine ⟨by kernel_rfl, fun j t ht => ?_⟩
  rw [Tryz.params15] at ht
  have hm := Array.mem_of_getElem? ht
  simp only [List.mem_toArray, List.mem_cons, List.not_mem_nil, or_false] at hm
  rcases hm with rfl | rfl
  · exact (show Tryz.prog.wantsStandIn 95 = false by kernel_rfl)
  · exact (show Tryz.prog.wantsStandIn 96 = false by kernel_rfl)
theorem cellsBuilds_holds : Rows.CellsBuildsCardSaid :=
  Claim7.holds_tied_plain_at .later [] _ _ _ _ cellsBuilds_said (fun _ h => by cases h) (by kernel_rfl) (fun _ h => by cases h) cellsBuilds_row_tie rfl ⟨rfl, rfl⟩ (by kernel_rfl) rfl cellsBuilds_plain (by kernel_rfl)
#print axioms cellsBuilds_holds
end Go.Proofs.YtnhgfmbmfjmonaaGreatDoor
