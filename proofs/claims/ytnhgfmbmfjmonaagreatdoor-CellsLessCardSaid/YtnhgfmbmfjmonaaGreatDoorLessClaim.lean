/- The law CellsLess answers true of every input, and each argument reads behind the call as it did before (the card: the two tables of math/bits hold what the program's text lays). -/
import Derived.Test.YtnhgfmbmfjmonaaGreatDoorLessHold
import Derived.Test.YtnhgfmbmfjmonaaGreatDoorLessBase
import Derived.Test.YtnhgfmbmfjmonaaGreatDoorLessWalk21
set_option maxRecDepth 100000
set_option linter.unusedVariables false
set_option linter.unusedSimpArgs false
namespace Go.Proofs.YtnhgfmbmfjmonaaGreatDoor
open Go Go.RowKit Go.Mix Go.Eng Go.ChangeShapes Go.WideShapes Go.ChangeAt
theorem cellsLess_contract (H : Type) (enc : TypeId × Value → H) (W : World) (base : Nat) (args : Array Value) (ds gs : List (DataW H)) (before : List MemPlace)
    (hval : ∀ (j : Nat) t v, Tryz.f13.params[j]? = some t → args[j]? = some v → Value.okWide Tryz.prog W .any base t v)
    (hW : DataW.Whole enc Tryz.prog Tryz.f13.params.toList Rows.cellsLessSpec.vars false W args.toList ds gs before) (hL : laidMetH Tryz.prog laidL W) :
    Calls Tryz.prog 13 args W fun e W' => ∃ v, e = .returned v ∧ Rows.cellsLessSpec.post enc Tryz.prog Tryz.f13 false true false false W args v W' := by
  have hT := tb_of hL
  have hW' := hW
  obtain ⟨p, q, hA0, hV, rfl, hfz, hnd⟩ := hW
  have hA : DataW.TrodAll enc Tryz.prog W 0 (fun _ => true) true Tryz.f13.params.toList args.toList ds p := hA0
  rw [Tryz.params13] at hA hval
  obtain ⟨v0, vs0, d0, ds0, p0, q0, hargs0, rfl, rfl, h0, r0⟩ := trodAll_cons hA
  obtain ⟨v1, vs1, d1, ds1, p1, q1, hargs1, rfl, rfl, h1, r1⟩ := trodAll_cons r0
  obtain ⟨v2, vs2, d2, ds2, p2, q2, hargs2, rfl, rfl, h2, r2⟩ := trodAll_cons r1
  obtain ⟨e1, rfl, rfl⟩ := trodAll_nil r2
  subst hargs2
  subst hargs1
  obtain ⟨rfl, rfl⟩ := trodVars_none hV
  have hargs : args = #[v0, v1, v2] := by cases args; simp_all
  subst hargs
  obtain ⟨sp0, cp0, sk0, ck0, pp0, rfl, hpv0, hpk0⟩ := open_pic (hval 0 45 v0 rfl rfl) h0
  obtain ⟨z1, rfl, hz1⟩ := open_u32 (hval 1 89 v1 rfl rfl) h1
  obtain ⟨z2, rfl, hz2⟩ := open_u32 (hval 2 89 v2 rfl rfl) h2
  exact law_done (cellsless_ct pp0 sp0 cp0 sk0 ck0 (fun _ => True) z1 z2 hz1 hz2 W hpv0 hpk0) rfl hW' rfl rfl (by rw [Tryz.params13]; intro t ht; simp only [List.mem_cons, List.not_mem_nil, or_false] at ht; rcases ht with rfl | rfl | rfl; exact read45; exact read89; exact read89) rfl
theorem cellsLess_laid (os : Os) : laidMet Tryz.prog Rows.cellsLessRow.laid ((laidWorld os).forCall (fun _ _ => 0) ⟨#[], #[.agg #[.slice none 0 0, .slice none 0 0], .int .u32 0, .int .u32 0], []⟩).memory := laidMet_of_run' 8 (by kernel_rfl) (by kernel_rfl)
theorem cellsLess_reads (os : Os) {H : Type} (enc : TypeId × Value → H) : ∃ places, DataW.whole enc Tryz.prog ((laidWorld os).forCall (fun _ _ => 0) ⟨#[], #[.agg #[.slice none 0 0, .slice none 0 0], .int .u32 0, .int .u32 0], []⟩).memory Tryz.f13.params.toList Rows.cellsLessSpec.vars false (#[.agg #[.slice none 0 0, .slice none 0 0], .int .u32 0, .int .u32 0] : Array Value).toList 8 = some ([.agg [.nil, .nil], .lit (.int .u32 0), .lit (.int .u32 0)], [], places) := ⟨[], by kernel_rfl⟩
theorem cellsLess_lifted (os : Os) (started : os.Started) (H : Type) (enc : TypeId × Value → H) (F : Stop.Interp) :
    ReturnsInHanded {} Tryz.checked os 13 .any ((OpenSpec.ofChange Rows.cellsLessSpec).preRow enc Tryz.prog Tryz.f13 Rows.cellsLessRow.domain false Rows.cellsLessRow.laid) (((OpenSpec.ofChange Rows.cellsLessSpec).at F).post enc Tryz.prog Tryz.f13 false true false false) := by
  obtain ⟨places, hx⟩ := cellsLess_reads os enc
  refine returnsInHanded_of_row (C := Tryz.checked) (s := OpenSpec.ofChange Rows.cellsLessSpec) ownG started (by kernel_rfl) Tryz.func13
    (witness_row_at (enc := enc) (C := Tryz.checked) false (laidWorld os) #[.agg #[.slice none 0 0, .slice none 0 0], .int .u32 0, .int .u32 0] rfl (by kernel_rfl) (by kernel_rfl) (by kernel_rfl)
      (OpenSpec.preRow_of_cond 8 hx (by kernel_rfl) (fun k hk => by cases hk) (by kernel_rfl) (cellsLess_laid os))) ?_
  intro W base args ds gs before hval hW _ _ _ hL _ _
  exact cellsLess_contract H enc W base args ds gs before hval hW hL
theorem cellsLess_said : Rows.CellsLessSaid :=
  OpenClaim.holds_of_cond 13 Tryz.f13 rfl rfl rfl rfl rfl rfl rfl ⟨rfl, rfl, rfl, rfl, rfl⟩ rfl rfl rfl rfl rfl cellsLess_named Tryz.func13 cellsLess_facts cellsLess_inst cellsLess_wrap
    (fun os started H enc _ F => by rw [OpenClaim.pre_eq_preRow]; exact cellsLess_lifted os started H enc F)
theorem cellsLess_plain (f : FuncId) (fn : Func) (hf : Tryz.pinned.checked.prog.funcNamed "floodgate/floodgatelaw06.CellsLess" = some f) (hfn : Tryz.pinned.checked.prog.funcs[f]? = some fn) :
    false = Tryz.pinned.checked.prog.looks [] ∧ ∀ (j : Nat) t, fn.params[j]? = some t → Tryz.pinned.checked.prog.wantsStandIn t = false := by
  obtain rfl : f = 13 := Option.some.inj ((show Tryz.prog.funcNamed "floodgate/floodgatelaw06.CellsLess" = some 13 by kernel_rfl).symm.trans hf) |>.symm
  obtain rfl : fn = Tryz.f13 := (Option.some.inj (Tryz.func13.symm.trans hfn)).symm
  refine ⟨by kernel_rfl, fun j t ht => ?_⟩
  rw [Tryz.params13] at ht
  have hm := Array.mem_of_getElem? ht
  simp only [List.mem_toArray, List.mem_cons, List.not_mem_nil, or_false] at hm
  rcases hm with rfl | rfl | rfl
  · exact (show Tryz.prog.wantsStandIn 45 = false by kernel_rfl)
  · exact (show Tryz.prog.wantsStandIn 89 = false by kernel_rfl)
  · exact (show Tryz.prog.wantsStandIn 89 = false by kernel_rfl)
theorem cellsLess_holds : Rows.CellsLessCardSaid :=
  Claim7.holds_tied_plain_at .later [] _ _ _ _ cellsLess_said (fun _ h => by cases h) (by kernel_rfl) (fun _ h => by cases h) cellsLess_row_tie rfl ⟨rfl, rfl⟩ (by kernel_rfl) rfl cellsLess_plain (by kernel_rfl)
#print axioms cellsLess_holds
end Go.Proofs.YtnhgfmbmfjmonaaGreatDoor
