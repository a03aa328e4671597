/- The law CellsStreams answers true of every input, and each argument reads behind the call as it did before (the card: the two tables of math/bits hold what the program's text lays). -/
import Derived.Test.YtnhgfmbmfjmonaaGreatDoorStreamsHold
import Derived.Test.YtnhgfmbmfjmonaaGreatDoorStreamsBase
import Derived.Test.YtnhgfmbmfjmonaaGreatDoorStreamsWalk19
set_option maxRecDepth 100000
set_option linter.unusedVariables false
set_option linter.unusedSimpArgs false
namespace Go.Proofs.YtnhgfmbmfjmonaaGreatDoor
open Go Go.RowKit Go.Mix Go.Eng Go.ChangeShapes Go.WideShapes Go.ChangeAt
theorem cellsStreams_contract (H : Type) (enc : TypeId × Value → H) (W : World) (base : Nat) (args : Array Value) (ds gs : List (DataW H)) (before : List MemPlace)
    (hval : ∀ (j : Nat) t v, Tryz.f10.params[j]? = some t → args[j]? = some v → Value.okWide Tryz.prog W .any base t v)
    (hW : DataW.Whole enc Tryz.prog Tryz.f10.params.toList Rows.cellsStreamsSpec.vars false W args.toList ds gs before) (hL : laidMetH Tryz.prog laidL W) :
    Calls Tryz.prog 10 args W fun e W' => ∃ v, e = .returned v ∧ Rows.cellsStreamsSpec.post enc Tryz.prog Tryz.f10 false true false false W args v W' := by
  have hT := tb_of hL
  have hW' := hW
  obtain ⟨p, q, hA0, hV, rfl, hfz, hnd⟩ := hW
  have hA : DataW.TrodAll enc Tryz.prog W 0 (fun _ => true) true Tryz.f10.params.toList args.toList ds p := hA0
  rw [Tryz.params10] at hA hval
  obtain ⟨v0, vs0, d0, ds0, p0, q0, hargs0, rfl, rfl, h0, r0⟩ := trodAll_cons hA
  obtain ⟨v1, vs1, d1, ds1, p1, q1, hargs1, rfl, rfl, h1, r1⟩ := trodAll_cons r0
  obtain ⟨v2, vs2, d2, ds2, p2, q2, hargs2, rfl, rfl, h2, r2⟩ := trodAll_cons r1
  obtain ⟨e1, rfl, rfl⟩ := trodAll_nil r2
  subst hargs2
  subst hargs1
  obtain ⟨rfl, rfl⟩ := trodVars_none hV
  have hargs : args = #[v0, v1, v2] := by cases args; simp_all
  subst hargs
  obtain ⟨sp0, cp0, sk0, ck0, pp0, rfl, hpv0, hpk0⟩ := open_pic (hval 0 45 v0 rfl rfl) h0
  obtain ⟨n1, rfl, hn1⟩ := open_int3 (hval 1 3 v1 rfl rfl) h1
  obtain ⟨n2, rfl, hn2⟩ := open_int3 (hval 2 3 v2 rfl rfl) h2
  exact law_done (cellsstreams_ct pp0 sp0 cp0 sk0 ck0 (fun _ => True) n1 n2 W hpv0 hpk0 (itoa_of hL)) rfl hW' rfl rfl (by rw [Tryz.params10]; intro t ht; simp only [List.mem_cons, List.not_mem_nil, or_false] at ht; rcases ht with rfl | rfl | rfl; exact read45; exact read3; exact read3) rfl
theorem cellsStreams_laid (os : Os) : laidMet Tryz.prog Rows.cellsStreamsRow.laid ((laidWorld os).forCall (fun _ _ => 0) ⟨#[], #[.agg #[.slice none 0 0, .slice none 0 0], .int .i64 0, .int .i64 0], []⟩).memory := laidMet_of_run' 8 (by kernel_rfl) (by kernel_rfl)
theorem cellsStreams_reads (os : Os) {H : Type} (enc : TypeId × Value → H) : ∃ places, DataW.whole enc Tryz.prog ((laidWorld os).forCall (fun _ _ => 0) ⟨#[], #[.agg #[.slice none 0 0, .slice none 0 0], .int .i64 0, .int .i64 0], []⟩).memory Tryz.f10.params.toList Rows.cellsStreamsSpec.vars false (#[.agg #[.slice none 0 0, .slice none 0 0], .int .i64 0, .int .i64 0] : Array Value).toList 8 = some ([.agg [.nil, .nil], .lit (.int .i64 0), .lit (.int .i64 0)], [], places) := ⟨[], by kernel_rfl⟩
theorem cellsStreams_lifted (os : Os) (started : os.Started) (H : Type) (enc : TypeId × Value → H) (F : Stop.Interp) :
    ReturnsInHanded {} Tryz.checked os 10 .any ((OpenSpec.ofChange Rows.cellsStreamsSpec).preRow enc Tryz.prog Tryz.f10 Rows.cellsStreamsRow.domain false Rows.cellsStreamsRow.laid) (((OpenSpec.ofChange Rows.cellsStreamsSpec).at F).post enc Tryz.prog Tryz.f10 false true false false) := by
  obtain ⟨places, hx⟩ := cellsStreams_reads os enc
  refine returnsInHanded_of_row (C := Tryz.checked) (s := OpenSpec.ofChange Rows.cellsStreamsSpec) ownG started (by kernel_rfl) Tryz.func10
    (witness_row_at (enc := enc) (C := Tryz.checked) false (laidWorld os) #[.agg #[.slice none 0 0, .slice none 0 0], .int .i64 0, .int .i64 0] rfl (by kernel_rfl) (by kernel_rfl) (by kernel_rfl)
      (OpenSpec.preRow_of_cond 8 hx (by kernel_rfl) (fun k hk => by cases hk) (by kernel_rfl) (cellsStreams_laid os))) ?_
  intro W base args ds gs before hval hW _ _ _ hL _ _
  exact cellsStreams_contract H enc W base args ds gs before hval hW hL
theorem cellsStreams_said : Rows.CellsStreamsSaid :=
  OpenClaim.holds_of_cond 10 Tryz.f10 rfl rfl rfl rfl rfl rfl rfl ⟨rfl, rfl, rfl, rfl, rfl⟩ rfl rfl rfl rfl rfl cellsStreams_named Tryz.func10 cellsStreams_facts cellsStreams_inst cellsStreams_wrap
    (fun os started H enc _ F => by rw [OpenClaim.pre_eq_preRow]; exact cellsStreams_lifted os started H enc F)
theorem cellsStreams_plain (f : FuncId) (fn : Func) (hf : Tryz.pinned.checked.prog.funcNamed "floodgate/floodgatelaw06.CellsStreams" = some f) (hfn : Tryz.pinned.checked.prog.funcs[f]? = some fn) :
    false = Tryz.pinned.checked.prog.looks [] ∧ ∀ (j : Nat) t, fn.params[j]? = some t → Tryz.pinned.checked.prog.wantsStandIn t = false := by
  obtain rfl : f = 10 := Option.some.inj ((show Tryz.prog.funcNamed "floodgate/floodgatelaw06.CellsStreams" = some 10 by kernel_rfl).symm.trans hf) |>.symm
  obtain rfl : fn = Tryz.f10 := (Option.some.inj (Tryz.func10.symm.trans hfn)).symm
  refine ⟨by kernel_rfl, fun j t ht => ?_⟩
  rw [Tryz.params10] at ht
  have hm := Array.mem_of_getElem? ht
  simp only [List.mem_toArray, List.mem_cons, List.not_mem_nil, or_false] at hm
  rcases hm with rfl | rfl | rfl
  · exact (show Tryz.prog.wantsStandIn 45 = false by kernel_rfl)
  · exact (show Tryz.prog.wantsStandIn 3 = false by kernel_rfl)
  · exact (show Tryz.prog.wantsStandIn 3 = false by kernel_rfl)
theorem cellsStreams_holds : Rows.CellsStreamsCardSaid :=
  Claim7.holds_tied_plain_at .later [] _ _ _ _ cellsStreams_said (fun _ h => by cases h) (by kernel_rfl) (fun _ h => by cases h) cellsStreams_row_tie rfl ⟨rfl, rfl⟩ (by kernel_rfl) rfl cellsStreams_plain (by kernel_rfl)
#print axioms cellsStreams_holds
end Go.Proofs.YtnhgfmbmfjmonaaGreatDoor
