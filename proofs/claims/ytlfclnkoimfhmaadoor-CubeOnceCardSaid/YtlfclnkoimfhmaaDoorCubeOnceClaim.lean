/- The law CubeOnce answers true of every input, and each argument reads behind the call as it did before (the card: the two tables of math/bits hold what the program's text lays). -/
import Derived.Test.YtlfclnkoimfhmaaDoorBaseB
import Derived.Test.YtlfclnkoimfhmaaDoorCubeOnceWalk
set_option maxRecDepth 100000
set_option linter.unusedVariables false
set_option linter.unusedSimpArgs false
namespace Go.Proofs.YtlfclnkoimfhmaaDoor
open Go Go.RowKit Go.Mix Go.Eng Go.ChangeShapes Go.WideShapes Go.ChangeAt
theorem cubeOnce_contract (H : Type) (enc : TypeId × Value → H) (W : World) (base : Nat) (args : Array Value) (ds gs : List (DataW H)) (before : List MemPlace)
    (hval : ∀ (j : Nat) t v, Tryd.f10.params[j]? = some t → args[j]? = some v → Value.okWide Tryd.prog W .any base t v)
    (hW : DataW.Whole enc Tryd.prog Tryd.f10.params.toList Rows.cubeOnceSpec.vars false W args.toList ds gs before) (hL : laidMetH Tryd.prog laidL W) :
    Calls Tryd.prog 10 args W fun e W' => ∃ v, e = .returned v ∧ Rows.cubeOnceSpec.post enc Tryd.prog Tryd.f10 false true false false W args v W' := by
  have hT := tb_of hL
  have hW' := hW
  obtain ⟨p, q, hA0, hV, rfl, hfz, hnd⟩ := hW
  have hA : DataW.TrodAll enc Tryd.prog W 0 (fun _ => true) true Tryd.f10.params.toList args.toList ds p := hA0
  rw [Tryd.params10] at hA hval
  obtain ⟨v0, vs0, d0, ds0, p0, q0, hargs0, rfl, rfl, h0, r0⟩ := trodAll_cons hA
  obtain ⟨v1, vs1, d1, ds1, p1, q1, hargs1, rfl, rfl, h1, r1⟩ := trodAll_cons r0
  obtain ⟨e1, rfl, rfl⟩ := trodAll_nil r1
  subst hargs1
  obtain ⟨rfl, rfl⟩ := trodVars_none hV
  have hargs : args = #[v0, v1] := by cases args; simp_all
  subst hargs
  obtain ⟨xd, xr, X, sx, cx, rfl, hxd, hxr, hXb, hX⟩ := open_sent (hval 0 61 v0 rfl rfl) h0
  obtain ⟨sl, cl, ll, rfl, hlb, hll⟩ := open_bytes (hval 1 62 v1 rfl rfl) h1
  exact law_done (cubeonce_ct xd xr hxd hxr X hXb sx cx (fun _ => True) ll hlb sl cl (fun _ => True) W hX hT hll) rfl hW' rfl rfl (by rw [Tryd.params10]; intro t ht; simp only [List.mem_cons, List.not_mem_nil, or_false] at ht; rcases ht with rfl | rfl; exact read61; exact read62) rfl
theorem cubeOnce_laid (os : Os) : laidMet Tryd.prog Rows.cubeOnceRow.laid ((laidWorld os).forCall (fun _ _ => 0) ⟨#[], #[.agg #[.int .u8 0, .int .u8 0, .slice none 0 0], .slice none 0 0], []⟩).memory := laidMet_of_run' 8 (by kernel_rfl) (by kernel_rfl)
theorem cubeOnce_reads (os : Os) {H : Type} (enc : TypeId × Value → H) : ∃ places, DataW.whole enc Tryd.prog ((laidWorld os).forCall (fun _ _ => 0) ⟨#[], #[.agg #[.int .u8 0, .int .u8 0, .slice none 0 0], .slice none 0 0], []⟩).memory Tryd.f10.params.toList Rows.cubeOnceSpec.vars false (#[.agg #[.int .u8 0, .int .u8 0, .slice none 0 0], .slice none 0 0] : Array Value).toList 8 = some ([.agg [.lit (.int .u8 0), .lit (.int .u8 0), .nil], .nil], [], places) := ⟨[], by kernel_rfl⟩
theorem cubeOnce_lifted (os : Os) (started : os.Started) (H : Type) (enc : TypeId × Value → H) (F : Stop.Interp) :
    ReturnsInHanded {} Tryd.checked os 10 .any ((OpenSpec.ofChange Rows.cubeOnceSpec).preRow enc Tryd.prog Tryd.f10 Rows.cubeOnceRow.domain false Rows.cubeOnceRow.laid) (((OpenSpec.ofChange Rows.cubeOnceSpec).at F).post enc Tryd.prog Tryd.f10 false true false false) := by
  obtain ⟨places, hx⟩ := cubeOnce_reads os enc
  refine returnsInHanded_of_row (C := Tryd.checked) (s := OpenSpec.ofChange Rows.cubeOnceSpec) ownG started (by kernel_rfl) Tryd.func10
    (witness_row_at (enc := enc) (C := Tryd.checked) false (laidWorld os) #[.agg #[.int .u8 0, .int .u8 0, .slice none 0 0], .slice none 0 0] rfl (by kernel_rfl) (by kernel_rfl) (by kernel_rfl)
      (OpenSpec.preRow_of_cond 8 hx (by kernel_rfl) (fun k hk => by cases hk) (by kernel_rfl) (cubeOnce_laid os))) ?_
  intro W base args ds gs before hval hW _ _ _ hL _ _
  exact cubeOnce_contract H enc W base args ds gs before hval hW hL
theorem cubeOnce_said : Rows.CubeOnceSaid :=
  OpenClaim.holds_of_cond 10 Tryd.f10 rfl rfl rfl rfl rfl rfl rfl ⟨rfl, rfl, rfl, rfl, rfl⟩ rfl rfl rfl rfl rfl (by kernel_rfl) Tryd.func10 (by kernel_rfl)
    (of_decide_eq_true (by kernel_rfl)) (by unfold Func.isWrapper; first | (rw [if_pos (by decide +kernel)]; kernel_rfl) | (rw [if_neg (by decide +kernel)]; exact ⟨rfl, rfl⟩))
    (fun os started H enc _ F => by rw [OpenClaim.pre_eq_preRow]; exact cubeOnce_lifted os started H enc F)
theorem cubeOnce_plain (f : FuncId) (fn : Func) (hf : Tryd.pinned.checked.prog.funcNamed "floodgate/floodgatelaw16.CubeOnce" = some f) (hfn : Tryd.pinned.checked.prog.funcs[f]? = some fn) :
    false = Tryd.pinned.checked.prog.looks [] ∧ ∀ (j : Nat) t, fn.params[j]? = some t → Tryd.pinned.checked.prog.wantsStandIn t = false := by
  obtain rfl : f = 10 := Option.some.inj ((show Tryd.prog.funcNamed "floodgate/floodgatelaw16.CubeOnce" = some 10 by kernel_rfl).symm.trans hf) |>.symm
  obtain rfl : fn = Tryd.f10 := (Option.some.inj (Tryd.func10.symm.trans hfn)).symm
  refine ⟨by kernel_rfl, fun j t ht => ?_⟩
  rw [Tryd.params10] at ht
  have hm := Array.mem_of_getElem? ht
  simp only [List.mem_toArray, List.mem_cons, List.not_mem_nil, or_false] at hm
  rcases hm with rfl | rfl
  · exact (show Tryd.prog.wantsStandIn 61 = false by kernel_rfl)
  · exact (show Tryd.prog.wantsStandIn 62 = false by kernel_rfl)
theorem cubeOnce_holds : Rows.CubeOnceCardSaid :=
  Claim7.holds_tied_plain_at .later [] _ _ _ _ cubeOnce_said (fun _ h => by cases h) (by kernel_rfl) (fun _ h => by cases h) cubeOnce_row_tie rfl ⟨rfl, rfl⟩ (by kernel_rfl) rfl cubeOnce_plain (by kernel_rfl)
#print axioms cubeOnce_holds
end Go.Proofs.YtlfclnkoimfhmaaDoor
