/- What functions compute: fbool. -/
import Derived.Test.YtnhgfmbmfjmonaaGreatDoorMoreFacts
import Derived.Test.YtnhgfmbmfjmonaaGreatDoorMorePre
import Derived.Test.YtnhgfmbmfjmonaaGreatDoorMoreWalk2
set_option maxRecDepth 100000
set_option linter.unusedVariables false
set_option linter.unusedSimpArgs false
namespace Go.Proofs.YtnhgfmbmfjmonaaGreatDoor
open Go Go.RowKit Go.Mix Go.Eng
theorem fbool_ct (b : Bool) (w0 : World) :
  CT Tryz.prog 157 [.bool b] w0 no (fun v _ => v = .string (if b = true then ⟨#[116, 114, 117, 101]⟩ else ⟨#[102, 97, 108, 115, 101]⟩ : ByteArray)) := by
 have F0 := Fr.refl no w0
 refine ct_body Tryz.func157 rfl Tryz.ntmps157 (Nat.le_of_ble_eq_true rfl) ?_
 refine wk_seq ?_
 refine wk_region ?_
 refine lx_value (want rfl) (as_string rfl) ?_
 refine lx_nil ?_
 refine wk_seq ?_
 refine wk_region ?_
 refine lx_value (want rfl) (mv_bool rfl) ?_
 refine lx_call (want rfl) (ent_func cf_163 (argsC (t_bool rfl) args0)) (fbool2_ct b w0) ?_
 rintro _ w1 E1 rfl
 have F1 := F0.ext E1
 have hz1 := E1.size
 refine lx_value (want rfl) (as_string rfl) ?_
 refine lx_nil ?_
 refine wk_ret ?_
 refine retR1 Tryz.results157 (.tmp (t_string rfl)) F1 ?_
 exact rfl

end Go.Proofs.YtnhgfmbmfjmonaaGreatDoor
