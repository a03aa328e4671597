/- What single operations of the cube's code do. -/
import Derived.Test.YtlfclnkoimfhmaaDoorRows
import Derived.Test.YtlfclnkoimfhmaaDoorMap
set_option maxRecDepth 100000
set_option linter.unusedVariables false
set_option linter.unusedSimpArgs false
namespace Go.Proofs.YtlfclnkoimfhmaaDoor
open Go Go.RowKit Go.Mix Go.Eng
theorem sz_126 : ∀ w, (sizeOf 126).run Tryd.prog w = .ok 1 w := fun _ => by kernel_rfl
theorem sz_22 : ∀ w, (sizeOf 22).run Tryd.prog w = .ok 1 w := fun _ => by kernel_rfl
theorem sz_24 : ∀ w, (sizeOf 24).run Tryd.prog w = .ok 3 w := fun _ => by kernel_rfl
theorem sz_25 : ∀ w, (sizeOf 25).run Tryd.prog w = .ok 1 w := fun _ => by kernel_rfl
theorem sz_28 : ∀ w, (sizeOf 28).run Tryd.prog w = .ok 1 w := fun _ => by kernel_rfl
theorem sz_3 : ∀ w, (sizeOf 3).run Tryd.prog w = .ok 1 w := fun _ => by kernel_rfl
theorem sz_4 : ∀ w, (sizeOf 4).run Tryd.prog w = .ok 1 w := fun _ => by kernel_rfl
theorem sz_41 : ∀ w, (sizeOf 41).run Tryd.prog w = .ok 3 w := fun _ => by kernel_rfl
theorem sz_45 : ∀ w, (sizeOf 45).run Tryd.prog w = .ok 2 w := fun _ => by kernel_rfl
theorem sz_49 : ∀ w, (sizeOf 49).run Tryd.prog w = .ok 1 w := fun _ => by kernel_rfl
theorem sz_5 : ∀ w, (sizeOf 5).run Tryd.prog w = .ok 1 w := fun _ => by kernel_rfl
theorem sz_76 : ∀ w, (sizeOf 76).run Tryd.prog w = .ok 3 w := fun _ => by kernel_rfl
theorem sz_82 : ∀ w, (sizeOf 82).run Tryd.prog w = .ok 2 w := fun _ => by kernel_rfl
theorem sz_84 : ∀ w, (sizeOf 84).run Tryd.prog w = .ok 1 w := fun _ => by kernel_rfl
theorem sz_94 : ∀ w, (sizeOf 94).run Tryd.prog w = .ok 1 w := fun _ => by kernel_rfl
theorem ag_126 : ∀ w, (isAgg 126).run Tryd.prog w = .ok false w := fun _ => by kernel_rfl
theorem ag_22 : ∀ w, (isAgg 22).run Tryd.prog w = .ok false w := fun _ => by kernel_rfl
theorem ag_24 : ∀ w, (isAgg 24).run Tryd.prog w = .ok true w := fun _ => by kernel_rfl
theorem ag_25 : ∀ w, (isAgg 25).run Tryd.prog w = .ok false w := fun _ => by kernel_rfl
theorem ag_28 : ∀ w, (isAgg 28).run Tryd.prog w = .ok false w := fun _ => by kernel_rfl
theorem ag_3 : ∀ w, (isAgg 3).run Tryd.prog w = .ok false w := fun _ => by kernel_rfl
theorem ag_4 : ∀ w, (isAgg 4).run Tryd.prog w = .ok false w := fun _ => by kernel_rfl
theorem ag_41 : ∀ w, (isAgg 41).run Tryd.prog w = .ok true w := fun _ => by kernel_rfl
theorem ag_45 : ∀ w, (isAgg 45).run Tryd.prog w = .ok true w := fun _ => by kernel_rfl
theorem ag_49 : ∀ w, (isAgg 49).run Tryd.prog w = .ok false w := fun _ => by kernel_rfl
theorem ag_5 : ∀ w, (isAgg 5).run Tryd.prog w = .ok false w := fun _ => by kernel_rfl
theorem ag_76 : ∀ w, (isAgg 76).run Tryd.prog w = .ok true w := fun _ => by kernel_rfl
theorem ag_82 : ∀ w, (isAgg 82).run Tryd.prog w = .ok true w := fun _ => by kernel_rfl
theorem ag_84 : ∀ w, (isAgg 84).run Tryd.prog w = .ok false w := fun _ => by kernel_rfl
theorem ag_94 : ∀ w, (isAgg 94).run Tryd.prog w = .ok false w := fun _ => by kernel_rfl
theorem bd_24 : ∀  (w : World), (Instr.build 24 #[]).run Tryd.prog w = .ok (.agg #[.int .i64 0, .int .i64 0, .slice none 0 0]) w := fun  _ => by kernel_rfl
theorem bd_24_0 : ∀ (x1 : Int) (w : World), (Instr.build 24 #[(0, .int .i64 x1)]).run Tryd.prog w = .ok (.agg #[.int .i64 x1, .int .i64 0, .slice none 0 0]) w := fun _ _ => by kernel_rfl
theorem bd_24_0_1 : ∀ (x1 : Int) (x2 : Int) (w : World), (Instr.build 24 #[(0, .int .i64 x1), (1, .int .i64 x2)]).run Tryd.prog w = .ok (.agg #[.int .i64 x1, .int .i64 x2, .slice none 0 0]) w := fun _ _ _ => by kernel_rfl
theorem bd_24_0_1_2 : ∀ (x1 : Int) (x2 : Int) (x3 : Option Addr) (x4 x5 : Nat) (w : World), (Instr.build 24 #[(0, .int .i64 x1), (1, .int .i64 x2), (2, .slice x3 x4 x5)]).run Tryd.prog w = .ok (.agg #[.int .i64 x1, .int .i64 x2, .slice x3 x4 x5]) w := fun _ _ _ _ _ _ => by kernel_rfl
theorem bd_41_0_1 : ∀ (x1 : Int) (x2 : Int) (w : World), (Instr.build 41 #[(0, .int .i64 x1), (1, .int .i64 x2)]).run Tryd.prog w = .ok (.agg #[.int .i64 x1, .int .i64 x2, .int .i64 0]) w := fun _ _ _ => by kernel_rfl
theorem bd_41_1_2 : ∀ (x1 : Int) (x2 : Int) (w : World), (Instr.build 41 #[(1, .int .i64 x1), (2, .int .i64 x2)]).run Tryd.prog w = .ok (.agg #[.int .i64 0, .int .i64 x1, .int .i64 x2]) w := fun _ _ _ => by kernel_rfl
theorem bd_45_0 : ∀ (x1 : Int) (w : World), (Instr.build 45 #[(0, .int .i64 x1)]).run Tryd.prog w = .ok (.agg #[.int .i64 x1, .int .i64 0]) w := fun _ _ => by kernel_rfl
theorem bd_45_0_1 : ∀ (x1 : Int) (x2 : Int) (w : World), (Instr.build 45 #[(0, .int .i64 x1), (1, .int .i64 x2)]).run Tryd.prog w = .ok (.agg #[.int .i64 x1, .int .i64 x2]) w := fun _ _ _ => by kernel_rfl
theorem bd_45_1 : ∀ (x1 : Int) (w : World), (Instr.build 45 #[(1, .int .i64 x1)]).run Tryd.prog w = .ok (.agg #[.int .i64 0, .int .i64 x1]) w := fun _ _ => by kernel_rfl
theorem bd_76_0 : ∀ (x1 : Int) (x2 : Int) (x3 : Option Addr) (x4 x5 : Nat) (w : World), (Instr.build 76 #[(0, .agg #[.int .i64 x1, .int .i64 x2, .slice x3 x4 x5])]).run Tryd.prog w = .ok (.agg #[.int .i64 x1, .int .i64 x2, .slice x3 x4 x5]) w := fun _ _ _ _ _ _ => by kernel_rfl
theorem bd_82 : ∀  (w : World), (Instr.build 82 #[]).run Tryd.prog w = .ok (.agg #[.int .i64 0, .int .i64 0]) w := fun  _ => by kernel_rfl
theorem bd_82_0_1 : ∀ (x1 : Int) (x2 : Int) (w : World), (Instr.build 82 #[(0, .int .i64 x1), (1, .int .i64 x2)]).run Tryd.prog w = .ok (.agg #[.int .i64 x1, .int .i64 x2]) w := fun _ _ _ => by kernel_rfl
theorem cf_15 : ∀ args w, (callFunc 15 args).run Tryd.prog w = .ok (.enter 15 args) w := fun _ _ => by kernel_rfl
theorem cf_17 : ∀ args w, (callFunc 17 args).run Tryd.prog w = .ok (.enter 17 args) w := fun _ _ => by kernel_rfl
theorem cf_20 : ∀ args w, (callFunc 20 args).run Tryd.prog w = .ok (.enter 20 args) w := fun _ _ => by kernel_rfl
theorem cf_23 : ∀ args w, (callFunc 23 args).run Tryd.prog w = .ok (.enter 23 args) w := fun _ _ => by kernel_rfl
theorem cf_24 : ∀ args w, (callFunc 24 args).run Tryd.prog w = .ok (.enter 24 args) w := fun _ _ => by kernel_rfl
theorem cf_25 : ∀ args w, (callFunc 25 args).run Tryd.prog w = .ok (.enter 25 args) w := fun _ _ => by kernel_rfl
theorem cf_27 : ∀ args w, (callFunc 27 args).run Tryd.prog w = .ok (.enter 27 args) w := fun _ _ => by kernel_rfl
theorem cf_28 : ∀ args w, (callFunc 28 args).run Tryd.prog w = .ok (.enter 28 args) w := fun _ _ => by kernel_rfl
theorem cf_30 : ∀ args w, (callFunc 30 args).run Tryd.prog w = .ok (.enter 30 args) w := fun _ _ => by kernel_rfl
theorem cf_31 : ∀ args w, (callFunc 31 args).run Tryd.prog w = .ok (.enter 31 args) w := fun _ _ => by kernel_rfl
theorem cf_32 : ∀ args w, (callFunc 32 args).run Tryd.prog w = .ok (.enter 32 args) w := fun _ _ => by kernel_rfl
theorem cf_34 : ∀ args w, (callFunc 34 args).run Tryd.prog w = .ok (.enter 34 args) w := fun _ _ => by kernel_rfl
theorem cf_35 : ∀ args w, (callFunc 35 args).run Tryd.prog w = .ok (.enter 35 args) w := fun _ _ => by kernel_rfl
theorem cf_37 : ∀ args w, (callFunc 37 args).run Tryd.prog w = .ok (.enter 37 args) w := fun _ _ => by kernel_rfl
theorem cf_40 : ∀ args w, (callFunc 40 args).run Tryd.prog w = .ok (.enter 40 args) w := fun _ _ => by kernel_rfl
theorem cf_45 : ∀ args w, (callFunc 45 args).run Tryd.prog w = .ok (.enter 45 args) w := fun _ _ => by kernel_rfl
theorem cf_47 : ∀ args w, (callFunc 47 args).run Tryd.prog w = .ok (.enter 47 args) w := fun _ _ => by kernel_rfl
theorem cf_48 : ∀ args w, (callFunc 48 args).run Tryd.prog w = .ok (.enter 48 args) w := fun _ _ => by kernel_rfl
theorem cf_49 : ∀ args w, (callFunc 49 args).run Tryd.prog w = .ok (.enter 49 args) w := fun _ _ => by kernel_rfl
theorem cf_50 : ∀ args w, (callFunc 50 args).run Tryd.prog w = .ok (.enter 50 args) w := fun _ _ => by kernel_rfl
theorem cf_51 : ∀ args w, (callFunc 51 args).run Tryd.prog w = .ok (.enter 51 args) w := fun _ _ => by kernel_rfl
theorem cf_52 : ∀ args w, (callFunc 52 args).run Tryd.prog w = .ok (.enter 52 args) w := fun _ _ => by kernel_rfl
theorem cf_53 : ∀ args w, (callFunc 53 args).run Tryd.prog w = .ok (.enter 53 args) w := fun _ _ => by kernel_rfl
theorem cf_54 : ∀ args w, (callFunc 54 args).run Tryd.prog w = .ok (.enter 54 args) w := fun _ _ => by kernel_rfl
theorem cf_55 : ∀ args w, (callFunc 55 args).run Tryd.prog w = .ok (.enter 55 args) w := fun _ _ => by kernel_rfl
theorem cf_56 : ∀ args w, (callFunc 56 args).run Tryd.prog w = .ok (.enter 56 args) w := fun _ _ => by kernel_rfl
theorem cf_57 : ∀ args w, (callFunc 57 args).run Tryd.prog w = .ok (.enter 57 args) w := fun _ _ => by kernel_rfl
theorem cf_58 : ∀ args w, (callFunc 58 args).run Tryd.prog w = .ok (.enter 58 args) w := fun _ _ => by kernel_rfl
theorem cf_59 : ∀ args w, (callFunc 59 args).run Tryd.prog w = .ok (.enter 59 args) w := fun _ _ => by kernel_rfl
theorem cf_60 : ∀ args w, (callFunc 60 args).run Tryd.prog w = .ok (.enter 60 args) w := fun _ _ => by kernel_rfl
theorem cf_61 : ∀ args w, (callFunc 61 args).run Tryd.prog w = .ok (.enter 61 args) w := fun _ _ => by kernel_rfl
theorem cf_62 : ∀ args w, (callFunc 62 args).run Tryd.prog w = .ok (.enter 62 args) w := fun _ _ => by kernel_rfl
theorem cf_63 : ∀ args w, (callFunc 63 args).run Tryd.prog w = .ok (.enter 63 args) w := fun _ _ => by kernel_rfl
theorem cf_64 : ∀ args w, (callFunc 64 args).run Tryd.prog w = .ok (.enter 64 args) w := fun _ _ => by kernel_rfl
theorem cf_65 : ∀ args w, (callFunc 65 args).run Tryd.prog w = .ok (.enter 65 args) w := fun _ _ => by kernel_rfl
theorem cf_66 : ∀ args w, (callFunc 66 args).run Tryd.prog w = .ok (.enter 66 args) w := fun _ _ => by kernel_rfl
theorem cf_68 : ∀ args w, (callFunc 68 args).run Tryd.prog w = .ok (.enter 68 args) w := fun _ _ => by kernel_rfl
theorem cf_69 : ∀ args w, (callFunc 69 args).run Tryd.prog w = .ok (.enter 69 args) w := fun _ _ => by kernel_rfl
theorem cf_70 : ∀ args w, (callFunc 70 args).run Tryd.prog w = .ok (.enter 70 args) w := fun _ _ => by kernel_rfl
theorem cf_71 : ∀ args w, (callFunc 71 args).run Tryd.prog w = .ok (.enter 71 args) w := fun _ _ => by kernel_rfl
theorem cf_72 : ∀ args w, (callFunc 72 args).run Tryd.prog w = .ok (.enter 72 args) w := fun _ _ => by kernel_rfl
theorem cf_73 : ∀ args w, (callFunc 73 args).run Tryd.prog w = .ok (.enter 73 args) w := fun _ _ => by kernel_rfl
theorem cf_74 : ∀ args w, (callFunc 74 args).run Tryd.prog w = .ok (.enter 74 args) w := fun _ _ => by kernel_rfl
theorem cf_75 : ∀ args w, (callFunc 75 args).run Tryd.prog w = .ok (.enter 75 args) w := fun _ _ => by kernel_rfl
theorem cf_76 : ∀ args w, (callFunc 76 args).run Tryd.prog w = .ok (.enter 76 args) w := fun _ _ => by kernel_rfl
theorem cf_77 : ∀ args w, (callFunc 77 args).run Tryd.prog w = .ok (.enter 77 args) w := fun _ _ => by kernel_rfl
theorem cf_78 : ∀ args w, (callFunc 78 args).run Tryd.prog w = .ok (.enter 78 args) w := fun _ _ => by kernel_rfl
theorem cf_79 : ∀ args w, (callFunc 79 args).run Tryd.prog w = .ok (.enter 79 args) w := fun _ _ => by kernel_rfl
theorem cf_80 : ∀ args w, (callFunc 80 args).run Tryd.prog w = .ok (.enter 80 args) w := fun _ _ => by kernel_rfl
theorem cf_81 : ∀ args w, (callFunc 81 args).run Tryd.prog w = .ok (.enter 81 args) w := fun _ _ => by kernel_rfl
theorem cf_82 : ∀ args w, (callFunc 82 args).run Tryd.prog w = .ok (.enter 82 args) w := fun _ _ => by kernel_rfl
theorem cf_83 : ∀ args w, (callFunc 83 args).run Tryd.prog w = .ok (.enter 83 args) w := fun _ _ => by kernel_rfl
theorem cf_84 : ∀ args w, (callFunc 84 args).run Tryd.prog w = .ok (.enter 84 args) w := fun _ _ => by kernel_rfl
theorem cf_85 : ∀ args w, (callFunc 85 args).run Tryd.prog w = .ok (.enter 85 args) w := fun _ _ => by kernel_rfl
theorem cf_86 : ∀ args w, (callFunc 86 args).run Tryd.prog w = .ok (.enter 86 args) w := fun _ _ => by kernel_rfl
theorem cf_87 : ∀ args w, (callFunc 87 args).run Tryd.prog w = .ok (.enter 87 args) w := fun _ _ => by kernel_rfl
theorem cf_88 : ∀ args w, (callFunc 88 args).run Tryd.prog w = .ok (.enter 88 args) w := fun _ _ => by kernel_rfl
theorem cf_89 : ∀ args w, (callFunc 89 args).run Tryd.prog w = .ok (.enter 89 args) w := fun _ _ => by kernel_rfl
theorem cf_90 : ∀ args w, (callFunc 90 args).run Tryd.prog w = .ok (.enter 90 args) w := fun _ _ => by kernel_rfl
theorem cf_91 : ∀ args w, (callFunc 91 args).run Tryd.prog w = .ok (.enter 91 args) w := fun _ _ => by kernel_rfl
theorem cf_93 : ∀ args w, (callFunc 93 args).run Tryd.prog w = .ok (.enter 93 args) w := fun _ _ => by kernel_rfl
theorem cf_95 : ∀ args w, (callFunc 95 args).run Tryd.prog w = .ok (.enter 95 args) w := fun _ _ => by kernel_rfl
theorem eql_82 : ∀ (x1 : Int) (x2 : Int) (x3 : Int) (x4 : Int) (w : World), (binOp .eql 82 (.agg #[.int .i64 x1, .int .i64 x2]) (.agg #[.int .i64 x3, .int .i64 x4])).run Tryd.prog w = .ok (.bool (decide (x1 = x3 ∧ x2 = x4))) w := by
  intros; simp [go_sem, Tryd.underlying3, Tryd.underlying82]; (repeat' split) <;> simp_all
theorem geql_82 : ∀ (x1 : Int) (x2 : Int) (x3 : Int) (x4 : Int) (x y : Operand) (w : World), (eqGuard .eql 82 x y (.agg #[.int .i64 x1, .int .i64 x2]) (.agg #[.int .i64 x3, .int .i64 x4])).run Tryd.prog w = .ok () w := by
  intros; exact run_eqGuard_agg _ _ _ _ _ _ _ (by kernel_rfl)
theorem fa_24_0 : ∀ b o w, (Instr.fieldAt 24 (.pointer (some ⟨b, o, none⟩)) 0).run Tryd.prog w = .ok (.pointer (some ⟨b, o + 0, none⟩)) w := fun b o w => by simp [Instr.fieldAt, run_underlying (show Tryd.prog.underlying 24 = some _ from Tryd.underlying24), Instr.sureAddr, fieldPlace, sz_3, addr_add]
theorem fa_24_1 : ∀ b o w, (Instr.fieldAt 24 (.pointer (some ⟨b, o, none⟩)) 1).run Tryd.prog w = .ok (.pointer (some ⟨b, o + 1, none⟩)) w := fun b o w => by simp [Instr.fieldAt, run_underlying (show Tryd.prog.underlying 24 = some _ from Tryd.underlying24), Instr.sureAddr, fieldPlace, sz_3, addr_add]
theorem fa_24_2 : ∀ b o w, (Instr.fieldAt 24 (.pointer (some ⟨b, o, none⟩)) 2).run Tryd.prog w = .ok (.pointer (some ⟨b, o + 2, none⟩)) w := fun b o w => by simp [Instr.fieldAt, run_underlying (show Tryd.prog.underlying 24 = some _ from Tryd.underlying24), Instr.sureAddr, fieldPlace, sz_22, addr_add]
theorem fa_41_0 : ∀ b o w, (Instr.fieldAt 41 (.pointer (some ⟨b, o, none⟩)) 0).run Tryd.prog w = .ok (.pointer (some ⟨b, o + 0, none⟩)) w := fun b o w => by simp [Instr.fieldAt, run_underlying (show Tryd.prog.underlying 41 = some _ from Tryd.underlying41), Instr.sureAddr, fieldPlace, sz_3, addr_add]
theorem fa_41_1 : ∀ b o w, (Instr.fieldAt 41 (.pointer (some ⟨b, o, none⟩)) 1).run Tryd.prog w = .ok (.pointer (some ⟨b, o + 1, none⟩)) w := fun b o w => by simp [Instr.fieldAt, run_underlying (show Tryd.prog.underlying 41 = some _ from Tryd.underlying41), Instr.sureAddr, fieldPlace, sz_3, addr_add]
theorem fa_45_0 : ∀ b o w, (Instr.fieldAt 45 (.pointer (some ⟨b, o, none⟩)) 0).run Tryd.prog w = .ok (.pointer (some ⟨b, o + 0, none⟩)) w := fun b o w => by simp [Instr.fieldAt, run_underlying (show Tryd.prog.underlying 45 = some _ from Tryd.underlying45), Instr.sureAddr, fieldPlace, sz_3, addr_add]
theorem fa_45_1 : ∀ b o w, (Instr.fieldAt 45 (.pointer (some ⟨b, o, none⟩)) 1).run Tryd.prog w = .ok (.pointer (some ⟨b, o + 1, none⟩)) w := fun b o w => by simp [Instr.fieldAt, run_underlying (show Tryd.prog.underlying 45 = some _ from Tryd.underlying45), Instr.sureAddr, fieldPlace, sz_3, addr_add]
theorem fa_76_0 : ∀ b o w, (Instr.fieldAt 76 (.pointer (some ⟨b, o, none⟩)) 0).run Tryd.prog w = .ok (.pointer (some ⟨b, o + 0, none⟩)) w := fun b o w => by simp [Instr.fieldAt, run_underlying (show Tryd.prog.underlying 76 = some _ from Tryd.underlying76), Instr.sureAddr, fieldPlace, sz_24, addr_add]
theorem fa_82_0 : ∀ b o w, (Instr.fieldAt 82 (.pointer (some ⟨b, o, none⟩)) 0).run Tryd.prog w = .ok (.pointer (some ⟨b, o + 0, none⟩)) w := fun b o w => by simp [Instr.fieldAt, run_underlying (show Tryd.prog.underlying 82 = some _ from Tryd.underlying82), Instr.sureAddr, fieldPlace, sz_3, addr_add]
theorem fa_82_1 : ∀ b o w, (Instr.fieldAt 82 (.pointer (some ⟨b, o, none⟩)) 1).run Tryd.prog w = .ok (.pointer (some ⟨b, o + 1, none⟩)) w := fun b o w => by simp [Instr.fieldAt, run_underlying (show Tryd.prog.underlying 82 = some _ from Tryd.underlying82), Instr.sureAddr, fieldPlace, sz_3, addr_add]
theorem neq_41 : ∀ (x1 : Int) (x2 : Int) (x3 : Int) (x4 : Int) (x5 : Int) (x6 : Int) (w : World), (binOp .neq 41 (.agg #[.int .i64 x1, .int .i64 x2, .int .i64 x3]) (.agg #[.int .i64 x4, .int .i64 x5, .int .i64 x6])).run Tryd.prog w = .ok (.bool (decide (¬ (x1 = x4 ∧ x2 = x5 ∧ x3 = x6)))) w := by
  intros; simp [go_sem, Tryd.underlying3, Tryd.underlying41]; (repeat' split) <;> simp_all
theorem gneq_41 : ∀ (x1 : Int) (x2 : Int) (x3 : Int) (x4 : Int) (x5 : Int) (x6 : Int) (x y : Operand) (w : World), (eqGuard .neq 41 x y (.agg #[.int .i64 x1, .int .i64 x2, .int .i64 x3]) (.agg #[.int .i64 x4, .int .i64 x5, .int .i64 x6])).run Tryd.prog w = .ok () w := by
  intros; exact run_eqGuard_agg _ _ _ _ _ _ _ (by kernel_rfl)
theorem neq_45 : ∀ (x1 : Int) (x2 : Int) (x3 : Int) (x4 : Int) (w : World), (binOp .neq 45 (.agg #[.int .i64 x1, .int .i64 x2]) (.agg #[.int .i64 x3, .int .i64 x4])).run Tryd.prog w = .ok (.bool (decide (¬ (x1 = x3 ∧ x2 = x4)))) w := by
  intros; simp [go_sem, Tryd.underlying3, Tryd.underlying45]; (repeat' split) <;> simp_all
theorem gneq_45 : ∀ (x1 : Int) (x2 : Int) (x3 : Int) (x4 : Int) (x y : Operand) (w : World), (eqGuard .neq 45 x y (.agg #[.int .i64 x1, .int .i64 x2]) (.agg #[.int .i64 x3, .int .i64 x4])).run Tryd.prog w = .ok () w := by
  intros; exact run_eqGuard_agg _ _ _ _ _ _ _ (by kernel_rfl)
theorem ti_3 : TI Tryd.prog 3 [.int .i64 0] 1 8 := TI.of (u := .int .i64 0) (by kernel_rfl) rfl
theorem ti_41 : TI Tryd.prog 41 [.int .i64 0, .int .i64 0, .int .i64 0] 3 24 := TI.of (u := .agg #[.int .i64 0, .int .i64 0, .int .i64 0]) (by kernel_rfl) rfl
theorem ti_45 : TI Tryd.prog 45 [.int .i64 0, .int .i64 0] 2 16 := TI.of (u := .agg #[.int .i64 0, .int .i64 0]) (by kernel_rfl) rfl
theorem ti_49 : TI Tryd.prog 49 [.slice none 0 0] 1 24 := TI.of (u := .slice none 0 0) (by kernel_rfl) rfl
theorem ti_82 : TI Tryd.prog 82 [.int .i64 0, .int .i64 0] 2 16 := TI.of (u := .agg #[.int .i64 0, .int .i64 0]) (by kernel_rfl) rfl
theorem ze_126 : ∀ w, ∃ u : Value, u.cells = ([.map none] : List Value).toArray ∧ (zeroValue 126).run Tryd.prog w = .ok u w := fun _ => ⟨.map none, rfl, by kernel_rfl⟩
theorem ze_24 : ∀ w, ∃ u : Value, u.cells = ([.int .i64 0, .int .i64 0, .slice none 0 0] : List Value).toArray ∧ (zeroValue 24).run Tryd.prog w = .ok u w := fun _ => ⟨.agg #[.int .i64 0, .int .i64 0, .slice none 0 0], rfl, by kernel_rfl⟩
theorem ze_25 : ∀ w, ∃ u : Value, u.cells = ([.int .i64 0] : List Value).toArray ∧ (zeroValue 25).run Tryd.prog w = .ok u w := fun _ => ⟨.int .i64 0, rfl, by kernel_rfl⟩
theorem ze_28 : ∀ w, ∃ u : Value, u.cells = ([.slice none 0 0] : List Value).toArray ∧ (zeroValue 28).run Tryd.prog w = .ok u w := fun _ => ⟨.slice none 0 0, rfl, by kernel_rfl⟩
theorem ze_3 : ∀ w, ∃ u : Value, u.cells = ([.int .i64 0] : List Value).toArray ∧ (zeroValue 3).run Tryd.prog w = .ok u w := fun _ => ⟨.int .i64 0, rfl, by kernel_rfl⟩
theorem ze_4 : ∀ w, ∃ u : Value, u.cells = ([.bool false] : List Value).toArray ∧ (zeroValue 4).run Tryd.prog w = .ok u w := fun _ => ⟨.bool false, rfl, by kernel_rfl⟩
theorem ze_41 : ∀ w, ∃ u : Value, u.cells = ([.int .i64 0, .int .i64 0, .int .i64 0] : List Value).toArray ∧ (zeroValue 41).run Tryd.prog w = .ok u w := fun _ => ⟨.agg #[.int .i64 0, .int .i64 0, .int .i64 0], rfl, by kernel_rfl⟩
theorem ze_45 : ∀ w, ∃ u : Value, u.cells = ([.int .i64 0, .int .i64 0] : List Value).toArray ∧ (zeroValue 45).run Tryd.prog w = .ok u w := fun _ => ⟨.agg #[.int .i64 0, .int .i64 0], rfl, by kernel_rfl⟩
theorem ze_49 : ∀ w, ∃ u : Value, u.cells = ([.slice none 0 0] : List Value).toArray ∧ (zeroValue 49).run Tryd.prog w = .ok u w := fun _ => ⟨.slice none 0 0, rfl, by kernel_rfl⟩
theorem ze_82 : ∀ w, ∃ u : Value, u.cells = ([.int .i64 0, .int .i64 0] : List Value).toArray ∧ (zeroValue 82).run Tryd.prog w = .ok u w := fun _ => ⟨.agg #[.int .i64 0, .int .i64 0], rfl, by kernel_rfl⟩
theorem ze_84 : ∀ w, ∃ u : Value, u.cells = ([.pointer none] : List Value).toArray ∧ (zeroValue 84).run Tryd.prog w = .ok u w := fun _ => ⟨.pointer none, rfl, by kernel_rfl⟩
theorem ze_94 : ∀ w, ∃ u : Value, u.cells = ([.slice none 0 0] : List Value).toArray ∧ (zeroValue 94).run Tryd.prog w = .ok u w := fun _ => ⟨.slice none 0 0, rfl, by kernel_rfl⟩
theorem mt_126_82_4 : MapT Tryd.prog 126 82 4 := ⟨Tryd.underlying126, fun _ => by kernel_rfl, ⟨_, Tryd.underlying82⟩, fun e x y w => by cases e <;> kernel_rfl, fun x1 x2 x3 x4 w => equal_of_bin (eql_82 x1 x2 x3 x4 w)⟩
end Go.Proofs.YtlfclnkoimfhmaaDoor
