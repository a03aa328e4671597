/- What single operations of the code do. -/
import Derived.Test.YtnhgfmbmfjmonaaGreatDoorRows
import Derived.Test.YtnhgfmbmfjmonaaGreatDoorNamesMapV
import Derived.ChangeKeysEq
set_option maxRecDepth 100000
set_option linter.unusedVariables false
set_option linter.unusedSimpArgs false
namespace Go.Proofs.YtnhgfmbmfjmonaaGreatDoor
open Go Go.RowKit Go.Mix Go.Eng
theorem sz_106 : ∀ w, (sizeOf 106).run Tryz.prog w = .ok 3 w := fun _ => by kernel_rfl
theorem sz_108 : ∀ w, (sizeOf 108).run Tryz.prog w = .ok 1 w := fun _ => by kernel_rfl
theorem sz_115 : ∀ w, (sizeOf 115).run Tryz.prog w = .ok 2 w := fun _ => by kernel_rfl
theorem sz_123 : ∀ w, (sizeOf 123).run Tryz.prog w = .ok 1 w := fun _ => by kernel_rfl
theorem sz_124 : ∀ w, (sizeOf 124).run Tryz.prog w = .ok 1 w := fun _ => by kernel_rfl
theorem sz_126 : ∀ w, (sizeOf 126).run Tryz.prog w = .ok 3 w := fun _ => by kernel_rfl
theorem sz_145 : ∀ w, (sizeOf 145).run Tryz.prog w = .ok 1 w := fun _ => by kernel_rfl
theorem sz_147 : ∀ w, (sizeOf 147).run Tryz.prog w = .ok 2 w := fun _ => by kernel_rfl
theorem sz_154 : ∀ w, (sizeOf 154).run Tryz.prog w = .ok 1 w := fun _ => by kernel_rfl
theorem sz_22 : ∀ w, (sizeOf 22).run Tryz.prog w = .ok 1 w := fun _ => by kernel_rfl
theorem sz_24 : ∀ w, (sizeOf 24).run Tryz.prog w = .ok 1 w := fun _ => by kernel_rfl
theorem sz_3 : ∀ w, (sizeOf 3).run Tryz.prog w = .ok 1 w := fun _ => by kernel_rfl
theorem sz_30 : ∀ w, (sizeOf 30).run Tryz.prog w = .ok 1 w := fun _ => by kernel_rfl
theorem sz_31 : ∀ w, (sizeOf 31).run Tryz.prog w = .ok 1 w := fun _ => by kernel_rfl
theorem sz_36 : ∀ w, (sizeOf 36).run Tryz.prog w = .ok 2 w := fun _ => by kernel_rfl
theorem sz_38 : ∀ w, (sizeOf 38).run Tryz.prog w = .ok 8 w := fun _ => by kernel_rfl
theorem sz_4 : ∀ w, (sizeOf 4).run Tryz.prog w = .ok 1 w := fun _ => by kernel_rfl
theorem sz_43 : ∀ w, (sizeOf 43).run Tryz.prog w = .ok 1 w := fun _ => by kernel_rfl
theorem sz_45 : ∀ w, (sizeOf 45).run Tryz.prog w = .ok 2 w := fun _ => by kernel_rfl
theorem sz_5 : ∀ w, (sizeOf 5).run Tryz.prog w = .ok 1 w := fun _ => by kernel_rfl
theorem sz_63 : ∀ w, (sizeOf 63).run Tryz.prog w = .ok 1 w := fun _ => by kernel_rfl
theorem sz_65 : ∀ w, (sizeOf 65).run Tryz.prog w = .ok 2 w := fun _ => by kernel_rfl
theorem sz_77 : ∀ w, (sizeOf 77).run Tryz.prog w = .ok 1 w := fun _ => by kernel_rfl
theorem sz_9 : ∀ w, (sizeOf 9).run Tryz.prog w = .ok 1 w := fun _ => by kernel_rfl
theorem ag_106 : ∀ w, (isAgg 106).run Tryz.prog w = .ok true w := fun _ => by kernel_rfl
theorem ag_108 : ∀ w, (isAgg 108).run Tryz.prog w = .ok false w := fun _ => by kernel_rfl
theorem ag_115 : ∀ w, (isAgg 115).run Tryz.prog w = .ok true w := fun _ => by kernel_rfl
theorem ag_123 : ∀ w, (isAgg 123).run Tryz.prog w = .ok false w := fun _ => by kernel_rfl
theorem ag_124 : ∀ w, (isAgg 124).run Tryz.prog w = .ok false w := fun _ => by kernel_rfl
theorem ag_126 : ∀ w, (isAgg 126).run Tryz.prog w = .ok true w := fun _ => by kernel_rfl
theorem ag_145 : ∀ w, (isAgg 145).run Tryz.prog w = .ok false w := fun _ => by kernel_rfl
theorem ag_154 : ∀ w, (isAgg 154).run Tryz.prog w = .ok false w := fun _ => by kernel_rfl
theorem ag_22 : ∀ w, (isAgg 22).run Tryz.prog w = .ok false w := fun _ => by kernel_rfl
theorem ag_24 : ∀ w, (isAgg 24).run Tryz.prog w = .ok true w := fun _ => by kernel_rfl
theorem ag_3 : ∀ w, (isAgg 3).run Tryz.prog w = .ok false w := fun _ => by kernel_rfl
theorem ag_30 : ∀ w, (isAgg 30).run Tryz.prog w = .ok false w := fun _ => by kernel_rfl
theorem ag_31 : ∀ w, (isAgg 31).run Tryz.prog w = .ok false w := fun _ => by kernel_rfl
theorem ag_36 : ∀ w, (isAgg 36).run Tryz.prog w = .ok true w := fun _ => by kernel_rfl
theorem ag_38 : ∀ w, (isAgg 38).run Tryz.prog w = .ok true w := fun _ => by kernel_rfl
theorem ag_4 : ∀ w, (isAgg 4).run Tryz.prog w = .ok false w := fun _ => by kernel_rfl
theorem ag_43 : ∀ w, (isAgg 43).run Tryz.prog w = .ok false w := fun _ => by kernel_rfl
theorem ag_45 : ∀ w, (isAgg 45).run Tryz.prog w = .ok true w := fun _ => by kernel_rfl
theorem ag_5 : ∀ w, (isAgg 5).run Tryz.prog w = .ok false w := fun _ => by kernel_rfl
theorem ag_63 : ∀ w, (isAgg 63).run Tryz.prog w = .ok false w := fun _ => by kernel_rfl
theorem ag_65 : ∀ w, (isAgg 65).run Tryz.prog w = .ok true w := fun _ => by kernel_rfl
theorem ag_77 : ∀ w, (isAgg 77).run Tryz.prog w = .ok false w := fun _ => by kernel_rfl
theorem ag_9 : ∀ w, (isAgg 9).run Tryz.prog w = .ok false w := fun _ => by kernel_rfl
theorem bd_106_0_1 : ∀ (x1 : Int) (x2 : Int) (x3 : Int) (w : World), (Instr.build 106 #[(0, .int .i64 x1), (1, .agg #[.int .u8 x2, .int .i64 x3])]).run Tryz.prog w = .ok (.agg #[.int .i64 x1, .int .u8 x2, .int .i64 x3]) w := fun _ _ _ _ => by kernel_rfl
theorem bd_113 : ∀  (w : World), (Instr.build 113 #[]).run Tryz.prog w = .ok (.agg #[.slice none 0 0, .int .i64 0, .slice none 0 0]) w := fun  _ => by kernel_rfl
theorem bd_115_0_1 : ∀ (x1 : Int) (x2 : Int) (w : World), (Instr.build 115 #[(0, .int .i64 x1), (1, .int .i64 x2)]).run Tryz.prog w = .ok (.agg #[.int .i64 x1, .int .i64 x2]) w := fun _ _ _ => by kernel_rfl
theorem bd_126_0_1_2 : ∀ (x1 : Int) (x2 : Option Addr) (x3 x4 : Nat) (x5 : Fn) (x6 x7 : Array Value) (w : World), (Instr.build 126 #[(0, .int .i64 x1), (1, .slice x2 x3 x4), (2, .func x5 x6 x7)]).run Tryz.prog w = .ok (.agg #[.int .i64 x1, .slice x2 x3 x4, .func x5 x6 x7]) w := fun _ _ _ _ _ _ _ _ => by kernel_rfl
theorem bd_149_1 : ∀ (x1 : Option Addr) (x2 x3 : Nat) (w : World), (Instr.build 149 #[(1, .slice x1 x2 x3)]).run Tryz.prog w = .ok (.agg #[.pointer none, .slice none 0 0, .slice x1 x2 x3]) w := fun _ _ _ _ => by kernel_rfl
theorem bd_172_0 : ∀ (x1 : Option Nat) (w : World), (Instr.build 172 #[(0, .map x1)]).run Tryz.prog w = .ok (.agg #[.map x1, .slice none 0 0]) w := fun _ _ => by kernel_rfl
theorem bd_24 : ∀  (w : World), (Instr.build 24 #[]).run Tryz.prog w = .ok (.agg #[.slice none 0 0]) w := fun  _ => by kernel_rfl
theorem bd_24_0 : ∀ (x1 : Option Addr) (x2 x3 : Nat) (w : World), (Instr.build 24 #[(0, .slice x1 x2 x3)]).run Tryz.prog w = .ok (.agg #[.slice x1 x2 x3]) w := fun _ _ _ _ => by kernel_rfl
theorem bd_36 : ∀  (w : World), (Instr.build 36 #[]).run Tryz.prog w = .ok (.agg #[.int .u8 0, .int .i64 0]) w := fun  _ => by kernel_rfl
theorem bd_36_0 : ∀ (x1 : Int) (w : World), (Instr.build 36 #[(0, .int .u8 x1)]).run Tryz.prog w = .ok (.agg #[.int .u8 x1, .int .i64 0]) w := fun _ _ => by kernel_rfl
theorem bd_36_0_1 : ∀ (x1 : Int) (x2 : Int) (w : World), (Instr.build 36 #[(0, .int .u8 x1), (1, .int .i64 x2)]).run Tryz.prog w = .ok (.agg #[.int .u8 x1, .int .i64 x2]) w := fun _ _ _ => by kernel_rfl
theorem bd_38_0_1 : ∀ (x1 : Int) (x2 : Int) (x3 : Int) (w : World), (Instr.build 38 #[(0, .int .u8 x1), (1, .agg #[.int .u8 x2, .int .i64 x3])]).run Tryz.prog w = .ok (.agg #[.int .u8 x1, .int .u8 x2, .int .i64 x3, .int .u8 0, .int .i64 0, .int .u8 0, .int .i64 0, .int .i64 0]) w := fun _ _ _ _ => by kernel_rfl
theorem bd_38_0_1_2_3 : ∀ (x1 : Int) (x2 : Int) (x3 : Int) (x4 : Int) (x5 : Int) (x6 : Int) (x7 : Int) (w : World), (Instr.build 38 #[(0, .int .u8 x1), (1, .agg #[.int .u8 x2, .int .i64 x3]), (2, .agg #[.int .u8 x4, .int .i64 x5]), (3, .agg #[.int .u8 x6, .int .i64 x7])]).run Tryz.prog w = .ok (.agg #[.int .u8 x1, .int .u8 x2, .int .i64 x3, .int .u8 x4, .int .i64 x5, .int .u8 x6, .int .i64 x7, .int .i64 0]) w := fun _ _ _ _ _ _ _ _ => by kernel_rfl
theorem bd_38_0_1_2_4 : ∀ (x1 : Int) (x2 : Int) (x3 : Int) (x4 : Int) (x5 : Int) (x6 : Int) (w : World), (Instr.build 38 #[(0, .int .u8 x1), (1, .agg #[.int .u8 x2, .int .i64 x3]), (2, .agg #[.int .u8 x4, .int .i64 x5]), (4, .int .i64 x6)]).run Tryz.prog w = .ok (.agg #[.int .u8 x1, .int .u8 x2, .int .i64 x3, .int .u8 x4, .int .i64 x5, .int .u8 0, .int .i64 0, .int .i64 x6]) w := fun _ _ _ _ _ _ _ => by kernel_rfl
theorem bd_45 : ∀  (w : World), (Instr.build 45 #[]).run Tryz.prog w = .ok (.agg #[.slice none 0 0, .slice none 0 0]) w := fun  _ => by kernel_rfl
theorem bd_45_0 : ∀ (x1 : Option Addr) (x2 x3 : Nat) (w : World), (Instr.build 45 #[(0, .slice x1 x2 x3)]).run Tryz.prog w = .ok (.agg #[.slice x1 x2 x3, .slice none 0 0]) w := fun _ _ _ _ => by kernel_rfl
theorem bd_45_0_1 : ∀ (x1 : Option Addr) (x2 x3 : Nat) (x4 : Option Addr) (x5 x6 : Nat) (w : World), (Instr.build 45 #[(0, .slice x1 x2 x3), (1, .slice x4 x5 x6)]).run Tryz.prog w = .ok (.agg #[.slice x1 x2 x3, .slice x4 x5 x6]) w := fun _ _ _ _ _ _ _ => by kernel_rfl
theorem bd_65_0 : ∀ (x1 : Option Addr) (x2 x3 : Nat) (w : World), (Instr.build 65 #[(0, .slice x1 x2 x3)]).run Tryz.prog w = .ok (.agg #[.slice x1 x2 x3, .slice none 0 0]) w := fun _ _ _ _ => by kernel_rfl
theorem bd_65_0_1 : ∀ (x1 : Option Addr) (x2 x3 : Nat) (x4 : Option Addr) (x5 x6 : Nat) (w : World), (Instr.build 65 #[(0, .slice x1 x2 x3), (1, .slice x4 x5 x6)]).run Tryz.prog w = .ok (.agg #[.slice x1 x2 x3, .slice x4 x5 x6]) w := fun _ _ _ _ _ _ _ => by kernel_rfl
theorem cf_102 : ∀ args w, (callFunc 102 args).run Tryz.prog w = .ok (.enter 102 args) w := fun _ _ => by kernel_rfl
theorem cf_103 : ∀ args w, (callFunc 103 args).run Tryz.prog w = .ok (.enter 103 args) w := fun _ _ => by kernel_rfl
theorem cf_104 : ∀ args w, (callFunc 104 args).run Tryz.prog w = .ok (.enter 104 args) w := fun _ _ => by kernel_rfl
theorem cf_105 : ∀ args w, (callFunc 105 args).run Tryz.prog w = .ok (.enter 105 args) w := fun _ _ => by kernel_rfl
theorem cf_106 : ∀ args w, (callFunc 106 args).run Tryz.prog w = .ok (.enter 106 args) w := fun _ _ => by kernel_rfl
theorem cf_107 : ∀ args w, (callFunc 107 args).run Tryz.prog w = .ok (.enter 107 args) w := fun _ _ => by kernel_rfl
theorem cf_108 : ∀ args w, (callFunc 108 args).run Tryz.prog w = .ok (.enter 108 args) w := fun _ _ => by kernel_rfl
theorem cf_110 : ∀ args w, (callFunc 110 args).run Tryz.prog w = .ok (.enter 110 args) w := fun _ _ => by kernel_rfl
theorem cf_111 : ∀ args w, (callFunc 111 args).run Tryz.prog w = .ok (.enter 111 args) w := fun _ _ => by kernel_rfl
theorem cf_112 : ∀ args w, (callFunc 112 args).run Tryz.prog w = .ok (.enter 112 args) w := fun _ _ => by kernel_rfl
theorem cf_113 : ∀ args w, (callFunc 113 args).run Tryz.prog w = .ok (.enter 113 args) w := fun _ _ => by kernel_rfl
theorem cf_114 : ∀ args w, (callFunc 114 args).run Tryz.prog w = .ok (.enter 114 args) w := fun _ _ => by kernel_rfl
theorem cf_115 : ∀ args w, (callFunc 115 args).run Tryz.prog w = .ok (.enter 115 args) w := fun _ _ => by kernel_rfl
theorem cf_116 : ∀ args w, (callFunc 116 args).run Tryz.prog w = .ok (.enter 116 args) w := fun _ _ => by kernel_rfl
theorem cf_117 : ∀ args w, (callFunc 117 args).run Tryz.prog w = .ok (.enter 117 args) w := fun _ _ => by kernel_rfl
theorem cf_118 : ∀ args w, (callFunc 118 args).run Tryz.prog w = .ok (.enter 118 args) w := fun _ _ => by kernel_rfl
theorem cf_119 : ∀ args w, (callFunc 119 args).run Tryz.prog w = .ok (.enter 119 args) w := fun _ _ => by kernel_rfl
theorem cf_120 : ∀ args w, (callFunc 120 args).run Tryz.prog w = .ok (.enter 120 args) w := fun _ _ => by kernel_rfl
theorem cf_122 : ∀ args w, (callFunc 122 args).run Tryz.prog w = .ok (.enter 122 args) w := fun _ _ => by kernel_rfl
theorem cf_123 : ∀ args w, (callFunc 123 args).run Tryz.prog w = .ok (.enter 123 args) w := fun _ _ => by kernel_rfl
theorem cf_124 : ∀ args w, (callFunc 124 args).run Tryz.prog w = .ok (.enter 124 args) w := fun _ _ => by kernel_rfl
theorem cf_125 : ∀ args w, (callFunc 125 args).run Tryz.prog w = .ok (.enter 125 args) w := fun _ _ => by kernel_rfl
theorem cf_126 : ∀ args w, (callFunc 126 args).run Tryz.prog w = .ok (.enter 126 args) w := fun _ _ => by kernel_rfl
theorem cf_127 : ∀ args w, (callFunc 127 args).run Tryz.prog w = .ok (.enter 127 args) w := fun _ _ => by kernel_rfl
theorem cf_128 : ∀ args w, (callFunc 128 args).run Tryz.prog w = .ok (.enter 128 args) w := fun _ _ => by kernel_rfl
theorem cf_129 : ∀ args w, (callFunc 129 args).run Tryz.prog w = .ok (.enter 129 args) w := fun _ _ => by kernel_rfl
theorem cf_130 : ∀ args w, (callFunc 130 args).run Tryz.prog w = .ok (.enter 130 args) w := fun _ _ => by kernel_rfl
theorem cf_131 : ∀ args w, (callFunc 131 args).run Tryz.prog w = .ok (.enter 131 args) w := fun _ _ => by kernel_rfl
theorem cf_132 : ∀ args w, (callFunc 132 args).run Tryz.prog w = .ok (.enter 132 args) w := fun _ _ => by kernel_rfl
theorem cf_133 : ∀ args w, (callFunc 133 args).run Tryz.prog w = .ok (.enter 133 args) w := fun _ _ => by kernel_rfl
theorem cf_134 : ∀ args w, (callFunc 134 args).run Tryz.prog w = .ok (.enter 134 args) w := fun _ _ => by kernel_rfl
theorem cf_135 : ∀ args w, (callFunc 135 args).run Tryz.prog w = .ok (.enter 135 args) w := fun _ _ => by kernel_rfl
theorem cf_136 : ∀ args w, (callFunc 136 args).run Tryz.prog w = .ok (.enter 136 args) w := fun _ _ => by kernel_rfl
theorem cf_137 : ∀ args w, (callFunc 137 args).run Tryz.prog w = .ok (.enter 137 args) w := fun _ _ => by kernel_rfl
theorem cf_138 : ∀ args w, (callFunc 138 args).run Tryz.prog w = .ok (.enter 138 args) w := fun _ _ => by kernel_rfl
theorem cf_139 : ∀ args w, (callFunc 139 args).run Tryz.prog w = .ok (.enter 139 args) w := fun _ _ => by kernel_rfl
theorem cf_140 : ∀ args w, (callFunc 140 args).run Tryz.prog w = .ok (.enter 140 args) w := fun _ _ => by kernel_rfl
theorem cf_141 : ∀ args w, (callFunc 141 args).run Tryz.prog w = .ok (.enter 141 args) w := fun _ _ => by kernel_rfl
theorem cf_143 : ∀ args w, (callFunc 143 args).run Tryz.prog w = .ok (.enter 143 args) w := fun _ _ => by kernel_rfl
theorem cf_144 : ∀ args w, (callFunc 144 args).run Tryz.prog w = .ok (.enter 144 args) w := fun _ _ => by kernel_rfl
theorem cf_145 : ∀ args w, (callFunc 145 args).run Tryz.prog w = .ok (.enter 145 args) w := fun _ _ => by kernel_rfl
theorem cf_147 : ∀ args w, (callFunc 147 args).run Tryz.prog w = .ok (.enter 147 args) w := fun _ _ => by kernel_rfl
theorem cf_148 : ∀ args w, (callFunc 148 args).run Tryz.prog w = .ok (.enter 148 args) w := fun _ _ => by kernel_rfl
theorem cf_149 : ∀ args w, (callFunc 149 args).run Tryz.prog w = .ok (.enter 149 args) w := fun _ _ => by kernel_rfl
theorem cf_150 : ∀ args w, (callFunc 150 args).run Tryz.prog w = .ok (.enter 150 args) w := fun _ _ => by kernel_rfl
theorem cf_151 : ∀ args w, (callFunc 151 args).run Tryz.prog w = .ok (.enter 151 args) w := fun _ _ => by kernel_rfl
theorem cf_152 : ∀ args w, (callFunc 152 args).run Tryz.prog w = .ok (.enter 152 args) w := fun _ _ => by kernel_rfl
theorem cf_153 : ∀ args w, (callFunc 153 args).run Tryz.prog w = .ok (.enter 153 args) w := fun _ _ => by kernel_rfl
theorem cf_154 : ∀ args w, (callFunc 154 args).run Tryz.prog w = .ok (.enter 154 args) w := fun _ _ => by kernel_rfl
theorem cf_155 : ∀ args w, (callFunc 155 args).run Tryz.prog w = .ok (.enter 155 args) w := fun _ _ => by kernel_rfl
theorem cf_156 : ∀ args w, (callFunc 156 args).run Tryz.prog w = .ok (.enter 156 args) w := fun _ _ => by kernel_rfl
theorem cf_157 : ∀ args w, (callFunc 157 args).run Tryz.prog w = .ok (.enter 157 args) w := fun _ _ => by kernel_rfl
theorem cf_159 : ∀ args w, (callFunc 159 args).run Tryz.prog w = .ok (.enter 159 args) w := fun _ _ => by kernel_rfl
theorem cf_160 : ∀ args w, (callFunc 160 args).run Tryz.prog w = .ok (.enter 160 args) w := fun _ _ => by kernel_rfl
theorem cf_163 : ∀ args w, (callFunc 163 args).run Tryz.prog w = .ok (.enter 163 args) w := fun _ _ => by kernel_rfl
theorem cf_165 : ∀ args w, (callFunc 165 args).run Tryz.prog w = .ok (.enter 165 args) w := fun _ _ => by kernel_rfl
theorem cf_19 : ∀ args w, (callFunc 19 args).run Tryz.prog w = .ok (.enter 19 args) w := fun _ _ => by kernel_rfl
theorem cf_20 : ∀ args w, (callFunc 20 args).run Tryz.prog w = .ok (.enter 20 args) w := fun _ _ => by kernel_rfl
theorem cf_22 : ∀ args w, (callFunc 22 args).run Tryz.prog w = .ok (.enter 22 args) w := fun _ _ => by kernel_rfl
theorem cf_24 : ∀ args w, (callFunc 24 args).run Tryz.prog w = .ok (.enter 24 args) w := fun _ _ => by kernel_rfl
theorem cf_25 : ∀ args w, (callFunc 25 args).run Tryz.prog w = .ok (.enter 25 args) w := fun _ _ => by kernel_rfl
theorem cf_26 : ∀ args w, (callFunc 26 args).run Tryz.prog w = .ok (.enter 26 args) w := fun _ _ => by kernel_rfl
theorem cf_28 : ∀ args w, (callFunc 28 args).run Tryz.prog w = .ok (.enter 28 args) w := fun _ _ => by kernel_rfl
theorem cf_29 : ∀ args w, (callFunc 29 args).run Tryz.prog w = .ok (.enter 29 args) w := fun _ _ => by kernel_rfl
theorem cf_30 : ∀ args w, (callFunc 30 args).run Tryz.prog w = .ok (.enter 30 args) w := fun _ _ => by kernel_rfl
theorem cf_32 : ∀ args w, (callFunc 32 args).run Tryz.prog w = .ok (.enter 32 args) w := fun _ _ => by kernel_rfl
theorem cf_33 : ∀ args w, (callFunc 33 args).run Tryz.prog w = .ok (.enter 33 args) w := fun _ _ => by kernel_rfl
theorem cf_36 : ∀ args w, (callFunc 36 args).run Tryz.prog w = .ok (.enter 36 args) w := fun _ _ => by kernel_rfl
theorem cf_41 : ∀ args w, (callFunc 41 args).run Tryz.prog w = .ok (.enter 41 args) w := fun _ _ => by kernel_rfl
theorem cf_43 : ∀ args w, (callFunc 43 args).run Tryz.prog w = .ok (.enter 43 args) w := fun _ _ => by kernel_rfl
theorem cf_49 : ∀ args w, (callFunc 49 args).run Tryz.prog w = .ok (.enter 49 args) w := fun _ _ => by kernel_rfl
theorem cf_51 : ∀ args w, (callFunc 51 args).run Tryz.prog w = .ok (.enter 51 args) w := fun _ _ => by kernel_rfl
theorem cf_61 : ∀ args w, (callFunc 61 args).run Tryz.prog w = .ok (.enter 61 args) w := fun _ _ => by kernel_rfl
theorem cf_63 : ∀ args w, (callFunc 63 args).run Tryz.prog w = .ok (.enter 63 args) w := fun _ _ => by kernel_rfl
theorem cf_66 : ∀ args w, (callFunc 66 args).run Tryz.prog w = .ok (.enter 66 args) w := fun _ _ => by kernel_rfl
theorem cf_67 : ∀ args w, (callFunc 67 args).run Tryz.prog w = .ok (.enter 67 args) w := fun _ _ => by kernel_rfl
theorem cf_68 : ∀ args w, (callFunc 68 args).run Tryz.prog w = .ok (.enter 68 args) w := fun _ _ => by kernel_rfl
theorem cf_69 : ∀ args w, (callFunc 69 args).run Tryz.prog w = .ok (.enter 69 args) w := fun _ _ => by kernel_rfl
theorem cf_70 : ∀ args w, (callFunc 70 args).run Tryz.prog w = .ok (.enter 70 args) w := fun _ _ => by kernel_rfl
theorem cf_71 : ∀ args w, (callFunc 71 args).run Tryz.prog w = .ok (.enter 71 args) w := fun _ _ => by kernel_rfl
theorem cf_72 : ∀ args w, (callFunc 72 args).run Tryz.prog w = .ok (.enter 72 args) w := fun _ _ => by kernel_rfl
theorem cf_73 : ∀ args w, (callFunc 73 args).run Tryz.prog w = .ok (.enter 73 args) w := fun _ _ => by kernel_rfl
theorem cf_74 : ∀ args w, (callFunc 74 args).run Tryz.prog w = .ok (.enter 74 args) w := fun _ _ => by kernel_rfl
theorem cf_75 : ∀ args w, (callFunc 75 args).run Tryz.prog w = .ok (.enter 75 args) w := fun _ _ => by kernel_rfl
theorem cf_76 : ∀ args w, (callFunc 76 args).run Tryz.prog w = .ok (.enter 76 args) w := fun _ _ => by kernel_rfl
theorem cf_79 : ∀ args w, (callFunc 79 args).run Tryz.prog w = .ok (.enter 79 args) w := fun _ _ => by kernel_rfl
theorem cf_80 : ∀ args w, (callFunc 80 args).run Tryz.prog w = .ok (.enter 80 args) w := fun _ _ => by kernel_rfl
theorem cf_82 : ∀ args w, (callFunc 82 args).run Tryz.prog w = .ok (.enter 82 args) w := fun _ _ => by kernel_rfl
theorem cf_83 : ∀ args w, (callFunc 83 args).run Tryz.prog w = .ok (.enter 83 args) w := fun _ _ => by kernel_rfl
theorem cf_84 : ∀ args w, (callFunc 84 args).run Tryz.prog w = .ok (.enter 84 args) w := fun _ _ => by kernel_rfl
theorem cf_94 : ∀ args w, (callFunc 94 args).run Tryz.prog w = .ok (.enter 94 args) w := fun _ _ => by kernel_rfl
theorem cf_95 : ∀ args w, (callFunc 95 args).run Tryz.prog w = .ok (.enter 95 args) w := fun _ _ => by kernel_rfl
theorem cf_96 : ∀ args w, (callFunc 96 args).run Tryz.prog w = .ok (.enter 96 args) w := fun _ _ => by kernel_rfl
theorem cf_97 : ∀ args w, (callFunc 97 args).run Tryz.prog w = .ok (.enter 97 args) w := fun _ _ => by kernel_rfl
theorem cf_99 : ∀ args w, (callFunc 99 args).run Tryz.prog w = .ok (.enter 99 args) w := fun _ _ => by kernel_rfl
theorem eql_36 : ∀ (x1 : Int) (x2 : Int) (x3 : Int) (x4 : Int) (w : World), (binOp .eql 36 (.agg #[.int .u8 x1, .int .i64 x2]) (.agg #[.int .u8 x3, .int .i64 x4])).run Tryz.prog w = .ok (.bool (decide (x1 = x3 ∧ x2 = x4))) w := by
  intros; simp [go_sem, Tryz.underlying3, Tryz.underlying5, Tryz.underlying36]; (repeat' split) <;> simp_all
theorem geql_36 : ∀ (x1 : Int) (x2 : Int) (x3 : Int) (x4 : Int) (x y : Operand) (w : World), (eqGuard .eql 36 x y (.agg #[.int .u8 x1, .int .i64 x2]) (.agg #[.int .u8 x3, .int .i64 x4])).run Tryz.prog w = .ok () w := by
  intros; exact run_eqGuard_agg _ _ _ _ _ _ _ (by kernel_rfl)
theorem fa_113_0 : ∀ b o w, (Instr.fieldAt 113 (.pointer (some ⟨b, o, none⟩)) 0).run Tryz.prog w = .ok (.pointer (some ⟨b, o + 0, none⟩)) w := fun b o w => by simp [Instr.fieldAt, run_underlying (show Tryz.prog.underlying 113 = some _ from Tryz.underlying113), Instr.sureAddr, fieldPlace, sz_22, addr_add]
theorem fa_113_1 : ∀ b o w, (Instr.fieldAt 113 (.pointer (some ⟨b, o, none⟩)) 1).run Tryz.prog w = .ok (.pointer (some ⟨b, o + 1, none⟩)) w := fun b o w => by simp [Instr.fieldAt, run_underlying (show Tryz.prog.underlying 113 = some _ from Tryz.underlying113), Instr.sureAddr, fieldPlace, sz_3, addr_add]
theorem fa_113_2 : ∀ b o w, (Instr.fieldAt 113 (.pointer (some ⟨b, o, none⟩)) 2).run Tryz.prog w = .ok (.pointer (some ⟨b, o + 2, none⟩)) w := fun b o w => by simp [Instr.fieldAt, run_underlying (show Tryz.prog.underlying 113 = some _ from Tryz.underlying113), Instr.sureAddr, fieldPlace, sz_31, addr_add]
theorem fa_115_0 : ∀ b o w, (Instr.fieldAt 115 (.pointer (some ⟨b, o, none⟩)) 0).run Tryz.prog w = .ok (.pointer (some ⟨b, o + 0, none⟩)) w := fun b o w => by simp [Instr.fieldAt, run_underlying (show Tryz.prog.underlying 115 = some _ from Tryz.underlying115), Instr.sureAddr, fieldPlace, sz_3, addr_add]
theorem fa_115_1 : ∀ b o w, (Instr.fieldAt 115 (.pointer (some ⟨b, o, none⟩)) 1).run Tryz.prog w = .ok (.pointer (some ⟨b, o + 1, none⟩)) w := fun b o w => by simp [Instr.fieldAt, run_underlying (show Tryz.prog.underlying 115 = some _ from Tryz.underlying115), Instr.sureAddr, fieldPlace, sz_3, addr_add]
theorem fa_126_0 : ∀ b o w, (Instr.fieldAt 126 (.pointer (some ⟨b, o, none⟩)) 0).run Tryz.prog w = .ok (.pointer (some ⟨b, o + 0, none⟩)) w := fun b o w => by simp [Instr.fieldAt, run_underlying (show Tryz.prog.underlying 126 = some _ from Tryz.underlying126), Instr.sureAddr, fieldPlace, sz_3, addr_add]
theorem fa_126_1 : ∀ b o w, (Instr.fieldAt 126 (.pointer (some ⟨b, o, none⟩)) 1).run Tryz.prog w = .ok (.pointer (some ⟨b, o + 1, none⟩)) w := fun b o w => by simp [Instr.fieldAt, run_underlying (show Tryz.prog.underlying 126 = some _ from Tryz.underlying126), Instr.sureAddr, fieldPlace, sz_123, addr_add]
theorem fa_126_2 : ∀ b o w, (Instr.fieldAt 126 (.pointer (some ⟨b, o, none⟩)) 2).run Tryz.prog w = .ok (.pointer (some ⟨b, o + 2, none⟩)) w := fun b o w => by simp [Instr.fieldAt, run_underlying (show Tryz.prog.underlying 126 = some _ from Tryz.underlying126), Instr.sureAddr, fieldPlace, sz_124, addr_add]
theorem fa_147_0 : ∀ b o w, (Instr.fieldAt 147 (.pointer (some ⟨b, o, none⟩)) 0).run Tryz.prog w = .ok (.pointer (some ⟨b, o + 0, none⟩)) w := fun b o w => by simp [Instr.fieldAt, run_underlying (show Tryz.prog.underlying 147 = some _ from Tryz.underlying147), Instr.sureAddr, fieldPlace, sz_145, addr_add]
theorem fa_147_1 : ∀ b o w, (Instr.fieldAt 147 (.pointer (some ⟨b, o, none⟩)) 1).run Tryz.prog w = .ok (.pointer (some ⟨b, o + 1, none⟩)) w := fun b o w => by simp [Instr.fieldAt, run_underlying (show Tryz.prog.underlying 147 = some _ from Tryz.underlying147), Instr.sureAddr, fieldPlace, sz_123, addr_add]
theorem fa_149_0 : ∀ b o w, (Instr.fieldAt 149 (.pointer (some ⟨b, o, none⟩)) 0).run Tryz.prog w = .ok (.pointer (some ⟨b, o + 0, none⟩)) w := fun b o w => by simp [Instr.fieldAt, run_underlying (show Tryz.prog.underlying 149 = some _ from Tryz.underlying149), Instr.sureAddr, fieldPlace, sz_147, addr_add]
theorem fa_149_1 : ∀ b o w, (Instr.fieldAt 149 (.pointer (some ⟨b, o, none⟩)) 1).run Tryz.prog w = .ok (.pointer (some ⟨b, o + 2, none⟩)) w := fun b o w => by simp [Instr.fieldAt, run_underlying (show Tryz.prog.underlying 149 = some _ from Tryz.underlying149), Instr.sureAddr, fieldPlace, sz_43, addr_add]
theorem fa_172_0 : ∀ b o w, (Instr.fieldAt 172 (.pointer (some ⟨b, o, none⟩)) 0).run Tryz.prog w = .ok (.pointer (some ⟨b, o + 0, none⟩)) w := fun b o w => by simp [Instr.fieldAt, run_underlying (show Tryz.prog.underlying 172 = some _ from Tryz.underlying172), Instr.sureAddr, fieldPlace, sz_154, addr_add]
theorem fa_172_1 : ∀ b o w, (Instr.fieldAt 172 (.pointer (some ⟨b, o, none⟩)) 1).run Tryz.prog w = .ok (.pointer (some ⟨b, o + 1, none⟩)) w := fun b o w => by simp [Instr.fieldAt, run_underlying (show Tryz.prog.underlying 172 = some _ from Tryz.underlying172), Instr.sureAddr, fieldPlace, sz_77, addr_add]
theorem fa_24_0 : ∀ b o w, (Instr.fieldAt 24 (.pointer (some ⟨b, o, none⟩)) 0).run Tryz.prog w = .ok (.pointer (some ⟨b, o + 0, none⟩)) w := fun b o w => by simp [Instr.fieldAt, run_underlying (show Tryz.prog.underlying 24 = some _ from Tryz.underlying24), Instr.sureAddr, fieldPlace, sz_22, addr_add]
theorem fa_36_0 : ∀ b o w, (Instr.fieldAt 36 (.pointer (some ⟨b, o, none⟩)) 0).run Tryz.prog w = .ok (.pointer (some ⟨b, o + 0, none⟩)) w := fun b o w => by simp [Instr.fieldAt, run_underlying (show Tryz.prog.underlying 36 = some _ from Tryz.underlying36), Instr.sureAddr, fieldPlace, sz_5, addr_add]
theorem fa_36_1 : ∀ b o w, (Instr.fieldAt 36 (.pointer (some ⟨b, o, none⟩)) 1).run Tryz.prog w = .ok (.pointer (some ⟨b, o + 1, none⟩)) w := fun b o w => by simp [Instr.fieldAt, run_underlying (show Tryz.prog.underlying 36 = some _ from Tryz.underlying36), Instr.sureAddr, fieldPlace, sz_3, addr_add]
theorem fa_38_0 : ∀ b o w, (Instr.fieldAt 38 (.pointer (some ⟨b, o, none⟩)) 0).run Tryz.prog w = .ok (.pointer (some ⟨b, o + 0, none⟩)) w := fun b o w => by simp [Instr.fieldAt, run_underlying (show Tryz.prog.underlying 38 = some _ from Tryz.underlying38), Instr.sureAddr, fieldPlace, sz_5, addr_add]
theorem fa_38_1 : ∀ b o w, (Instr.fieldAt 38 (.pointer (some ⟨b, o, none⟩)) 1).run Tryz.prog w = .ok (.pointer (some ⟨b, o + 1, none⟩)) w := fun b o w => by simp [Instr.fieldAt, run_underlying (show Tryz.prog.underlying 38 = some _ from Tryz.underlying38), Instr.sureAddr, fieldPlace, sz_36, addr_add]
theorem fa_38_2 : ∀ b o w, (Instr.fieldAt 38 (.pointer (some ⟨b, o, none⟩)) 2).run Tryz.prog w = .ok (.pointer (some ⟨b, o + 3, none⟩)) w := fun b o w => by simp [Instr.fieldAt, run_underlying (show Tryz.prog.underlying 38 = some _ from Tryz.underlying38), Instr.sureAddr, fieldPlace, sz_36, addr_add]
theorem fa_38_3 : ∀ b o w, (Instr.fieldAt 38 (.pointer (some ⟨b, o, none⟩)) 3).run Tryz.prog w = .ok (.pointer (some ⟨b, o + 5, none⟩)) w := fun b o w => by simp [Instr.fieldAt, run_underlying (show Tryz.prog.underlying 38 = some _ from Tryz.underlying38), Instr.sureAddr, fieldPlace, sz_36, addr_add]
theorem fa_38_4 : ∀ b o w, (Instr.fieldAt 38 (.pointer (some ⟨b, o, none⟩)) 4).run Tryz.prog w = .ok (.pointer (some ⟨b, o + 7, none⟩)) w := fun b o w => by simp [Instr.fieldAt, run_underlying (show Tryz.prog.underlying 38 = some _ from Tryz.underlying38), Instr.sureAddr, fieldPlace, sz_3, addr_add]
theorem fa_45_0 : ∀ b o w, (Instr.fieldAt 45 (.pointer (some ⟨b, o, none⟩)) 0).run Tryz.prog w = .ok (.pointer (some ⟨b, o + 0, none⟩)) w := fun b o w => by simp [Instr.fieldAt, run_underlying (show Tryz.prog.underlying 45 = some _ from Tryz.underlying45), Instr.sureAddr, fieldPlace, sz_30, addr_add]
theorem fa_45_1 : ∀ b o w, (Instr.fieldAt 45 (.pointer (some ⟨b, o, none⟩)) 1).run Tryz.prog w = .ok (.pointer (some ⟨b, o + 1, none⟩)) w := fun b o w => by simp [Instr.fieldAt, run_underlying (show Tryz.prog.underlying 45 = some _ from Tryz.underlying45), Instr.sureAddr, fieldPlace, sz_43, addr_add]
theorem fa_65_0 : ∀ b o w, (Instr.fieldAt 65 (.pointer (some ⟨b, o, none⟩)) 0).run Tryz.prog w = .ok (.pointer (some ⟨b, o + 0, none⟩)) w := fun b o w => by simp [Instr.fieldAt, run_underlying (show Tryz.prog.underlying 65 = some _ from Tryz.underlying65), Instr.sureAddr, fieldPlace, sz_30, addr_add]
theorem fa_65_1 : ∀ b o w, (Instr.fieldAt 65 (.pointer (some ⟨b, o, none⟩)) 1).run Tryz.prog w = .ok (.pointer (some ⟨b, o + 1, none⟩)) w := fun b o w => by simp [Instr.fieldAt, run_underlying (show Tryz.prog.underlying 65 = some _ from Tryz.underlying65), Instr.sureAddr, fieldPlace, sz_63, addr_add]
theorem mv_128 : MapVT Tryz.prog 128 9 126 kS (.agg #[.int .i64 0, .slice none 0 0, .nilFunc]) := ⟨Tryz.underlying128, fun _ => by kernel_rfl, ⟨_, Tryz.underlying9, kS_key⟩, fun e k w => by cases e <;> kernel_rfl⟩
theorem mv_154 : MapVT Tryz.prog 154 3 3 kI (.int .i64 0) := ⟨Tryz.underlying154, fun _ => by kernel_rfl, ⟨_, Tryz.underlying3, kI_key _⟩, fun e k w => by cases e <;> kernel_rfl⟩
theorem neq_106 : ∀ (x1 : Int) (x2 : Int) (x3 : Int) (x4 : Int) (x5 : Int) (x6 : Int) (w : World), (binOp .neq 106 (.agg #[.int .i64 x1, .int .u8 x2, .int .i64 x3]) (.agg #[.int .i64 x4, .int .u8 x5, .int .i64 x6])).run Tryz.prog w = .ok (.bool (decide (¬ (x1 = x4 ∧ x2 = x5 ∧ x3 = x6)))) w := by
  intros; simp [go_sem, Tryz.underlying3, Tryz.underlying5, Tryz.underlying36, Tryz.underlying106]; (repeat' split) <;> simp_all
theorem gneq_106 : ∀ (x1 : Int) (x2 : Int) (x3 : Int) (x4 : Int) (x5 : Int) (x6 : Int) (x y : Operand) (w : World), (eqGuard .neq 106 x y (.agg #[.int .i64 x1, .int .u8 x2, .int .i64 x3]) (.agg #[.int .i64 x4, .int .u8 x5, .int .i64 x6])).run Tryz.prog w = .ok () w := by
  intros; exact run_eqGuard_agg _ _ _ _ _ _ _ (by kernel_rfl)
theorem neq_115 : ∀ (x1 : Int) (x2 : Int) (x3 : Int) (x4 : Int) (w : World), (binOp .neq 115 (.agg #[.int .i64 x1, .int .i64 x2]) (.agg #[.int .i64 x3, .int .i64 x4])).run Tryz.prog w = .ok (.bool (decide (¬ (x1 = x3 ∧ x2 = x4)))) w := by
  intros; simp [go_sem, Tryz.underlying3, Tryz.underlying115]; (repeat' split) <;> simp_all
theorem gneq_115 : ∀ (x1 : Int) (x2 : Int) (x3 : Int) (x4 : Int) (x y : Operand) (w : World), (eqGuard .neq 115 x y (.agg #[.int .i64 x1, .int .i64 x2]) (.agg #[.int .i64 x3, .int .i64 x4])).run Tryz.prog w = .ok () w := by
  intros; exact run_eqGuard_agg _ _ _ _ _ _ _ (by kernel_rfl)
theorem neq_36 : ∀ (x1 : Int) (x2 : Int) (x3 : Int) (x4 : Int) (w : World), (binOp .neq 36 (.agg #[.int .u8 x1, .int .i64 x2]) (.agg #[.int .u8 x3, .int .i64 x4])).run Tryz.prog w = .ok (.bool (decide (¬ (x1 = x3 ∧ x2 = x4)))) w := by
  intros; simp [go_sem, Tryz.underlying3, Tryz.underlying5, Tryz.underlying36]; (repeat' split) <;> simp_all
theorem gneq_36 : ∀ (x1 : Int) (x2 : Int) (x3 : Int) (x4 : Int) (x y : Operand) (w : World), (eqGuard .neq 36 x y (.agg #[.int .u8 x1, .int .i64 x2]) (.agg #[.int .u8 x3, .int .i64 x4])).run Tryz.prog w = .ok () w := by
  intros; exact run_eqGuard_agg _ _ _ _ _ _ _ (by kernel_rfl)
theorem ti_106 : TI Tryz.prog 106 [.int .i64 0, .int .u8 0, .int .i64 0] 3 24 := TI.of (u := .agg #[.int .i64 0, .int .u8 0, .int .i64 0]) (by kernel_rfl) rfl
theorem ti_115 : TI Tryz.prog 115 [.int .i64 0, .int .i64 0] 2 16 := TI.of (u := .agg #[.int .i64 0, .int .i64 0]) (by kernel_rfl) rfl
theorem ti_147 : TI Tryz.prog 147 [.pointer none, .slice none 0 0] 2 32 := TI.of (u := .agg #[.pointer none, .slice none 0 0]) (by kernel_rfl) rfl
theorem ti_3 : TI Tryz.prog 3 [.int .i64 0] 1 8 := TI.of (u := .int .i64 0) (by kernel_rfl) rfl
theorem ti_30 : TI Tryz.prog 30 [.slice none 0 0] 1 24 := TI.of (u := .slice none 0 0) (by kernel_rfl) rfl
theorem ti_36 : TI Tryz.prog 36 [.int .u8 0, .int .i64 0] 2 16 := TI.of (u := .agg #[.int .u8 0, .int .i64 0]) (by kernel_rfl) rfl
theorem ti_5 : TI Tryz.prog 5 [.int .u8 0] 1 1 := TI.of (u := .int .u8 0) (by kernel_rfl) rfl
theorem ti_65 : TI Tryz.prog 65 [.slice none 0 0, .slice none 0 0] 2 48 := TI.of (u := .agg #[.slice none 0 0, .slice none 0 0]) (by kernel_rfl) rfl
theorem ze_106 : ∀ w, ∃ u : Value, u.cells = ([.int .i64 0, .int .u8 0, .int .i64 0] : List Value).toArray ∧ (zeroValue 106).run Tryz.prog w = .ok u w := fun _ => ⟨.agg #[.int .i64 0, .int .u8 0, .int .i64 0], rfl, by kernel_rfl⟩
theorem ze_108 : ∀ w, ∃ u : Value, u.cells = ([.pointer none] : List Value).toArray ∧ (zeroValue 108).run Tryz.prog w = .ok u w := fun _ => ⟨.pointer none, rfl, by kernel_rfl⟩
theorem ze_115 : ∀ w, ∃ u : Value, u.cells = ([.int .i64 0, .int .i64 0] : List Value).toArray ∧ (zeroValue 115).run Tryz.prog w = .ok u w := fun _ => ⟨.agg #[.int .i64 0, .int .i64 0], rfl, by kernel_rfl⟩
theorem ze_126 : ∀ w, ∃ u : Value, u.cells = ([.int .i64 0, .slice none 0 0, .nilFunc] : List Value).toArray ∧ (zeroValue 126).run Tryz.prog w = .ok u w := fun _ => ⟨.agg #[.int .i64 0, .slice none 0 0, .nilFunc], rfl, by kernel_rfl⟩
theorem ze_24 : ∀ w, ∃ u : Value, u.cells = ([.slice none 0 0] : List Value).toArray ∧ (zeroValue 24).run Tryz.prog w = .ok u w := fun _ => ⟨.agg #[.slice none 0 0], rfl, by kernel_rfl⟩
theorem ze_3 : ∀ w, ∃ u : Value, u.cells = ([.int .i64 0] : List Value).toArray ∧ (zeroValue 3).run Tryz.prog w = .ok u w := fun _ => ⟨.int .i64 0, rfl, by kernel_rfl⟩
theorem ze_30 : ∀ w, ∃ u : Value, u.cells = ([.slice none 0 0] : List Value).toArray ∧ (zeroValue 30).run Tryz.prog w = .ok u w := fun _ => ⟨.slice none 0 0, rfl, by kernel_rfl⟩
theorem ze_36 : ∀ w, ∃ u : Value, u.cells = ([.int .u8 0, .int .i64 0] : List Value).toArray ∧ (zeroValue 36).run Tryz.prog w = .ok u w := fun _ => ⟨.agg #[.int .u8 0, .int .i64 0], rfl, by kernel_rfl⟩
theorem ze_38 : ∀ w, ∃ u : Value, u.cells = ([.int .u8 0, .int .u8 0, .int .i64 0, .int .u8 0, .int .i64 0, .int .u8 0, .int .i64 0, .int .i64 0] : List Value).toArray ∧ (zeroValue 38).run Tryz.prog w = .ok u w := fun _ => ⟨.agg #[.int .u8 0, .int .u8 0, .int .i64 0, .int .u8 0, .int .i64 0, .int .u8 0, .int .i64 0, .int .i64 0], rfl, by kernel_rfl⟩
theorem ze_4 : ∀ w, ∃ u : Value, u.cells = ([.bool false] : List Value).toArray ∧ (zeroValue 4).run Tryz.prog w = .ok u w := fun _ => ⟨.bool false, rfl, by kernel_rfl⟩
theorem ze_45 : ∀ w, ∃ u : Value, u.cells = ([.slice none 0 0, .slice none 0 0] : List Value).toArray ∧ (zeroValue 45).run Tryz.prog w = .ok u w := fun _ => ⟨.agg #[.slice none 0 0, .slice none 0 0], rfl, by kernel_rfl⟩
theorem ze_5 : ∀ w, ∃ u : Value, u.cells = ([.int .u8 0] : List Value).toArray ∧ (zeroValue 5).run Tryz.prog w = .ok u w := fun _ => ⟨.int .u8 0, rfl, by kernel_rfl⟩
theorem ze_65 : ∀ w, ∃ u : Value, u.cells = ([.slice none 0 0, .slice none 0 0] : List Value).toArray ∧ (zeroValue 65).run Tryz.prog w = .ok u w := fun _ => ⟨.agg #[.slice none 0 0, .slice none 0 0], rfl, by kernel_rfl⟩
theorem ze_77 : ∀ w, ∃ u : Value, u.cells = ([.slice none 0 0] : List Value).toArray ∧ (zeroValue 77).run Tryz.prog w = .ok u w := fun _ => ⟨.slice none 0 0, rfl, by kernel_rfl⟩
end Go.Proofs.YtnhgfmbmfjmonaaGreatDoor
