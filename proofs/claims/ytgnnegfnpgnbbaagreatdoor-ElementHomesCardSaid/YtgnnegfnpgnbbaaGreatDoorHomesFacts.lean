/- What single operations of the code do. -/
import Derived.Test.YtgnnegfnpgnbbaaGreatDoorRows
import Derived.Test.YtgnnegfnpgnbbaaGreatDoorHomesMapL
import Derived.ChangeKeysEq
set_option maxRecDepth 100000
set_option linter.unusedVariables false
set_option linter.unusedSimpArgs false
namespace Go.Proofs.YtgnnegfnpgnbbaaGreatDoor
open Go Go.RowKit Go.Mix Go.Eng
theorem sz_104 : ∀ w, (sizeOf 104).run Tryz.prog w = .ok 1 w := fun _ => by kernel_rfl
theorem sz_128 : ∀ w, (sizeOf 128).run Tryz.prog w = .ok 1 w := fun _ => by kernel_rfl
theorem sz_131 : ∀ w, (sizeOf 131).run Tryz.prog w = .ok 1 w := fun _ => by kernel_rfl
theorem sz_132 : ∀ w, (sizeOf 132).run Tryz.prog w = .ok 1 w := fun _ => by kernel_rfl
theorem sz_134 : ∀ w, (sizeOf 134).run Tryz.prog w = .ok 3 w := fun _ => by kernel_rfl
theorem sz_181 : ∀ w, (sizeOf 181).run Tryz.prog w = .ok 4 w := fun _ => by kernel_rfl
theorem sz_182 : ∀ w, (sizeOf 182).run Tryz.prog w = .ok 1 w := fun _ => by kernel_rfl
theorem sz_185 : ∀ w, (sizeOf 185).run Tryz.prog w = .ok 1 w := fun _ => by kernel_rfl
theorem sz_186 : ∀ w, (sizeOf 186).run Tryz.prog w = .ok 1 w := fun _ => by kernel_rfl
theorem sz_193 : ∀ w, (sizeOf 193).run Tryz.prog w = .ok 5 w := fun _ => by kernel_rfl
theorem sz_209 : ∀ w, (sizeOf 209).run Tryz.prog w = .ok 2 w := fun _ => by kernel_rfl
theorem sz_214 : ∀ w, (sizeOf 214).run Tryz.prog w = .ok 1 w := fun _ => by kernel_rfl
theorem sz_219 : ∀ w, (sizeOf 219).run Tryz.prog w = .ok 2 w := fun _ => by kernel_rfl
theorem sz_228 : ∀ w, (sizeOf 228).run Tryz.prog w = .ok 5 w := fun _ => by kernel_rfl
theorem sz_23 : ∀ w, (sizeOf 23).run Tryz.prog w = .ok 2 w := fun _ => by kernel_rfl
theorem sz_24 : ∀ w, (sizeOf 24).run Tryz.prog w = .ok 1 w := fun _ => by kernel_rfl
theorem sz_3 : ∀ w, (sizeOf 3).run Tryz.prog w = .ok 1 w := fun _ => by kernel_rfl
theorem sz_32 : ∀ w, (sizeOf 32).run Tryz.prog w = .ok 1 w := fun _ => by kernel_rfl
theorem sz_33 : ∀ w, (sizeOf 33).run Tryz.prog w = .ok 1 w := fun _ => by kernel_rfl
theorem sz_35 : ∀ w, (sizeOf 35).run Tryz.prog w = .ok 2 w := fun _ => by kernel_rfl
theorem sz_39 : ∀ w, (sizeOf 39).run Tryz.prog w = .ok 1 w := fun _ => by kernel_rfl
theorem sz_4 : ∀ w, (sizeOf 4).run Tryz.prog w = .ok 1 w := fun _ => by kernel_rfl
theorem sz_40 : ∀ w, (sizeOf 40).run Tryz.prog w = .ok 1 w := fun _ => by kernel_rfl
theorem sz_42 : ∀ w, (sizeOf 42).run Tryz.prog w = .ok 4 w := fun _ => by kernel_rfl
theorem sz_48 : ∀ w, (sizeOf 48).run Tryz.prog w = .ok 2 w := fun _ => by kernel_rfl
theorem sz_5 : ∀ w, (sizeOf 5).run Tryz.prog w = .ok 1 w := fun _ => by kernel_rfl
theorem sz_51 : ∀ w, (sizeOf 51).run Tryz.prog w = .ok 5 w := fun _ => by kernel_rfl
theorem sz_53 : ∀ w, (sizeOf 53).run Tryz.prog w = .ok 1 w := fun _ => by kernel_rfl
theorem sz_55 : ∀ w, (sizeOf 55).run Tryz.prog w = .ok 3 w := fun _ => by kernel_rfl
theorem sz_56 : ∀ w, (sizeOf 56).run Tryz.prog w = .ok 1 w := fun _ => by kernel_rfl
theorem sz_57 : ∀ w, (sizeOf 57).run Tryz.prog w = .ok 1 w := fun _ => by kernel_rfl
theorem sz_59 : ∀ w, (sizeOf 59).run Tryz.prog w = .ok 2 w := fun _ => by kernel_rfl
theorem sz_67 : ∀ w, (sizeOf 67).run Tryz.prog w = .ok 4 w := fun _ => by kernel_rfl
theorem sz_71 : ∀ w, (sizeOf 71).run Tryz.prog w = .ok 1 w := fun _ => by kernel_rfl
theorem sz_73 : ∀ w, (sizeOf 73).run Tryz.prog w = .ok 4 w := fun _ => by kernel_rfl
theorem sz_75 : ∀ w, (sizeOf 75).run Tryz.prog w = .ok 2 w := fun _ => by kernel_rfl
theorem sz_76 : ∀ w, (sizeOf 76).run Tryz.prog w = .ok 1 w := fun _ => by kernel_rfl
theorem sz_78 : ∀ w, (sizeOf 78).run Tryz.prog w = .ok 6 w := fun _ => by kernel_rfl
theorem sz_80 : ∀ w, (sizeOf 80).run Tryz.prog w = .ok 2 w := fun _ => by kernel_rfl
theorem sz_9 : ∀ w, (sizeOf 9).run Tryz.prog w = .ok 1 w := fun _ => by kernel_rfl
theorem ag_104 : ∀ w, (isAgg 104).run Tryz.prog w = .ok false w := fun _ => by kernel_rfl
theorem ag_128 : ∀ w, (isAgg 128).run Tryz.prog w = .ok false w := fun _ => by kernel_rfl
theorem ag_131 : ∀ w, (isAgg 131).run Tryz.prog w = .ok false w := fun _ => by kernel_rfl
theorem ag_132 : ∀ w, (isAgg 132).run Tryz.prog w = .ok false w := fun _ => by kernel_rfl
theorem ag_134 : ∀ w, (isAgg 134).run Tryz.prog w = .ok true w := fun _ => by kernel_rfl
theorem ag_139 : ∀ w, (isAgg 139).run Tryz.prog w = .ok false w := fun _ => by kernel_rfl
theorem ag_157 : ∀ w, (isAgg 157).run Tryz.prog w = .ok false w := fun _ => by kernel_rfl
theorem ag_181 : ∀ w, (isAgg 181).run Tryz.prog w = .ok true w := fun _ => by kernel_rfl
theorem ag_182 : ∀ w, (isAgg 182).run Tryz.prog w = .ok false w := fun _ => by kernel_rfl
theorem ag_185 : ∀ w, (isAgg 185).run Tryz.prog w = .ok false w := fun _ => by kernel_rfl
theorem ag_186 : ∀ w, (isAgg 186).run Tryz.prog w = .ok false w := fun _ => by kernel_rfl
theorem ag_193 : ∀ w, (isAgg 193).run Tryz.prog w = .ok true w := fun _ => by kernel_rfl
theorem ag_202 : ∀ w, (isAgg 202).run Tryz.prog w = .ok false w := fun _ => by kernel_rfl
theorem ag_209 : ∀ w, (isAgg 209).run Tryz.prog w = .ok true w := fun _ => by kernel_rfl
theorem ag_214 : ∀ w, (isAgg 214).run Tryz.prog w = .ok false w := fun _ => by kernel_rfl
theorem ag_219 : ∀ w, (isAgg 219).run Tryz.prog w = .ok true w := fun _ => by kernel_rfl
theorem ag_23 : ∀ w, (isAgg 23).run Tryz.prog w = .ok true w := fun _ => by kernel_rfl
theorem ag_24 : ∀ w, (isAgg 24).run Tryz.prog w = .ok false w := fun _ => by kernel_rfl
theorem ag_3 : ∀ w, (isAgg 3).run Tryz.prog w = .ok false w := fun _ => by kernel_rfl
theorem ag_32 : ∀ w, (isAgg 32).run Tryz.prog w = .ok false w := fun _ => by kernel_rfl
theorem ag_33 : ∀ w, (isAgg 33).run Tryz.prog w = .ok false w := fun _ => by kernel_rfl
theorem ag_35 : ∀ w, (isAgg 35).run Tryz.prog w = .ok true w := fun _ => by kernel_rfl
theorem ag_39 : ∀ w, (isAgg 39).run Tryz.prog w = .ok false w := fun _ => by kernel_rfl
theorem ag_4 : ∀ w, (isAgg 4).run Tryz.prog w = .ok false w := fun _ => by kernel_rfl
theorem ag_40 : ∀ w, (isAgg 40).run Tryz.prog w = .ok false w := fun _ => by kernel_rfl
theorem ag_42 : ∀ w, (isAgg 42).run Tryz.prog w = .ok true w := fun _ => by kernel_rfl
theorem ag_48 : ∀ w, (isAgg 48).run Tryz.prog w = .ok true w := fun _ => by kernel_rfl
theorem ag_5 : ∀ w, (isAgg 5).run Tryz.prog w = .ok false w := fun _ => by kernel_rfl
theorem ag_51 : ∀ w, (isAgg 51).run Tryz.prog w = .ok true w := fun _ => by kernel_rfl
theorem ag_53 : ∀ w, (isAgg 53).run Tryz.prog w = .ok false w := fun _ => by kernel_rfl
theorem ag_55 : ∀ w, (isAgg 55).run Tryz.prog w = .ok true w := fun _ => by kernel_rfl
theorem ag_56 : ∀ w, (isAgg 56).run Tryz.prog w = .ok false w := fun _ => by kernel_rfl
theorem ag_57 : ∀ w, (isAgg 57).run Tryz.prog w = .ok false w := fun _ => by kernel_rfl
theorem ag_59 : ∀ w, (isAgg 59).run Tryz.prog w = .ok true w := fun _ => by kernel_rfl
theorem ag_71 : ∀ w, (isAgg 71).run Tryz.prog w = .ok false w := fun _ => by kernel_rfl
theorem ag_73 : ∀ w, (isAgg 73).run Tryz.prog w = .ok true w := fun _ => by kernel_rfl
theorem ag_75 : ∀ w, (isAgg 75).run Tryz.prog w = .ok true w := fun _ => by kernel_rfl
theorem ag_76 : ∀ w, (isAgg 76).run Tryz.prog w = .ok false w := fun _ => by kernel_rfl
theorem ag_78 : ∀ w, (isAgg 78).run Tryz.prog w = .ok true w := fun _ => by kernel_rfl
theorem ag_80 : ∀ w, (isAgg 80).run Tryz.prog w = .ok true w := fun _ => by kernel_rfl
theorem ag_9 : ∀ w, (isAgg 9).run Tryz.prog w = .ok false w := fun _ => by kernel_rfl
theorem bd_134_0_1_2 : ∀ (x1 : Int) (x2 : Option Addr) (x3 x4 : Nat) (x5 : Fn) (x6 x7 : Array Value) (w : World), (Instr.build 134 #[(0, .int .i64 x1), (1, .slice x2 x3 x4), (2, .func x5 x6 x7)]).run Tryz.prog w = .ok (.agg #[.int .i64 x1, .slice x2 x3 x4, .func x5 x6 x7]) w := fun _ _ _ _ _ _ _ _ => by kernel_rfl
theorem bd_181_0_1_2 : ∀ (x1 : ByteArray) (x2 : Int) (x3 : Option Addr) (x4 x5 : Nat) (w : World), (Instr.build 181 #[(0, .string x1), (1, .int .i64 x2), (2, .slice x3 x4 x5)]).run Tryz.prog w = .ok (.agg #[.string x1, .int .i64 x2, .slice x3 x4 x5, .slice none 0 0]) w := fun _ _ _ _ _ _ => by kernel_rfl
theorem bd_188_0_1_2 : ∀ (x1 : Option Addr) (x2 x3 : Nat) (x4 : Option Nat) (x5 : Option Nat) (w : World), (Instr.build 188 #[(0, .slice x1 x2 x3), (1, .map x4), (2, .map x5)]).run Tryz.prog w = .ok (.agg #[.slice x1 x2 x3, .map x4, .map x5]) w := fun _ _ _ _ _ _ => by kernel_rfl
theorem bd_193_0_1 : ∀ (x1 : Option Addr) (x2 : ByteArray) (x3 : Int) (x4 : Option Addr) (x5 x6 : Nat) (x7 : Option Addr) (x8 x9 : Nat) (w : World), (Instr.build 193 #[(0, .pointer x1), (1, .agg #[.string x2, .int .i64 x3, .slice x4 x5 x6, .slice x7 x8 x9])]).run Tryz.prog w = .ok (.agg #[.pointer x1, .string x2, .int .i64 x3, .slice x4 x5 x6, .slice x7 x8 x9]) w := fun _ _ _ _ _ _ _ _ _ _ => by kernel_rfl
theorem bd_209_0_1 : ∀ (x1 : Int) (x2 : Int) (w : World), (Instr.build 209 #[(0, .int .u8 x1), (1, .int .i64 x2)]).run Tryz.prog w = .ok (.agg #[.int .u8 x1, .int .i64 x2]) w := fun _ _ _ => by kernel_rfl
theorem bd_219_0_1 : ∀ (x1 : Int) (x2 : Int) (w : World), (Instr.build 219 #[(0, .int .i64 x1), (1, .int .i64 x2)]).run Tryz.prog w = .ok (.agg #[.int .i64 x1, .int .i64 x2]) w := fun _ _ _ => by kernel_rfl
theorem bd_228_0_1_2_3_4 : ∀ (x1 : ByteArray) (x2 : Int) (x3 : Int) (x4 : Bool) (x5 : Bool) (w : World), (Instr.build 228 #[(0, .string x1), (1, .int .i64 x2), (2, .int .i64 x3), (3, .bool x4), (4, .bool x5)]).run Tryz.prog w = .ok (.agg #[.string x1, .int .i64 x2, .int .i64 x3, .bool x4, .bool x5]) w := fun _ _ _ _ _ _ => by kernel_rfl
theorem bd_23_0_1 : ∀ (x1 : Int) (x2 : Int) (w : World), (Instr.build 23 #[(0, .int .i64 x1), (1, .int .i64 x2)]).run Tryz.prog w = .ok (.agg #[.int .i64 x1, .int .i64 x2]) w := fun _ _ _ => by kernel_rfl
theorem bd_35_0_1 : ∀ (x1 : Option Addr) (x2 x3 : Nat) (x4 : Option Addr) (x5 x6 : Nat) (w : World), (Instr.build 35 #[(0, .slice x1 x2 x3), (1, .slice x4 x5 x6)]).run Tryz.prog w = .ok (.agg #[.slice x1 x2 x3, .slice x4 x5 x6]) w := fun _ _ _ _ _ _ _ => by kernel_rfl
theorem bd_42_0 : ∀ (x1 : Int) (w : World), (Instr.build 42 #[(0, .int .i64 x1)]).run Tryz.prog w = .ok (.agg #[.int .i64 x1, .slice none 0 0, .slice none 0 0, .slice none 0 0]) w := fun _ _ => by kernel_rfl
theorem bd_42_0_1_2_3 : ∀ (x1 : Int) (x2 : Option Addr) (x3 x4 : Nat) (x5 : Option Addr) (x6 x7 : Nat) (x8 : Option Addr) (x9 x10 : Nat) (w : World), (Instr.build 42 #[(0, .int .i64 x1), (1, .slice x2 x3 x4), (2, .slice x5 x6 x7), (3, .slice x8 x9 x10)]).run Tryz.prog w = .ok (.agg #[.int .i64 x1, .slice x2 x3 x4, .slice x5 x6 x7, .slice x8 x9 x10]) w := fun _ _ _ _ _ _ _ _ _ _ _ => by kernel_rfl
theorem bd_48 : ∀  (w : World), (Instr.build 48 #[]).run Tryz.prog w = .ok (.agg #[.int .u8 0, .int .i64 0]) w := fun  _ => by kernel_rfl
theorem bd_48_0 : ∀ (x1 : Int) (w : World), (Instr.build 48 #[(0, .int .u8 x1)]).run Tryz.prog w = .ok (.agg #[.int .u8 x1, .int .i64 0]) w := fun _ _ => by kernel_rfl
theorem bd_48_0_1 : ∀ (x1 : Int) (x2 : Int) (w : World), (Instr.build 48 #[(0, .int .u8 x1), (1, .int .i64 x2)]).run Tryz.prog w = .ok (.agg #[.int .u8 x1, .int .i64 x2]) w := fun _ _ _ => by kernel_rfl
theorem bd_51_0_1_2_3 : ∀ (x1 : Int) (x2 : Int) (x3 : Int) (x4 : Int) (x5 : Int) (w : World), (Instr.build 51 #[(0, .int .i64 x1), (1, .int .i64 x2), (2, .int .i64 x3), (3, .agg #[.int .u8 x4, .int .i64 x5])]).run Tryz.prog w = .ok (.agg #[.int .i64 x1, .int .i64 x2, .int .i64 x3, .int .u8 x4, .int .i64 x5]) w := fun _ _ _ _ _ _ => by kernel_rfl
theorem bd_51_0_1_3 : ∀ (x1 : Int) (x2 : Int) (x3 : Int) (x4 : Int) (w : World), (Instr.build 51 #[(0, .int .i64 x1), (1, .int .i64 x2), (3, .agg #[.int .u8 x3, .int .i64 x4])]).run Tryz.prog w = .ok (.agg #[.int .i64 x1, .int .i64 x2, .int .i64 0, .int .u8 x3, .int .i64 x4]) w := fun _ _ _ _ _ => by kernel_rfl
theorem bd_55_0_1_2 : ∀ (x1 : Int) (x2 : Int) (x3 : Option Addr) (x4 x5 : Nat) (w : World), (Instr.build 55 #[(0, .int .i64 x1), (1, .int .i64 x2), (2, .slice x3 x4 x5)]).run Tryz.prog w = .ok (.agg #[.int .i64 x1, .int .i64 x2, .slice x3 x4 x5]) w := fun _ _ _ _ _ _ => by kernel_rfl
theorem bd_55_1_2 : ∀ (x1 : Int) (x2 : Option Addr) (x3 x4 : Nat) (w : World), (Instr.build 55 #[(1, .int .i64 x1), (2, .slice x2 x3 x4)]).run Tryz.prog w = .ok (.agg #[.int .i64 0, .int .i64 x1, .slice x2 x3 x4]) w := fun _ _ _ _ _ => by kernel_rfl
theorem bd_67_0_1_2_3 : ∀ (x1 : Int) (x2 : Int) (x3 : Int) (x4 : Option Addr) (x5 x6 : Nat) (w : World), (Instr.build 67 #[(0, .int .u8 x1), (1, .int .i64 x2), (2, .int .i64 x3), (3, .slice x4 x5 x6)]).run Tryz.prog w = .ok (.agg #[.int .u8 x1, .int .i64 x2, .int .i64 x3, .slice x4 x5 x6]) w := fun _ _ _ _ _ _ _ => by kernel_rfl
theorem bd_73_0 : ∀ (x1 : Int) (w : World), (Instr.build 73 #[(0, .int .u8 x1)]).run Tryz.prog w = .ok (.agg #[.int .u8 x1, .string ⟨#[]⟩, .int .i64 0, .slice none 0 0]) w := fun _ _ => by kernel_rfl
theorem bd_73_0_1_3 : ∀ (x1 : Int) (x2 : ByteArray) (x3 : Option Addr) (x4 x5 : Nat) (w : World), (Instr.build 73 #[(0, .int .u8 x1), (1, .string x2), (3, .slice x3 x4 x5)]).run Tryz.prog w = .ok (.agg #[.int .u8 x1, .string x2, .int .i64 0, .slice x3 x4 x5]) w := fun _ _ _ _ _ _ => by kernel_rfl
theorem bd_73_0_2 : ∀ (x1 : Int) (x2 : Int) (w : World), (Instr.build 73 #[(0, .int .u8 x1), (2, .int .i64 x2)]).run Tryz.prog w = .ok (.agg #[.int .u8 x1, .string ⟨#[]⟩, .int .i64 x2, .slice none 0 0]) w := fun _ _ _ => by kernel_rfl
theorem bd_73_0_3 : ∀ (x1 : Int) (x2 : Option Addr) (x3 x4 : Nat) (w : World), (Instr.build 73 #[(0, .int .u8 x1), (3, .slice x2 x3 x4)]).run Tryz.prog w = .ok (.agg #[.int .u8 x1, .string ⟨#[]⟩, .int .i64 0, .slice x2 x3 x4]) w := fun _ _ _ _ _ => by kernel_rfl
theorem bd_75_0 : ∀ (x1 : Int) (w : World), (Instr.build 75 #[(0, .int .i64 x1)]).run Tryz.prog w = .ok (.agg #[.int .i64 x1, .int .i64 0]) w := fun _ _ => by kernel_rfl
theorem bd_75_0_1 : ∀ (x1 : Int) (x2 : Int) (w : World), (Instr.build 75 #[(0, .int .i64 x1), (1, .int .i64 x2)]).run Tryz.prog w = .ok (.agg #[.int .i64 x1, .int .i64 x2]) w := fun _ _ _ => by kernel_rfl
theorem bd_78_0_1_2_3_4_5 : ∀ (x1 : ByteArray) (x2 : Int) (x3 : Int) (x4 : Int) (x5 : Bool) (x6 : Option Addr) (x7 x8 : Nat) (w : World), (Instr.build 78 #[(0, .string x1), (1, .int .i64 x2), (2, .int .i64 x3), (3, .int .i64 x4), (4, .bool x5), (5, .slice x6 x7 x8)]).run Tryz.prog w = .ok (.agg #[.string x1, .int .i64 x2, .int .i64 x3, .int .i64 x4, .bool x5, .slice x6 x7 x8]) w := fun _ _ _ _ _ _ _ _ _ => by kernel_rfl
theorem bd_78_0_1_2_3_5 : ∀ (x1 : ByteArray) (x2 : Int) (x3 : Int) (x4 : Int) (x5 : Option Addr) (x6 x7 : Nat) (w : World), (Instr.build 78 #[(0, .string x1), (1, .int .i64 x2), (2, .int .i64 x3), (3, .int .i64 x4), (5, .slice x5 x6 x7)]).run Tryz.prog w = .ok (.agg #[.string x1, .int .i64 x2, .int .i64 x3, .int .i64 x4, .bool false, .slice x5 x6 x7]) w := fun _ _ _ _ _ _ _ _ => by kernel_rfl
theorem bd_78_0_2_3_5 : ∀ (x1 : ByteArray) (x2 : Int) (x3 : Int) (x4 : Option Addr) (x5 x6 : Nat) (w : World), (Instr.build 78 #[(0, .string x1), (2, .int .i64 x2), (3, .int .i64 x3), (5, .slice x4 x5 x6)]).run Tryz.prog w = .ok (.agg #[.string x1, .int .i64 0, .int .i64 x2, .int .i64 x3, .bool false, .slice x4 x5 x6]) w := fun _ _ _ _ _ _ _ => by kernel_rfl
theorem bd_80_0 : ∀ (x1 : Option Addr) (x2 x3 : Nat) (x4 : Option Addr) (x5 x6 : Nat) (w : World), (Instr.build 80 #[(0, .agg #[.slice x1 x2 x3, .slice x4 x5 x6])]).run Tryz.prog w = .ok (.agg #[.slice x1 x2 x3, .slice x4 x5 x6]) w := fun _ _ _ _ _ _ _ => by kernel_rfl
theorem bd_90_0_1 : ∀ (x1 : Option Addr) (x2 x3 : Nat) (x4 : Option Addr) (x5 x6 : Nat) (x7 : Int) (x8 : Option Addr) (x9 x10 : Nat) (x11 : Option Addr) (x12 x13 : Nat) (x14 : Option Addr) (x15 x16 : Nat) (w : World), (Instr.build 90 #[(0, .agg #[.slice x1 x2 x3, .slice x4 x5 x6]), (1, .agg #[.int .i64 x7, .slice x8 x9 x10, .slice x11 x12 x13, .slice x14 x15 x16])]).run Tryz.prog w = .ok (.agg #[.slice x1 x2 x3, .slice x4 x5 x6, .int .i64 x7, .slice x8 x9 x10, .slice x11 x12 x13, .slice x14 x15 x16]) w := fun _ _ _ _ _ _ _ _ _ _ _ _ _ _ _ _ _ => by kernel_rfl
theorem cf_10 : ∀ args w, (callFunc 10 args).run Tryz.prog w = .ok (.enter 10 args) w := fun _ _ => by kernel_rfl
theorem cf_100 : ∀ args w, (callFunc 100 args).run Tryz.prog w = .ok (.enter 100 args) w := fun _ _ => by kernel_rfl
theorem cf_101 : ∀ args w, (callFunc 101 args).run Tryz.prog w = .ok (.enter 101 args) w := fun _ _ => by kernel_rfl
theorem cf_105 : ∀ args w, (callFunc 105 args).run Tryz.prog w = .ok (.enter 105 args) w := fun _ _ => by kernel_rfl
theorem cf_106 : ∀ args w, (callFunc 106 args).run Tryz.prog w = .ok (.enter 106 args) w := fun _ _ => by kernel_rfl
theorem cf_107 : ∀ args w, (callFunc 107 args).run Tryz.prog w = .ok (.enter 107 args) w := fun _ _ => by kernel_rfl
theorem cf_108 : ∀ args w, (callFunc 108 args).run Tryz.prog w = .ok (.enter 108 args) w := fun _ _ => by kernel_rfl
theorem cf_11 : ∀ args w, (callFunc 11 args).run Tryz.prog w = .ok (.enter 11 args) w := fun _ _ => by kernel_rfl
theorem cf_110 : ∀ args w, (callFunc 110 args).run Tryz.prog w = .ok (.enter 110 args) w := fun _ _ => by kernel_rfl
theorem cf_111 : ∀ args w, (callFunc 111 args).run Tryz.prog w = .ok (.enter 111 args) w := fun _ _ => by kernel_rfl
theorem cf_113 : ∀ args w, (callFunc 113 args).run Tryz.prog w = .ok (.enter 113 args) w := fun _ _ => by kernel_rfl
theorem cf_114 : ∀ args w, (callFunc 114 args).run Tryz.prog w = .ok (.enter 114 args) w := fun _ _ => by kernel_rfl
theorem cf_118 : ∀ args w, (callFunc 118 args).run Tryz.prog w = .ok (.enter 118 args) w := fun _ _ => by kernel_rfl
theorem cf_119 : ∀ args w, (callFunc 119 args).run Tryz.prog w = .ok (.enter 119 args) w := fun _ _ => by kernel_rfl
theorem cf_12 : ∀ args w, (callFunc 12 args).run Tryz.prog w = .ok (.enter 12 args) w := fun _ _ => by kernel_rfl
theorem cf_120 : ∀ args w, (callFunc 120 args).run Tryz.prog w = .ok (.enter 120 args) w := fun _ _ => by kernel_rfl
theorem cf_121 : ∀ args w, (callFunc 121 args).run Tryz.prog w = .ok (.enter 121 args) w := fun _ _ => by kernel_rfl
theorem cf_122 : ∀ args w, (callFunc 122 args).run Tryz.prog w = .ok (.enter 122 args) w := fun _ _ => by kernel_rfl
theorem cf_123 : ∀ args w, (callFunc 123 args).run Tryz.prog w = .ok (.enter 123 args) w := fun _ _ => by kernel_rfl
theorem cf_124 : ∀ args w, (callFunc 124 args).run Tryz.prog w = .ok (.enter 124 args) w := fun _ _ => by kernel_rfl
theorem cf_125 : ∀ args w, (callFunc 125 args).run Tryz.prog w = .ok (.enter 125 args) w := fun _ _ => by kernel_rfl
theorem cf_126 : ∀ args w, (callFunc 126 args).run Tryz.prog w = .ok (.enter 126 args) w := fun _ _ => by kernel_rfl
theorem cf_127 : ∀ args w, (callFunc 127 args).run Tryz.prog w = .ok (.enter 127 args) w := fun _ _ => by kernel_rfl
theorem cf_128 : ∀ args w, (callFunc 128 args).run Tryz.prog w = .ok (.enter 128 args) w := fun _ _ => by kernel_rfl
theorem cf_129 : ∀ args w, (callFunc 129 args).run Tryz.prog w = .ok (.enter 129 args) w := fun _ _ => by kernel_rfl
theorem cf_13 : ∀ args w, (callFunc 13 args).run Tryz.prog w = .ok (.enter 13 args) w := fun _ _ => by kernel_rfl
theorem cf_131 : ∀ args w, (callFunc 131 args).run Tryz.prog w = .ok (.enter 131 args) w := fun _ _ => by kernel_rfl
theorem cf_132 : ∀ args w, (callFunc 132 args).run Tryz.prog w = .ok (.enter 132 args) w := fun _ _ => by kernel_rfl
theorem cf_133 : ∀ args w, (callFunc 133 args).run Tryz.prog w = .ok (.enter 133 args) w := fun _ _ => by kernel_rfl
theorem cf_134 : ∀ args w, (callFunc 134 args).run Tryz.prog w = .ok (.enter 134 args) w := fun _ _ => by kernel_rfl
theorem cf_135 : ∀ args w, (callFunc 135 args).run Tryz.prog w = .ok (.enter 135 args) w := fun _ _ => by kernel_rfl
theorem cf_136 : ∀ args w, (callFunc 136 args).run Tryz.prog w = .ok (.enter 136 args) w := fun _ _ => by kernel_rfl
theorem cf_137 : ∀ args w, (callFunc 137 args).run Tryz.prog w = .ok (.enter 137 args) w := fun _ _ => by kernel_rfl
theorem cf_138 : ∀ args w, (callFunc 138 args).run Tryz.prog w = .ok (.enter 138 args) w := fun _ _ => by kernel_rfl
theorem cf_139 : ∀ args w, (callFunc 139 args).run Tryz.prog w = .ok (.enter 139 args) w := fun _ _ => by kernel_rfl
theorem cf_14 : ∀ args w, (callFunc 14 args).run Tryz.prog w = .ok (.enter 14 args) w := fun _ _ => by kernel_rfl
theorem cf_140 : ∀ args w, (callFunc 140 args).run Tryz.prog w = .ok (.enter 140 args) w := fun _ _ => by kernel_rfl
theorem cf_141 : ∀ args w, (callFunc 141 args).run Tryz.prog w = .ok (.enter 141 args) w := fun _ _ => by kernel_rfl
theorem cf_142 : ∀ args w, (callFunc 142 args).run Tryz.prog w = .ok (.enter 142 args) w := fun _ _ => by kernel_rfl
theorem cf_143 : ∀ args w, (callFunc 143 args).run Tryz.prog w = .ok (.enter 143 args) w := fun _ _ => by kernel_rfl
theorem cf_144 : ∀ args w, (callFunc 144 args).run Tryz.prog w = .ok (.enter 144 args) w := fun _ _ => by kernel_rfl
theorem cf_145 : ∀ args w, (callFunc 145 args).run Tryz.prog w = .ok (.enter 145 args) w := fun _ _ => by kernel_rfl
theorem cf_146 : ∀ args w, (callFunc 146 args).run Tryz.prog w = .ok (.enter 146 args) w := fun _ _ => by kernel_rfl
theorem cf_147 : ∀ args w, (callFunc 147 args).run Tryz.prog w = .ok (.enter 147 args) w := fun _ _ => by kernel_rfl
theorem cf_148 : ∀ args w, (callFunc 148 args).run Tryz.prog w = .ok (.enter 148 args) w := fun _ _ => by kernel_rfl
theorem cf_149 : ∀ args w, (callFunc 149 args).run Tryz.prog w = .ok (.enter 149 args) w := fun _ _ => by kernel_rfl
theorem cf_15 : ∀ args w, (callFunc 15 args).run Tryz.prog w = .ok (.enter 15 args) w := fun _ _ => by kernel_rfl
theorem cf_150 : ∀ args w, (callFunc 150 args).run Tryz.prog w = .ok (.enter 150 args) w := fun _ _ => by kernel_rfl
theorem cf_151 : ∀ args w, (callFunc 151 args).run Tryz.prog w = .ok (.enter 151 args) w := fun _ _ => by kernel_rfl
theorem cf_152 : ∀ args w, (callFunc 152 args).run Tryz.prog w = .ok (.enter 152 args) w := fun _ _ => by kernel_rfl
theorem cf_153 : ∀ args w, (callFunc 153 args).run Tryz.prog w = .ok (.enter 153 args) w := fun _ _ => by kernel_rfl
theorem cf_154 : ∀ args w, (callFunc 154 args).run Tryz.prog w = .ok (.enter 154 args) w := fun _ _ => by kernel_rfl
theorem cf_155 : ∀ args w, (callFunc 155 args).run Tryz.prog w = .ok (.enter 155 args) w := fun _ _ => by kernel_rfl
theorem cf_156 : ∀ args w, (callFunc 156 args).run Tryz.prog w = .ok (.enter 156 args) w := fun _ _ => by kernel_rfl
theorem cf_157 : ∀ args w, (callFunc 157 args).run Tryz.prog w = .ok (.enter 157 args) w := fun _ _ => by kernel_rfl
theorem cf_158 : ∀ args w, (callFunc 158 args).run Tryz.prog w = .ok (.enter 158 args) w := fun _ _ => by kernel_rfl
theorem cf_159 : ∀ args w, (callFunc 159 args).run Tryz.prog w = .ok (.enter 159 args) w := fun _ _ => by kernel_rfl
theorem cf_16 : ∀ args w, (callFunc 16 args).run Tryz.prog w = .ok (.enter 16 args) w := fun _ _ => by kernel_rfl
theorem cf_160 : ∀ args w, (callFunc 160 args).run Tryz.prog w = .ok (.enter 160 args) w := fun _ _ => by kernel_rfl
theorem cf_161 : ∀ args w, (callFunc 161 args).run Tryz.prog w = .ok (.enter 161 args) w := fun _ _ => by kernel_rfl
theorem cf_162 : ∀ args w, (callFunc 162 args).run Tryz.prog w = .ok (.enter 162 args) w := fun _ _ => by kernel_rfl
theorem cf_163 : ∀ args w, (callFunc 163 args).run Tryz.prog w = .ok (.enter 163 args) w := fun _ _ => by kernel_rfl
theorem cf_164 : ∀ args w, (callFunc 164 args).run Tryz.prog w = .ok (.enter 164 args) w := fun _ _ => by kernel_rfl
theorem cf_17 : ∀ args w, (callFunc 17 args).run Tryz.prog w = .ok (.enter 17 args) w := fun _ _ => by kernel_rfl
theorem cf_18 : ∀ args w, (callFunc 18 args).run Tryz.prog w = .ok (.enter 18 args) w := fun _ _ => by kernel_rfl
theorem cf_19 : ∀ args w, (callFunc 19 args).run Tryz.prog w = .ok (.enter 19 args) w := fun _ _ => by kernel_rfl
theorem cf_20 : ∀ args w, (callFunc 20 args).run Tryz.prog w = .ok (.enter 20 args) w := fun _ _ => by kernel_rfl
theorem cf_21 : ∀ args w, (callFunc 21 args).run Tryz.prog w = .ok (.enter 21 args) w := fun _ _ => by kernel_rfl
theorem cf_22 : ∀ args w, (callFunc 22 args).run Tryz.prog w = .ok (.enter 22 args) w := fun _ _ => by kernel_rfl
theorem cf_23 : ∀ args w, (callFunc 23 args).run Tryz.prog w = .ok (.enter 23 args) w := fun _ _ => by kernel_rfl
theorem cf_24 : ∀ args w, (callFunc 24 args).run Tryz.prog w = .ok (.enter 24 args) w := fun _ _ => by kernel_rfl
theorem cf_25 : ∀ args w, (callFunc 25 args).run Tryz.prog w = .ok (.enter 25 args) w := fun _ _ => by kernel_rfl
theorem cf_26 : ∀ args w, (callFunc 26 args).run Tryz.prog w = .ok (.enter 26 args) w := fun _ _ => by kernel_rfl
theorem cf_27 : ∀ args w, (callFunc 27 args).run Tryz.prog w = .ok (.enter 27 args) w := fun _ _ => by kernel_rfl
theorem cf_28 : ∀ args w, (callFunc 28 args).run Tryz.prog w = .ok (.enter 28 args) w := fun _ _ => by kernel_rfl
theorem cf_29 : ∀ args w, (callFunc 29 args).run Tryz.prog w = .ok (.enter 29 args) w := fun _ _ => by kernel_rfl
theorem cf_30 : ∀ args w, (callFunc 30 args).run Tryz.prog w = .ok (.enter 30 args) w := fun _ _ => by kernel_rfl
theorem cf_31 : ∀ args w, (callFunc 31 args).run Tryz.prog w = .ok (.enter 31 args) w := fun _ _ => by kernel_rfl
theorem cf_32 : ∀ args w, (callFunc 32 args).run Tryz.prog w = .ok (.enter 32 args) w := fun _ _ => by kernel_rfl
theorem cf_33 : ∀ args w, (callFunc 33 args).run Tryz.prog w = .ok (.enter 33 args) w := fun _ _ => by kernel_rfl
theorem cf_34 : ∀ args w, (callFunc 34 args).run Tryz.prog w = .ok (.enter 34 args) w := fun _ _ => by kernel_rfl
theorem cf_35 : ∀ args w, (callFunc 35 args).run Tryz.prog w = .ok (.enter 35 args) w := fun _ _ => by kernel_rfl
theorem cf_36 : ∀ args w, (callFunc 36 args).run Tryz.prog w = .ok (.enter 36 args) w := fun _ _ => by kernel_rfl
theorem cf_37 : ∀ args w, (callFunc 37 args).run Tryz.prog w = .ok (.enter 37 args) w := fun _ _ => by kernel_rfl
theorem cf_38 : ∀ args w, (callFunc 38 args).run Tryz.prog w = .ok (.enter 38 args) w := fun _ _ => by kernel_rfl
theorem cf_39 : ∀ args w, (callFunc 39 args).run Tryz.prog w = .ok (.enter 39 args) w := fun _ _ => by kernel_rfl
theorem cf_4 : ∀ args w, (callFunc 4 args).run Tryz.prog w = .ok (.enter 4 args) w := fun _ _ => by kernel_rfl
theorem cf_41 : ∀ args w, (callFunc 41 args).run Tryz.prog w = .ok (.enter 41 args) w := fun _ _ => by kernel_rfl
theorem cf_42 : ∀ args w, (callFunc 42 args).run Tryz.prog w = .ok (.enter 42 args) w := fun _ _ => by kernel_rfl
theorem cf_43 : ∀ args w, (callFunc 43 args).run Tryz.prog w = .ok (.enter 43 args) w := fun _ _ => by kernel_rfl
theorem cf_44 : ∀ args w, (callFunc 44 args).run Tryz.prog w = .ok (.enter 44 args) w := fun _ _ => by kernel_rfl
theorem cf_45 : ∀ args w, (callFunc 45 args).run Tryz.prog w = .ok (.enter 45 args) w := fun _ _ => by kernel_rfl
theorem cf_46 : ∀ args w, (callFunc 46 args).run Tryz.prog w = .ok (.enter 46 args) w := fun _ _ => by kernel_rfl
theorem cf_47 : ∀ args w, (callFunc 47 args).run Tryz.prog w = .ok (.enter 47 args) w := fun _ _ => by kernel_rfl
theorem cf_48 : ∀ args w, (callFunc 48 args).run Tryz.prog w = .ok (.enter 48 args) w := fun _ _ => by kernel_rfl
theorem cf_49 : ∀ args w, (callFunc 49 args).run Tryz.prog w = .ok (.enter 49 args) w := fun _ _ => by kernel_rfl
theorem cf_5 : ∀ args w, (callFunc 5 args).run Tryz.prog w = .ok (.enter 5 args) w := fun _ _ => by kernel_rfl
theorem cf_50 : ∀ args w, (callFunc 50 args).run Tryz.prog w = .ok (.enter 50 args) w := fun _ _ => by kernel_rfl
theorem cf_51 : ∀ args w, (callFunc 51 args).run Tryz.prog w = .ok (.enter 51 args) w := fun _ _ => by kernel_rfl
theorem cf_54 : ∀ args w, (callFunc 54 args).run Tryz.prog w = .ok (.enter 54 args) w := fun _ _ => by kernel_rfl
theorem cf_59 : ∀ args w, (callFunc 59 args).run Tryz.prog w = .ok (.enter 59 args) w := fun _ _ => by kernel_rfl
theorem cf_6 : ∀ args w, (callFunc 6 args).run Tryz.prog w = .ok (.enter 6 args) w := fun _ _ => by kernel_rfl
theorem cf_60 : ∀ args w, (callFunc 60 args).run Tryz.prog w = .ok (.enter 60 args) w := fun _ _ => by kernel_rfl
theorem cf_61 : ∀ args w, (callFunc 61 args).run Tryz.prog w = .ok (.enter 61 args) w := fun _ _ => by kernel_rfl
theorem cf_62 : ∀ args w, (callFunc 62 args).run Tryz.prog w = .ok (.enter 62 args) w := fun _ _ => by kernel_rfl
theorem cf_63 : ∀ args w, (callFunc 63 args).run Tryz.prog w = .ok (.enter 63 args) w := fun _ _ => by kernel_rfl
theorem cf_64 : ∀ args w, (callFunc 64 args).run Tryz.prog w = .ok (.enter 64 args) w := fun _ _ => by kernel_rfl
theorem cf_65 : ∀ args w, (callFunc 65 args).run Tryz.prog w = .ok (.enter 65 args) w := fun _ _ => by kernel_rfl
theorem cf_66 : ∀ args w, (callFunc 66 args).run Tryz.prog w = .ok (.enter 66 args) w := fun _ _ => by kernel_rfl
theorem cf_68 : ∀ args w, (callFunc 68 args).run Tryz.prog w = .ok (.enter 68 args) w := fun _ _ => by kernel_rfl
theorem cf_69 : ∀ args w, (callFunc 69 args).run Tryz.prog w = .ok (.enter 69 args) w := fun _ _ => by kernel_rfl
theorem cf_7 : ∀ args w, (callFunc 7 args).run Tryz.prog w = .ok (.enter 7 args) w := fun _ _ => by kernel_rfl
theorem cf_70 : ∀ args w, (callFunc 70 args).run Tryz.prog w = .ok (.enter 70 args) w := fun _ _ => by kernel_rfl
theorem cf_72 : ∀ args w, (callFunc 72 args).run Tryz.prog w = .ok (.enter 72 args) w := fun _ _ => by kernel_rfl
theorem cf_73 : ∀ args w, (callFunc 73 args).run Tryz.prog w = .ok (.enter 73 args) w := fun _ _ => by kernel_rfl
theorem cf_74 : ∀ args w, (callFunc 74 args).run Tryz.prog w = .ok (.enter 74 args) w := fun _ _ => by kernel_rfl
theorem cf_75 : ∀ args w, (callFunc 75 args).run Tryz.prog w = .ok (.enter 75 args) w := fun _ _ => by kernel_rfl
theorem cf_76 : ∀ args w, (callFunc 76 args).run Tryz.prog w = .ok (.enter 76 args) w := fun _ _ => by kernel_rfl
theorem cf_77 : ∀ args w, (callFunc 77 args).run Tryz.prog w = .ok (.enter 77 args) w := fun _ _ => by kernel_rfl
theorem cf_79 : ∀ args w, (callFunc 79 args).run Tryz.prog w = .ok (.enter 79 args) w := fun _ _ => by kernel_rfl
theorem cf_8 : ∀ args w, (callFunc 8 args).run Tryz.prog w = .ok (.enter 8 args) w := fun _ _ => by kernel_rfl
theorem cf_81 : ∀ args w, (callFunc 81 args).run Tryz.prog w = .ok (.enter 81 args) w := fun _ _ => by kernel_rfl
theorem cf_82 : ∀ args w, (callFunc 82 args).run Tryz.prog w = .ok (.enter 82 args) w := fun _ _ => by kernel_rfl
theorem cf_83 : ∀ args w, (callFunc 83 args).run Tryz.prog w = .ok (.enter 83 args) w := fun _ _ => by kernel_rfl
theorem cf_84 : ∀ args w, (callFunc 84 args).run Tryz.prog w = .ok (.enter 84 args) w := fun _ _ => by kernel_rfl
theorem cf_85 : ∀ args w, (callFunc 85 args).run Tryz.prog w = .ok (.enter 85 args) w := fun _ _ => by kernel_rfl
theorem cf_86 : ∀ args w, (callFunc 86 args).run Tryz.prog w = .ok (.enter 86 args) w := fun _ _ => by kernel_rfl
theorem cf_87 : ∀ args w, (callFunc 87 args).run Tryz.prog w = .ok (.enter 87 args) w := fun _ _ => by kernel_rfl
theorem cf_88 : ∀ args w, (callFunc 88 args).run Tryz.prog w = .ok (.enter 88 args) w := fun _ _ => by kernel_rfl
theorem cf_89 : ∀ args w, (callFunc 89 args).run Tryz.prog w = .ok (.enter 89 args) w := fun _ _ => by kernel_rfl
theorem cf_9 : ∀ args w, (callFunc 9 args).run Tryz.prog w = .ok (.enter 9 args) w := fun _ _ => by kernel_rfl
theorem eql_209 : ∀ (x1 : Int) (x2 : Int) (x3 : Int) (x4 : Int) (w : World), (binOp .eql 209 (.agg #[.int .u8 x1, .int .i64 x2]) (.agg #[.int .u8 x3, .int .i64 x4])).run Tryz.prog w = .ok (.bool (decide (x1 = x3 ∧ x2 = x4))) w := by
  intros; simp [go_sem, Tryz.underlying3, Tryz.underlying5, Tryz.underlying209]; (repeat' split) <;> simp_all
theorem geql_209 : ∀ (x1 : Int) (x2 : Int) (x3 : Int) (x4 : Int) (x y : Operand) (w : World), (eqGuard .eql 209 x y (.agg #[.int .u8 x1, .int .i64 x2]) (.agg #[.int .u8 x3, .int .i64 x4])).run Tryz.prog w = .ok () w := by
  intros; exact run_eqGuard_agg _ _ _ _ _ _ _ (by kernel_rfl)
theorem eql_23 : ∀ (x1 : Int) (x2 : Int) (x3 : Int) (x4 : Int) (w : World), (binOp .eql 23 (.agg #[.int .i64 x1, .int .i64 x2]) (.agg #[.int .i64 x3, .int .i64 x4])).run Tryz.prog w = .ok (.bool (decide (x1 = x3 ∧ x2 = x4))) w := by
  intros; simp [go_sem, Tryz.underlying3, Tryz.underlying23]; (repeat' split) <;> simp_all
theorem geql_23 : ∀ (x1 : Int) (x2 : Int) (x3 : Int) (x4 : Int) (x y : Operand) (w : World), (eqGuard .eql 23 x y (.agg #[.int .i64 x1, .int .i64 x2]) (.agg #[.int .i64 x3, .int .i64 x4])).run Tryz.prog w = .ok () w := by
  intros; exact run_eqGuard_agg _ _ _ _ _ _ _ (by kernel_rfl)
theorem eql_48 : ∀ (x1 : Int) (x2 : Int) (x3 : Int) (x4 : Int) (w : World), (binOp .eql 48 (.agg #[.int .u8 x1, .int .i64 x2]) (.agg #[.int .u8 x3, .int .i64 x4])).run Tryz.prog w = .ok (.bool (decide (x1 = x3 ∧ x2 = x4))) w := by
  intros; simp [go_sem, Tryz.underlying3, Tryz.underlying5, Tryz.underlying48]; (repeat' split) <;> simp_all
theorem geql_48 : ∀ (x1 : Int) (x2 : Int) (x3 : Int) (x4 : Int) (x y : Operand) (w : World), (eqGuard .eql 48 x y (.agg #[.int .u8 x1, .int .i64 x2]) (.agg #[.int .u8 x3, .int .i64 x4])).run Tryz.prog w = .ok () w := by
  intros; exact run_eqGuard_agg _ _ _ _ _ _ _ (by kernel_rfl)
theorem eql_75 : ∀ (x1 : Int) (x2 : Int) (x3 : Int) (x4 : Int) (w : World), (binOp .eql 75 (.agg #[.int .i64 x1, .int .i64 x2]) (.agg #[.int .i64 x3, .int .i64 x4])).run Tryz.prog w = .ok (.bool (decide (x1 = x3 ∧ x2 = x4))) w := by
  intros; simp [go_sem, Tryz.underlying3, Tryz.underlying75]; (repeat' split) <;> simp_all
theorem fa_134_0 : ∀ b o w, (Instr.fieldAt 134 (.pointer (some ⟨b, o, none⟩)) 0).run Tryz.prog w = .ok (.pointer (some ⟨b, o + 0, none⟩)) w := fun b o w => by simp [Instr.fieldAt, run_underlying (show Tryz.prog.underlying 134 = some _ from Tryz.underlying134), Instr.sureAddr, fieldPlace, sz_3, addr_add]
theorem fa_134_1 : ∀ b o w, (Instr.fieldAt 134 (.pointer (some ⟨b, o, none⟩)) 1).run Tryz.prog w = .ok (.pointer (some ⟨b, o + 1, none⟩)) w := fun b o w => by simp [Instr.fieldAt, run_underlying (show Tryz.prog.underlying 134 = some _ from Tryz.underlying134), Instr.sureAddr, fieldPlace, sz_131, addr_add]
theorem fa_134_2 : ∀ b o w, (Instr.fieldAt 134 (.pointer (some ⟨b, o, none⟩)) 2).run Tryz.prog w = .ok (.pointer (some ⟨b, o + 2, none⟩)) w := fun b o w => by simp [Instr.fieldAt, run_underlying (show Tryz.prog.underlying 134 = some _ from Tryz.underlying134), Instr.sureAddr, fieldPlace, sz_132, addr_add]
theorem fa_181_0 : ∀ b o w, (Instr.fieldAt 181 (.pointer (some ⟨b, o, none⟩)) 0).run Tryz.prog w = .ok (.pointer (some ⟨b, o + 0, none⟩)) w := fun b o w => by simp [Instr.fieldAt, run_underlying (show Tryz.prog.underlying 181 = some _ from Tryz.underlying181), Instr.sureAddr, fieldPlace, sz_9, addr_add]
theorem fa_181_1 : ∀ b o w, (Instr.fieldAt 181 (.pointer (some ⟨b, o, none⟩)) 1).run Tryz.prog w = .ok (.pointer (some ⟨b, o + 1, none⟩)) w := fun b o w => by simp [Instr.fieldAt, run_underlying (show Tryz.prog.underlying 181 = some _ from Tryz.underlying181), Instr.sureAddr, fieldPlace, sz_3, addr_add]
theorem fa_181_2 : ∀ b o w, (Instr.fieldAt 181 (.pointer (some ⟨b, o, none⟩)) 2).run Tryz.prog w = .ok (.pointer (some ⟨b, o + 2, none⟩)) w := fun b o w => by simp [Instr.fieldAt, run_underlying (show Tryz.prog.underlying 181 = some _ from Tryz.underlying181), Instr.sureAddr, fieldPlace, sz_71, addr_add]
theorem fa_181_3 : ∀ b o w, (Instr.fieldAt 181 (.pointer (some ⟨b, o, none⟩)) 3).run Tryz.prog w = .ok (.pointer (some ⟨b, o + 3, none⟩)) w := fun b o w => by simp [Instr.fieldAt, run_underlying (show Tryz.prog.underlying 181 = some _ from Tryz.underlying181), Instr.sureAddr, fieldPlace, sz_33, addr_add]
theorem fa_188_0 : ∀ b o w, (Instr.fieldAt 188 (.pointer (some ⟨b, o, none⟩)) 0).run Tryz.prog w = .ok (.pointer (some ⟨b, o + 0, none⟩)) w := fun b o w => by simp [Instr.fieldAt, run_underlying (show Tryz.prog.underlying 188 = some _ from Tryz.underlying188), Instr.sureAddr, fieldPlace, sz_128, addr_add]
theorem fa_188_1 : ∀ b o w, (Instr.fieldAt 188 (.pointer (some ⟨b, o, none⟩)) 1).run Tryz.prog w = .ok (.pointer (some ⟨b, o + 1, none⟩)) w := fun b o w => by simp [Instr.fieldAt, run_underlying (show Tryz.prog.underlying 188 = some _ from Tryz.underlying188), Instr.sureAddr, fieldPlace, sz_185, addr_add]
theorem fa_188_2 : ∀ b o w, (Instr.fieldAt 188 (.pointer (some ⟨b, o, none⟩)) 2).run Tryz.prog w = .ok (.pointer (some ⟨b, o + 2, none⟩)) w := fun b o w => by simp [Instr.fieldAt, run_underlying (show Tryz.prog.underlying 188 = some _ from Tryz.underlying188), Instr.sureAddr, fieldPlace, sz_186, addr_add]
theorem fa_193_0 : ∀ b o w, (Instr.fieldAt 193 (.pointer (some ⟨b, o, none⟩)) 0).run Tryz.prog w = .ok (.pointer (some ⟨b, o + 0, none⟩)) w := fun b o w => by simp [Instr.fieldAt, run_underlying (show Tryz.prog.underlying 193 = some _ from Tryz.underlying193), Instr.sureAddr, fieldPlace, sz_182, addr_add]
theorem fa_193_1 : ∀ b o w, (Instr.fieldAt 193 (.pointer (some ⟨b, o, none⟩)) 1).run Tryz.prog w = .ok (.pointer (some ⟨b, o + 1, none⟩)) w := fun b o w => by simp [Instr.fieldAt, run_underlying (show Tryz.prog.underlying 193 = some _ from Tryz.underlying193), Instr.sureAddr, fieldPlace, sz_181, addr_add]
theorem fa_219_0 : ∀ b o w, (Instr.fieldAt 219 (.pointer (some ⟨b, o, none⟩)) 0).run Tryz.prog w = .ok (.pointer (some ⟨b, o + 0, none⟩)) w := fun b o w => by simp [Instr.fieldAt, run_underlying (show Tryz.prog.underlying 219 = some _ from Tryz.underlying219), Instr.sureAddr, fieldPlace, sz_3, addr_add]
theorem fa_228_1 : ∀ b o w, (Instr.fieldAt 228 (.pointer (some ⟨b, o, none⟩)) 1).run Tryz.prog w = .ok (.pointer (some ⟨b, o + 1, none⟩)) w := fun b o w => by simp [Instr.fieldAt, run_underlying (show Tryz.prog.underlying 228 = some _ from Tryz.underlying228), Instr.sureAddr, fieldPlace, sz_3, addr_add]
theorem fa_228_2 : ∀ b o w, (Instr.fieldAt 228 (.pointer (some ⟨b, o, none⟩)) 2).run Tryz.prog w = .ok (.pointer (some ⟨b, o + 2, none⟩)) w := fun b o w => by simp [Instr.fieldAt, run_underlying (show Tryz.prog.underlying 228 = some _ from Tryz.underlying228), Instr.sureAddr, fieldPlace, sz_3, addr_add]
theorem fa_228_3 : ∀ b o w, (Instr.fieldAt 228 (.pointer (some ⟨b, o, none⟩)) 3).run Tryz.prog w = .ok (.pointer (some ⟨b, o + 3, none⟩)) w := fun b o w => by simp [Instr.fieldAt, run_underlying (show Tryz.prog.underlying 228 = some _ from Tryz.underlying228), Instr.sureAddr, fieldPlace, sz_4, addr_add]
theorem fa_23_0 : ∀ b o w, (Instr.fieldAt 23 (.pointer (some ⟨b, o, none⟩)) 0).run Tryz.prog w = .ok (.pointer (some ⟨b, o + 0, none⟩)) w := fun b o w => by simp [Instr.fieldAt, run_underlying (show Tryz.prog.underlying 23 = some _ from Tryz.underlying23), Instr.sureAddr, fieldPlace, sz_3, addr_add]
theorem fa_23_1 : ∀ b o w, (Instr.fieldAt 23 (.pointer (some ⟨b, o, none⟩)) 1).run Tryz.prog w = .ok (.pointer (some ⟨b, o + 1, none⟩)) w := fun b o w => by simp [Instr.fieldAt, run_underlying (show Tryz.prog.underlying 23 = some _ from Tryz.underlying23), Instr.sureAddr, fieldPlace, sz_3, addr_add]
theorem fa_35_0 : ∀ b o w, (Instr.fieldAt 35 (.pointer (some ⟨b, o, none⟩)) 0).run Tryz.prog w = .ok (.pointer (some ⟨b, o + 0, none⟩)) w := fun b o w => by simp [Instr.fieldAt, run_underlying (show Tryz.prog.underlying 35 = some _ from Tryz.underlying35), Instr.sureAddr, fieldPlace, sz_32, addr_add]
theorem fa_35_1 : ∀ b o w, (Instr.fieldAt 35 (.pointer (some ⟨b, o, none⟩)) 1).run Tryz.prog w = .ok (.pointer (some ⟨b, o + 1, none⟩)) w := fun b o w => by simp [Instr.fieldAt, run_underlying (show Tryz.prog.underlying 35 = some _ from Tryz.underlying35), Instr.sureAddr, fieldPlace, sz_33, addr_add]
theorem fa_42_0 : ∀ b o w, (Instr.fieldAt 42 (.pointer (some ⟨b, o, none⟩)) 0).run Tryz.prog w = .ok (.pointer (some ⟨b, o + 0, none⟩)) w := fun b o w => by simp [Instr.fieldAt, run_underlying (show Tryz.prog.underlying 42 = some _ from Tryz.underlying42), Instr.sureAddr, fieldPlace, sz_3, addr_add]
theorem fa_42_1 : ∀ b o w, (Instr.fieldAt 42 (.pointer (some ⟨b, o, none⟩)) 1).run Tryz.prog w = .ok (.pointer (some ⟨b, o + 1, none⟩)) w := fun b o w => by simp [Instr.fieldAt, run_underlying (show Tryz.prog.underlying 42 = some _ from Tryz.underlying42), Instr.sureAddr, fieldPlace, sz_39, addr_add]
theorem fa_42_2 : ∀ b o w, (Instr.fieldAt 42 (.pointer (some ⟨b, o, none⟩)) 2).run Tryz.prog w = .ok (.pointer (some ⟨b, o + 2, none⟩)) w := fun b o w => by simp [Instr.fieldAt, run_underlying (show Tryz.prog.underlying 42 = some _ from Tryz.underlying42), Instr.sureAddr, fieldPlace, sz_39, addr_add]
theorem fa_42_3 : ∀ b o w, (Instr.fieldAt 42 (.pointer (some ⟨b, o, none⟩)) 3).run Tryz.prog w = .ok (.pointer (some ⟨b, o + 3, none⟩)) w := fun b o w => by simp [Instr.fieldAt, run_underlying (show Tryz.prog.underlying 42 = some _ from Tryz.underlying42), Instr.sureAddr, fieldPlace, sz_40, addr_add]
theorem fa_48_0 : ∀ b o w, (Instr.fieldAt 48 (.pointer (some ⟨b, o, none⟩)) 0).run Tryz.prog w = .ok (.pointer (some ⟨b, o + 0, none⟩)) w := fun b o w => by simp [Instr.fieldAt, run_underlying (show Tryz.prog.underlying 48 = some _ from Tryz.underlying48), Instr.sureAddr, fieldPlace, sz_5, addr_add]
theorem fa_48_1 : ∀ b o w, (Instr.fieldAt 48 (.pointer (some ⟨b, o, none⟩)) 1).run Tryz.prog w = .ok (.pointer (some ⟨b, o + 1, none⟩)) w := fun b o w => by simp [Instr.fieldAt, run_underlying (show Tryz.prog.underlying 48 = some _ from Tryz.underlying48), Instr.sureAddr, fieldPlace, sz_3, addr_add]
theorem fa_51_0 : ∀ b o w, (Instr.fieldAt 51 (.pointer (some ⟨b, o, none⟩)) 0).run Tryz.prog w = .ok (.pointer (some ⟨b, o + 0, none⟩)) w := fun b o w => by simp [Instr.fieldAt, run_underlying (show Tryz.prog.underlying 51 = some _ from Tryz.underlying51), Instr.sureAddr, fieldPlace, sz_3, addr_add]
theorem fa_51_1 : ∀ b o w, (Instr.fieldAt 51 (.pointer (some ⟨b, o, none⟩)) 1).run Tryz.prog w = .ok (.pointer (some ⟨b, o + 1, none⟩)) w := fun b o w => by simp [Instr.fieldAt, run_underlying (show Tryz.prog.underlying 51 = some _ from Tryz.underlying51), Instr.sureAddr, fieldPlace, sz_3, addr_add]
theorem fa_51_2 : ∀ b o w, (Instr.fieldAt 51 (.pointer (some ⟨b, o, none⟩)) 2).run Tryz.prog w = .ok (.pointer (some ⟨b, o + 2, none⟩)) w := fun b o w => by simp [Instr.fieldAt, run_underlying (show Tryz.prog.underlying 51 = some _ from Tryz.underlying51), Instr.sureAddr, fieldPlace, sz_3, addr_add]
theorem fa_51_3 : ∀ b o w, (Instr.fieldAt 51 (.pointer (some ⟨b, o, none⟩)) 3).run Tryz.prog w = .ok (.pointer (some ⟨b, o + 3, none⟩)) w := fun b o w => by simp [Instr.fieldAt, run_underlying (show Tryz.prog.underlying 51 = some _ from Tryz.underlying51), Instr.sureAddr, fieldPlace, sz_48, addr_add]
theorem fa_55_0 : ∀ b o w, (Instr.fieldAt 55 (.pointer (some ⟨b, o, none⟩)) 0).run Tryz.prog w = .ok (.pointer (some ⟨b, o + 0, none⟩)) w := fun b o w => by simp [Instr.fieldAt, run_underlying (show Tryz.prog.underlying 55 = some _ from Tryz.underlying55), Instr.sureAddr, fieldPlace, sz_3, addr_add]
theorem fa_55_1 : ∀ b o w, (Instr.fieldAt 55 (.pointer (some ⟨b, o, none⟩)) 1).run Tryz.prog w = .ok (.pointer (some ⟨b, o + 1, none⟩)) w := fun b o w => by simp [Instr.fieldAt, run_underlying (show Tryz.prog.underlying 55 = some _ from Tryz.underlying55), Instr.sureAddr, fieldPlace, sz_3, addr_add]
theorem fa_55_2 : ∀ b o w, (Instr.fieldAt 55 (.pointer (some ⟨b, o, none⟩)) 2).run Tryz.prog w = .ok (.pointer (some ⟨b, o + 2, none⟩)) w := fun b o w => by simp [Instr.fieldAt, run_underlying (show Tryz.prog.underlying 55 = some _ from Tryz.underlying55), Instr.sureAddr, fieldPlace, sz_53, addr_add]
theorem fa_59_0 : ∀ b o w, (Instr.fieldAt 59 (.pointer (some ⟨b, o, none⟩)) 0).run Tryz.prog w = .ok (.pointer (some ⟨b, o + 0, none⟩)) w := fun b o w => by simp [Instr.fieldAt, run_underlying (show Tryz.prog.underlying 59 = some _ from Tryz.underlying59), Instr.sureAddr, fieldPlace, sz_56, addr_add]
theorem fa_59_1 : ∀ b o w, (Instr.fieldAt 59 (.pointer (some ⟨b, o, none⟩)) 1).run Tryz.prog w = .ok (.pointer (some ⟨b, o + 1, none⟩)) w := fun b o w => by simp [Instr.fieldAt, run_underlying (show Tryz.prog.underlying 59 = some _ from Tryz.underlying59), Instr.sureAddr, fieldPlace, sz_57, addr_add]
theorem fa_67_0 : ∀ b o w, (Instr.fieldAt 67 (.pointer (some ⟨b, o, none⟩)) 0).run Tryz.prog w = .ok (.pointer (some ⟨b, o + 0, none⟩)) w := fun b o w => by simp [Instr.fieldAt, run_underlying (show Tryz.prog.underlying 67 = some _ from Tryz.underlying67), Instr.sureAddr, fieldPlace, sz_5, addr_add]
theorem fa_73_0 : ∀ b o w, (Instr.fieldAt 73 (.pointer (some ⟨b, o, none⟩)) 0).run Tryz.prog w = .ok (.pointer (some ⟨b, o + 0, none⟩)) w := fun b o w => by simp [Instr.fieldAt, run_underlying (show Tryz.prog.underlying 73 = some _ from Tryz.underlying73), Instr.sureAddr, fieldPlace, sz_5, addr_add]
theorem fa_73_1 : ∀ b o w, (Instr.fieldAt 73 (.pointer (some ⟨b, o, none⟩)) 1).run Tryz.prog w = .ok (.pointer (some ⟨b, o + 1, none⟩)) w := fun b o w => by simp [Instr.fieldAt, run_underlying (show Tryz.prog.underlying 73 = some _ from Tryz.underlying73), Instr.sureAddr, fieldPlace, sz_9, addr_add]
theorem fa_73_2 : ∀ b o w, (Instr.fieldAt 73 (.pointer (some ⟨b, o, none⟩)) 2).run Tryz.prog w = .ok (.pointer (some ⟨b, o + 2, none⟩)) w := fun b o w => by simp [Instr.fieldAt, run_underlying (show Tryz.prog.underlying 73 = some _ from Tryz.underlying73), Instr.sureAddr, fieldPlace, sz_3, addr_add]
theorem fa_73_3 : ∀ b o w, (Instr.fieldAt 73 (.pointer (some ⟨b, o, none⟩)) 3).run Tryz.prog w = .ok (.pointer (some ⟨b, o + 3, none⟩)) w := fun b o w => by simp [Instr.fieldAt, run_underlying (show Tryz.prog.underlying 73 = some _ from Tryz.underlying73), Instr.sureAddr, fieldPlace, sz_71, addr_add]
theorem fa_75_0 : ∀ b o w, (Instr.fieldAt 75 (.pointer (some ⟨b, o, none⟩)) 0).run Tryz.prog w = .ok (.pointer (some ⟨b, o + 0, none⟩)) w := fun b o w => by simp [Instr.fieldAt, run_underlying (show Tryz.prog.underlying 75 = some _ from Tryz.underlying75), Instr.sureAddr, fieldPlace, sz_3, addr_add]
theorem fa_75_1 : ∀ b o w, (Instr.fieldAt 75 (.pointer (some ⟨b, o, none⟩)) 1).run Tryz.prog w = .ok (.pointer (some ⟨b, o + 1, none⟩)) w := fun b o w => by simp [Instr.fieldAt, run_underlying (show Tryz.prog.underlying 75 = some _ from Tryz.underlying75), Instr.sureAddr, fieldPlace, sz_3, addr_add]
theorem fa_78_0 : ∀ b o w, (Instr.fieldAt 78 (.pointer (some ⟨b, o, none⟩)) 0).run Tryz.prog w = .ok (.pointer (some ⟨b, o + 0, none⟩)) w := fun b o w => by simp [Instr.fieldAt, run_underlying (show Tryz.prog.underlying 78 = some _ from Tryz.underlying78), Instr.sureAddr, fieldPlace, sz_9, addr_add]
theorem fa_78_1 : ∀ b o w, (Instr.fieldAt 78 (.pointer (some ⟨b, o, none⟩)) 1).run Tryz.prog w = .ok (.pointer (some ⟨b, o + 1, none⟩)) w := fun b o w => by simp [Instr.fieldAt, run_underlying (show Tryz.prog.underlying 78 = some _ from Tryz.underlying78), Instr.sureAddr, fieldPlace, sz_3, addr_add]
theorem fa_78_2 : ∀ b o w, (Instr.fieldAt 78 (.pointer (some ⟨b, o, none⟩)) 2).run Tryz.prog w = .ok (.pointer (some ⟨b, o + 2, none⟩)) w := fun b o w => by simp [Instr.fieldAt, run_underlying (show Tryz.prog.underlying 78 = some _ from Tryz.underlying78), Instr.sureAddr, fieldPlace, sz_3, addr_add]
theorem fa_78_3 : ∀ b o w, (Instr.fieldAt 78 (.pointer (some ⟨b, o, none⟩)) 3).run Tryz.prog w = .ok (.pointer (some ⟨b, o + 3, none⟩)) w := fun b o w => by simp [Instr.fieldAt, run_underlying (show Tryz.prog.underlying 78 = some _ from Tryz.underlying78), Instr.sureAddr, fieldPlace, sz_3, addr_add]
theorem fa_78_4 : ∀ b o w, (Instr.fieldAt 78 (.pointer (some ⟨b, o, none⟩)) 4).run Tryz.prog w = .ok (.pointer (some ⟨b, o + 4, none⟩)) w := fun b o w => by simp [Instr.fieldAt, run_underlying (show Tryz.prog.underlying 78 = some _ from Tryz.underlying78), Instr.sureAddr, fieldPlace, sz_4, addr_add]
theorem fa_78_5 : ∀ b o w, (Instr.fieldAt 78 (.pointer (some ⟨b, o, none⟩)) 5).run Tryz.prog w = .ok (.pointer (some ⟨b, o + 5, none⟩)) w := fun b o w => by simp [Instr.fieldAt, run_underlying (show Tryz.prog.underlying 78 = some _ from Tryz.underlying78), Instr.sureAddr, fieldPlace, sz_71, addr_add]
theorem fa_80_0 : ∀ b o w, (Instr.fieldAt 80 (.pointer (some ⟨b, o, none⟩)) 0).run Tryz.prog w = .ok (.pointer (some ⟨b, o + 0, none⟩)) w := fun b o w => by simp [Instr.fieldAt, run_underlying (show Tryz.prog.underlying 80 = some _ from Tryz.underlying80), Instr.sureAddr, fieldPlace, sz_35, addr_add]
theorem fa_90_0 : ∀ b o w, (Instr.fieldAt 90 (.pointer (some ⟨b, o, none⟩)) 0).run Tryz.prog w = .ok (.pointer (some ⟨b, o + 0, none⟩)) w := fun b o w => by simp [Instr.fieldAt, run_underlying (show Tryz.prog.underlying 90 = some _ from Tryz.underlying90), Instr.sureAddr, fieldPlace, sz_80, addr_add]
theorem fa_90_1 : ∀ b o w, (Instr.fieldAt 90 (.pointer (some ⟨b, o, none⟩)) 1).run Tryz.prog w = .ok (.pointer (some ⟨b, o + 2, none⟩)) w := fun b o w => by simp [Instr.fieldAt, run_underlying (show Tryz.prog.underlying 90 = some _ from Tryz.underlying90), Instr.sureAddr, fieldPlace, sz_42, addr_add]
theorem mv_114 : MapVT Tryz.prog 114 5 5 kU (.int .u8 0) := ⟨Tryz.underlying114, fun _ => by kernel_rfl, ⟨_, Tryz.underlying5, kU_key⟩, fun e k w => by cases e <;> kernel_rfl⟩
theorem mv_135 : MapVT Tryz.prog 135 9 134 kS (.agg #[.int .i64 0, .slice none 0 0, .nilFunc]) := ⟨Tryz.underlying135, fun _ => by kernel_rfl, ⟨_, Tryz.underlying9, kS_key⟩, fun e k w => by cases e <;> kernel_rfl⟩
theorem mv_185 : MapVT Tryz.prog 185 9 3 kS (.int .i64 0) := ⟨Tryz.underlying185, fun _ => by kernel_rfl, ⟨_, Tryz.underlying9, kS_key⟩, fun e k w => by cases e <;> kernel_rfl⟩
theorem mv_186 : MapVT Tryz.prog 186 5 228 kU (.agg #[.string ⟨#[]⟩, .int .i64 0, .int .i64 0, .bool false, .bool false]) := ⟨Tryz.underlying186, fun _ => by kernel_rfl, ⟨_, Tryz.underlying5, kU_key⟩, fun e k w => by cases e <;> kernel_rfl⟩
theorem mv_97 : MapVT Tryz.prog 97 5 3 kU (.int .i64 0) := ⟨Tryz.underlying97, fun _ => by kernel_rfl, ⟨_, Tryz.underlying5, kU_key⟩, fun e k w => by cases e <;> kernel_rfl⟩
theorem neq_48 : ∀ (x1 : Int) (x2 : Int) (x3 : Int) (x4 : Int) (w : World), (binOp .neq 48 (.agg #[.int .u8 x1, .int .i64 x2]) (.agg #[.int .u8 x3, .int .i64 x4])).run Tryz.prog w = .ok (.bool (decide (¬ (x1 = x3 ∧ x2 = x4)))) w := by
  intros; simp [go_sem, Tryz.underlying3, Tryz.underlying5, Tryz.underlying48]; (repeat' split) <;> simp_all
theorem gneq_48 : ∀ (x1 : Int) (x2 : Int) (x3 : Int) (x4 : Int) (x y : Operand) (w : World), (eqGuard .neq 48 x y (.agg #[.int .u8 x1, .int .i64 x2]) (.agg #[.int .u8 x3, .int .i64 x4])).run Tryz.prog w = .ok () w := by
  intros; exact run_eqGuard_agg _ _ _ _ _ _ _ (by kernel_rfl)
theorem neq_51 : ∀ (x1 : Int) (x2 : Int) (x3 : Int) (x4 : Int) (x5 : Int) (x6 : Int) (x7 : Int) (x8 : Int) (x9 : Int) (x10 : Int) (w : World), (binOp .neq 51 (.agg #[.int .i64 x1, .int .i64 x2, .int .i64 x3, .int .u8 x4, .int .i64 x5]) (.agg #[.int .i64 x6, .int .i64 x7, .int .i64 x8, .int .u8 x9, .int .i64 x10])).run Tryz.prog w = .ok (.bool (decide (¬ (x1 = x6 ∧ x2 = x7 ∧ x3 = x8 ∧ x4 = x9 ∧ x5 = x10)))) w := by
  intros; simp [go_sem, Tryz.underlying3, Tryz.underlying5, Tryz.underlying48, Tryz.underlying51]; (repeat' split) <;> simp_all
theorem gneq_51 : ∀ (x1 : Int) (x2 : Int) (x3 : Int) (x4 : Int) (x5 : Int) (x6 : Int) (x7 : Int) (x8 : Int) (x9 : Int) (x10 : Int) (x y : Operand) (w : World), (eqGuard .neq 51 x y (.agg #[.int .i64 x1, .int .i64 x2, .int .i64 x3, .int .u8 x4, .int .i64 x5]) (.agg #[.int .i64 x6, .int .i64 x7, .int .i64 x8, .int .u8 x9, .int .i64 x10])).run Tryz.prog w = .ok () w := by
  intros; exact run_eqGuard_agg _ _ _ _ _ _ _ (by kernel_rfl)
theorem neq_75 : ∀ (x1 : Int) (x2 : Int) (x3 : Int) (x4 : Int) (w : World), (binOp .neq 75 (.agg #[.int .i64 x1, .int .i64 x2]) (.agg #[.int .i64 x3, .int .i64 x4])).run Tryz.prog w = .ok (.bool (decide (¬ (x1 = x3 ∧ x2 = x4)))) w := by
  intros; simp [go_sem, Tryz.underlying3, Tryz.underlying75]; (repeat' split) <;> simp_all
theorem gneq_75 : ∀ (x1 : Int) (x2 : Int) (x3 : Int) (x4 : Int) (x y : Operand) (w : World), (eqGuard .neq 75 x y (.agg #[.int .i64 x1, .int .i64 x2]) (.agg #[.int .i64 x3, .int .i64 x4])).run Tryz.prog w = .ok () w := by
  intros; exact run_eqGuard_agg _ _ _ _ _ _ _ (by kernel_rfl)
theorem ti_181 : TI Tryz.prog 181 [.string ⟨#[]⟩, .int .i64 0, .slice none 0 0, .slice none 0 0] 4 72 := TI.of (u := .agg #[.string ⟨#[]⟩, .int .i64 0, .slice none 0 0, .slice none 0 0]) (by kernel_rfl) rfl
theorem ti_209 : TI Tryz.prog 209 [.int .u8 0, .int .i64 0] 2 16 := TI.of (u := .agg #[.int .u8 0, .int .i64 0]) (by kernel_rfl) rfl
theorem ti_23 : TI Tryz.prog 23 [.int .i64 0, .int .i64 0] 2 16 := TI.of (u := .agg #[.int .i64 0, .int .i64 0]) (by kernel_rfl) rfl
theorem ti_48 : TI Tryz.prog 48 [.int .u8 0, .int .i64 0] 2 16 := TI.of (u := .agg #[.int .u8 0, .int .i64 0]) (by kernel_rfl) rfl
theorem ti_51 : TI Tryz.prog 51 [.int .i64 0, .int .i64 0, .int .i64 0, .int .u8 0, .int .i64 0] 5 40 := TI.of (u := .agg #[.int .i64 0, .int .i64 0, .int .i64 0, .int .u8 0, .int .i64 0]) (by kernel_rfl) rfl
theorem ti_55 : TI Tryz.prog 55 [.int .i64 0, .int .i64 0, .slice none 0 0] 3 40 := TI.of (u := .agg #[.int .i64 0, .int .i64 0, .slice none 0 0]) (by kernel_rfl) rfl
theorem ti_73 : TI Tryz.prog 73 [.int .u8 0, .string ⟨#[]⟩, .int .i64 0, .slice none 0 0] 4 56 := TI.of (u := .agg #[.int .u8 0, .string ⟨#[]⟩, .int .i64 0, .slice none 0 0]) (by kernel_rfl) rfl
theorem ti_75 : TI Tryz.prog 75 [.int .i64 0, .int .i64 0] 2 16 := TI.of (u := .agg #[.int .i64 0, .int .i64 0]) (by kernel_rfl) rfl
theorem ti_76 : TI Tryz.prog 76 [.slice none 0 0] 1 24 := TI.of (u := .slice none 0 0) (by kernel_rfl) rfl
theorem ti_78 : TI Tryz.prog 78 [.string ⟨#[]⟩, .int .i64 0, .int .i64 0, .int .i64 0, .bool false, .slice none 0 0] 6 72 := TI.of (u := .agg #[.string ⟨#[]⟩, .int .i64 0, .int .i64 0, .int .i64 0, .bool false, .slice none 0 0]) (by kernel_rfl) rfl
theorem ze_104 : ∀ w, ∃ u : Value, u.cells = ([.pointer none] : List Value).toArray ∧ (zeroValue 104).run Tryz.prog w = .ok u w := fun _ => ⟨.pointer none, rfl, by kernel_rfl⟩
theorem ze_134 : ∀ w, ∃ u : Value, u.cells = ([.int .i64 0, .slice none 0 0, .nilFunc] : List Value).toArray ∧ (zeroValue 134).run Tryz.prog w = .ok u w := fun _ => ⟨.agg #[.int .i64 0, .slice none 0 0, .nilFunc], rfl, by kernel_rfl⟩
theorem ze_181 : ∀ w, ∃ u : Value, u.cells = ([.string ⟨#[]⟩, .int .i64 0, .slice none 0 0, .slice none 0 0] : List Value).toArray ∧ (zeroValue 181).run Tryz.prog w = .ok u w := fun _ => ⟨.agg #[.string ⟨#[]⟩, .int .i64 0, .slice none 0 0, .slice none 0 0], rfl, by kernel_rfl⟩
theorem ze_193 : ∀ w, ∃ u : Value, u.cells = ([.pointer none, .string ⟨#[]⟩, .int .i64 0, .slice none 0 0, .slice none 0 0] : List Value).toArray ∧ (zeroValue 193).run Tryz.prog w = .ok u w := fun _ => ⟨.agg #[.pointer none, .string ⟨#[]⟩, .int .i64 0, .slice none 0 0, .slice none 0 0], rfl, by kernel_rfl⟩
theorem ze_209 : ∀ w, ∃ u : Value, u.cells = ([.int .u8 0, .int .i64 0] : List Value).toArray ∧ (zeroValue 209).run Tryz.prog w = .ok u w := fun _ => ⟨.agg #[.int .u8 0, .int .i64 0], rfl, by kernel_rfl⟩
theorem ze_214 : ∀ w, ∃ u : Value, u.cells = ([.map none] : List Value).toArray ∧ (zeroValue 214).run Tryz.prog w = .ok u w := fun _ => ⟨.map none, rfl, by kernel_rfl⟩
theorem ze_219 : ∀ w, ∃ u : Value, u.cells = ([.int .i64 0, .int .i64 0] : List Value).toArray ∧ (zeroValue 219).run Tryz.prog w = .ok u w := fun _ => ⟨.agg #[.int .i64 0, .int .i64 0], rfl, by kernel_rfl⟩
theorem ze_228 : ∀ w, ∃ u : Value, u.cells = ([.string ⟨#[]⟩, .int .i64 0, .int .i64 0, .bool false, .bool false] : List Value).toArray ∧ (zeroValue 228).run Tryz.prog w = .ok u w := fun _ => ⟨.agg #[.string ⟨#[]⟩, .int .i64 0, .int .i64 0, .bool false, .bool false], rfl, by kernel_rfl⟩
theorem ze_23 : ∀ w, ∃ u : Value, u.cells = ([.int .i64 0, .int .i64 0] : List Value).toArray ∧ (zeroValue 23).run Tryz.prog w = .ok u w := fun _ => ⟨.agg #[.int .i64 0, .int .i64 0], rfl, by kernel_rfl⟩
theorem ze_24 : ∀ w, ∃ u : Value, u.cells = ([.int .i64 0] : List Value).toArray ∧ (zeroValue 24).run Tryz.prog w = .ok u w := fun _ => ⟨.int .i64 0, rfl, by kernel_rfl⟩
theorem ze_3 : ∀ w, ∃ u : Value, u.cells = ([.int .i64 0] : List Value).toArray ∧ (zeroValue 3).run Tryz.prog w = .ok u w := fun _ => ⟨.int .i64 0, rfl, by kernel_rfl⟩
theorem ze_35 : ∀ w, ∃ u : Value, u.cells = ([.slice none 0 0, .slice none 0 0] : List Value).toArray ∧ (zeroValue 35).run Tryz.prog w = .ok u w := fun _ => ⟨.agg #[.slice none 0 0, .slice none 0 0], rfl, by kernel_rfl⟩
theorem ze_39 : ∀ w, ∃ u : Value, u.cells = ([.slice none 0 0] : List Value).toArray ∧ (zeroValue 39).run Tryz.prog w = .ok u w := fun _ => ⟨.slice none 0 0, rfl, by kernel_rfl⟩
theorem ze_4 : ∀ w, ∃ u : Value, u.cells = ([.bool false] : List Value).toArray ∧ (zeroValue 4).run Tryz.prog w = .ok u w := fun _ => ⟨.bool false, rfl, by kernel_rfl⟩
theorem ze_42 : ∀ w, ∃ u : Value, u.cells = ([.int .i64 0, .slice none 0 0, .slice none 0 0, .slice none 0 0] : List Value).toArray ∧ (zeroValue 42).run Tryz.prog w = .ok u w := fun _ => ⟨.agg #[.int .i64 0, .slice none 0 0, .slice none 0 0, .slice none 0 0], rfl, by kernel_rfl⟩
theorem ze_48 : ∀ w, ∃ u : Value, u.cells = ([.int .u8 0, .int .i64 0] : List Value).toArray ∧ (zeroValue 48).run Tryz.prog w = .ok u w := fun _ => ⟨.agg #[.int .u8 0, .int .i64 0], rfl, by kernel_rfl⟩
theorem ze_5 : ∀ w, ∃ u : Value, u.cells = ([.int .u8 0] : List Value).toArray ∧ (zeroValue 5).run Tryz.prog w = .ok u w := fun _ => ⟨.int .u8 0, rfl, by kernel_rfl⟩
theorem ze_51 : ∀ w, ∃ u : Value, u.cells = ([.int .i64 0, .int .i64 0, .int .i64 0, .int .u8 0, .int .i64 0] : List Value).toArray ∧ (zeroValue 51).run Tryz.prog w = .ok u w := fun _ => ⟨.agg #[.int .i64 0, .int .i64 0, .int .i64 0, .int .u8 0, .int .i64 0], rfl, by kernel_rfl⟩
theorem ze_55 : ∀ w, ∃ u : Value, u.cells = ([.int .i64 0, .int .i64 0, .slice none 0 0] : List Value).toArray ∧ (zeroValue 55).run Tryz.prog w = .ok u w := fun _ => ⟨.agg #[.int .i64 0, .int .i64 0, .slice none 0 0], rfl, by kernel_rfl⟩
theorem ze_59 : ∀ w, ∃ u : Value, u.cells = ([.slice none 0 0, .slice none 0 0] : List Value).toArray ∧ (zeroValue 59).run Tryz.prog w = .ok u w := fun _ => ⟨.agg #[.slice none 0 0, .slice none 0 0], rfl, by kernel_rfl⟩
theorem ze_67 : ∀ w, ∃ u : Value, u.cells = ([.int .u8 0, .int .i64 0, .int .i64 0, .slice none 0 0] : List Value).toArray ∧ (zeroValue 67).run Tryz.prog w = .ok u w := fun _ => ⟨.agg #[.int .u8 0, .int .i64 0, .int .i64 0, .slice none 0 0], rfl, by kernel_rfl⟩
theorem ze_73 : ∀ w, ∃ u : Value, u.cells = ([.int .u8 0, .string ⟨#[]⟩, .int .i64 0, .slice none 0 0] : List Value).toArray ∧ (zeroValue 73).run Tryz.prog w = .ok u w := fun _ => ⟨.agg #[.int .u8 0, .string ⟨#[]⟩, .int .i64 0, .slice none 0 0], rfl, by kernel_rfl⟩
theorem ze_75 : ∀ w, ∃ u : Value, u.cells = ([.int .i64 0, .int .i64 0] : List Value).toArray ∧ (zeroValue 75).run Tryz.prog w = .ok u w := fun _ => ⟨.agg #[.int .i64 0, .int .i64 0], rfl, by kernel_rfl⟩
theorem ze_76 : ∀ w, ∃ u : Value, u.cells = ([.slice none 0 0] : List Value).toArray ∧ (zeroValue 76).run Tryz.prog w = .ok u w := fun _ => ⟨.slice none 0 0, rfl, by kernel_rfl⟩
theorem ze_78 : ∀ w, ∃ u : Value, u.cells = ([.string ⟨#[]⟩, .int .i64 0, .int .i64 0, .int .i64 0, .bool false, .slice none 0 0] : List Value).toArray ∧ (zeroValue 78).run Tryz.prog w = .ok u w := fun _ => ⟨.agg #[.string ⟨#[]⟩, .int .i64 0, .int .i64 0, .int .i64 0, .bool false, .slice none 0 0], rfl, by kernel_rfl⟩
theorem ze_80 : ∀ w, ∃ u : Value, u.cells = ([.slice none 0 0, .slice none 0 0] : List Value).toArray ∧ (zeroValue 80).run Tryz.prog w = .ok u w := fun _ => ⟨.agg #[.slice none 0 0, .slice none 0 0], rfl, by kernel_rfl⟩
theorem mg_170 : MapG Tryz.prog 170 23 4 kD (.bool false) := MapG.ofD Tryz.underlying170 (fun _ => by kernel_rfl) ⟨_, Tryz.underlying23⟩ (fun e x y w => by cases e <;> kernel_rfl) (fun x1 x2 x3 x4 w => equal_of_bin (eql_23 x1 x2 x3 x4 w))
theorem mg_214 : MapG Tryz.prog 214 75 219 kD (.agg #[.int .i64 0, .int .i64 0]) := MapG.ofD Tryz.underlying214 (fun _ => by kernel_rfl) ⟨_, Tryz.underlying75⟩ (fun e x y w => by cases e <;> kernel_rfl) (fun x1 x2 x3 x4 w => equal_of_bin (eql_75 x1 x2 x3 x4 w))
end Go.Proofs.YtgnnegfnpgnbbaaGreatDoor
