/- For the proofs: the types, as far as they are asked (printed by a program). -/
import Derived.Test.YteeopipgglngmaaA4
import Derived.Test.YteeopipgglngmaaProg
import Derived.KernelRfl
set_option linter.all false
namespace Go.Aw
open Go Go.Proofs.Try

theorem ix22 : ixI prog 22 = some (none, 1) := by kernel_rfl
theorem ix29 : ixI prog 29 = some (none, 6) := by kernel_rfl
theorem ix33 : ixI prog 33 = some (none, 1) := by kernel_rfl
theorem ix35 : ixI prog 35 = some (none, 1) := by kernel_rfl
theorem ix40 : ixI prog 40 = some (none, 6) := by kernel_rfl
theorem ix47 : ixI prog 47 = some (none, 2) := by kernel_rfl
theorem ix53 : ixI prog 53 = some (none, 1) := by kernel_rfl
theorem ix57 : ixI prog 57 = some (none, 6) := by kernel_rfl
theorem ld3 : ldI prog 3 = some none := by kernel_rfl
theorem ld4 : ldI prog 4 = some none := by kernel_rfl
theorem ld22 : ldI prog 22 = some none := by kernel_rfl
theorem ld33 : ldI prog 33 = some none := by kernel_rfl
theorem ld35 : ldI prog 35 = some none := by kernel_rfl
theorem ld40 : ldI prog 40 = some none := by kernel_rfl
theorem ld42 : ldI prog 42 = some (some 6) := by kernel_rfl
theorem ld47 : ldI prog 47 = some none := by kernel_rfl
theorem ld57 : ldI prog 57 = some none := by kernel_rfl
theorem ld64 : ldI prog 64 = some (some 6) := by kernel_rfl
theorem ld65 : ldI prog 65 = some none := by kernel_rfl
theorem ld69 : ldI prog 69 = some (some 6) := by kernel_rfl
theorem sz3 : szI prog 3 = some 1 := by kernel_rfl
theorem sz4 : szI prog 4 = some 1 := by kernel_rfl
theorem sz22 : szI prog 22 = some 1 := by kernel_rfl
theorem sz35 : szI prog 35 = some 1 := by kernel_rfl
theorem sz42 : szI prog 42 = some 6 := by kernel_rfl
theorem sz47 : szI prog 47 = some 1 := by kernel_rfl
theorem sz57 : szI prog 57 = some 1 := by kernel_rfl
theorem sz64 : szI prog 64 = some 6 := by kernel_rfl
theorem sz69 : szI prog 69 = some 6 := by kernel_rfl
theorem fl42_5 : flI prog 42 5 = some (5, none) := by kernel_rfl
theorem fl49_0 : flI prog 49 0 = some (0, none) := by kernel_rfl
theorem fl49_1 : flI prog 49 1 = some (1, none) := by kernel_rfl
theorem fl49_2 : flI prog 49 2 = some (2, none) := by kernel_rfl
theorem fl49_3 : flI prog 49 3 = some (3, none) := by kernel_rfl
theorem fl49_4 : flI prog 49 4 = some (4, none) := by kernel_rfl
theorem fl49_5 : flI prog 49 5 = some (5, none) := by kernel_rfl
theorem fl49_6 : flI prog 49 6 = some (6, none) := by kernel_rfl
theorem fl64_0 : flI prog 64 0 = some (0, none) := by kernel_rfl
theorem fl69_0 : flI prog 69 0 = some (0, none) := by kernel_rfl
theorem fl69_5 : flI prog 69 5 = some (5, none) := by kernel_rfl
theorem fl73_0 : flI prog 73 0 = some (0, none) := by kernel_rfl
theorem fl73_1 : flI prog 73 1 = some (1, none) := by kernel_rfl
theorem zr3 : zrI prog 3 = some [AV.int IntKind.i64 0] := by kernel_rfl
theorem zr42 : zrI prog 42 = some [AV.str ⟨#[]⟩, AV.nils, AV.int IntKind.u8 0, AV.nils, AV.nils, AV.nils] := by kernel_rfl
theorem zr64 : zrI prog 64 = some [AV.nils, AV.int IntKind.u8 0, AV.int IntKind.i64 0, AV.int IntKind.i64 0, AV.int IntKind.i64 0, AV.int IntKind.u8 0] := by kernel_rfl
theorem zr69 : zrI prog 69 = some [AV.int IntKind.u8 0, AV.int IntKind.u8 0, AV.int IntKind.i64 0, AV.nils, AV.int IntKind.u64 0, AV.int IntKind.i64 0] := by kernel_rfl
theorem el22 : elI prog 22 = some (1, 24, [AV.nils]) := by kernel_rfl
theorem el29 : elI prog 29 = some (6, 120, [AV.str ⟨#[]⟩, AV.nils, AV.int IntKind.u8 0, AV.nils, AV.nils, AV.nils]) := by kernel_rfl
theorem el33 : elI prog 33 = some (1, 1, [AV.bool false]) := by kernel_rfl
theorem el35 : elI prog 35 = some (1, 8, [AV.int IntKind.i64 0]) := by kernel_rfl
theorem el40 : elI prog 40 = some (6, 64, [AV.nils, AV.int IntKind.u8 0, AV.int IntKind.i64 0, AV.int IntKind.i64 0, AV.int IntKind.i64 0, AV.int IntKind.u8 0]) := by kernel_rfl
theorem el47 : elI prog 47 = some (2, 16, [AV.int IntKind.i64 0, AV.int IntKind.i64 0]) := by kernel_rfl
theorem el53 : elI prog 53 = some (1, 24, [AV.nils]) := by kernel_rfl
theorem el57 : elI prog 57 = some (6, 56, [AV.int IntKind.u8 0, AV.int IntKind.u8 0, AV.int IntKind.i64 0, AV.nils, AV.int IntKind.u64 0, AV.int IntKind.i64 0]) := by kernel_rfl
theorem bl42 : blI prog 42 = true := by kernel_rfl
theorem fp42_0 : fpI prog 42 0 = some (0, 1) := by kernel_rfl
theorem fp42_1 : fpI prog 42 1 = some (1, 1) := by kernel_rfl
theorem fp42_2 : fpI prog 42 2 = some (2, 1) := by kernel_rfl
theorem fp42_3 : fpI prog 42 3 = some (3, 1) := by kernel_rfl
theorem fp42_4 : fpI prog 42 4 = some (4, 1) := by kernel_rfl
theorem fp42_5 : fpI prog 42 5 = some (5, 1) := by kernel_rfl
theorem bl49 : blI prog 49 = true := by kernel_rfl
theorem zr49 : zrI prog 49 = some [AV.nils, AV.nils, AV.nils, AV.nils, AV.nils, AV.nils, AV.nils] := by kernel_rfl
theorem fp49_0 : fpI prog 49 0 = some (0, 1) := by kernel_rfl
theorem fp49_1 : fpI prog 49 1 = some (1, 1) := by kernel_rfl
theorem fp49_2 : fpI prog 49 2 = some (2, 1) := by kernel_rfl
theorem fp49_3 : fpI prog 49 3 = some (3, 1) := by kernel_rfl
theorem fp49_4 : fpI prog 49 4 = some (4, 1) := by kernel_rfl
theorem bl64 : blI prog 64 = true := by kernel_rfl
theorem bl69 : blI prog 69 = true := by kernel_rfl
theorem fp69_0 : fpI prog 69 0 = some (0, 1) := by kernel_rfl
theorem fp69_1 : fpI prog 69 1 = some (1, 1) := by kernel_rfl
theorem fp69_2 : fpI prog 69 2 = some (2, 1) := by kernel_rfl
theorem fp69_3 : fpI prog 69 3 = some (3, 1) := by kernel_rfl
theorem fp69_4 : fpI prog 69 4 = some (4, 1) := by kernel_rfl
theorem fp69_5 : fpI prog 69 5 = some (5, 1) := by kernel_rfl
theorem bl73 : blI prog 73 = true := by kernel_rfl
theorem zr73 : zrI prog 73 = some [AV.int IntKind.i64 0, AV.int IntKind.i64 0] := by kernel_rfl
theorem fp73_0 : fpI prog 73 0 = some (0, 1) := by kernel_rfl
theorem fp73_1 : fpI prog 73 1 = some (1, 1) := by kernel_rfl
theorem follows : prog.follows .mixedOrders = true := by kernel_rfl
end Go.Aw
