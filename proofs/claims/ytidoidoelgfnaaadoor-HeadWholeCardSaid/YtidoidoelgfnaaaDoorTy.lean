/- Facts of the types and functions of this seat's program, each by the kernel. -/
import Derived.Test.YtidoidoelgfnaaaDoorProg
import Derived.Test.YtidoidoelgfnaaaDoorSl8
namespace Go.Proofs.YtidoidoelgfnaaaDoor.Ty
open Go.Proofs.YtidoidoelgfnaaaDoor.SL
theorem ag2 : aggB Tryd.prog 2 = some false := by kernel_rfl
theorem sz2 : sizeB Tryd.prog 2 = some 1 := by kernel_rfl
theorem zr2 : zeroB Tryd.prog 2 = some (Value.int .i64 0) := by kernel_rfl
theorem ag3 : aggB Tryd.prog 3 = some false := by kernel_rfl
theorem ag4 : aggB Tryd.prog 4 = some false := by kernel_rfl
theorem sz4 : sizeB Tryd.prog 4 = some 1 := by kernel_rfl
theorem sz5 : sizeB Tryd.prog 5 = some 1 := by kernel_rfl
theorem by5 : (Tryd.prog.info? 5).map (·.bytes) = some 1 := by kernel_rfl
theorem zr5 : zeroB Tryd.prog 5 = some (Value.int .u8 0) := by kernel_rfl
theorem ag9 : aggB Tryd.prog 9 = some false := by kernel_rfl
theorem ag23 : aggB Tryd.prog 23 = some false := by kernel_rfl
theorem sz23 : sizeB Tryd.prog 23 = some 1 := by kernel_rfl
theorem ag24 : aggB Tryd.prog 24 = some false := by kernel_rfl
theorem sz24 : sizeB Tryd.prog 24 = some 1 := by kernel_rfl
theorem ag26 : aggB Tryd.prog 26 = some true := by kernel_rfl
theorem sz26 : sizeB Tryd.prog 26 = some 5 := by kernel_rfl
theorem zr26 : zeroB Tryd.prog 26 = some (Value.agg #[Value.int .i64 0, Value.slice none 0 0, Value.slice none 0 0, Value.int .i64 0, Value.int .i64 0]) := by kernel_rfl
theorem ag30 : aggB Tryd.prog 30 = some false := by kernel_rfl
theorem ag32 : aggB Tryd.prog 32 = some false := by kernel_rfl
theorem sz32 : sizeB Tryd.prog 32 = some 1 := by kernel_rfl
theorem zr32 : zeroB Tryd.prog 32 = some (Value.int .i64 0) := by kernel_rfl
theorem ag37 : aggB Tryd.prog 37 = some false := by kernel_rfl
theorem ag38 : aggB Tryd.prog 38 = some false := by kernel_rfl
theorem sz38 : sizeB Tryd.prog 38 = some 1 := by kernel_rfl
theorem ag40 : aggB Tryd.prog 40 = some true := by kernel_rfl
theorem sz40 : sizeB Tryd.prog 40 = some 3 := by kernel_rfl
theorem by40 : (Tryd.prog.info? 40).map (·.bytes) = some 40 := by kernel_rfl
theorem zr40 : zeroB Tryd.prog 40 = some (Value.agg #[Value.slice none 0 0, Value.int .i64 0, Value.int .u64 0]) := by kernel_rfl
theorem ag45 : aggB Tryd.prog 45 = some false := by kernel_rfl
theorem sz45 : sizeB Tryd.prog 45 = some 1 := by kernel_rfl
theorem zr45 : zeroB Tryd.prog 45 = some (Value.slice none 0 0) := by kernel_rfl
theorem ag47 : aggB Tryd.prog 47 = some false := by kernel_rfl
theorem sz47 : sizeB Tryd.prog 47 = some 1 := by kernel_rfl
theorem sz49 : sizeB Tryd.prog 49 = some 2 := by kernel_rfl
theorem by49 : (Tryd.prog.info? 49).map (·.bytes) = some 48 := by kernel_rfl
theorem zr49 : zeroB Tryd.prog 49 = some (Value.agg #[Value.slice none 0 0, Value.slice none 0 0]) := by kernel_rfl
theorem ag51 : aggB Tryd.prog 51 = some true := by kernel_rfl
theorem sz51 : sizeB Tryd.prog 51 = some 2 := by kernel_rfl
theorem by51 : (Tryd.prog.info? 51).map (·.bytes) = some 16 := by kernel_rfl
theorem zr51 : zeroB Tryd.prog 51 = some (Value.agg #[Value.int .i64 0, Value.int .u64 0]) := by kernel_rfl
theorem ag53 : aggB Tryd.prog 53 = some true := by kernel_rfl
theorem sz53 : sizeB Tryd.prog 53 = some 2 := by kernel_rfl
theorem by53 : (Tryd.prog.info? 53).map (·.bytes) = some 32 := by kernel_rfl
theorem zr53 : zeroB Tryd.prog 53 = some (Value.agg #[str [], str []]) := by kernel_rfl
theorem ag54 : aggB Tryd.prog 54 = some false := by kernel_rfl
theorem ag58 : aggB Tryd.prog 58 = some false := by kernel_rfl
theorem sz58 : sizeB Tryd.prog 58 = some 1 := by kernel_rfl
theorem by58 : (Tryd.prog.info? 58).map (·.bytes) = some 8 := by kernel_rfl
theorem zr58 : zeroB Tryd.prog 58 = some (Value.pointer none) := by kernel_rfl
theorem ag79 : aggB Tryd.prog 79 = some false := by kernel_rfl
theorem sz79 : sizeB Tryd.prog 79 = some 1 := by kernel_rfl
theorem ag88 : aggB Tryd.prog 88 = some true := by kernel_rfl
theorem sz88 : sizeB Tryd.prog 88 = some 3 := by kernel_rfl
theorem by88 : (Tryd.prog.info? 88).map (·.bytes) = some 40 := by kernel_rfl
theorem zr88 : zeroB Tryd.prog 88 = some (Value.agg #[Value.int .i64 0, str [], str []]) := by kernel_rfl
theorem ag92 : aggB Tryd.prog 92 = some false := by kernel_rfl
theorem sz92 : sizeB Tryd.prog 92 = some 1 := by kernel_rfl
theorem ag93 : aggB Tryd.prog 93 = some false := by kernel_rfl
theorem sz93 : sizeB Tryd.prog 93 = some 1 := by kernel_rfl
theorem zr95 : zeroB Tryd.prog 95 = some (Value.agg #[Value.pointer none, Value.slice none 0 0]) := by kernel_rfl
theorem zr109 : zeroB Tryd.prog 109 = some (Value.agg #[Value.int .u8 0, Value.int .u8 0, Value.int .u8 0, Value.int .u8 0, Value.int .u8 0, Value.int .u8 0, Value.int .u8 0, Value.int .u8 0, Value.int .u8 0]) := by kernel_rfl
theorem hd5 : Has Tryd.prog 5 := Has.mk' Tryd.func5 (by kernel_rfl) (by kernel_rfl)
theorem hd6 : Has Tryd.prog 6 := Has.mk' Tryd.func6 (by kernel_rfl) (by kernel_rfl)
theorem hd7 : Has Tryd.prog 7 := Has.mk' Tryd.func7 (by kernel_rfl) (by kernel_rfl)
theorem hd8 : Has Tryd.prog 8 := Has.mk' Tryd.func8 (by kernel_rfl) (by kernel_rfl)
theorem hd9 : Has Tryd.prog 9 := Has.mk' Tryd.func9 (by kernel_rfl) (by kernel_rfl)
theorem hd10 : Has Tryd.prog 10 := Has.mk' Tryd.func10 (by kernel_rfl) (by kernel_rfl)
theorem hd11 : Has Tryd.prog 11 := Has.mk' Tryd.func11 (by kernel_rfl) (by kernel_rfl)
theorem hd12 : Has Tryd.prog 12 := Has.mk' Tryd.func12 (by kernel_rfl) (by kernel_rfl)
theorem hd14 : Has Tryd.prog 14 := Has.mk' Tryd.func14 (by kernel_rfl) (by kernel_rfl)
theorem hd15 : Has Tryd.prog 15 := Has.mk' Tryd.func15 (by kernel_rfl) (by kernel_rfl)
theorem hd16 : Has Tryd.prog 16 := Has.mk' Tryd.func16 (by kernel_rfl) (by kernel_rfl)
theorem hd17 : Has Tryd.prog 17 := Has.mk' Tryd.func17 (by kernel_rfl) (by kernel_rfl)
theorem hd18 : Has Tryd.prog 18 := Has.mk' Tryd.func18 (by kernel_rfl) (by kernel_rfl)
theorem hd19 : Has Tryd.prog 19 := Has.mk' Tryd.func19 (by kernel_rfl) (by kernel_rfl)
theorem hd20 : Has Tryd.prog 20 := Has.mk' Tryd.func20 (by kernel_rfl) (by kernel_rfl)
theorem hd21 : Has Tryd.prog 21 := Has.mk' Tryd.func21 (by kernel_rfl) (by kernel_rfl)
theorem hd22 : Has Tryd.prog 22 := Has.mk' Tryd.func22 (by kernel_rfl) (by kernel_rfl)
theorem hd23 : Has Tryd.prog 23 := Has.mk' Tryd.func23 (by kernel_rfl) (by kernel_rfl)
theorem hd24 : Has Tryd.prog 24 := Has.mk' Tryd.func24 (by kernel_rfl) (by kernel_rfl)
theorem hd25 : Has Tryd.prog 25 := Has.mk' Tryd.func25 (by kernel_rfl) (by kernel_rfl)
theorem hd26 : Has Tryd.prog 26 := Has.mk' Tryd.func26 (by kernel_rfl) (by kernel_rfl)
theorem hd27 : Has Tryd.prog 27 := Has.mk' Tryd.func27 (by kernel_rfl) (by kernel_rfl)
theorem hd28 : Has Tryd.prog 28 := Has.mk' Tryd.func28 (by kernel_rfl) (by kernel_rfl)
theorem hd29 : Has Tryd.prog 29 := Has.mk' Tryd.func29 (by kernel_rfl) (by kernel_rfl)
theorem hd30 : Has Tryd.prog 30 := Has.mk' Tryd.func30 (by kernel_rfl) (by kernel_rfl)
theorem hd31 : Has Tryd.prog 31 := Has.mk' Tryd.func31 (by kernel_rfl) (by kernel_rfl)
theorem hd32 : Has Tryd.prog 32 := Has.mk' Tryd.func32 (by kernel_rfl) (by kernel_rfl)
theorem hd33 : Has Tryd.prog 33 := Has.mk' Tryd.func33 (by kernel_rfl) (by kernel_rfl)
theorem hd34 : Has Tryd.prog 34 := Has.mk' Tryd.func34 (by kernel_rfl) (by kernel_rfl)
theorem hd35 : Has Tryd.prog 35 := Has.mk' Tryd.func35 (by kernel_rfl) (by kernel_rfl)
theorem hd36 : Has Tryd.prog 36 := Has.mk' Tryd.func36 (by kernel_rfl) (by kernel_rfl)
theorem hd37 : Has Tryd.prog 37 := Has.mk' Tryd.func37 (by kernel_rfl) (by kernel_rfl)
theorem hd38 : Has Tryd.prog 38 := Has.mk' Tryd.func38 (by kernel_rfl) (by kernel_rfl)
theorem hd39 : Has Tryd.prog 39 := Has.mk' Tryd.func39 (by kernel_rfl) (by kernel_rfl)
theorem hd40 : Has Tryd.prog 40 := Has.mk' Tryd.func40 (by kernel_rfl) (by kernel_rfl)
theorem hd41 : Has Tryd.prog 41 := Has.mk' Tryd.func41 (by kernel_rfl) (by kernel_rfl)
theorem hd42 : Has Tryd.prog 42 := Has.mk' Tryd.func42 (by kernel_rfl) (by kernel_rfl)
theorem hd43 : Has Tryd.prog 43 := Has.mk' Tryd.func43 (by kernel_rfl) (by kernel_rfl)
theorem hd44 : Has Tryd.prog 44 := Has.mk' Tryd.func44 (by kernel_rfl) (by kernel_rfl)
theorem hd45 : Has Tryd.prog 45 := Has.mk' Tryd.func45 (by kernel_rfl) (by kernel_rfl)
theorem hd46 : Has Tryd.prog 46 := Has.mk' Tryd.func46 (by kernel_rfl) (by kernel_rfl)
theorem hd47 : Has Tryd.prog 47 := Has.mk' Tryd.func47 (by kernel_rfl) (by kernel_rfl)
theorem hd48 : Has Tryd.prog 48 := Has.mk' Tryd.func48 (by kernel_rfl) (by kernel_rfl)
theorem hd49 : Has Tryd.prog 49 := Has.mk' Tryd.func49 (by kernel_rfl) (by kernel_rfl)
theorem hd50 : Has Tryd.prog 50 := Has.mk' Tryd.func50 (by kernel_rfl) (by kernel_rfl)
theorem hd51 : Has Tryd.prog 51 := Has.mk' Tryd.func51 (by kernel_rfl) (by kernel_rfl)
theorem hd52 : Has Tryd.prog 52 := Has.mk' Tryd.func52 (by kernel_rfl) (by kernel_rfl)
theorem hd53 : Has Tryd.prog 53 := Has.mk' Tryd.func53 (by kernel_rfl) (by kernel_rfl)
theorem hd54 : Has Tryd.prog 54 := Has.mk' Tryd.func54 (by kernel_rfl) (by kernel_rfl)
theorem hd55 : Has Tryd.prog 55 := Has.mk' Tryd.func55 (by kernel_rfl) (by kernel_rfl)
theorem hd56 : Has Tryd.prog 56 := Has.mk' Tryd.func56 (by kernel_rfl) (by kernel_rfl)
theorem hd57 : Has Tryd.prog 57 := Has.mk' Tryd.func57 (by kernel_rfl) (by kernel_rfl)
theorem hd65 : Has Tryd.prog 65 := Has.mk' Tryd.func65 (by kernel_rfl) (by kernel_rfl)
theorem hd66 : Has Tryd.prog 66 := Has.mk' Tryd.func66 (by kernel_rfl) (by kernel_rfl)
theorem hd67 : Has Tryd.prog 67 := Has.mk' Tryd.func67 (by kernel_rfl) (by kernel_rfl)
theorem hd81 : Has Tryd.prog 81 := Has.mk' Tryd.func81 (by kernel_rfl) (by kernel_rfl)
theorem mo : Tryd.prog.follows .mixedOrders = true := by kernel_rfl
end Go.Proofs.YtidoidoelgfnaaaDoor.Ty
