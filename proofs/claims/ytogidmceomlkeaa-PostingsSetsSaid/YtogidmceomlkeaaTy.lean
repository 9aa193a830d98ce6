/- Facts of the types and functions of this seat's program, each by the kernel. -/
import Derived.Test.YtogidmceomlkeaaProg
import Derived.Test.YtogidmceomlkeaaSl8
namespace Go.Proofs.Ytogidmceomlkeaa.Ty
open Go.Proofs.Ytogidmceomlkeaa.SL
theorem ag2 : aggB Try.prog 2 = some false := by kernel_rfl
theorem sz2 : sizeB Try.prog 2 = some 1 := by kernel_rfl
theorem by2 : (Try.prog.info? 2).map (·.bytes) = some 8 := by kernel_rfl
theorem zr2 : zeroB Try.prog 2 = some (Value.int .i64 0) := by kernel_rfl
theorem ag3 : aggB Try.prog 3 = some false := by kernel_rfl
theorem sz3 : sizeB Try.prog 3 = some 1 := by kernel_rfl
theorem by3 : (Try.prog.info? 3).map (·.bytes) = some 8 := by kernel_rfl
theorem zr3 : zeroB Try.prog 3 = some (Value.int .i64 0) := by kernel_rfl
theorem ag4 : aggB Try.prog 4 = some false := by kernel_rfl
theorem sz4 : sizeB Try.prog 4 = some 1 := by kernel_rfl
theorem by4 : (Try.prog.info? 4).map (·.bytes) = some 1 := by kernel_rfl
theorem zr4 : zeroB Try.prog 4 = some (Value.bool false) := by kernel_rfl
theorem ag5 : aggB Try.prog 5 = some false := by kernel_rfl
theorem sz5 : sizeB Try.prog 5 = some 1 := by kernel_rfl
theorem by5 : (Try.prog.info? 5).map (·.bytes) = some 1 := by kernel_rfl
theorem zr5 : zeroB Try.prog 5 = some (Value.int .u8 0) := by kernel_rfl
theorem ag6 : aggB Try.prog 6 = some false := by kernel_rfl
theorem sz6 : sizeB Try.prog 6 = some 1 := by kernel_rfl
theorem by6 : (Try.prog.info? 6).map (·.bytes) = some 1 := by kernel_rfl
theorem zr6 : zeroB Try.prog 6 = some (Value.int .u8 0) := by kernel_rfl
theorem ag7 : aggB Try.prog 7 = some true := by kernel_rfl
theorem sz7 : sizeB Try.prog 7 = some 4 := by kernel_rfl
theorem by7 : (Try.prog.info? 7).map (·.bytes) = some 24 := by kernel_rfl
theorem zr7 : zeroB Try.prog 7 = some (Value.agg #[Value.int .i64 0, Value.int .i64 0, Value.bool false, Value.int .u8 0]) := by kernel_rfl
theorem ag8 : aggB Try.prog 8 = some true := by kernel_rfl
theorem sz8 : sizeB Try.prog 8 = some 4 := by kernel_rfl
theorem by8 : (Try.prog.info? 8).map (·.bytes) = some 24 := by kernel_rfl
theorem zr8 : zeroB Try.prog 8 = some (Value.agg #[Value.int .i64 0, Value.int .i64 0, Value.bool false, Value.int .u8 0]) := by kernel_rfl
theorem ag9 : aggB Try.prog 9 = some false := by kernel_rfl
theorem sz9 : sizeB Try.prog 9 = some 1 := by kernel_rfl
theorem by9 : (Try.prog.info? 9).map (·.bytes) = some 16 := by kernel_rfl
theorem zr9 : zeroB Try.prog 9 = some (str []) := by kernel_rfl
theorem ag10 : aggB Try.prog 10 = some false := by kernel_rfl
theorem sz10 : sizeB Try.prog 10 = some 1 := by kernel_rfl
theorem by10 : (Try.prog.info? 10).map (·.bytes) = some 16 := by kernel_rfl
theorem zr10 : zeroB Try.prog 10 = some (str []) := by kernel_rfl
theorem ag11 : aggB Try.prog 11 = some false := by kernel_rfl
theorem sz11 : sizeB Try.prog 11 = some 1 := by kernel_rfl
theorem by11 : (Try.prog.info? 11).map (·.bytes) = some 16 := by kernel_rfl
theorem zr11 : zeroB Try.prog 11 = some (str []) := by kernel_rfl
theorem ag12 : aggB Try.prog 12 = some false := by kernel_rfl
theorem sz12 : sizeB Try.prog 12 = some 1 := by kernel_rfl
theorem by12 : (Try.prog.info? 12).map (·.bytes) = some 8 := by kernel_rfl
theorem zr12 : zeroB Try.prog 12 = some (Value.int .u64 0) := by kernel_rfl
theorem ag13 : aggB Try.prog 13 = some true := by kernel_rfl
theorem sz13 : sizeB Try.prog 13 = some 2 := by kernel_rfl
theorem by13 : (Try.prog.info? 13).map (·.bytes) = some 24 := by kernel_rfl
theorem zr13 : zeroB Try.prog 13 = some (Value.agg #[str [], Value.int .u64 0]) := by kernel_rfl
theorem ag14 : aggB Try.prog 14 = some true := by kernel_rfl
theorem sz14 : sizeB Try.prog 14 = some 2 := by kernel_rfl
theorem by14 : (Try.prog.info? 14).map (·.bytes) = some 24 := by kernel_rfl
theorem zr14 : zeroB Try.prog 14 = some (Value.agg #[str [], Value.int .u64 0]) := by kernel_rfl
theorem ag15 : aggB Try.prog 15 = some false := by kernel_rfl
theorem sz15 : sizeB Try.prog 15 = some 1 := by kernel_rfl
theorem by15 : (Try.prog.info? 15).map (·.bytes) = some 8 := by kernel_rfl
theorem zr15 : zeroB Try.prog 15 = some (Value.pointer none) := by kernel_rfl
theorem ag16 : aggB Try.prog 16 = some false := by kernel_rfl
theorem sz16 : sizeB Try.prog 16 = some 1 := by kernel_rfl
theorem by16 : (Try.prog.info? 16).map (·.bytes) = some 8 := by kernel_rfl
theorem zr16 : zeroB Try.prog 16 = some (Value.pointer none) := by kernel_rfl
theorem ag17 : aggB Try.prog 17 = some false := by kernel_rfl
theorem sz17 : sizeB Try.prog 17 = some 1 := by kernel_rfl
theorem by17 : (Try.prog.info? 17).map (·.bytes) = some 8 := by kernel_rfl
theorem zr17 : zeroB Try.prog 17 = some (Value.pointer none) := by kernel_rfl
theorem ag18 : aggB Try.prog 18 = some true := by kernel_rfl
theorem sz18 : sizeB Try.prog 18 = some 1 := by kernel_rfl
theorem by18 : (Try.prog.info? 18).map (·.bytes) = some 8 := by kernel_rfl
theorem zr18 : zeroB Try.prog 18 = some (Value.agg #[Value.pointer none]) := by kernel_rfl
theorem ag19 : aggB Try.prog 19 = some true := by kernel_rfl
theorem sz19 : sizeB Try.prog 19 = some 1 := by kernel_rfl
theorem by19 : (Try.prog.info? 19).map (·.bytes) = some 8 := by kernel_rfl
theorem zr19 : zeroB Try.prog 19 = some (Value.agg #[Value.pointer none]) := by kernel_rfl
theorem ag21 : aggB Try.prog 21 = some false := by kernel_rfl
theorem sz21 : sizeB Try.prog 21 = some 1 := by kernel_rfl
theorem by21 : (Try.prog.info? 21).map (·.bytes) = some 4 := by kernel_rfl
theorem zr21 : zeroB Try.prog 21 = some (Value.int .i32 0) := by kernel_rfl
theorem ag22 : aggB Try.prog 22 = some false := by kernel_rfl
theorem sz22 : sizeB Try.prog 22 = some 1 := by kernel_rfl
theorem by22 : (Try.prog.info? 22).map (·.bytes) = some 24 := by kernel_rfl
theorem zr22 : zeroB Try.prog 22 = some (Value.slice none 0 0) := by kernel_rfl
theorem ag33 : aggB Try.prog 33 = some false := by kernel_rfl
theorem sz33 : sizeB Try.prog 33 = some 1 := by kernel_rfl
theorem by33 : (Try.prog.info? 33).map (·.bytes) = some 8 := by kernel_rfl
theorem zr33 : zeroB Try.prog 33 = some (Value.int .u64 0) := by kernel_rfl
theorem ag35 : aggB Try.prog 35 = some false := by kernel_rfl
theorem sz35 : sizeB Try.prog 35 = some 1 := by kernel_rfl
theorem by35 : (Try.prog.info? 35).map (·.bytes) = some 8 := by kernel_rfl
theorem zr35 : zeroB Try.prog 35 = some (Value.int .i64 0) := by kernel_rfl
theorem ag44 : aggB Try.prog 44 = some false := by kernel_rfl
theorem sz44 : sizeB Try.prog 44 = some 1 := by kernel_rfl
theorem by44 : (Try.prog.info? 44).map (·.bytes) = some 4 := by kernel_rfl
theorem zr44 : zeroB Try.prog 44 = some (Value.int .u32 0) := by kernel_rfl
theorem ag46 : aggB Try.prog 46 = some false := by kernel_rfl
theorem sz46 : sizeB Try.prog 46 = some 1 := by kernel_rfl
theorem by46 : (Try.prog.info? 46).map (·.bytes) = some 8 := by kernel_rfl
theorem zr46 : zeroB Try.prog 46 = some (Value.int .u64 0) := by kernel_rfl
theorem ag47 : aggB Try.prog 47 = some false := by kernel_rfl
theorem sz47 : sizeB Try.prog 47 = some 1 := by kernel_rfl
theorem by47 : (Try.prog.info? 47).map (·.bytes) = some 8 := by kernel_rfl
theorem zr47 : zeroB Try.prog 47 = some (Value.int .u64 0) := by kernel_rfl
theorem ag51 : aggB Try.prog 51 = some false := by kernel_rfl
theorem sz51 : sizeB Try.prog 51 = some 1 := by kernel_rfl
theorem by51 : (Try.prog.info? 51).map (·.bytes) = some 8 := by kernel_rfl
theorem zr51 : zeroB Try.prog 51 = some (Value.pointer none) := by kernel_rfl
theorem ag54 : aggB Try.prog 54 = some false := by kernel_rfl
theorem sz54 : sizeB Try.prog 54 = some 1 := by kernel_rfl
theorem by54 : (Try.prog.info? 54).map (·.bytes) = some 8 := by kernel_rfl
theorem zr54 : zeroB Try.prog 54 = some (Value.pointer none) := by kernel_rfl
theorem ag58 : aggB Try.prog 58 = some true := by kernel_rfl
theorem sz58 : sizeB Try.prog 58 = some 4 := by kernel_rfl
theorem by58 : (Try.prog.info? 58).map (·.bytes) = some 40 := by kernel_rfl
theorem zr58 : zeroB Try.prog 58 = some (Value.agg #[Value.pointer none, Value.pointer none, Value.pointer none, str []]) := by kernel_rfl
theorem ag59 : aggB Try.prog 59 = some true := by kernel_rfl
theorem sz59 : sizeB Try.prog 59 = some 4 := by kernel_rfl
theorem by59 : (Try.prog.info? 59).map (·.bytes) = some 40 := by kernel_rfl
theorem zr59 : zeroB Try.prog 59 = some (Value.agg #[Value.pointer none, Value.pointer none, Value.pointer none, str []]) := by kernel_rfl
theorem ag60 : aggB Try.prog 60 = some true := by kernel_rfl
theorem sz60 : sizeB Try.prog 60 = some 0 := by kernel_rfl
theorem by60 : (Try.prog.info? 60).map (·.bytes) = some 0 := by kernel_rfl
theorem zr60 : zeroB Try.prog 60 = some (Value.agg #[]) := by kernel_rfl
theorem ag61 : aggB Try.prog 61 = some true := by kernel_rfl
theorem sz61 : sizeB Try.prog 61 = some 0 := by kernel_rfl
theorem by61 : (Try.prog.info? 61).map (·.bytes) = some 0 := by kernel_rfl
theorem zr61 : zeroB Try.prog 61 = some (Value.agg #[]) := by kernel_rfl
theorem ag62 : aggB Try.prog 62 = some true := by kernel_rfl
theorem sz62 : sizeB Try.prog 62 = some 0 := by kernel_rfl
theorem by62 : (Try.prog.info? 62).map (·.bytes) = some 0 := by kernel_rfl
theorem zr62 : zeroB Try.prog 62 = some (Value.agg #[]) := by kernel_rfl
theorem ag64 : aggB Try.prog 64 = some false := by kernel_rfl
theorem sz64 : sizeB Try.prog 64 = some 1 := by kernel_rfl
theorem by64 : (Try.prog.info? 64).map (·.bytes) = some 1 := by kernel_rfl
theorem zr64 : zeroB Try.prog 64 = some (Value.int .u8 0) := by kernel_rfl
theorem ag65 : aggB Try.prog 65 = some false := by kernel_rfl
theorem sz65 : sizeB Try.prog 65 = some 1 := by kernel_rfl
theorem by65 : (Try.prog.info? 65).map (·.bytes) = some 1 := by kernel_rfl
theorem zr65 : zeroB Try.prog 65 = some (Value.int .u8 0) := by kernel_rfl
theorem ag67 : aggB Try.prog 67 = some false := by kernel_rfl
theorem sz67 : sizeB Try.prog 67 = some 1 := by kernel_rfl
theorem by67 : (Try.prog.info? 67).map (·.bytes) = some 8 := by kernel_rfl
theorem zr67 : zeroB Try.prog 67 = some (Value.pointer none) := by kernel_rfl
theorem ag68 : aggB Try.prog 68 = some false := by kernel_rfl
theorem sz68 : sizeB Try.prog 68 = some 1 := by kernel_rfl
theorem by68 : (Try.prog.info? 68).map (·.bytes) = some 4 := by kernel_rfl
theorem zr68 : zeroB Try.prog 68 = some (Value.int .i32 0) := by kernel_rfl
theorem ag69 : aggB Try.prog 69 = some false := by kernel_rfl
theorem sz69 : sizeB Try.prog 69 = some 1 := by kernel_rfl
theorem by69 : (Try.prog.info? 69).map (·.bytes) = some 4 := by kernel_rfl
theorem zr69 : zeroB Try.prog 69 = some (Value.int .i32 0) := by kernel_rfl
theorem ag70 : aggB Try.prog 70 = some true := by kernel_rfl
theorem sz70 : sizeB Try.prog 70 = some 11 := by kernel_rfl
theorem by70 : (Try.prog.info? 70).map (·.bytes) = some 48 := by kernel_rfl
theorem zr70 : zeroB Try.prog 70 = some (Value.agg #[Value.int .u64 0, Value.int .u64 0, Value.int .u32 0, Value.int .u8 0, Value.int .u8 0, Value.int .u8 0, Value.int .u8 0, Value.nilFunc, Value.pointer none, Value.int .i32 0, Value.int .i32 0]) := by kernel_rfl
theorem ag71 : aggB Try.prog 71 = some true := by kernel_rfl
theorem sz71 : sizeB Try.prog 71 = some 11 := by kernel_rfl
theorem by71 : (Try.prog.info? 71).map (·.bytes) = some 48 := by kernel_rfl
theorem zr71 : zeroB Try.prog 71 = some (Value.agg #[Value.int .u64 0, Value.int .u64 0, Value.int .u32 0, Value.int .u8 0, Value.int .u8 0, Value.int .u8 0, Value.int .u8 0, Value.nilFunc, Value.pointer none, Value.int .i32 0, Value.int .i32 0]) := by kernel_rfl
theorem ag72 : aggB Try.prog 72 = some false := by kernel_rfl
theorem sz72 : sizeB Try.prog 72 = some 1 := by kernel_rfl
theorem by72 : (Try.prog.info? 72).map (·.bytes) = some 8 := by kernel_rfl
theorem zr72 : zeroB Try.prog 72 = some (Value.pointer none) := by kernel_rfl
theorem hd2 : Has Try.prog 2 := Has.mk' Try.func2 (by kernel_rfl) (by kernel_rfl)
theorem hd3 : Has Try.prog 3 := Has.mk' Try.func3 (by kernel_rfl) (by kernel_rfl)
theorem hd4 : Has Try.prog 4 := Has.mk' Try.func4 (by kernel_rfl) (by kernel_rfl)
theorem hd5 : Has Try.prog 5 := Has.mk' Try.func5 (by kernel_rfl) (by kernel_rfl)
theorem hd6 : Has Try.prog 6 := Has.mk' Try.func6 (by kernel_rfl) (by kernel_rfl)
theorem hd7 : Has Try.prog 7 := Has.mk' Try.func7 (by kernel_rfl) (by kernel_rfl)
theorem hd8 : Has Try.prog 8 := Has.mk' Try.func8 (by kernel_rfl) (by kernel_rfl)
theorem hd9 : Has Try.prog 9 := Has.mk' Try.func9 (by kernel_rfl) (by kernel_rfl)
theorem hd10 : Has Try.prog 10 := Has.mk' Try.func10 (by kernel_rfl) (by kernel_rfl)
theorem hd11 : Has Try.prog 11 := Has.mk' Try.func11 (by kernel_rfl) (by kernel_rfl)
theorem hd12 : Has Try.prog 12 := Has.mk' Try.func12 (by kernel_rfl) (by kernel_rfl)
theorem hd13 : Has Try.prog 13 := Has.mk' Try.func13 (by kernel_rfl) (by kernel_rfl)
theorem hd14 : Has Try.prog 14 := Has.mk' Try.func14 (by kernel_rfl) (by kernel_rfl)
theorem hd15 : Has Try.prog 15 := Has.mk' Try.func15 (by kernel_rfl) (by kernel_rfl)
theorem hd16 : Has Try.prog 16 := Has.mk' Try.func16 (by kernel_rfl) (by kernel_rfl)
theorem hd17 : Has Try.prog 17 := Has.mk' Try.func17 (by kernel_rfl) (by kernel_rfl)
theorem hd18 : Has Try.prog 18 := Has.mk' Try.func18 (by kernel_rfl) (by kernel_rfl)
theorem hd19 : Has Try.prog 19 := Has.mk' Try.func19 (by kernel_rfl) (by kernel_rfl)
theorem hd20 : Has Try.prog 20 := Has.mk' Try.func20 (by kernel_rfl) (by kernel_rfl)
theorem hd21 : Has Try.prog 21 := Has.mk' Try.func21 (by kernel_rfl) (by kernel_rfl)
theorem hd22 : Has Try.prog 22 := Has.mk' Try.func22 (by kernel_rfl) (by kernel_rfl)
theorem hd23 : Has Try.prog 23 := Has.mk' Try.func23 (by kernel_rfl) (by kernel_rfl)
theorem hd24 : Has Try.prog 24 := Has.mk' Try.func24 (by kernel_rfl) (by kernel_rfl)
theorem hd25 : Has Try.prog 25 := Has.mk' Try.func25 (by kernel_rfl) (by kernel_rfl)
theorem hd26 : Has Try.prog 26 := Has.mk' Try.func26 (by kernel_rfl) (by kernel_rfl)
theorem hd27 : Has Try.prog 27 := Has.mk' Try.func27 (by kernel_rfl) (by kernel_rfl)
theorem hd28 : Has Try.prog 28 := Has.mk' Try.func28 (by kernel_rfl) (by kernel_rfl)
theorem hd29 : Has Try.prog 29 := Has.mk' Try.func29 (by kernel_rfl) (by kernel_rfl)
theorem hd30 : Has Try.prog 30 := Has.mk' Try.func30 (by kernel_rfl) (by kernel_rfl)
theorem hd31 : Has Try.prog 31 := Has.mk' Try.func31 (by kernel_rfl) (by kernel_rfl)
theorem hd32 : Has Try.prog 32 := Has.mk' Try.func32 (by kernel_rfl) (by kernel_rfl)
theorem hd33 : Has Try.prog 33 := Has.mk' Try.func33 (by kernel_rfl) (by kernel_rfl)
theorem hd34 : Has Try.prog 34 := Has.mk' Try.func34 (by kernel_rfl) (by kernel_rfl)
theorem hd35 : Has Try.prog 35 := Has.mk' Try.func35 (by kernel_rfl) (by kernel_rfl)
theorem hd36 : Has Try.prog 36 := Has.mk' Try.func36 (by kernel_rfl) (by kernel_rfl)
theorem hd37 : Has Try.prog 37 := Has.mk' Try.func37 (by kernel_rfl) (by kernel_rfl)
theorem hd38 : Has Try.prog 38 := Has.mk' Try.func38 (by kernel_rfl) (by kernel_rfl)
theorem hd39 : Has Try.prog 39 := Has.mk' Try.func39 (by kernel_rfl) (by kernel_rfl)
theorem hd40 : Has Try.prog 40 := Has.mk' Try.func40 (by kernel_rfl) (by kernel_rfl)
theorem mo : Try.prog.follows .mixedOrders = true := by kernel_rfl
end Go.Proofs.Ytogidmceomlkeaa.Ty
