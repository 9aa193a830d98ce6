/- Facts of the types and functions of this seat's program, each by the kernel. -/
import Derived.Test.YtegcibphlpanfaaGreatDoorProg
import Derived.Test.YtegcibphlpanfaaGreatDoorSl8
namespace Go.Proofs.YtegcibphlpanfaaGreatDoor.Ty
open Go.Proofs.YtegcibphlpanfaaGreatDoor.SL
theorem ag2 : aggB Tryz.prog 2 = some false := by kernel_rfl
theorem sz2 : sizeB Tryz.prog 2 = some 1 := by kernel_rfl
theorem zr2 : zeroB Tryz.prog 2 = some (Value.int .i64 0) := by kernel_rfl
theorem ag3 : aggB Tryz.prog 3 = some false := by kernel_rfl
theorem ag4 : aggB Tryz.prog 4 = some false := by kernel_rfl
theorem sz4 : sizeB Tryz.prog 4 = some 1 := by kernel_rfl
theorem zr4 : zeroB Tryz.prog 4 = some (Value.bool false) := by kernel_rfl
theorem sz5 : sizeB Tryz.prog 5 = some 1 := by kernel_rfl
theorem by5 : (Tryz.prog.info? 5).map (·.bytes) = some 1 := by kernel_rfl
theorem zr5 : zeroB Tryz.prog 5 = some (Value.int .u8 0) := by kernel_rfl
theorem ag9 : aggB Tryz.prog 9 = some false := by kernel_rfl
theorem ag22 : aggB Tryz.prog 22 = some false := by kernel_rfl
theorem sz22 : sizeB Tryz.prog 22 = some 1 := by kernel_rfl
theorem ag24 : aggB Tryz.prog 24 = some false := by kernel_rfl
theorem sz24 : sizeB Tryz.prog 24 = some 1 := by kernel_rfl
theorem ag25 : aggB Tryz.prog 25 = some false := by kernel_rfl
theorem sz25 : sizeB Tryz.prog 25 = some 1 := by kernel_rfl
theorem ag27 : aggB Tryz.prog 27 = some true := by kernel_rfl
theorem sz27 : sizeB Tryz.prog 27 = some 5 := by kernel_rfl
theorem by27 : (Tryz.prog.info? 27).map (·.bytes) = some 72 := by kernel_rfl
theorem zr27 : zeroB Tryz.prog 27 = some (Value.agg #[Value.int .i64 0, Value.slice none 0 0, Value.slice none 0 0, Value.int .i64 0, Value.int .i64 0]) := by kernel_rfl
theorem ag29 : aggB Tryz.prog 29 = some false := by kernel_rfl
theorem sz29 : sizeB Tryz.prog 29 = some 1 := by kernel_rfl
theorem ag31 : aggB Tryz.prog 31 = some true := by kernel_rfl
theorem sz31 : sizeB Tryz.prog 31 = some 4 := by kernel_rfl
theorem zr31 : zeroB Tryz.prog 31 = some (Value.agg #[Value.int .i64 0, Value.int .i64 0, Value.slice none 0 0, Value.slice none 0 0]) := by kernel_rfl
theorem ag32 : aggB Tryz.prog 32 = some false := by kernel_rfl
theorem sz32 : sizeB Tryz.prog 32 = some 1 := by kernel_rfl
theorem zr32 : zeroB Tryz.prog 32 = some (Value.int .i64 0) := by kernel_rfl
theorem ag35 : aggB Tryz.prog 35 = some false := by kernel_rfl
theorem sz35 : sizeB Tryz.prog 35 = some 1 := by kernel_rfl
theorem ag37 : aggB Tryz.prog 37 = some true := by kernel_rfl
theorem sz37 : sizeB Tryz.prog 37 = some 4 := by kernel_rfl
theorem zr37 : zeroB Tryz.prog 37 = some (Value.agg #[Value.int .i64 0, Value.int .i64 0, Value.slice none 0 0, Value.slice none 0 0]) := by kernel_rfl
theorem ag44 : aggB Tryz.prog 44 = some false := by kernel_rfl
theorem sz44 : sizeB Tryz.prog 44 = some 1 := by kernel_rfl
theorem ag45 : aggB Tryz.prog 45 = some false := by kernel_rfl
theorem ag47 : aggB Tryz.prog 47 = some true := by kernel_rfl
theorem sz47 : sizeB Tryz.prog 47 = some 3 := by kernel_rfl
theorem by47 : (Tryz.prog.info? 47).map (·.bytes) = some 40 := by kernel_rfl
theorem zr47 : zeroB Tryz.prog 47 = some (Value.agg #[Value.slice none 0 0, Value.int .i64 0, Value.int .u64 0]) := by kernel_rfl
theorem ag48 : aggB Tryz.prog 48 = some false := by kernel_rfl
theorem ag53 : aggB Tryz.prog 53 = some false := by kernel_rfl
theorem sz53 : sizeB Tryz.prog 53 = some 1 := by kernel_rfl
theorem ag56 : aggB Tryz.prog 56 = some false := by kernel_rfl
theorem sz56 : sizeB Tryz.prog 56 = some 1 := by kernel_rfl
theorem zr56 : zeroB Tryz.prog 56 = some (Value.slice none 0 0) := by kernel_rfl
theorem ag58 : aggB Tryz.prog 58 = some true := by kernel_rfl
theorem sz58 : sizeB Tryz.prog 58 = some 3 := by kernel_rfl
theorem by58 : (Tryz.prog.info? 58).map (·.bytes) = some 56 := by kernel_rfl
theorem zr58 : zeroB Tryz.prog 58 = some (Value.agg #[Value.slice none 0 0, Value.slice none 0 0, Value.int .i64 0]) := by kernel_rfl
theorem ag60 : aggB Tryz.prog 60 = some true := by kernel_rfl
theorem sz60 : sizeB Tryz.prog 60 = some 3 := by kernel_rfl
theorem by60 : (Tryz.prog.info? 60).map (·.bytes) = some 56 := by kernel_rfl
theorem zr60 : zeroB Tryz.prog 60 = some (Value.agg #[Value.slice none 0 0, Value.int .i64 0, Value.slice none 0 0]) := by kernel_rfl
theorem ag64 : aggB Tryz.prog 64 = some true := by kernel_rfl
theorem sz64 : sizeB Tryz.prog 64 = some 3 := by kernel_rfl
theorem by64 : (Tryz.prog.info? 64).map (·.bytes) = some 56 := by kernel_rfl
theorem zr64 : zeroB Tryz.prog 64 = some (Value.agg #[Value.slice none 0 0, Value.int .i64 0, Value.slice none 0 0]) := by kernel_rfl
theorem ag66 : aggB Tryz.prog 66 = some true := by kernel_rfl
theorem sz66 : sizeB Tryz.prog 66 = some 2 := by kernel_rfl
theorem by66 : (Tryz.prog.info? 66).map (·.bytes) = some 32 := by kernel_rfl
theorem zr66 : zeroB Tryz.prog 66 = some (Value.agg #[str [], str []]) := by kernel_rfl
theorem ag67 : aggB Tryz.prog 67 = some false := by kernel_rfl
theorem ag71 : aggB Tryz.prog 71 = some false := by kernel_rfl
theorem sz71 : sizeB Tryz.prog 71 = some 1 := by kernel_rfl
theorem by71 : (Tryz.prog.info? 71).map (·.bytes) = some 8 := by kernel_rfl
theorem zr71 : zeroB Tryz.prog 71 = some (Value.pointer none) := by kernel_rfl
theorem ag76 : aggB Tryz.prog 76 = some true := by kernel_rfl
theorem sz76 : sizeB Tryz.prog 76 = some 2 := by kernel_rfl
theorem by76 : (Tryz.prog.info? 76).map (·.bytes) = some 16 := by kernel_rfl
theorem zr76 : zeroB Tryz.prog 76 = some (Value.agg #[Value.int .i64 0, Value.int .u64 0]) := by kernel_rfl
theorem ag79 : aggB Tryz.prog 79 = some false := by kernel_rfl
theorem sz79 : sizeB Tryz.prog 79 = some 1 := by kernel_rfl
theorem zr79 : zeroB Tryz.prog 79 = some (Value.slice none 0 0) := by kernel_rfl
theorem ag82 : aggB Tryz.prog 82 = some true := by kernel_rfl
theorem sz82 : sizeB Tryz.prog 82 = some 2 := by kernel_rfl
theorem by82 : (Tryz.prog.info? 82).map (·.bytes) = some 48 := by kernel_rfl
theorem zr82 : zeroB Tryz.prog 82 = some (Value.agg #[Value.slice none 0 0, Value.slice none 0 0]) := by kernel_rfl
theorem ag103 : aggB Tryz.prog 103 = some false := by kernel_rfl
theorem sz103 : sizeB Tryz.prog 103 = some 1 := by kernel_rfl
theorem ag104 : aggB Tryz.prog 104 = some false := by kernel_rfl
theorem sz104 : sizeB Tryz.prog 104 = some 1 := by kernel_rfl
theorem zr106 : zeroB Tryz.prog 106 = some (Value.agg #[Value.pointer none, Value.slice none 0 0]) := by kernel_rfl
theorem ag120 : aggB Tryz.prog 120 = some true := by kernel_rfl
theorem sz120 : sizeB Tryz.prog 120 = some 3 := by kernel_rfl
theorem by120 : (Tryz.prog.info? 120).map (·.bytes) = some 40 := by kernel_rfl
theorem zr120 : zeroB Tryz.prog 120 = some (Value.agg #[Value.int .i64 0, str [], str []]) := by kernel_rfl
theorem ag130 : aggB Tryz.prog 130 = some false := by kernel_rfl
theorem sz130 : sizeB Tryz.prog 130 = some 1 := by kernel_rfl
theorem zr134 : zeroB Tryz.prog 134 = some (Value.agg #[Value.int .u8 0, Value.int .u8 0, Value.int .u8 0, Value.int .u8 0, Value.int .u8 0, Value.int .u8 0, Value.int .u8 0, Value.int .u8 0, Value.int .u8 0]) := by kernel_rfl
theorem hd4 : Has Tryz.prog 4 := Has.mk' Tryz.func4 (by kernel_rfl) (by kernel_rfl)
theorem hd5 : Has Tryz.prog 5 := Has.mk' Tryz.func5 (by kernel_rfl) (by kernel_rfl)
theorem hd6 : Has Tryz.prog 6 := Has.mk' Tryz.func6 (by kernel_rfl) (by kernel_rfl)
theorem hd7 : Has Tryz.prog 7 := Has.mk' Tryz.func7 (by kernel_rfl) (by kernel_rfl)
theorem hd8 : Has Tryz.prog 8 := Has.mk' Tryz.func8 (by kernel_rfl) (by kernel_rfl)
theorem hd9 : Has Tryz.prog 9 := Has.mk' Tryz.func9 (by kernel_rfl) (by kernel_rfl)
theorem hd10 : Has Tryz.prog 10 := Has.mk' Tryz.func10 (by kernel_rfl) (by kernel_rfl)
theorem hd11 : Has Tryz.prog 11 := Has.mk' Tryz.func11 (by kernel_rfl) (by kernel_rfl)
theorem hd12 : Has Tryz.prog 12 := Has.mk' Tryz.func12 (by kernel_rfl) (by kernel_rfl)
theorem hd13 : Has Tryz.prog 13 := Has.mk' Tryz.func13 (by kernel_rfl) (by kernel_rfl)
theorem hd14 : Has Tryz.prog 14 := Has.mk' Tryz.func14 (by kernel_rfl) (by kernel_rfl)
theorem hd15 : Has Tryz.prog 15 := Has.mk' Tryz.func15 (by kernel_rfl) (by kernel_rfl)
theorem hd16 : Has Tryz.prog 16 := Has.mk' Tryz.func16 (by kernel_rfl) (by kernel_rfl)
theorem hd17 : Has Tryz.prog 17 := Has.mk' Tryz.func17 (by kernel_rfl) (by kernel_rfl)
theorem hd18 : Has Tryz.prog 18 := Has.mk' Tryz.func18 (by kernel_rfl) (by kernel_rfl)
theorem hd19 : Has Tryz.prog 19 := Has.mk' Tryz.func19 (by kernel_rfl) (by kernel_rfl)
theorem hd20 : Has Tryz.prog 20 := Has.mk' Tryz.func20 (by kernel_rfl) (by kernel_rfl)
theorem hd21 : Has Tryz.prog 21 := Has.mk' Tryz.func21 (by kernel_rfl) (by kernel_rfl)
theorem hd22 : Has Tryz.prog 22 := Has.mk' Tryz.func22 (by kernel_rfl) (by kernel_rfl)
theorem hd23 : Has Tryz.prog 23 := Has.mk' Tryz.func23 (by kernel_rfl) (by kernel_rfl)
theorem hd24 : Has Tryz.prog 24 := Has.mk' Tryz.func24 (by kernel_rfl) (by kernel_rfl)
theorem hd25 : Has Tryz.prog 25 := Has.mk' Tryz.func25 (by kernel_rfl) (by kernel_rfl)
theorem hd26 : Has Tryz.prog 26 := Has.mk' Tryz.func26 (by kernel_rfl) (by kernel_rfl)
theorem hd27 : Has Tryz.prog 27 := Has.mk' Tryz.func27 (by kernel_rfl) (by kernel_rfl)
theorem hd28 : Has Tryz.prog 28 := Has.mk' Tryz.func28 (by kernel_rfl) (by kernel_rfl)
theorem hd29 : Has Tryz.prog 29 := Has.mk' Tryz.func29 (by kernel_rfl) (by kernel_rfl)
theorem hd30 : Has Tryz.prog 30 := Has.mk' Tryz.func30 (by kernel_rfl) (by kernel_rfl)
theorem hd31 : Has Tryz.prog 31 := Has.mk' Tryz.func31 (by kernel_rfl) (by kernel_rfl)
theorem hd32 : Has Tryz.prog 32 := Has.mk' Tryz.func32 (by kernel_rfl) (by kernel_rfl)
theorem hd33 : Has Tryz.prog 33 := Has.mk' Tryz.func33 (by kernel_rfl) (by kernel_rfl)
theorem hd34 : Has Tryz.prog 34 := Has.mk' Tryz.func34 (by kernel_rfl) (by kernel_rfl)
theorem hd35 : Has Tryz.prog 35 := Has.mk' Tryz.func35 (by kernel_rfl) (by kernel_rfl)
theorem hd36 : Has Tryz.prog 36 := Has.mk' Tryz.func36 (by kernel_rfl) (by kernel_rfl)
theorem hd37 : Has Tryz.prog 37 := Has.mk' Tryz.func37 (by kernel_rfl) (by kernel_rfl)
theorem hd38 : Has Tryz.prog 38 := Has.mk' Tryz.func38 (by kernel_rfl) (by kernel_rfl)
theorem hd39 : Has Tryz.prog 39 := Has.mk' Tryz.func39 (by kernel_rfl) (by kernel_rfl)
theorem hd40 : Has Tryz.prog 40 := Has.mk' Tryz.func40 (by kernel_rfl) (by kernel_rfl)
theorem hd41 : Has Tryz.prog 41 := Has.mk' Tryz.func41 (by kernel_rfl) (by kernel_rfl)
theorem hd42 : Has Tryz.prog 42 := Has.mk' Tryz.func42 (by kernel_rfl) (by kernel_rfl)
theorem hd43 : Has Tryz.prog 43 := Has.mk' Tryz.func43 (by kernel_rfl) (by kernel_rfl)
theorem hd44 : Has Tryz.prog 44 := Has.mk' Tryz.func44 (by kernel_rfl) (by kernel_rfl)
theorem hd45 : Has Tryz.prog 45 := Has.mk' Tryz.func45 (by kernel_rfl) (by kernel_rfl)
theorem hd46 : Has Tryz.prog 46 := Has.mk' Tryz.func46 (by kernel_rfl) (by kernel_rfl)
theorem hd47 : Has Tryz.prog 47 := Has.mk' Tryz.func47 (by kernel_rfl) (by kernel_rfl)
theorem hd48 : Has Tryz.prog 48 := Has.mk' Tryz.func48 (by kernel_rfl) (by kernel_rfl)
theorem hd49 : Has Tryz.prog 49 := Has.mk' Tryz.func49 (by kernel_rfl) (by kernel_rfl)
theorem hd50 : Has Tryz.prog 50 := Has.mk' Tryz.func50 (by kernel_rfl) (by kernel_rfl)
theorem hd51 : Has Tryz.prog 51 := Has.mk' Tryz.func51 (by kernel_rfl) (by kernel_rfl)
theorem hd52 : Has Tryz.prog 52 := Has.mk' Tryz.func52 (by kernel_rfl) (by kernel_rfl)
theorem hd53 : Has Tryz.prog 53 := Has.mk' Tryz.func53 (by kernel_rfl) (by kernel_rfl)
theorem hd54 : Has Tryz.prog 54 := Has.mk' Tryz.func54 (by kernel_rfl) (by kernel_rfl)
theorem hd55 : Has Tryz.prog 55 := Has.mk' Tryz.func55 (by kernel_rfl) (by kernel_rfl)
theorem hd56 : Has Tryz.prog 56 := Has.mk' Tryz.func56 (by kernel_rfl) (by kernel_rfl)
theorem hd57 : Has Tryz.prog 57 := Has.mk' Tryz.func57 (by kernel_rfl) (by kernel_rfl)
theorem hd58 : Has Tryz.prog 58 := Has.mk' Tryz.func58 (by kernel_rfl) (by kernel_rfl)
theorem hd59 : Has Tryz.prog 59 := Has.mk' Tryz.func59 (by kernel_rfl) (by kernel_rfl)
theorem hd60 : Has Tryz.prog 60 := Has.mk' Tryz.func60 (by kernel_rfl) (by kernel_rfl)
theorem hd61 : Has Tryz.prog 61 := Has.mk' Tryz.func61 (by kernel_rfl) (by kernel_rfl)
theorem hd62 : Has Tryz.prog 62 := Has.mk' Tryz.func62 (by kernel_rfl) (by kernel_rfl)
theorem hd63 : Has Tryz.prog 63 := Has.mk' Tryz.func63 (by kernel_rfl) (by kernel_rfl)
theorem hd64 : Has Tryz.prog 64 := Has.mk' Tryz.func64 (by kernel_rfl) (by kernel_rfl)
theorem hd65 : Has Tryz.prog 65 := Has.mk' Tryz.func65 (by kernel_rfl) (by kernel_rfl)
theorem hd66 : Has Tryz.prog 66 := Has.mk' Tryz.func66 (by kernel_rfl) (by kernel_rfl)
theorem hd67 : Has Tryz.prog 67 := Has.mk' Tryz.func67 (by kernel_rfl) (by kernel_rfl)
theorem hd68 : Has Tryz.prog 68 := Has.mk' Tryz.func68 (by kernel_rfl) (by kernel_rfl)
theorem hd69 : Has Tryz.prog 69 := Has.mk' Tryz.func69 (by kernel_rfl) (by kernel_rfl)
theorem hd70 : Has Tryz.prog 70 := Has.mk' Tryz.func70 (by kernel_rfl) (by kernel_rfl)
theorem hd71 : Has Tryz.prog 71 := Has.mk' Tryz.func71 (by kernel_rfl) (by kernel_rfl)
theorem hd72 : Has Tryz.prog 72 := Has.mk' Tryz.func72 (by kernel_rfl) (by kernel_rfl)
theorem hd73 : Has Tryz.prog 73 := Has.mk' Tryz.func73 (by kernel_rfl) (by kernel_rfl)
theorem hd74 : Has Tryz.prog 74 := Has.mk' Tryz.func74 (by kernel_rfl) (by kernel_rfl)
theorem hd75 : Has Tryz.prog 75 := Has.mk' Tryz.func75 (by kernel_rfl) (by kernel_rfl)
theorem hd76 : Has Tryz.prog 76 := Has.mk' Tryz.func76 (by kernel_rfl) (by kernel_rfl)
theorem hd79 : Has Tryz.prog 79 := Has.mk' Tryz.func79 (by kernel_rfl) (by kernel_rfl)
theorem hd80 : Has Tryz.prog 80 := Has.mk' Tryz.func80 (by kernel_rfl) (by kernel_rfl)
theorem hd82 : Has Tryz.prog 82 := Has.mk' Tryz.func82 (by kernel_rfl) (by kernel_rfl)
theorem hd87 : Has Tryz.prog 87 := Has.mk' Tryz.func87 (by kernel_rfl) (by kernel_rfl)
theorem hd88 : Has Tryz.prog 88 := Has.mk' Tryz.func88 (by kernel_rfl) (by kernel_rfl)
theorem hd89 : Has Tryz.prog 89 := Has.mk' Tryz.func89 (by kernel_rfl) (by kernel_rfl)
theorem hd103 : Has Tryz.prog 103 := Has.mk' Tryz.func103 (by kernel_rfl) (by kernel_rfl)
theorem mo : Tryz.prog.follows .mixedOrders = true := by kernel_rfl
end Go.Proofs.YtegcibphlpanfaaGreatDoor.Ty
