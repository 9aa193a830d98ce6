/- Facts of the types and functions of this seat's program, each by the kernel. -/
import Derived.Test.YtcehlnpbdffdhaaGreatDoorProg
import Derived.Test.YtcehlnpbdffdhaaGreatDoorSl8
namespace Go.Proofs.YtcehlnpbdffdhaaGreatDoor.Ty
open Go.Proofs.YtcehlnpbdffdhaaGreatDoor.SL
theorem ag2 : aggB Tryz.prog 2 = some false := by kernel_rfl
theorem sz2 : sizeB Tryz.prog 2 = some 1 := by kernel_rfl
theorem ag3 : aggB Tryz.prog 3 = some false := by kernel_rfl
theorem sz3 : sizeB Tryz.prog 3 = some 1 := by kernel_rfl
theorem by3 : (Tryz.prog.info? 3).map (·.bytes) = some 8 := by kernel_rfl
theorem zr3 : zeroB Tryz.prog 3 = some (Value.int .i64 0) := by kernel_rfl
theorem ag4 : aggB Tryz.prog 4 = some false := by kernel_rfl
theorem sz4 : sizeB Tryz.prog 4 = some 1 := by kernel_rfl
theorem zr4 : zeroB Tryz.prog 4 = some (Value.bool false) := by kernel_rfl
theorem ag5 : aggB Tryz.prog 5 = some false := by kernel_rfl
theorem sz5 : sizeB Tryz.prog 5 = some 1 := by kernel_rfl
theorem ag9 : aggB Tryz.prog 9 = some false := by kernel_rfl
theorem sz9 : sizeB Tryz.prog 9 = some 1 := by kernel_rfl
theorem by9 : (Tryz.prog.info? 9).map (·.bytes) = some 16 := by kernel_rfl
theorem zr9 : zeroB Tryz.prog 9 = some (str []) := by kernel_rfl
theorem ag22 : aggB Tryz.prog 22 = some false := by kernel_rfl
theorem sz22 : sizeB Tryz.prog 22 = some 1 := by kernel_rfl
theorem ag24 : aggB Tryz.prog 24 = some true := by kernel_rfl
theorem sz24 : sizeB Tryz.prog 24 = some 6 := by kernel_rfl
theorem zr24 : zeroB Tryz.prog 24 = some (Value.agg #[Value.int .i64 0, Value.int .i64 0, Value.int .i64 0, Value.int .i64 0, Value.int .i64 0, Value.slice none 0 0]) := by kernel_rfl
theorem ag27 : aggB Tryz.prog 27 = some false := by kernel_rfl
theorem sz27 : sizeB Tryz.prog 27 = some 1 := by kernel_rfl
theorem ag30 : aggB Tryz.prog 30 = some true := by kernel_rfl
theorem sz30 : sizeB Tryz.prog 30 = some 6 := by kernel_rfl
theorem zr30 : zeroB Tryz.prog 30 = some (Value.agg #[Value.int .i64 0, Value.int .i64 0, Value.int .i64 0, Value.int .i64 0, Value.int .i64 0, Value.slice none 0 0]) := by kernel_rfl
theorem ag37 : aggB Tryz.prog 37 = some false := by kernel_rfl
theorem sz37 : sizeB Tryz.prog 37 = some 1 := by kernel_rfl
theorem ag39 : aggB Tryz.prog 39 = some false := by kernel_rfl
theorem ag57 : aggB Tryz.prog 57 = some true := by kernel_rfl
theorem sz57 : sizeB Tryz.prog 57 = some 11 := by kernel_rfl
theorem zr57 : zeroB Tryz.prog 57 = some (Value.agg #[Value.int .i64 0, Value.int .i64 0, Value.int .i64 0, Value.int .i64 0, Value.int .i64 0, Value.slice none 0 0, Value.bool false, Value.slice none 0 0, Value.int .i64 0, str [], str []]) := by kernel_rfl
theorem ag72 : aggB Tryz.prog 72 = some true := by kernel_rfl
theorem sz72 : sizeB Tryz.prog 72 = some 2 := by kernel_rfl
theorem zr72 : zeroB Tryz.prog 72 = some (Value.agg #[Value.int .i64 0, str []]) := by kernel_rfl
theorem ag80 : aggB Tryz.prog 80 = some false := by kernel_rfl
theorem sz80 : sizeB Tryz.prog 80 = some 1 := by kernel_rfl
theorem ag81 : aggB Tryz.prog 81 = some false := by kernel_rfl
theorem sz81 : sizeB Tryz.prog 81 = some 1 := by kernel_rfl
theorem sz83 : sizeB Tryz.prog 83 = some 6 := by kernel_rfl
theorem ag84 : aggB Tryz.prog 84 = some false := by kernel_rfl
theorem sz84 : sizeB Tryz.prog 84 = some 1 := by kernel_rfl
theorem by84 : (Tryz.prog.info? 84).map (·.bytes) = some 8 := by kernel_rfl
theorem zr84 : zeroB Tryz.prog 84 = some Value.nilFunc := by kernel_rfl
theorem ag89 : aggB Tryz.prog 89 = some false := by kernel_rfl
theorem sz89 : sizeB Tryz.prog 89 = some 1 := by kernel_rfl
theorem by89 : (Tryz.prog.info? 89).map (·.bytes) = some 8 := by kernel_rfl
theorem zr89 : zeroB Tryz.prog 89 = some Value.nilFunc := by kernel_rfl
theorem ag94 : aggB Tryz.prog 94 = some false := by kernel_rfl
theorem sz94 : sizeB Tryz.prog 94 = some 1 := by kernel_rfl
theorem zr94 : zeroB Tryz.prog 94 = some (Value.pointer none) := by kernel_rfl
theorem ag100 : aggB Tryz.prog 100 = some false := by kernel_rfl
theorem sz100 : sizeB Tryz.prog 100 = some 1 := by kernel_rfl
theorem ag101 : aggB Tryz.prog 101 = some false := by kernel_rfl
theorem sz101 : sizeB Tryz.prog 101 = some 1 := by kernel_rfl
theorem ag102 : aggB Tryz.prog 102 = some false := by kernel_rfl
theorem sz102 : sizeB Tryz.prog 102 = some 1 := by kernel_rfl
theorem sz107 : sizeB Tryz.prog 107 = some 2 := by kernel_rfl
theorem by107 : (Tryz.prog.info? 107).map (·.bytes) = some 24 := by kernel_rfl
theorem zr107 : zeroB Tryz.prog 107 = some (Value.agg #[str [], Value.int .i64 0]) := by kernel_rfl
theorem ag110 : aggB Tryz.prog 110 = some true := by kernel_rfl
theorem sz110 : sizeB Tryz.prog 110 = some 3 := by kernel_rfl
theorem by110 : (Tryz.prog.info? 110).map (·.bytes) = some 40 := by kernel_rfl
theorem zr110 : zeroB Tryz.prog 110 = some (Value.agg #[str [], str [], Value.int .i64 0]) := by kernel_rfl
theorem ag112 : aggB Tryz.prog 112 = some true := by kernel_rfl
theorem sz112 : sizeB Tryz.prog 112 = some 2 := by kernel_rfl
theorem by112 : (Tryz.prog.info? 112).map (·.bytes) = some 24 := by kernel_rfl
theorem zr112 : zeroB Tryz.prog 112 = some (Value.agg #[str [], Value.int .i64 0]) := by kernel_rfl
theorem zr118 : zeroB Tryz.prog 118 = some (Value.agg #[Value.int .u8 0, Value.int .u8 0, Value.int .u8 0, Value.int .u8 0, Value.int .u8 0, Value.int .u8 0, Value.int .u8 0, Value.int .u8 0, Value.int .u8 0]) := by kernel_rfl
theorem ag122 : aggB Tryz.prog 122 = some false := by kernel_rfl
theorem sz122 : sizeB Tryz.prog 122 = some 1 := by kernel_rfl
theorem ag144 : aggB Tryz.prog 144 = some true := by kernel_rfl
theorem sz144 : sizeB Tryz.prog 144 = some 2 := by kernel_rfl
theorem zr144 : zeroB Tryz.prog 144 = some (Value.agg #[Value.int .i64 0, str []]) := by kernel_rfl
theorem sz166 : sizeB Tryz.prog 166 = some 2 := by kernel_rfl
theorem zr166 : zeroB Tryz.prog 166 = some (Value.agg #[Value.int .u32 0, Value.int .u32 0]) := by kernel_rfl
theorem hd9 : Has Tryz.prog 9 := Has.mk' Tryz.func9 (by kernel_rfl) (by kernel_rfl)
theorem hd10 : Has Tryz.prog 10 := Has.mk' Tryz.func10 (by kernel_rfl) (by kernel_rfl)
theorem hd11 : Has Tryz.prog 11 := Has.mk' Tryz.func11 (by kernel_rfl) (by kernel_rfl)
theorem hd12 : Has Tryz.prog 12 := Has.mk' Tryz.func12 (by kernel_rfl) (by kernel_rfl)
theorem hd13 : Has Tryz.prog 13 := Has.mk' Tryz.func13 (by kernel_rfl) (by kernel_rfl)
theorem hd14 : Has Tryz.prog 14 := Has.mk' Tryz.func14 (by kernel_rfl) (by kernel_rfl)
theorem hd15 : Has Tryz.prog 15 := Has.mk' Tryz.func15 (by kernel_rfl) (by kernel_rfl)
theorem hd16 : Has Tryz.prog 16 := Has.mk' Tryz.func16 (by kernel_rfl) (by kernel_rfl)
theorem hd17 : Has Tryz.prog 17 := Has.mk' Tryz.func17 (by kernel_rfl) (by kernel_rfl)
theorem hd18 : Has Tryz.prog 18 := Has.mk' Tryz.func18 (by kernel_rfl) (by kernel_rfl)
theorem hd19 : Has Tryz.prog 19 := Has.mk' Tryz.func19 (by kernel_rfl) (by kernel_rfl)
theorem hd20 : Has Tryz.prog 20 := Has.mk' Tryz.func20 (by kernel_rfl) (by kernel_rfl)
theorem hd21 : Has Tryz.prog 21 := Has.mk' Tryz.func21 (by kernel_rfl) (by kernel_rfl)
theorem hd22 : Has Tryz.prog 22 := Has.mk' Tryz.func22 (by kernel_rfl) (by kernel_rfl)
theorem hd23 : Has Tryz.prog 23 := Has.mk' Tryz.func23 (by kernel_rfl) (by kernel_rfl)
theorem hd24 : Has Tryz.prog 24 := Has.mk' Tryz.func24 (by kernel_rfl) (by kernel_rfl)
theorem hd25 : Has Tryz.prog 25 := Has.mk' Tryz.func25 (by kernel_rfl) (by kernel_rfl)
theorem hd26 : Has Tryz.prog 26 := Has.mk' Tryz.func26 (by kernel_rfl) (by kernel_rfl)
theorem hd27 : Has Tryz.prog 27 := Has.mk' Tryz.func27 (by kernel_rfl) (by kernel_rfl)
theorem hd28 : Has Tryz.prog 28 := Has.mk' Tryz.func28 (by kernel_rfl) (by kernel_rfl)
theorem hd29 : Has Tryz.prog 29 := Has.mk' Tryz.func29 (by kernel_rfl) (by kernel_rfl)
theorem hd30 : Has Tryz.prog 30 := Has.mk' Tryz.func30 (by kernel_rfl) (by kernel_rfl)
theorem hd31 : Has Tryz.prog 31 := Has.mk' Tryz.func31 (by kernel_rfl) (by kernel_rfl)
theorem hd32 : Has Tryz.prog 32 := Has.mk' Tryz.func32 (by kernel_rfl) (by kernel_rfl)
theorem hd33 : Has Tryz.prog 33 := Has.mk' Tryz.func33 (by kernel_rfl) (by kernel_rfl)
theorem hd34 : Has Tryz.prog 34 := Has.mk' Tryz.func34 (by kernel_rfl) (by kernel_rfl)
theorem hd35 : Has Tryz.prog 35 := Has.mk' Tryz.func35 (by kernel_rfl) (by kernel_rfl)
theorem hd36 : Has Tryz.prog 36 := Has.mk' Tryz.func36 (by kernel_rfl) (by kernel_rfl)
theorem hd37 : Has Tryz.prog 37 := Has.mk' Tryz.func37 (by kernel_rfl) (by kernel_rfl)
theorem hd38 : Has Tryz.prog 38 := Has.mk' Tryz.func38 (by kernel_rfl) (by kernel_rfl)
theorem hd39 : Has Tryz.prog 39 := Has.mk' Tryz.func39 (by kernel_rfl) (by kernel_rfl)
theorem hd40 : Has Tryz.prog 40 := Has.mk' Tryz.func40 (by kernel_rfl) (by kernel_rfl)
theorem hd41 : Has Tryz.prog 41 := Has.mk' Tryz.func41 (by kernel_rfl) (by kernel_rfl)
theorem hd42 : Has Tryz.prog 42 := Has.mk' Tryz.func42 (by kernel_rfl) (by kernel_rfl)
theorem hd43 : Has Tryz.prog 43 := Has.mk' Tryz.func43 (by kernel_rfl) (by kernel_rfl)
theorem hd44 : Has Tryz.prog 44 := Has.mk' Tryz.func44 (by kernel_rfl) (by kernel_rfl)
theorem hd45 : Has Tryz.prog 45 := Has.mk' Tryz.func45 (by kernel_rfl) (by kernel_rfl)
theorem hd46 : Has Tryz.prog 46 := Has.mk' Tryz.func46 (by kernel_rfl) (by kernel_rfl)
theorem hd47 : Has Tryz.prog 47 := Has.mk' Tryz.func47 (by kernel_rfl) (by kernel_rfl)
theorem hd48 : Has Tryz.prog 48 := Has.mk' Tryz.func48 (by kernel_rfl) (by kernel_rfl)
theorem hd49 : Has Tryz.prog 49 := Has.mk' Tryz.func49 (by kernel_rfl) (by kernel_rfl)
theorem hd50 : Has Tryz.prog 50 := Has.mk' Tryz.func50 (by kernel_rfl) (by kernel_rfl)
theorem hd51 : Has Tryz.prog 51 := Has.mk' Tryz.func51 (by kernel_rfl) (by kernel_rfl)
theorem hd52 : Has Tryz.prog 52 := Has.mk' Tryz.func52 (by kernel_rfl) (by kernel_rfl)
theorem hd53 : Has Tryz.prog 53 := Has.mk' Tryz.func53 (by kernel_rfl) (by kernel_rfl)
theorem hd54 : Has Tryz.prog 54 := Has.mk' Tryz.func54 (by kernel_rfl) (by kernel_rfl)
theorem hd55 : Has Tryz.prog 55 := Has.mk' Tryz.func55 (by kernel_rfl) (by kernel_rfl)
theorem hd56 : Has Tryz.prog 56 := Has.mk' Tryz.func56 (by kernel_rfl) (by kernel_rfl)
theorem hd57 : Has Tryz.prog 57 := Has.mk' Tryz.func57 (by kernel_rfl) (by kernel_rfl)
theorem hd58 : Has Tryz.prog 58 := Has.mk' Tryz.func58 (by kernel_rfl) (by kernel_rfl)
theorem hd59 : Has Tryz.prog 59 := Has.mk' Tryz.func59 (by kernel_rfl) (by kernel_rfl)
theorem hd60 : Has Tryz.prog 60 := Has.mk' Tryz.func60 (by kernel_rfl) (by kernel_rfl)
theorem hd61 : Has Tryz.prog 61 := Has.mk' Tryz.func61 (by kernel_rfl) (by kernel_rfl)
theorem hd62 : Has Tryz.prog 62 := Has.mk' Tryz.func62 (by kernel_rfl) (by kernel_rfl)
theorem hd63 : Has Tryz.prog 63 := Has.mk' Tryz.func63 (by kernel_rfl) (by kernel_rfl)
theorem hd64 : Has Tryz.prog 64 := Has.mk' Tryz.func64 (by kernel_rfl) (by kernel_rfl)
theorem hd65 : Has Tryz.prog 65 := Has.mk' Tryz.func65 (by kernel_rfl) (by kernel_rfl)
theorem hd66 : Has Tryz.prog 66 := Has.mk' Tryz.func66 (by kernel_rfl) (by kernel_rfl)
theorem hd67 : Has Tryz.prog 67 := Has.mk' Tryz.func67 (by kernel_rfl) (by kernel_rfl)
theorem hd68 : Has Tryz.prog 68 := Has.mk' Tryz.func68 (by kernel_rfl) (by kernel_rfl)
theorem hd69 : Has Tryz.prog 69 := Has.mk' Tryz.func69 (by kernel_rfl) (by kernel_rfl)
theorem hd70 : Has Tryz.prog 70 := Has.mk' Tryz.func70 (by kernel_rfl) (by kernel_rfl)
theorem hd71 : Has Tryz.prog 71 := Has.mk' Tryz.func71 (by kernel_rfl) (by kernel_rfl)
theorem hd72 : Has Tryz.prog 72 := Has.mk' Tryz.func72 (by kernel_rfl) (by kernel_rfl)
theorem hd73 : Has Tryz.prog 73 := Has.mk' Tryz.func73 (by kernel_rfl) (by kernel_rfl)
theorem hd74 : Has Tryz.prog 74 := Has.mk' Tryz.func74 (by kernel_rfl) (by kernel_rfl)
theorem hd75 : Has Tryz.prog 75 := Has.mk' Tryz.func75 (by kernel_rfl) (by kernel_rfl)
theorem hd76 : Has Tryz.prog 76 := Has.mk' Tryz.func76 (by kernel_rfl) (by kernel_rfl)
theorem hd77 : Has Tryz.prog 77 := Has.mk' Tryz.func77 (by kernel_rfl) (by kernel_rfl)
theorem hd78 : Has Tryz.prog 78 := Has.mk' Tryz.func78 (by kernel_rfl) (by kernel_rfl)
theorem hd82 : Has Tryz.prog 82 := Has.mk' Tryz.func82 (by kernel_rfl) (by kernel_rfl)
theorem hd83 : Has Tryz.prog 83 := Has.mk' Tryz.func83 (by kernel_rfl) (by kernel_rfl)
theorem hd84 : Has Tryz.prog 84 := Has.mk' Tryz.func84 (by kernel_rfl) (by kernel_rfl)
theorem hd85 : Has Tryz.prog 85 := Has.mk' Tryz.func85 (by kernel_rfl) (by kernel_rfl)
theorem hd86 : Has Tryz.prog 86 := Has.mk' Tryz.func86 (by kernel_rfl) (by kernel_rfl)
theorem hd87 : Has Tryz.prog 87 := Has.mk' Tryz.func87 (by kernel_rfl) (by kernel_rfl)
theorem hd88 : Has Tryz.prog 88 := Has.mk' Tryz.func88 (by kernel_rfl) (by kernel_rfl)
theorem hd93 : Has Tryz.prog 93 := Has.mk' Tryz.func93 (by kernel_rfl) (by kernel_rfl)
theorem hd94 : Has Tryz.prog 94 := Has.mk' Tryz.func94 (by kernel_rfl) (by kernel_rfl)
theorem hd95 : Has Tryz.prog 95 := Has.mk' Tryz.func95 (by kernel_rfl) (by kernel_rfl)
theorem hd96 : Has Tryz.prog 96 := Has.mk' Tryz.func96 (by kernel_rfl) (by kernel_rfl)
theorem hd97 : Has Tryz.prog 97 := Has.mk' Tryz.func97 (by kernel_rfl) (by kernel_rfl)
theorem hd98 : Has Tryz.prog 98 := Has.mk' Tryz.func98 (by kernel_rfl) (by kernel_rfl)
theorem hd99 : Has Tryz.prog 99 := Has.mk' Tryz.func99 (by kernel_rfl) (by kernel_rfl)
theorem hd100 : Has Tryz.prog 100 := Has.mk' Tryz.func100 (by kernel_rfl) (by kernel_rfl)
theorem hd101 : Has Tryz.prog 101 := Has.mk' Tryz.func101 (by kernel_rfl) (by kernel_rfl)
theorem hd102 : Has Tryz.prog 102 := Has.mk' Tryz.func102 (by kernel_rfl) (by kernel_rfl)
theorem hd103 : Has Tryz.prog 103 := Has.mk' Tryz.func103 (by kernel_rfl) (by kernel_rfl)
theorem hd111 : Has Tryz.prog 111 := Has.mk' Tryz.func111 (by kernel_rfl) (by kernel_rfl)
theorem hd112 : Has Tryz.prog 112 := Has.mk' Tryz.func112 (by kernel_rfl) (by kernel_rfl)
theorem hd113 : Has Tryz.prog 113 := Has.mk' Tryz.func113 (by kernel_rfl) (by kernel_rfl)
theorem hd116 : Has Tryz.prog 116 := Has.mk' Tryz.func116 (by kernel_rfl) (by kernel_rfl)
theorem hd117 : Has Tryz.prog 117 := Has.mk' Tryz.func117 (by kernel_rfl) (by kernel_rfl)
theorem hd118 : Has Tryz.prog 118 := Has.mk' Tryz.func118 (by kernel_rfl) (by kernel_rfl)
theorem hd119 : Has Tryz.prog 119 := Has.mk' Tryz.func119 (by kernel_rfl) (by kernel_rfl)
theorem hd120 : Has Tryz.prog 120 := Has.mk' Tryz.func120 (by kernel_rfl) (by kernel_rfl)
theorem hd121 : Has Tryz.prog 121 := Has.mk' Tryz.func121 (by kernel_rfl) (by kernel_rfl)
theorem hd122 : Has Tryz.prog 122 := Has.mk' Tryz.func122 (by kernel_rfl) (by kernel_rfl)
theorem hd136 : Has Tryz.prog 136 := Has.mk' Tryz.func136 (by kernel_rfl) (by kernel_rfl)
theorem hd140 : Has Tryz.prog 140 := Has.mk' Tryz.func140 (by kernel_rfl) (by kernel_rfl)
theorem mo : Tryz.prog.follows .mixedOrders = true := by kernel_rfl
end Go.Proofs.YtcehlnpbdffdhaaGreatDoor.Ty
