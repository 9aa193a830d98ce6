/- Facts of the types and functions of this seat's program, each by the kernel. -/
import Derived.Test.YtidoidoelgfnaaaGreatDoorProg
import Derived.Test.YtidoidoelgfnaaaGreatDoorSl8
namespace Go.Proofs.YtidoidoelgfnaaaGreatDoor.Ty
open Go.Proofs.YtidoidoelgfnaaaGreatDoor.SL
theorem ag2 : aggB Tryz.prog 2 = some false := by kernel_rfl
theorem sz2 : sizeB Tryz.prog 2 = some 1 := by kernel_rfl
theorem zr2 : zeroB Tryz.prog 2 = some (Value.int .i64 0) := by kernel_rfl
theorem ag3 : aggB Tryz.prog 3 = some false := by kernel_rfl
theorem ag4 : aggB Tryz.prog 4 = some false := by kernel_rfl
theorem sz4 : sizeB Tryz.prog 4 = some 1 := by kernel_rfl
theorem zr4 : zeroB Tryz.prog 4 = some (Value.bool false) := by kernel_rfl
theorem sz5 : sizeB Tryz.prog 5 = some 1 := by kernel_rfl
theorem by5 : (Tryz.prog.info? 5).map (·.bytes) = some 1 := by kernel_rfl
theorem zr5 : zeroB Tryz.prog 5 = some (Value.int .u8 0) := by kernel_rfl
theorem ag9 : aggB Tryz.prog 9 = some false := by kernel_rfl
theorem ag23 : aggB Tryz.prog 23 = some false := by kernel_rfl
theorem sz23 : sizeB Tryz.prog 23 = some 1 := by kernel_rfl
theorem ag24 : aggB Tryz.prog 24 = some false := by kernel_rfl
theorem sz24 : sizeB Tryz.prog 24 = some 1 := by kernel_rfl
theorem ag28 : aggB Tryz.prog 28 = some false := by kernel_rfl
theorem sz28 : sizeB Tryz.prog 28 = some 1 := by kernel_rfl
theorem zr28 : zeroB Tryz.prog 28 = some (Value.int .i64 0) := by kernel_rfl
theorem ag31 : aggB Tryz.prog 31 = some false := by kernel_rfl
theorem sz31 : sizeB Tryz.prog 31 = some 1 := by kernel_rfl
theorem ag33 : aggB Tryz.prog 33 = some true := by kernel_rfl
theorem sz33 : sizeB Tryz.prog 33 = some 5 := by kernel_rfl
theorem by33 : (Tryz.prog.info? 33).map (·.bytes) = some 72 := by kernel_rfl
theorem zr33 : zeroB Tryz.prog 33 = some (Value.agg #[Value.int .i64 0, Value.slice none 0 0, Value.slice none 0 0, Value.int .i64 0, Value.int .i64 0]) := by kernel_rfl
theorem ag37 : aggB Tryz.prog 37 = some false := by kernel_rfl
theorem sz37 : sizeB Tryz.prog 37 = some 1 := by kernel_rfl
theorem zr37 : zeroB Tryz.prog 37 = some (Value.slice none 0 0) := by kernel_rfl
theorem ag44 : aggB Tryz.prog 44 = some false := by kernel_rfl
theorem sz44 : sizeB Tryz.prog 44 = some 1 := by kernel_rfl
theorem ag46 : aggB Tryz.prog 46 = some true := by kernel_rfl
theorem sz46 : sizeB Tryz.prog 46 = some 4 := by kernel_rfl
theorem by46 : (Tryz.prog.info? 46).map (·.bytes) = some 64 := by kernel_rfl
theorem zr46 : zeroB Tryz.prog 46 = some (Value.agg #[Value.int .i64 0, Value.int .i64 0, Value.slice none 0 0, Value.slice none 0 0]) := by kernel_rfl
theorem ag62 : aggB Tryz.prog 62 = some false := by kernel_rfl
theorem ag65 : aggB Tryz.prog 65 = some false := by kernel_rfl
theorem sz65 : sizeB Tryz.prog 65 = some 1 := by kernel_rfl
theorem ag66 : aggB Tryz.prog 66 = some false := by kernel_rfl
theorem sz66 : sizeB Tryz.prog 66 = some 1 := by kernel_rfl
theorem zr66 : zeroB Tryz.prog 66 = some (Value.slice none 0 0) := by kernel_rfl
theorem ag68 : aggB Tryz.prog 68 = some true := by kernel_rfl
theorem sz68 : sizeB Tryz.prog 68 = some 2 := by kernel_rfl
theorem by68 : (Tryz.prog.info? 68).map (·.bytes) = some 48 := by kernel_rfl
theorem zr68 : zeroB Tryz.prog 68 = some (Value.agg #[Value.slice none 0 0, Value.slice none 0 0]) := by kernel_rfl
theorem ag77 : aggB Tryz.prog 77 = some false := by kernel_rfl
theorem sz77 : sizeB Tryz.prog 77 = some 1 := by kernel_rfl
theorem ag81 : aggB Tryz.prog 81 = some false := by kernel_rfl
theorem ag83 : aggB Tryz.prog 83 = some true := by kernel_rfl
theorem sz83 : sizeB Tryz.prog 83 = some 3 := by kernel_rfl
theorem by83 : (Tryz.prog.info? 83).map (·.bytes) = some 40 := by kernel_rfl
theorem zr83 : zeroB Tryz.prog 83 = some (Value.agg #[Value.slice none 0 0, Value.int .i64 0, Value.int .u64 0]) := by kernel_rfl
theorem ag93 : aggB Tryz.prog 93 = some true := by kernel_rfl
theorem sz93 : sizeB Tryz.prog 93 = some 3 := by kernel_rfl
theorem by93 : (Tryz.prog.info? 93).map (·.bytes) = some 56 := by kernel_rfl
theorem zr93 : zeroB Tryz.prog 93 = some (Value.agg #[Value.slice none 0 0, Value.int .i64 0, Value.slice none 0 0]) := by kernel_rfl
theorem ag95 : aggB Tryz.prog 95 = some true := by kernel_rfl
theorem sz95 : sizeB Tryz.prog 95 = some 3 := by kernel_rfl
theorem by95 : (Tryz.prog.info? 95).map (·.bytes) = some 56 := by kernel_rfl
theorem zr95 : zeroB Tryz.prog 95 = some (Value.agg #[Value.slice none 0 0, Value.slice none 0 0, Value.int .i64 0]) := by kernel_rfl
theorem ag103 : aggB Tryz.prog 103 = some true := by kernel_rfl
theorem sz103 : sizeB Tryz.prog 103 = some 2 := by kernel_rfl
theorem by103 : (Tryz.prog.info? 103).map (·.bytes) = some 16 := by kernel_rfl
theorem zr103 : zeroB Tryz.prog 103 = some (Value.agg #[Value.int .i64 0, Value.int .u64 0]) := by kernel_rfl
theorem ag105 : aggB Tryz.prog 105 = some true := by kernel_rfl
theorem sz105 : sizeB Tryz.prog 105 = some 2 := by kernel_rfl
theorem by105 : (Tryz.prog.info? 105).map (·.bytes) = some 32 := by kernel_rfl
theorem zr105 : zeroB Tryz.prog 105 = some (Value.agg #[str [], str []]) := by kernel_rfl
theorem zr119 : zeroB Tryz.prog 119 = some (Value.pointer none) := by kernel_rfl
theorem ag124 : aggB Tryz.prog 124 = some false := by kernel_rfl
theorem ag128 : aggB Tryz.prog 128 = some false := by kernel_rfl
theorem sz128 : sizeB Tryz.prog 128 = some 1 := by kernel_rfl
theorem by128 : (Tryz.prog.info? 128).map (·.bytes) = some 8 := by kernel_rfl
theorem zr128 : zeroB Tryz.prog 128 = some (Value.pointer none) := by kernel_rfl
theorem ag151 : aggB Tryz.prog 151 = some true := by kernel_rfl
theorem sz151 : sizeB Tryz.prog 151 = some 3 := by kernel_rfl
theorem by151 : (Tryz.prog.info? 151).map (·.bytes) = some 40 := by kernel_rfl
theorem zr151 : zeroB Tryz.prog 151 = some (Value.agg #[Value.int .i64 0, str [], str []]) := by kernel_rfl
theorem ag159 : aggB Tryz.prog 159 = some false := by kernel_rfl
theorem sz159 : sizeB Tryz.prog 159 = some 1 := by kernel_rfl
theorem ag160 : aggB Tryz.prog 160 = some false := by kernel_rfl
theorem sz160 : sizeB Tryz.prog 160 = some 1 := by kernel_rfl
theorem zr162 : zeroB Tryz.prog 162 = some (Value.agg #[Value.pointer none, Value.slice none 0 0]) := by kernel_rfl
theorem ag174 : aggB Tryz.prog 174 = some false := by kernel_rfl
theorem sz174 : sizeB Tryz.prog 174 = some 1 := by kernel_rfl
theorem zr188 : zeroB Tryz.prog 188 = some (Value.agg #[Value.int .u8 0, Value.int .u8 0, Value.int .u8 0, Value.int .u8 0, Value.int .u8 0, Value.int .u8 0, Value.int .u8 0, Value.int .u8 0, Value.int .u8 0]) := by kernel_rfl
theorem hd14 : Has Tryz.prog 14 := Has.mk' Tryz.func14 (by kernel_rfl) (by kernel_rfl)
theorem hd15 : Has Tryz.prog 15 := Has.mk' Tryz.func15 (by kernel_rfl) (by kernel_rfl)
theorem hd16 : Has Tryz.prog 16 := Has.mk' Tryz.func16 (by kernel_rfl) (by kernel_rfl)
theorem hd17 : Has Tryz.prog 17 := Has.mk' Tryz.func17 (by kernel_rfl) (by kernel_rfl)
theorem hd18 : Has Tryz.prog 18 := Has.mk' Tryz.func18 (by kernel_rfl) (by kernel_rfl)
theorem hd21 : Has Tryz.prog 21 := Has.mk' Tryz.func21 (by kernel_rfl) (by kernel_rfl)
theorem hd22 : Has Tryz.prog 22 := Has.mk' Tryz.func22 (by kernel_rfl) (by kernel_rfl)
theorem hd27 : Has Tryz.prog 27 := Has.mk' Tryz.func27 (by kernel_rfl) (by kernel_rfl)
theorem hd30 : Has Tryz.prog 30 := Has.mk' Tryz.func30 (by kernel_rfl) (by kernel_rfl)
theorem hd31 : Has Tryz.prog 31 := Has.mk' Tryz.func31 (by kernel_rfl) (by kernel_rfl)
theorem hd32 : Has Tryz.prog 32 := Has.mk' Tryz.func32 (by kernel_rfl) (by kernel_rfl)
theorem hd33 : Has Tryz.prog 33 := Has.mk' Tryz.func33 (by kernel_rfl) (by kernel_rfl)
theorem hd37 : Has Tryz.prog 37 := Has.mk' Tryz.func37 (by kernel_rfl) (by kernel_rfl)
theorem hd38 : Has Tryz.prog 38 := Has.mk' Tryz.func38 (by kernel_rfl) (by kernel_rfl)
theorem hd39 : Has Tryz.prog 39 := Has.mk' Tryz.func39 (by kernel_rfl) (by kernel_rfl)
theorem hd42 : Has Tryz.prog 42 := Has.mk' Tryz.func42 (by kernel_rfl) (by kernel_rfl)
theorem hd43 : Has Tryz.prog 43 := Has.mk' Tryz.func43 (by kernel_rfl) (by kernel_rfl)
theorem hd44 : Has Tryz.prog 44 := Has.mk' Tryz.func44 (by kernel_rfl) (by kernel_rfl)
theorem hd45 : Has Tryz.prog 45 := Has.mk' Tryz.func45 (by kernel_rfl) (by kernel_rfl)
theorem hd49 : Has Tryz.prog 49 := Has.mk' Tryz.func49 (by kernel_rfl) (by kernel_rfl)
theorem hd50 : Has Tryz.prog 50 := Has.mk' Tryz.func50 (by kernel_rfl) (by kernel_rfl)
theorem hd51 : Has Tryz.prog 51 := Has.mk' Tryz.func51 (by kernel_rfl) (by kernel_rfl)
theorem hd52 : Has Tryz.prog 52 := Has.mk' Tryz.func52 (by kernel_rfl) (by kernel_rfl)
theorem hd53 : Has Tryz.prog 53 := Has.mk' Tryz.func53 (by kernel_rfl) (by kernel_rfl)
theorem hd56 : Has Tryz.prog 56 := Has.mk' Tryz.func56 (by kernel_rfl) (by kernel_rfl)
theorem hd57 : Has Tryz.prog 57 := Has.mk' Tryz.func57 (by kernel_rfl) (by kernel_rfl)
theorem hd58 : Has Tryz.prog 58 := Has.mk' Tryz.func58 (by kernel_rfl) (by kernel_rfl)
theorem hd59 : Has Tryz.prog 59 := Has.mk' Tryz.func59 (by kernel_rfl) (by kernel_rfl)
theorem hd60 : Has Tryz.prog 60 := Has.mk' Tryz.func60 (by kernel_rfl) (by kernel_rfl)
theorem hd61 : Has Tryz.prog 61 := Has.mk' Tryz.func61 (by kernel_rfl) (by kernel_rfl)
theorem hd64 : Has Tryz.prog 64 := Has.mk' Tryz.func64 (by kernel_rfl) (by kernel_rfl)
theorem hd65 : Has Tryz.prog 65 := Has.mk' Tryz.func65 (by kernel_rfl) (by kernel_rfl)
theorem hd66 : Has Tryz.prog 66 := Has.mk' Tryz.func66 (by kernel_rfl) (by kernel_rfl)
theorem hd67 : Has Tryz.prog 67 := Has.mk' Tryz.func67 (by kernel_rfl) (by kernel_rfl)
theorem hd68 : Has Tryz.prog 68 := Has.mk' Tryz.func68 (by kernel_rfl) (by kernel_rfl)
theorem hd69 : Has Tryz.prog 69 := Has.mk' Tryz.func69 (by kernel_rfl) (by kernel_rfl)
theorem hd70 : Has Tryz.prog 70 := Has.mk' Tryz.func70 (by kernel_rfl) (by kernel_rfl)
theorem hd71 : Has Tryz.prog 71 := Has.mk' Tryz.func71 (by kernel_rfl) (by kernel_rfl)
theorem hd72 : Has Tryz.prog 72 := Has.mk' Tryz.func72 (by kernel_rfl) (by kernel_rfl)
theorem hd73 : Has Tryz.prog 73 := Has.mk' Tryz.func73 (by kernel_rfl) (by kernel_rfl)
theorem hd78 : Has Tryz.prog 78 := Has.mk' Tryz.func78 (by kernel_rfl) (by kernel_rfl)
theorem hd80 : Has Tryz.prog 80 := Has.mk' Tryz.func80 (by kernel_rfl) (by kernel_rfl)
theorem hd81 : Has Tryz.prog 81 := Has.mk' Tryz.func81 (by kernel_rfl) (by kernel_rfl)
theorem hd82 : Has Tryz.prog 82 := Has.mk' Tryz.func82 (by kernel_rfl) (by kernel_rfl)
theorem hd83 : Has Tryz.prog 83 := Has.mk' Tryz.func83 (by kernel_rfl) (by kernel_rfl)
theorem hd84 : Has Tryz.prog 84 := Has.mk' Tryz.func84 (by kernel_rfl) (by kernel_rfl)
theorem hd85 : Has Tryz.prog 85 := Has.mk' Tryz.func85 (by kernel_rfl) (by kernel_rfl)
theorem hd86 : Has Tryz.prog 86 := Has.mk' Tryz.func86 (by kernel_rfl) (by kernel_rfl)
theorem hd87 : Has Tryz.prog 87 := Has.mk' Tryz.func87 (by kernel_rfl) (by kernel_rfl)
theorem hd88 : Has Tryz.prog 88 := Has.mk' Tryz.func88 (by kernel_rfl) (by kernel_rfl)
theorem hd89 : Has Tryz.prog 89 := Has.mk' Tryz.func89 (by kernel_rfl) (by kernel_rfl)
theorem hd90 : Has Tryz.prog 90 := Has.mk' Tryz.func90 (by kernel_rfl) (by kernel_rfl)
theorem hd91 : Has Tryz.prog 91 := Has.mk' Tryz.func91 (by kernel_rfl) (by kernel_rfl)
theorem hd93 : Has Tryz.prog 93 := Has.mk' Tryz.func93 (by kernel_rfl) (by kernel_rfl)
theorem hd94 : Has Tryz.prog 94 := Has.mk' Tryz.func94 (by kernel_rfl) (by kernel_rfl)
theorem hd95 : Has Tryz.prog 95 := Has.mk' Tryz.func95 (by kernel_rfl) (by kernel_rfl)
theorem hd96 : Has Tryz.prog 96 := Has.mk' Tryz.func96 (by kernel_rfl) (by kernel_rfl)
theorem hd97 : Has Tryz.prog 97 := Has.mk' Tryz.func97 (by kernel_rfl) (by kernel_rfl)
theorem hd98 : Has Tryz.prog 98 := Has.mk' Tryz.func98 (by kernel_rfl) (by kernel_rfl)
theorem hd99 : Has Tryz.prog 99 := Has.mk' Tryz.func99 (by kernel_rfl) (by kernel_rfl)
theorem hd100 : Has Tryz.prog 100 := Has.mk' Tryz.func100 (by kernel_rfl) (by kernel_rfl)
theorem hd101 : Has Tryz.prog 101 := Has.mk' Tryz.func101 (by kernel_rfl) (by kernel_rfl)
theorem hd102 : Has Tryz.prog 102 := Has.mk' Tryz.func102 (by kernel_rfl) (by kernel_rfl)
theorem hd103 : Has Tryz.prog 103 := Has.mk' Tryz.func103 (by kernel_rfl) (by kernel_rfl)
theorem hd104 : Has Tryz.prog 104 := Has.mk' Tryz.func104 (by kernel_rfl) (by kernel_rfl)
theorem hd105 : Has Tryz.prog 105 := Has.mk' Tryz.func105 (by kernel_rfl) (by kernel_rfl)
theorem hd106 : Has Tryz.prog 106 := Has.mk' Tryz.func106 (by kernel_rfl) (by kernel_rfl)
theorem hd107 : Has Tryz.prog 107 := Has.mk' Tryz.func107 (by kernel_rfl) (by kernel_rfl)
theorem hd108 : Has Tryz.prog 108 := Has.mk' Tryz.func108 (by kernel_rfl) (by kernel_rfl)
theorem hd109 : Has Tryz.prog 109 := Has.mk' Tryz.func109 (by kernel_rfl) (by kernel_rfl)
theorem hd110 : Has Tryz.prog 110 := Has.mk' Tryz.func110 (by kernel_rfl) (by kernel_rfl)
theorem hd111 : Has Tryz.prog 111 := Has.mk' Tryz.func111 (by kernel_rfl) (by kernel_rfl)
theorem hd112 : Has Tryz.prog 112 := Has.mk' Tryz.func112 (by kernel_rfl) (by kernel_rfl)
theorem hd113 : Has Tryz.prog 113 := Has.mk' Tryz.func113 (by kernel_rfl) (by kernel_rfl)
theorem hd114 : Has Tryz.prog 114 := Has.mk' Tryz.func114 (by kernel_rfl) (by kernel_rfl)
theorem hd115 : Has Tryz.prog 115 := Has.mk' Tryz.func115 (by kernel_rfl) (by kernel_rfl)
theorem hd116 : Has Tryz.prog 116 := Has.mk' Tryz.func116 (by kernel_rfl) (by kernel_rfl)
theorem hd117 : Has Tryz.prog 117 := Has.mk' Tryz.func117 (by kernel_rfl) (by kernel_rfl)
theorem hd118 : Has Tryz.prog 118 := Has.mk' Tryz.func118 (by kernel_rfl) (by kernel_rfl)
theorem hd119 : Has Tryz.prog 119 := Has.mk' Tryz.func119 (by kernel_rfl) (by kernel_rfl)
theorem hd120 : Has Tryz.prog 120 := Has.mk' Tryz.func120 (by kernel_rfl) (by kernel_rfl)
theorem hd121 : Has Tryz.prog 121 := Has.mk' Tryz.func121 (by kernel_rfl) (by kernel_rfl)
theorem hd122 : Has Tryz.prog 122 := Has.mk' Tryz.func122 (by kernel_rfl) (by kernel_rfl)
theorem hd123 : Has Tryz.prog 123 := Has.mk' Tryz.func123 (by kernel_rfl) (by kernel_rfl)
theorem hd124 : Has Tryz.prog 124 := Has.mk' Tryz.func124 (by kernel_rfl) (by kernel_rfl)
theorem hd125 : Has Tryz.prog 125 := Has.mk' Tryz.func125 (by kernel_rfl) (by kernel_rfl)
theorem hd126 : Has Tryz.prog 126 := Has.mk' Tryz.func126 (by kernel_rfl) (by kernel_rfl)
theorem hd129 : Has Tryz.prog 129 := Has.mk' Tryz.func129 (by kernel_rfl) (by kernel_rfl)
theorem hd130 : Has Tryz.prog 130 := Has.mk' Tryz.func130 (by kernel_rfl) (by kernel_rfl)
theorem hd131 : Has Tryz.prog 131 := Has.mk' Tryz.func131 (by kernel_rfl) (by kernel_rfl)
theorem hd132 : Has Tryz.prog 132 := Has.mk' Tryz.func132 (by kernel_rfl) (by kernel_rfl)
theorem hd133 : Has Tryz.prog 133 := Has.mk' Tryz.func133 (by kernel_rfl) (by kernel_rfl)
theorem hd135 : Has Tryz.prog 135 := Has.mk' Tryz.func135 (by kernel_rfl) (by kernel_rfl)
theorem hd148 : Has Tryz.prog 148 := Has.mk' Tryz.func148 (by kernel_rfl) (by kernel_rfl)
theorem hd152 : Has Tryz.prog 152 := Has.mk' Tryz.func152 (by kernel_rfl) (by kernel_rfl)
theorem hd153 : Has Tryz.prog 153 := Has.mk' Tryz.func153 (by kernel_rfl) (by kernel_rfl)
theorem hd154 : Has Tryz.prog 154 := Has.mk' Tryz.func154 (by kernel_rfl) (by kernel_rfl)
theorem hd171 : Has Tryz.prog 171 := Has.mk' Tryz.func171 (by kernel_rfl) (by kernel_rfl)
theorem mo : Tryz.prog.follows .mixedOrders = true := by kernel_rfl
end Go.Proofs.YtidoidoelgfnaaaGreatDoor.Ty
