/- Facts of the types and functions of this seat's program, each by the kernel. -/
import Derived.Test.YtidoidoelgfnaaaGreatDoorProg
import Derived.Test.YtidoidoelgfnaaaGreatDoorSl8
namespace Go.Proofs.YtidoidoelgfnaaaGreatDoor.Ty
open Go.Proofs.YtidoidoelgfnaaaGreatDoor.SL
theorem ag2 : aggB Tryz.prog 2 = some false := by kernel_rfl
theorem sz2 : sizeB Tryz.prog 2 = some 1 := by kernel_rfl
theorem ag3 : aggB Tryz.prog 3 = some false := by kernel_rfl
theorem ag4 : aggB Tryz.prog 4 = some false := by kernel_rfl
theorem sz4 : sizeB Tryz.prog 4 = some 1 := by kernel_rfl
theorem sz5 : sizeB Tryz.prog 5 = some 1 := by kernel_rfl
theorem by5 : (Tryz.prog.info? 5).map (·.bytes) = some 1 := by kernel_rfl
theorem zr5 : zeroB Tryz.prog 5 = some (Value.int .u8 0) := by kernel_rfl
theorem ag9 : aggB Tryz.prog 9 = some false := by kernel_rfl
theorem ag23 : aggB Tryz.prog 23 = some false := by kernel_rfl
theorem sz23 : sizeB Tryz.prog 23 = some 1 := by kernel_rfl
theorem ag24 : aggB Tryz.prog 24 = some false := by kernel_rfl
theorem sz24 : sizeB Tryz.prog 24 = some 1 := by kernel_rfl
theorem ag28 : aggB Tryz.prog 28 = some false := by kernel_rfl
theorem sz28 : sizeB Tryz.prog 28 = some 1 := by kernel_rfl
theorem zr28 : zeroB Tryz.prog 28 = some (Value.int .i64 0) := by kernel_rfl
theorem ag31 : aggB Tryz.prog 31 = some false := by kernel_rfl
theorem sz31 : sizeB Tryz.prog 31 = some 1 := by kernel_rfl
theorem ag33 : aggB Tryz.prog 33 = some true := by kernel_rfl
theorem sz33 : sizeB Tryz.prog 33 = some 5 := by kernel_rfl
theorem by33 : (Tryz.prog.info? 33).map (·.bytes) = some 72 := by kernel_rfl
theorem zr33 : zeroB Tryz.prog 33 = some (Value.agg #[Value.int .i64 0, Value.slice none 0 0, Value.slice none 0 0, Value.int .i64 0, Value.int .i64 0]) := by kernel_rfl
theorem ag44 : aggB Tryz.prog 44 = some false := by kernel_rfl
theorem sz44 : sizeB Tryz.prog 44 = some 1 := by kernel_rfl
theorem ag46 : aggB Tryz.prog 46 = some true := by kernel_rfl
theorem sz46 : sizeB Tryz.prog 46 = some 4 := by kernel_rfl
theorem by46 : (Tryz.prog.info? 46).map (·.bytes) = some 64 := by kernel_rfl
theorem zr46 : zeroB Tryz.prog 46 = some (Value.agg #[Value.int .i64 0, Value.int .i64 0, Value.slice none 0 0, Value.slice none 0 0]) := by kernel_rfl
theorem ag49 : aggB Tryz.prog 49 = some false := by kernel_rfl
theorem sz49 : sizeB Tryz.prog 49 = some 1 := by kernel_rfl
theorem ag51 : aggB Tryz.prog 51 = some true := by kernel_rfl
theorem sz51 : sizeB Tryz.prog 51 = some 4 := by kernel_rfl
theorem zr51 : zeroB Tryz.prog 51 = some (Value.agg #[Value.int .i64 0, Value.int .i64 0, Value.slice none 0 0, Value.slice none 0 0]) := by kernel_rfl
theorem ag65 : aggB Tryz.prog 65 = some false := by kernel_rfl
theorem sz65 : sizeB Tryz.prog 65 = some 1 := by kernel_rfl
theorem ag66 : aggB Tryz.prog 66 = some false := by kernel_rfl
theorem sz66 : sizeB Tryz.prog 66 = some 1 := by kernel_rfl
theorem ag81 : aggB Tryz.prog 81 = some false := by kernel_rfl
theorem ag83 : aggB Tryz.prog 83 = some true := by kernel_rfl
theorem sz83 : sizeB Tryz.prog 83 = some 3 := by kernel_rfl
theorem by83 : (Tryz.prog.info? 83).map (·.bytes) = some 40 := by kernel_rfl
theorem zr83 : zeroB Tryz.prog 83 = some (Value.agg #[Value.slice none 0 0, Value.int .i64 0, Value.int .u64 0]) := by kernel_rfl
theorem ag93 : aggB Tryz.prog 93 = some true := by kernel_rfl
theorem sz93 : sizeB Tryz.prog 93 = some 3 := by kernel_rfl
theorem by93 : (Tryz.prog.info? 93).map (·.bytes) = some 56 := by kernel_rfl
theorem zr93 : zeroB Tryz.prog 93 = some (Value.agg #[Value.slice none 0 0, Value.int .i64 0, Value.slice none 0 0]) := by kernel_rfl
theorem ag99 : aggB Tryz.prog 99 = some true := by kernel_rfl
theorem sz99 : sizeB Tryz.prog 99 = some 3 := by kernel_rfl
theorem by99 : (Tryz.prog.info? 99).map (·.bytes) = some 56 := by kernel_rfl
theorem zr99 : zeroB Tryz.prog 99 = some (Value.agg #[Value.slice none 0 0, Value.int .i64 0, Value.slice none 0 0]) := by kernel_rfl
theorem ag103 : aggB Tryz.prog 103 = some true := by kernel_rfl
theorem sz103 : sizeB Tryz.prog 103 = some 2 := by kernel_rfl
theorem by103 : (Tryz.prog.info? 103).map (·.bytes) = some 16 := by kernel_rfl
theorem zr103 : zeroB Tryz.prog 103 = some (Value.agg #[Value.int .i64 0, Value.int .u64 0]) := by kernel_rfl
theorem ag105 : aggB Tryz.prog 105 = some true := by kernel_rfl
theorem sz105 : sizeB Tryz.prog 105 = some 2 := by kernel_rfl
theorem by105 : (Tryz.prog.info? 105).map (·.bytes) = some 32 := by kernel_rfl
theorem zr105 : zeroB Tryz.prog 105 = some (Value.agg #[str [], str []]) := by kernel_rfl
theorem zr119 : zeroB Tryz.prog 119 = some (Value.pointer none) := by kernel_rfl
theorem ag151 : aggB Tryz.prog 151 = some true := by kernel_rfl
theorem sz151 : sizeB Tryz.prog 151 = some 3 := by kernel_rfl
theorem by151 : (Tryz.prog.info? 151).map (·.bytes) = some 40 := by kernel_rfl
theorem zr151 : zeroB Tryz.prog 151 = some (Value.agg #[Value.int .i64 0, str [], str []]) := by kernel_rfl
theorem ag159 : aggB Tryz.prog 159 = some false := by kernel_rfl
theorem sz159 : sizeB Tryz.prog 159 = some 1 := by kernel_rfl
theorem ag160 : aggB Tryz.prog 160 = some false := by kernel_rfl
theorem sz160 : sizeB Tryz.prog 160 = some 1 := by kernel_rfl
theorem zr162 : zeroB Tryz.prog 162 = some (Value.agg #[Value.pointer none, Value.slice none 0 0]) := by kernel_rfl
theorem zr188 : zeroB Tryz.prog 188 = some (Value.agg #[Value.int .u8 0, Value.int .u8 0, Value.int .u8 0, Value.int .u8 0, Value.int .u8 0, Value.int .u8 0, Value.int .u8 0, Value.int .u8 0, Value.int .u8 0]) := by kernel_rfl
theorem hd12 : Has Tryz.prog 12 := Has.mk' Tryz.func12 (by kernel_rfl) (by kernel_rfl)
theorem hd13 : Has Tryz.prog 13 := Has.mk' Tryz.func13 (by kernel_rfl) (by kernel_rfl)
theorem hd14 : Has Tryz.prog 14 := Has.mk' Tryz.func14 (by kernel_rfl) (by kernel_rfl)
theorem hd15 : Has Tryz.prog 15 := Has.mk' Tryz.func15 (by kernel_rfl) (by kernel_rfl)
theorem hd16 : Has Tryz.prog 16 := Has.mk' Tryz.func16 (by kernel_rfl) (by kernel_rfl)
theorem hd19 : Has Tryz.prog 19 := Has.mk' Tryz.func19 (by kernel_rfl) (by kernel_rfl)
theorem hd21 : Has Tryz.prog 21 := Has.mk' Tryz.func21 (by kernel_rfl) (by kernel_rfl)
theorem hd22 : Has Tryz.prog 22 := Has.mk' Tryz.func22 (by kernel_rfl) (by kernel_rfl)
theorem hd23 : Has Tryz.prog 23 := Has.mk' Tryz.func23 (by kernel_rfl) (by kernel_rfl)
theorem hd24 : Has Tryz.prog 24 := Has.mk' Tryz.func24 (by kernel_rfl) (by kernel_rfl)
theorem hd25 : Has Tryz.prog 25 := Has.mk' Tryz.func25 (by kernel_rfl) (by kernel_rfl)
theorem hd26 : Has Tryz.prog 26 := Has.mk' Tryz.func26 (by kernel_rfl) (by kernel_rfl)
theorem hd27 : Has Tryz.prog 27 := Has.mk' Tryz.func27 (by kernel_rfl) (by kernel_rfl)
theorem hd28 : Has Tryz.prog 28 := Has.mk' Tryz.func28 (by kernel_rfl) (by kernel_rfl)
theorem hd40 : Has Tryz.prog 40 := Has.mk' Tryz.func40 (by kernel_rfl) (by kernel_rfl)
theorem hd45 : Has Tryz.prog 45 := Has.mk' Tryz.func45 (by kernel_rfl) (by kernel_rfl)
theorem hd46 : Has Tryz.prog 46 := Has.mk' Tryz.func46 (by kernel_rfl) (by kernel_rfl)
theorem hd47 : Has Tryz.prog 47 := Has.mk' Tryz.func47 (by kernel_rfl) (by kernel_rfl)
theorem hd48 : Has Tryz.prog 48 := Has.mk' Tryz.func48 (by kernel_rfl) (by kernel_rfl)
theorem hd49 : Has Tryz.prog 49 := Has.mk' Tryz.func49 (by kernel_rfl) (by kernel_rfl)
theorem hd50 : Has Tryz.prog 50 := Has.mk' Tryz.func50 (by kernel_rfl) (by kernel_rfl)
theorem hd51 : Has Tryz.prog 51 := Has.mk' Tryz.func51 (by kernel_rfl) (by kernel_rfl)
theorem hd52 : Has Tryz.prog 52 := Has.mk' Tryz.func52 (by kernel_rfl) (by kernel_rfl)
theorem hd53 : Has Tryz.prog 53 := Has.mk' Tryz.func53 (by kernel_rfl) (by kernel_rfl)
theorem hd54 : Has Tryz.prog 54 := Has.mk' Tryz.func54 (by kernel_rfl) (by kernel_rfl)
theorem hd55 : Has Tryz.prog 55 := Has.mk' Tryz.func55 (by kernel_rfl) (by kernel_rfl)
theorem hd56 : Has Tryz.prog 56 := Has.mk' Tryz.func56 (by kernel_rfl) (by kernel_rfl)
theorem hd57 : Has Tryz.prog 57 := Has.mk' Tryz.func57 (by kernel_rfl) (by kernel_rfl)
theorem hd58 : Has Tryz.prog 58 := Has.mk' Tryz.func58 (by kernel_rfl) (by kernel_rfl)
theorem hd59 : Has Tryz.prog 59 := Has.mk' Tryz.func59 (by kernel_rfl) (by kernel_rfl)
theorem hd60 : Has Tryz.prog 60 := Has.mk' Tryz.func60 (by kernel_rfl) (by kernel_rfl)
theorem hd61 : Has Tryz.prog 61 := Has.mk' Tryz.func61 (by kernel_rfl) (by kernel_rfl)
theorem hd62 : Has Tryz.prog 62 := Has.mk' Tryz.func62 (by kernel_rfl) (by kernel_rfl)
theorem hd65 : Has Tryz.prog 65 := Has.mk' Tryz.func65 (by kernel_rfl) (by kernel_rfl)
theorem hd70 : Has Tryz.prog 70 := Has.mk' Tryz.func70 (by kernel_rfl) (by kernel_rfl)
theorem hd74 : Has Tryz.prog 74 := Has.mk' Tryz.func74 (by kernel_rfl) (by kernel_rfl)
theorem hd82 : Has Tryz.prog 82 := Has.mk' Tryz.func82 (by kernel_rfl) (by kernel_rfl)
theorem hd83 : Has Tryz.prog 83 := Has.mk' Tryz.func83 (by kernel_rfl) (by kernel_rfl)
theorem hd84 : Has Tryz.prog 84 := Has.mk' Tryz.func84 (by kernel_rfl) (by kernel_rfl)
theorem hd85 : Has Tryz.prog 85 := Has.mk' Tryz.func85 (by kernel_rfl) (by kernel_rfl)
theorem hd86 : Has Tryz.prog 86 := Has.mk' Tryz.func86 (by kernel_rfl) (by kernel_rfl)
theorem hd87 : Has Tryz.prog 87 := Has.mk' Tryz.func87 (by kernel_rfl) (by kernel_rfl)
theorem hd88 : Has Tryz.prog 88 := Has.mk' Tryz.func88 (by kernel_rfl) (by kernel_rfl)
theorem hd89 : Has Tryz.prog 89 := Has.mk' Tryz.func89 (by kernel_rfl) (by kernel_rfl)
theorem hd90 : Has Tryz.prog 90 := Has.mk' Tryz.func90 (by kernel_rfl) (by kernel_rfl)
theorem hd91 : Has Tryz.prog 91 := Has.mk' Tryz.func91 (by kernel_rfl) (by kernel_rfl)
theorem hd92 : Has Tryz.prog 92 := Has.mk' Tryz.func92 (by kernel_rfl) (by kernel_rfl)
theorem hd93 : Has Tryz.prog 93 := Has.mk' Tryz.func93 (by kernel_rfl) (by kernel_rfl)
theorem hd94 : Has Tryz.prog 94 := Has.mk' Tryz.func94 (by kernel_rfl) (by kernel_rfl)
theorem hd95 : Has Tryz.prog 95 := Has.mk' Tryz.func95 (by kernel_rfl) (by kernel_rfl)
theorem hd96 : Has Tryz.prog 96 := Has.mk' Tryz.func96 (by kernel_rfl) (by kernel_rfl)
theorem hd97 : Has Tryz.prog 97 := Has.mk' Tryz.func97 (by kernel_rfl) (by kernel_rfl)
theorem hd98 : Has Tryz.prog 98 := Has.mk' Tryz.func98 (by kernel_rfl) (by kernel_rfl)
theorem hd99 : Has Tryz.prog 99 := Has.mk' Tryz.func99 (by kernel_rfl) (by kernel_rfl)
theorem hd100 : Has Tryz.prog 100 := Has.mk' Tryz.func100 (by kernel_rfl) (by kernel_rfl)
theorem hd101 : Has Tryz.prog 101 := Has.mk' Tryz.func101 (by kernel_rfl) (by kernel_rfl)
theorem hd102 : Has Tryz.prog 102 := Has.mk' Tryz.func102 (by kernel_rfl) (by kernel_rfl)
theorem hd110 : Has Tryz.prog 110 := Has.mk' Tryz.func110 (by kernel_rfl) (by kernel_rfl)
theorem hd111 : Has Tryz.prog 111 := Has.mk' Tryz.func111 (by kernel_rfl) (by kernel_rfl)
theorem hd114 : Has Tryz.prog 114 := Has.mk' Tryz.func114 (by kernel_rfl) (by kernel_rfl)
theorem hd115 : Has Tryz.prog 115 := Has.mk' Tryz.func115 (by kernel_rfl) (by kernel_rfl)
theorem hd116 : Has Tryz.prog 116 := Has.mk' Tryz.func116 (by kernel_rfl) (by kernel_rfl)
theorem hd117 : Has Tryz.prog 117 := Has.mk' Tryz.func117 (by kernel_rfl) (by kernel_rfl)
theorem hd118 : Has Tryz.prog 118 := Has.mk' Tryz.func118 (by kernel_rfl) (by kernel_rfl)
theorem hd119 : Has Tryz.prog 119 := Has.mk' Tryz.func119 (by kernel_rfl) (by kernel_rfl)
theorem hd120 : Has Tryz.prog 120 := Has.mk' Tryz.func120 (by kernel_rfl) (by kernel_rfl)
theorem hd121 : Has Tryz.prog 121 := Has.mk' Tryz.func121 (by kernel_rfl) (by kernel_rfl)
theorem hd122 : Has Tryz.prog 122 := Has.mk' Tryz.func122 (by kernel_rfl) (by kernel_rfl)
theorem hd123 : Has Tryz.prog 123 := Has.mk' Tryz.func123 (by kernel_rfl) (by kernel_rfl)
theorem hd124 : Has Tryz.prog 124 := Has.mk' Tryz.func124 (by kernel_rfl) (by kernel_rfl)
theorem hd125 : Has Tryz.prog 125 := Has.mk' Tryz.func125 (by kernel_rfl) (by kernel_rfl)
theorem hd126 : Has Tryz.prog 126 := Has.mk' Tryz.func126 (by kernel_rfl) (by kernel_rfl)
theorem hd133 : Has Tryz.prog 133 := Has.mk' Tryz.func133 (by kernel_rfl) (by kernel_rfl)
theorem hd135 : Has Tryz.prog 135 := Has.mk' Tryz.func135 (by kernel_rfl) (by kernel_rfl)
theorem hd152 : Has Tryz.prog 152 := Has.mk' Tryz.func152 (by kernel_rfl) (by kernel_rfl)
theorem hd153 : Has Tryz.prog 153 := Has.mk' Tryz.func153 (by kernel_rfl) (by kernel_rfl)
theorem hd154 : Has Tryz.prog 154 := Has.mk' Tryz.func154 (by kernel_rfl) (by kernel_rfl)
theorem hd171 : Has Tryz.prog 171 := Has.mk' Tryz.func171 (by kernel_rfl) (by kernel_rfl)
theorem mo : Tryz.prog.follows .mixedOrders = true := by kernel_rfl
end Go.Proofs.YtidoidoelgfnaaaGreatDoor.Ty
