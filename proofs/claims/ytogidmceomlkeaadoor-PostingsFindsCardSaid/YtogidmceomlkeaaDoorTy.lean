/- Facts of the types and functions of this seat's program, each by the kernel. -/
import Derived.Test.YtogidmceomlkeaaDoorProg
import Derived.Test.YtogidmceomlkeaaDoorSl8
namespace Go.Proofs.YtogidmceomlkeaaDoor.Ty
open Go.Proofs.YtogidmceomlkeaaDoor.SL
theorem ag2 : aggB Tryd.prog 2 = some false := by kernel_rfl
theorem sz2 : sizeB Tryd.prog 2 = some 1 := by kernel_rfl
theorem by2 : (Tryd.prog.info? 2).map (·.bytes) = some 8 := by kernel_rfl
theorem zr2 : zeroB Tryd.prog 2 = some (Value.int .i64 0) := by kernel_rfl
theorem ag3 : aggB Tryd.prog 3 = some false := by kernel_rfl
theorem sz3 : sizeB Tryd.prog 3 = some 1 := by kernel_rfl
theorem by3 : (Tryd.prog.info? 3).map (·.bytes) = some 8 := by kernel_rfl
theorem zr3 : zeroB Tryd.prog 3 = some (Value.int .i64 0) := by kernel_rfl
theorem ag4 : aggB Tryd.prog 4 = some false := by kernel_rfl
theorem sz4 : sizeB Tryd.prog 4 = some 1 := by kernel_rfl
theorem by4 : (Tryd.prog.info? 4).map (·.bytes) = some 1 := by kernel_rfl
theorem zr4 : zeroB Tryd.prog 4 = some (Value.bool false) := by kernel_rfl
theorem ag5 : aggB Tryd.prog 5 = some false := by kernel_rfl
theorem sz5 : sizeB Tryd.prog 5 = some 1 := by kernel_rfl
theorem by5 : (Tryd.prog.info? 5).map (·.bytes) = some 1 := by kernel_rfl
theorem zr5 : zeroB Tryd.prog 5 = some (Value.int .u8 0) := by kernel_rfl
theorem ag6 : aggB Tryd.prog 6 = some false := by kernel_rfl
theorem sz6 : sizeB Tryd.prog 6 = some 1 := by kernel_rfl
theorem by6 : (Tryd.prog.info? 6).map (·.bytes) = some 1 := by kernel_rfl
theorem zr6 : zeroB Tryd.prog 6 = some (Value.int .u8 0) := by kernel_rfl
theorem ag7 : aggB Tryd.prog 7 = some true := by kernel_rfl
theorem sz7 : sizeB Tryd.prog 7 = some 4 := by kernel_rfl
theorem by7 : (Tryd.prog.info? 7).map (·.bytes) = some 24 := by kernel_rfl
theorem zr7 : zeroB Tryd.prog 7 = some (Value.agg #[Value.int .i64 0, Value.int .i64 0, Value.bool false, Value.int .u8 0]) := by kernel_rfl
theorem ag8 : aggB Tryd.prog 8 = some true := by kernel_rfl
theorem sz8 : sizeB Tryd.prog 8 = some 4 := by kernel_rfl
theorem by8 : (Tryd.prog.info? 8).map (·.bytes) = some 24 := by kernel_rfl
theorem zr8 : zeroB Tryd.prog 8 = some (Value.agg #[Value.int .i64 0, Value.int .i64 0, Value.bool false, Value.int .u8 0]) := by kernel_rfl
theorem ag9 : aggB Tryd.prog 9 = some false := by kernel_rfl
theorem sz9 : sizeB Tryd.prog 9 = some 1 := by kernel_rfl
theorem by9 : (Tryd.prog.info? 9).map (·.bytes) = some 16 := by kernel_rfl
theorem zr9 : zeroB Tryd.prog 9 = some (str []) := by kernel_rfl
theorem ag10 : aggB Tryd.prog 10 = some false := by kernel_rfl
theorem sz10 : sizeB Tryd.prog 10 = some 1 := by kernel_rfl
theorem by10 : (Tryd.prog.info? 10).map (·.bytes) = some 16 := by kernel_rfl
theorem zr10 : zeroB Tryd.prog 10 = some (str []) := by kernel_rfl
theorem ag11 : aggB Tryd.prog 11 = some false := by kernel_rfl
theorem sz11 : sizeB Tryd.prog 11 = some 1 := by kernel_rfl
theorem by11 : (Tryd.prog.info? 11).map (·.bytes) = some 16 := by kernel_rfl
theorem zr11 : zeroB Tryd.prog 11 = some (str []) := by kernel_rfl
theorem ag12 : aggB Tryd.prog 12 = some false := by kernel_rfl
theorem sz12 : sizeB Tryd.prog 12 = some 1 := by kernel_rfl
theorem by12 : (Tryd.prog.info? 12).map (·.bytes) = some 8 := by kernel_rfl
theorem zr12 : zeroB Tryd.prog 12 = some (Value.int .u64 0) := by kernel_rfl
theorem ag13 : aggB Tryd.prog 13 = some true := by kernel_rfl
theorem sz13 : sizeB Tryd.prog 13 = some 2 := by kernel_rfl
theorem by13 : (Tryd.prog.info? 13).map (·.bytes) = some 24 := by kernel_rfl
theorem zr13 : zeroB Tryd.prog 13 = some (Value.agg #[str [], Value.int .u64 0]) := by kernel_rfl
theorem ag14 : aggB Tryd.prog 14 = some true := by kernel_rfl
theorem sz14 : sizeB Tryd.prog 14 = some 2 := by kernel_rfl
theorem by14 : (Tryd.prog.info? 14).map (·.bytes) = some 24 := by kernel_rfl
theorem zr14 : zeroB Tryd.prog 14 = some (Value.agg #[str [], Value.int .u64 0]) := by kernel_rfl
theorem ag15 : aggB Tryd.prog 15 = some false := by kernel_rfl
theorem sz15 : sizeB Tryd.prog 15 = some 1 := by kernel_rfl
theorem by15 : (Tryd.prog.info? 15).map (·.bytes) = some 8 := by kernel_rfl
theorem zr15 : zeroB Tryd.prog 15 = some (Value.pointer none) := by kernel_rfl
theorem ag16 : aggB Tryd.prog 16 = some false := by kernel_rfl
theorem sz16 : sizeB Tryd.prog 16 = some 1 := by kernel_rfl
theorem by16 : (Tryd.prog.info? 16).map (·.bytes) = some 8 := by kernel_rfl
theorem zr16 : zeroB Tryd.prog 16 = some (Value.pointer none) := by kernel_rfl
theorem ag17 : aggB Tryd.prog 17 = some false := by kernel_rfl
theorem sz17 : sizeB Tryd.prog 17 = some 1 := by kernel_rfl
theorem by17 : (Tryd.prog.info? 17).map (·.bytes) = some 8 := by kernel_rfl
theorem zr17 : zeroB Tryd.prog 17 = some (Value.pointer none) := by kernel_rfl
theorem ag18 : aggB Tryd.prog 18 = some true := by kernel_rfl
theorem sz18 : sizeB Tryd.prog 18 = some 1 := by kernel_rfl
theorem by18 : (Tryd.prog.info? 18).map (·.bytes) = some 8 := by kernel_rfl
theorem zr18 : zeroB Tryd.prog 18 = some (Value.agg #[Value.pointer none]) := by kernel_rfl
theorem ag19 : aggB Tryd.prog 19 = some true := by kernel_rfl
theorem sz19 : sizeB Tryd.prog 19 = some 1 := by kernel_rfl
theorem by19 : (Tryd.prog.info? 19).map (·.bytes) = some 8 := by kernel_rfl
theorem zr19 : zeroB Tryd.prog 19 = some (Value.agg #[Value.pointer none]) := by kernel_rfl
theorem ag21 : aggB Tryd.prog 21 = some false := by kernel_rfl
theorem sz21 : sizeB Tryd.prog 21 = some 1 := by kernel_rfl
theorem by21 : (Tryd.prog.info? 21).map (·.bytes) = some 4 := by kernel_rfl
theorem zr21 : zeroB Tryd.prog 21 = some (Value.int .i32 0) := by kernel_rfl
theorem ag22 : aggB Tryd.prog 22 = some false := by kernel_rfl
theorem sz22 : sizeB Tryd.prog 22 = some 1 := by kernel_rfl
theorem by22 : (Tryd.prog.info? 22).map (·.bytes) = some 24 := by kernel_rfl
theorem zr22 : zeroB Tryd.prog 22 = some (Value.slice none 0 0) := by kernel_rfl
theorem ag23 : aggB Tryd.prog 23 = some false := by kernel_rfl
theorem sz23 : sizeB Tryd.prog 23 = some 1 := by kernel_rfl
theorem by23 : (Tryd.prog.info? 23).map (·.bytes) = some 24 := by kernel_rfl
theorem zr23 : zeroB Tryd.prog 23 = some (Value.slice none 0 0) := by kernel_rfl
theorem ag24 : aggB Tryd.prog 24 = some true := by kernel_rfl
theorem sz24 : sizeB Tryd.prog 24 = some 2 := by kernel_rfl
theorem by24 : (Tryd.prog.info? 24).map (·.bytes) = some 32 := by kernel_rfl
theorem zr24 : zeroB Tryd.prog 24 = some (Value.agg #[str [], str []]) := by kernel_rfl
theorem ag25 : aggB Tryd.prog 25 = some true := by kernel_rfl
theorem sz25 : sizeB Tryd.prog 25 = some 2 := by kernel_rfl
theorem by25 : (Tryd.prog.info? 25).map (·.bytes) = some 32 := by kernel_rfl
theorem zr25 : zeroB Tryd.prog 25 = some (Value.agg #[str [], str []]) := by kernel_rfl
theorem ag26 : aggB Tryd.prog 26 = some false := by kernel_rfl
theorem sz26 : sizeB Tryd.prog 26 = some 1 := by kernel_rfl
theorem by26 : (Tryd.prog.info? 26).map (·.bytes) = some 24 := by kernel_rfl
theorem zr26 : zeroB Tryd.prog 26 = some (Value.slice none 0 0) := by kernel_rfl
theorem ag27 : aggB Tryd.prog 27 = some false := by kernel_rfl
theorem sz27 : sizeB Tryd.prog 27 = some 1 := by kernel_rfl
theorem by27 : (Tryd.prog.info? 27).map (·.bytes) = some 8 := by kernel_rfl
theorem zr27 : zeroB Tryd.prog 27 = some (Value.pointer none) := by kernel_rfl
theorem ag30 : aggB Tryd.prog 30 = some false := by kernel_rfl
theorem sz30 : sizeB Tryd.prog 30 = some 1 := by kernel_rfl
theorem by30 : (Tryd.prog.info? 30).map (·.bytes) = some 24 := by kernel_rfl
theorem zr30 : zeroB Tryd.prog 30 = some (Value.slice none 0 0) := by kernel_rfl
theorem ag36 : aggB Tryd.prog 36 = some false := by kernel_rfl
theorem sz36 : sizeB Tryd.prog 36 = some 1 := by kernel_rfl
theorem by36 : (Tryd.prog.info? 36).map (·.bytes) = some 24 := by kernel_rfl
theorem zr36 : zeroB Tryd.prog 36 = some (Value.slice none 0 0) := by kernel_rfl
theorem ag37 : aggB Tryd.prog 37 = some true := by kernel_rfl
theorem sz37 : sizeB Tryd.prog 37 = some 6 := by kernel_rfl
theorem by37 : (Tryd.prog.info? 37).map (·.bytes) = some 64 := by kernel_rfl
theorem zr37 : zeroB Tryd.prog 37 = some (Value.agg #[Value.int .i64 0, Value.int .i64 0, Value.int .i64 0, Value.int .i64 0, Value.int .i64 0, Value.slice none 0 0]) := by kernel_rfl
theorem ag38 : aggB Tryd.prog 38 = some true := by kernel_rfl
theorem sz38 : sizeB Tryd.prog 38 = some 6 := by kernel_rfl
theorem by38 : (Tryd.prog.info? 38).map (·.bytes) = some 64 := by kernel_rfl
theorem zr38 : zeroB Tryd.prog 38 = some (Value.agg #[Value.int .i64 0, Value.int .i64 0, Value.int .i64 0, Value.int .i64 0, Value.int .i64 0, Value.slice none 0 0]) := by kernel_rfl
theorem ag40 : aggB Tryd.prog 40 = some true := by kernel_rfl
theorem sz40 : sizeB Tryd.prog 40 = some 6 := by kernel_rfl
theorem by40 : (Tryd.prog.info? 40).map (·.bytes) = some 64 := by kernel_rfl
theorem zr40 : zeroB Tryd.prog 40 = some (Value.agg #[Value.int .i64 0, Value.int .i64 0, Value.int .i64 0, Value.int .i64 0, Value.int .i64 0, Value.slice none 0 0]) := by kernel_rfl
theorem ag42 : aggB Tryd.prog 42 = some false := by kernel_rfl
theorem sz42 : sizeB Tryd.prog 42 = some 1 := by kernel_rfl
theorem by42 : (Tryd.prog.info? 42).map (·.bytes) = some 8 := by kernel_rfl
theorem zr42 : zeroB Tryd.prog 42 = some (Value.int .i64 0) := by kernel_rfl
theorem ag57 : aggB Tryd.prog 57 = some true := by kernel_rfl
theorem sz57 : sizeB Tryd.prog 57 = some 0 := by kernel_rfl
theorem by57 : (Tryd.prog.info? 57).map (·.bytes) = some 0 := by kernel_rfl
theorem zr57 : zeroB Tryd.prog 57 = some (Value.agg #[]) := by kernel_rfl
theorem ag58 : aggB Tryd.prog 58 = some true := by kernel_rfl
theorem sz58 : sizeB Tryd.prog 58 = some 0 := by kernel_rfl
theorem by58 : (Tryd.prog.info? 58).map (·.bytes) = some 0 := by kernel_rfl
theorem zr58 : zeroB Tryd.prog 58 = some (Value.agg #[]) := by kernel_rfl
theorem ag59 : aggB Tryd.prog 59 = some true := by kernel_rfl
theorem sz59 : sizeB Tryd.prog 59 = some 0 := by kernel_rfl
theorem by59 : (Tryd.prog.info? 59).map (·.bytes) = some 0 := by kernel_rfl
theorem zr59 : zeroB Tryd.prog 59 = some (Value.agg #[]) := by kernel_rfl
theorem ag60 : aggB Tryd.prog 60 = some false := by kernel_rfl
theorem sz60 : sizeB Tryd.prog 60 = some 1 := by kernel_rfl
theorem by60 : (Tryd.prog.info? 60).map (·.bytes) = some 4 := by kernel_rfl
theorem zr60 : zeroB Tryd.prog 60 = some (Value.int .u32 0) := by kernel_rfl
theorem ag61 : aggB Tryd.prog 61 = some true := by kernel_rfl
theorem sz61 : sizeB Tryd.prog 61 = some 1 := by kernel_rfl
theorem by61 : (Tryd.prog.info? 61).map (·.bytes) = some 4 := by kernel_rfl
theorem zr61 : zeroB Tryd.prog 61 = some (Value.agg #[Value.int .u32 0]) := by kernel_rfl
theorem ag62 : aggB Tryd.prog 62 = some true := by kernel_rfl
theorem sz62 : sizeB Tryd.prog 62 = some 1 := by kernel_rfl
theorem by62 : (Tryd.prog.info? 62).map (·.bytes) = some 4 := by kernel_rfl
theorem zr62 : zeroB Tryd.prog 62 = some (Value.agg #[Value.int .u32 0]) := by kernel_rfl
theorem ag63 : aggB Tryd.prog 63 = some true := by kernel_rfl
theorem sz63 : sizeB Tryd.prog 63 = some 2 := by kernel_rfl
theorem by63 : (Tryd.prog.info? 63).map (·.bytes) = some 8 := by kernel_rfl
theorem zr63 : zeroB Tryd.prog 63 = some (Value.agg #[Value.int .i32 0, Value.int .u32 0]) := by kernel_rfl
theorem ag64 : aggB Tryd.prog 64 = some true := by kernel_rfl
theorem sz64 : sizeB Tryd.prog 64 = some 2 := by kernel_rfl
theorem by64 : (Tryd.prog.info? 64).map (·.bytes) = some 8 := by kernel_rfl
theorem zr64 : zeroB Tryd.prog 64 = some (Value.agg #[Value.int .i32 0, Value.int .u32 0]) := by kernel_rfl
theorem ag65 : aggB Tryd.prog 65 = some true := by kernel_rfl
theorem sz65 : sizeB Tryd.prog 65 = some 2 := by kernel_rfl
theorem by65 : (Tryd.prog.info? 65).map (·.bytes) = some 8 := by kernel_rfl
theorem zr65 : zeroB Tryd.prog 65 = some (Value.agg #[Value.int .i32 0, Value.int .u32 0]) := by kernel_rfl
theorem ag66 : aggB Tryd.prog 66 = some true := by kernel_rfl
theorem sz66 : sizeB Tryd.prog 66 = some 2 := by kernel_rfl
theorem by66 : (Tryd.prog.info? 66).map (·.bytes) = some 8 := by kernel_rfl
theorem zr66 : zeroB Tryd.prog 66 = some (Value.agg #[Value.int .i32 0, Value.int .u32 0]) := by kernel_rfl
theorem ag67 : aggB Tryd.prog 67 = some true := by kernel_rfl
theorem sz67 : sizeB Tryd.prog 67 = some 3 := by kernel_rfl
theorem by67 : (Tryd.prog.info? 67).map (·.bytes) = some 12 := by kernel_rfl
theorem zr67 : zeroB Tryd.prog 67 = some (Value.agg #[Value.int .u32 0, Value.int .i32 0, Value.int .u32 0]) := by kernel_rfl
theorem ag68 : aggB Tryd.prog 68 = some true := by kernel_rfl
theorem sz68 : sizeB Tryd.prog 68 = some 3 := by kernel_rfl
theorem by68 : (Tryd.prog.info? 68).map (·.bytes) = some 12 := by kernel_rfl
theorem zr68 : zeroB Tryd.prog 68 = some (Value.agg #[Value.int .u32 0, Value.int .i32 0, Value.int .u32 0]) := by kernel_rfl
theorem ag69 : aggB Tryd.prog 69 = some false := by kernel_rfl
theorem sz69 : sizeB Tryd.prog 69 = some 1 := by kernel_rfl
theorem by69 : (Tryd.prog.info? 69).map (·.bytes) = some 8 := by kernel_rfl
theorem zr69 : zeroB Tryd.prog 69 = some (Value.map none) := by kernel_rfl
theorem ag70 : aggB Tryd.prog 70 = some true := by kernel_rfl
theorem sz70 : sizeB Tryd.prog 70 = some 5 := by kernel_rfl
theorem by70 : (Tryd.prog.info? 70).map (·.bytes) = some 48 := by kernel_rfl
theorem zr70 : zeroB Tryd.prog 70 = some (Value.agg #[Value.slice none 0 0, Value.int .u32 0, Value.int .i32 0, Value.int .u32 0, Value.map none]) := by kernel_rfl
theorem ag71 : aggB Tryd.prog 71 = some true := by kernel_rfl
theorem sz71 : sizeB Tryd.prog 71 = some 5 := by kernel_rfl
theorem by71 : (Tryd.prog.info? 71).map (·.bytes) = some 48 := by kernel_rfl
theorem zr71 : zeroB Tryd.prog 71 = some (Value.agg #[Value.slice none 0 0, Value.int .u32 0, Value.int .i32 0, Value.int .u32 0, Value.map none]) := by kernel_rfl
theorem ag77 : aggB Tryd.prog 77 = some false := by kernel_rfl
theorem sz77 : sizeB Tryd.prog 77 = some 1 := by kernel_rfl
theorem by77 : (Tryd.prog.info? 77).map (·.bytes) = some 8 := by kernel_rfl
theorem zr77 : zeroB Tryd.prog 77 = some (Value.int .u64 0) := by kernel_rfl
theorem ag83 : aggB Tryd.prog 83 = some true := by kernel_rfl
theorem sz83 : sizeB Tryd.prog 83 = some 2 := by kernel_rfl
theorem by83 : (Tryd.prog.info? 83).map (·.bytes) = some 24 := by kernel_rfl
theorem zr83 : zeroB Tryd.prog 83 = some (Value.agg #[Value.int .i64 0, str []]) := by kernel_rfl
theorem ag84 : aggB Tryd.prog 84 = some true := by kernel_rfl
theorem sz84 : sizeB Tryd.prog 84 = some 2 := by kernel_rfl
theorem by84 : (Tryd.prog.info? 84).map (·.bytes) = some 24 := by kernel_rfl
theorem zr84 : zeroB Tryd.prog 84 = some (Value.agg #[Value.int .i64 0, str []]) := by kernel_rfl
theorem ag86 : aggB Tryd.prog 86 = some true := by kernel_rfl
theorem sz86 : sizeB Tryd.prog 86 = some 2 := by kernel_rfl
theorem by86 : (Tryd.prog.info? 86).map (·.bytes) = some 24 := by kernel_rfl
theorem zr86 : zeroB Tryd.prog 86 = some (Value.agg #[Value.int .i64 0, str []]) := by kernel_rfl
theorem ag93 : aggB Tryd.prog 93 = some false := by kernel_rfl
theorem sz93 : sizeB Tryd.prog 93 = some 1 := by kernel_rfl
theorem by93 : (Tryd.prog.info? 93).map (·.bytes) = some 8 := by kernel_rfl
theorem zr93 : zeroB Tryd.prog 93 = some (Value.pointer none) := by kernel_rfl
theorem ag94 : aggB Tryd.prog 94 = some true := by kernel_rfl
theorem sz94 : sizeB Tryd.prog 94 = some 2 := by kernel_rfl
theorem by94 : (Tryd.prog.info? 94).map (·.bytes) = some 24 := by kernel_rfl
theorem zr94 : zeroB Tryd.prog 94 = some (Value.agg #[str [], Value.int .i64 0]) := by kernel_rfl
theorem ag95 : aggB Tryd.prog 95 = some true := by kernel_rfl
theorem sz95 : sizeB Tryd.prog 95 = some 2 := by kernel_rfl
theorem by95 : (Tryd.prog.info? 95).map (·.bytes) = some 24 := by kernel_rfl
theorem zr95 : zeroB Tryd.prog 95 = some (Value.agg #[str [], Value.int .i64 0]) := by kernel_rfl
theorem ag99 : aggB Tryd.prog 99 = some true := by kernel_rfl
theorem sz99 : sizeB Tryd.prog 99 = some 4 := by kernel_rfl
theorem by99 : (Tryd.prog.info? 99).map (·.bytes) = some 32 := by kernel_rfl
theorem zr99 : zeroB Tryd.prog 99 = some (Value.agg #[Value.int .i64 0, Value.int .i64 0, Value.int .i64 0, Value.int .i64 0]) := by kernel_rfl
theorem ag102 : aggB Tryd.prog 102 = some false := by kernel_rfl
theorem sz102 : sizeB Tryd.prog 102 = some 1 := by kernel_rfl
theorem by102 : (Tryd.prog.info? 102).map (·.bytes) = some 8 := by kernel_rfl
theorem zr102 : zeroB Tryd.prog 102 = some (Value.pointer none) := by kernel_rfl
theorem ag105 : aggB Tryd.prog 105 = some true := by kernel_rfl
theorem sz105 : sizeB Tryd.prog 105 = some 3 := by kernel_rfl
theorem by105 : (Tryd.prog.info? 105).map (·.bytes) = some 40 := by kernel_rfl
theorem zr105 : zeroB Tryd.prog 105 = some (Value.agg #[Value.int .i64 0, str [], str []]) := by kernel_rfl
theorem ag106 : aggB Tryd.prog 106 = some true := by kernel_rfl
theorem sz106 : sizeB Tryd.prog 106 = some 3 := by kernel_rfl
theorem by106 : (Tryd.prog.info? 106).map (·.bytes) = some 40 := by kernel_rfl
theorem zr106 : zeroB Tryd.prog 106 = some (Value.agg #[Value.int .i64 0, str [], str []]) := by kernel_rfl
theorem ag110 : aggB Tryd.prog 110 = some true := by kernel_rfl
theorem sz110 : sizeB Tryd.prog 110 = some 9 := by kernel_rfl
theorem by110 : (Tryd.prog.info? 110).map (·.bytes) = some 9 := by kernel_rfl
theorem zr110 : zeroB Tryd.prog 110 = some (Value.agg #[Value.int .u8 0, Value.int .u8 0, Value.int .u8 0, Value.int .u8 0, Value.int .u8 0, Value.int .u8 0, Value.int .u8 0, Value.int .u8 0, Value.int .u8 0]) := by kernel_rfl
theorem ag111 : aggB Tryd.prog 111 = some false := by kernel_rfl
theorem sz111 : sizeB Tryd.prog 111 = some 1 := by kernel_rfl
theorem by111 : (Tryd.prog.info? 111).map (·.bytes) = some 8 := by kernel_rfl
theorem zr111 : zeroB Tryd.prog 111 = some (Value.int .u64 0) := by kernel_rfl
theorem ag112 : aggB Tryd.prog 112 = some false := by kernel_rfl
theorem sz112 : sizeB Tryd.prog 112 = some 1 := by kernel_rfl
theorem by112 : (Tryd.prog.info? 112).map (·.bytes) = some 24 := by kernel_rfl
theorem zr112 : zeroB Tryd.prog 112 = some (Value.slice none 0 0) := by kernel_rfl
theorem ag115 : aggB Tryd.prog 115 = some false := by kernel_rfl
theorem sz115 : sizeB Tryd.prog 115 = some 1 := by kernel_rfl
theorem by115 : (Tryd.prog.info? 115).map (·.bytes) = some 8 := by kernel_rfl
theorem zr115 : zeroB Tryd.prog 115 = some (Value.pointer none) := by kernel_rfl
theorem ag116 : aggB Tryd.prog 116 = some true := by kernel_rfl
theorem sz116 : sizeB Tryd.prog 116 = some 2 := by kernel_rfl
theorem by116 : (Tryd.prog.info? 116).map (·.bytes) = some 32 := by kernel_rfl
theorem zr116 : zeroB Tryd.prog 116 = some (Value.agg #[Value.pointer none, Value.slice none 0 0]) := by kernel_rfl
theorem ag117 : aggB Tryd.prog 117 = some true := by kernel_rfl
theorem sz117 : sizeB Tryd.prog 117 = some 2 := by kernel_rfl
theorem by117 : (Tryd.prog.info? 117).map (·.bytes) = some 32 := by kernel_rfl
theorem zr117 : zeroB Tryd.prog 117 = some (Value.agg #[Value.pointer none, Value.slice none 0 0]) := by kernel_rfl
theorem ag132 : aggB Tryd.prog 132 = some false := by kernel_rfl
theorem sz132 : sizeB Tryd.prog 132 = some 1 := by kernel_rfl
theorem by132 : (Tryd.prog.info? 132).map (·.bytes) = some 8 := by kernel_rfl
theorem zr132 : zeroB Tryd.prog 132 = some (Value.pointer none) := by kernel_rfl
theorem ag134 : aggB Tryd.prog 134 = some false := by kernel_rfl
theorem sz134 : sizeB Tryd.prog 134 = some 1 := by kernel_rfl
theorem by134 : (Tryd.prog.info? 134).map (·.bytes) = some 8 := by kernel_rfl
theorem zr134 : zeroB Tryd.prog 134 = some (Value.pointer none) := by kernel_rfl
theorem ag139 : aggB Tryd.prog 139 = some false := by kernel_rfl
theorem sz139 : sizeB Tryd.prog 139 = some 1 := by kernel_rfl
theorem by139 : (Tryd.prog.info? 139).map (·.bytes) = some 8 := by kernel_rfl
theorem zr139 : zeroB Tryd.prog 139 = some (Value.pointer none) := by kernel_rfl
theorem ag141 : aggB Tryd.prog 141 = some true := by kernel_rfl
theorem sz141 : sizeB Tryd.prog 141 = some 256 := by kernel_rfl
theorem by141 : (Tryd.prog.info? 141).map (·.bytes) = some 256 := by kernel_rfl
theorem ag142 : aggB Tryd.prog 142 = some true := by kernel_rfl
theorem sz142 : sizeB Tryd.prog 142 = some 256 := by kernel_rfl
theorem by142 : (Tryd.prog.info? 142).map (·.bytes) = some 256 := by kernel_rfl
theorem ag146 : aggB Tryd.prog 146 = some false := by kernel_rfl
theorem sz146 : sizeB Tryd.prog 146 = some 1 := by kernel_rfl
theorem by146 : (Tryd.prog.info? 146).map (·.bytes) = some 8 := by kernel_rfl
theorem zr146 : zeroB Tryd.prog 146 = some (Value.pointer none) := by kernel_rfl
theorem ag147 : aggB Tryd.prog 147 = some false := by kernel_rfl
theorem sz147 : sizeB Tryd.prog 147 = some 1 := by kernel_rfl
theorem by147 : (Tryd.prog.info? 147).map (·.bytes) = some 8 := by kernel_rfl
theorem zr147 : zeroB Tryd.prog 147 = some (Value.pointer none) := by kernel_rfl
theorem ag151 : aggB Tryd.prog 151 = some true := by kernel_rfl
theorem sz151 : sizeB Tryd.prog 151 = some 2 := by kernel_rfl
theorem by151 : (Tryd.prog.info? 151).map (·.bytes) = some 8 := by kernel_rfl
theorem zr151 : zeroB Tryd.prog 151 = some (Value.agg #[Value.int .u32 0, Value.int .u32 0]) := by kernel_rfl
theorem ag152 : aggB Tryd.prog 152 = some true := by kernel_rfl
theorem sz152 : sizeB Tryd.prog 152 = some 2 := by kernel_rfl
theorem by152 : (Tryd.prog.info? 152).map (·.bytes) = some 8 := by kernel_rfl
theorem zr152 : zeroB Tryd.prog 152 = some (Value.agg #[Value.int .u32 0, Value.int .u32 0]) := by kernel_rfl
theorem ag154 : aggB Tryd.prog 154 = some false := by kernel_rfl
theorem sz154 : sizeB Tryd.prog 154 = some 1 := by kernel_rfl
theorem by154 : (Tryd.prog.info? 154).map (·.bytes) = some 8 := by kernel_rfl
theorem zr154 : zeroB Tryd.prog 154 = some (Value.pointer none) := by kernel_rfl
theorem ag161 : aggB Tryd.prog 161 = some false := by kernel_rfl
theorem sz161 : sizeB Tryd.prog 161 = some 1 := by kernel_rfl
theorem by161 : (Tryd.prog.info? 161).map (·.bytes) = some 8 := by kernel_rfl
theorem zr161 : zeroB Tryd.prog 161 = some (Value.pointer none) := by kernel_rfl
theorem ag163 : aggB Tryd.prog 163 = some false := by kernel_rfl
theorem sz163 : sizeB Tryd.prog 163 = some 1 := by kernel_rfl
theorem by163 : (Tryd.prog.info? 163).map (·.bytes) = some 8 := by kernel_rfl
theorem zr163 : zeroB Tryd.prog 163 = some (Value.pointer none) := by kernel_rfl
theorem ag167 : aggB Tryd.prog 167 = some false := by kernel_rfl
theorem sz167 : sizeB Tryd.prog 167 = some 1 := by kernel_rfl
theorem by167 : (Tryd.prog.info? 167).map (·.bytes) = some 8 := by kernel_rfl
theorem zr167 : zeroB Tryd.prog 167 = some (Value.pointer none) := by kernel_rfl
theorem ag171 : aggB Tryd.prog 171 = some true := by kernel_rfl
theorem sz171 : sizeB Tryd.prog 171 = some 256 := by kernel_rfl
theorem by171 : (Tryd.prog.info? 171).map (·.bytes) = some 256 := by kernel_rfl
theorem ag172 : aggB Tryd.prog 172 = some true := by kernel_rfl
theorem sz172 : sizeB Tryd.prog 172 = some 2 := by kernel_rfl
theorem by172 : (Tryd.prog.info? 172).map (·.bytes) = some 2 := by kernel_rfl
theorem zr172 : zeroB Tryd.prog 172 = some (Value.agg #[Value.int .u8 0, Value.int .u8 0]) := by kernel_rfl
theorem ag173 : aggB Tryd.prog 173 = some true := by kernel_rfl
theorem sz173 : sizeB Tryd.prog 173 = some 2 := by kernel_rfl
theorem by173 : (Tryd.prog.info? 173).map (·.bytes) = some 2 := by kernel_rfl
theorem zr173 : zeroB Tryd.prog 173 = some (Value.agg #[Value.int .u8 0, Value.int .u8 0]) := by kernel_rfl
theorem ag174 : aggB Tryd.prog 174 = some true := by kernel_rfl
theorem sz174 : sizeB Tryd.prog 174 = some 32 := by kernel_rfl
theorem by174 : (Tryd.prog.info? 174).map (·.bytes) = some 32 := by kernel_rfl
theorem zr174 : zeroB Tryd.prog 174 = some (Value.agg #[Value.int .u8 0, Value.int .u8 0, Value.int .u8 0, Value.int .u8 0, Value.int .u8 0, Value.int .u8 0, Value.int .u8 0, Value.int .u8 0, Value.int .u8 0, Value.int .u8 0, Value.int .u8 0, Value.int .u8 0, Value.int .u8 0, Value.int .u8 0, Value.int .u8 0, Value.int .u8 0, Value.int .u8 0, Value.int .u8 0, Value.int .u8 0, Value.int .u8 0, Value.int .u8 0, Value.int .u8 0, Value.int .u8 0, Value.int .u8 0, Value.int .u8 0, Value.int .u8 0, Value.int .u8 0, Value.int .u8 0, Value.int .u8 0, Value.int .u8 0, Value.int .u8 0, Value.int .u8 0]) := by kernel_rfl
theorem ag179 : aggB Tryd.prog 179 = some true := by kernel_rfl
theorem sz179 : sizeB Tryd.prog 179 = some 4 := by kernel_rfl
theorem by179 : (Tryd.prog.info? 179).map (·.bytes) = some 40 := by kernel_rfl
theorem zr179 : zeroB Tryd.prog 179 = some (Value.agg #[Value.pointer none, Value.pointer none, Value.pointer none, str []]) := by kernel_rfl
theorem ag180 : aggB Tryd.prog 180 = some true := by kernel_rfl
theorem sz180 : sizeB Tryd.prog 180 = some 4 := by kernel_rfl
theorem by180 : (Tryd.prog.info? 180).map (·.bytes) = some 40 := by kernel_rfl
theorem zr180 : zeroB Tryd.prog 180 = some (Value.agg #[Value.pointer none, Value.pointer none, Value.pointer none, str []]) := by kernel_rfl
theorem ag181 : aggB Tryd.prog 181 = some true := by kernel_rfl
theorem sz181 : sizeB Tryd.prog 181 = some 0 := by kernel_rfl
theorem by181 : (Tryd.prog.info? 181).map (·.bytes) = some 0 := by kernel_rfl
theorem zr181 : zeroB Tryd.prog 181 = some (Value.agg #[]) := by kernel_rfl
theorem ag182 : aggB Tryd.prog 182 = some true := by kernel_rfl
theorem sz182 : sizeB Tryd.prog 182 = some 0 := by kernel_rfl
theorem by182 : (Tryd.prog.info? 182).map (·.bytes) = some 0 := by kernel_rfl
theorem zr182 : zeroB Tryd.prog 182 = some (Value.agg #[]) := by kernel_rfl
theorem ag183 : aggB Tryd.prog 183 = some true := by kernel_rfl
theorem sz183 : sizeB Tryd.prog 183 = some 0 := by kernel_rfl
theorem by183 : (Tryd.prog.info? 183).map (·.bytes) = some 0 := by kernel_rfl
theorem zr183 : zeroB Tryd.prog 183 = some (Value.agg #[]) := by kernel_rfl
theorem ag184 : aggB Tryd.prog 184 = some false := by kernel_rfl
theorem sz184 : sizeB Tryd.prog 184 = some 1 := by kernel_rfl
theorem by184 : (Tryd.prog.info? 184).map (·.bytes) = some 1 := by kernel_rfl
theorem zr184 : zeroB Tryd.prog 184 = some (Value.int .u8 0) := by kernel_rfl
theorem ag185 : aggB Tryd.prog 185 = some false := by kernel_rfl
theorem sz185 : sizeB Tryd.prog 185 = some 1 := by kernel_rfl
theorem by185 : (Tryd.prog.info? 185).map (·.bytes) = some 1 := by kernel_rfl
theorem zr185 : zeroB Tryd.prog 185 = some (Value.int .u8 0) := by kernel_rfl
theorem ag187 : aggB Tryd.prog 187 = some false := by kernel_rfl
theorem sz187 : sizeB Tryd.prog 187 = some 1 := by kernel_rfl
theorem by187 : (Tryd.prog.info? 187).map (·.bytes) = some 4 := by kernel_rfl
theorem zr187 : zeroB Tryd.prog 187 = some (Value.int .i32 0) := by kernel_rfl
theorem ag188 : aggB Tryd.prog 188 = some false := by kernel_rfl
theorem sz188 : sizeB Tryd.prog 188 = some 1 := by kernel_rfl
theorem by188 : (Tryd.prog.info? 188).map (·.bytes) = some 4 := by kernel_rfl
theorem zr188 : zeroB Tryd.prog 188 = some (Value.int .i32 0) := by kernel_rfl
theorem ag189 : aggB Tryd.prog 189 = some true := by kernel_rfl
theorem sz189 : sizeB Tryd.prog 189 = some 11 := by kernel_rfl
theorem by189 : (Tryd.prog.info? 189).map (·.bytes) = some 48 := by kernel_rfl
theorem zr189 : zeroB Tryd.prog 189 = some (Value.agg #[Value.int .u64 0, Value.int .u64 0, Value.int .u32 0, Value.int .u8 0, Value.int .u8 0, Value.int .u8 0, Value.int .u8 0, Value.nilFunc, Value.pointer none, Value.int .i32 0, Value.int .i32 0]) := by kernel_rfl
theorem ag190 : aggB Tryd.prog 190 = some true := by kernel_rfl
theorem sz190 : sizeB Tryd.prog 190 = some 11 := by kernel_rfl
theorem by190 : (Tryd.prog.info? 190).map (·.bytes) = some 48 := by kernel_rfl
theorem zr190 : zeroB Tryd.prog 190 = some (Value.agg #[Value.int .u64 0, Value.int .u64 0, Value.int .u32 0, Value.int .u8 0, Value.int .u8 0, Value.int .u8 0, Value.int .u8 0, Value.nilFunc, Value.pointer none, Value.int .i32 0, Value.int .i32 0]) := by kernel_rfl
theorem hd2 : Has Tryd.prog 2 := Has.mk' Tryd.func2 (by kernel_rfl) (by kernel_rfl)
theorem hd3 : Has Tryd.prog 3 := Has.mk' Tryd.func3 (by kernel_rfl) (by kernel_rfl)
theorem hd4 : Has Tryd.prog 4 := Has.mk' Tryd.func4 (by kernel_rfl) (by kernel_rfl)
theorem hd5 : Has Tryd.prog 5 := Has.mk' Tryd.func5 (by kernel_rfl) (by kernel_rfl)
theorem hd6 : Has Tryd.prog 6 := Has.mk' Tryd.func6 (by kernel_rfl) (by kernel_rfl)
theorem hd7 : Has Tryd.prog 7 := Has.mk' Tryd.func7 (by kernel_rfl) (by kernel_rfl)
theorem hd8 : Has Tryd.prog 8 := Has.mk' Tryd.func8 (by kernel_rfl) (by kernel_rfl)
theorem hd9 : Has Tryd.prog 9 := Has.mk' Tryd.func9 (by kernel_rfl) (by kernel_rfl)
theorem hd10 : Has Tryd.prog 10 := Has.mk' Tryd.func10 (by kernel_rfl) (by kernel_rfl)
theorem hd11 : Has Tryd.prog 11 := Has.mk' Tryd.func11 (by kernel_rfl) (by kernel_rfl)
theorem hd12 : Has Tryd.prog 12 := Has.mk' Tryd.func12 (by kernel_rfl) (by kernel_rfl)
theorem hd13 : Has Tryd.prog 13 := Has.mk' Tryd.func13 (by kernel_rfl) (by kernel_rfl)
theorem hd14 : Has Tryd.prog 14 := Has.mk' Tryd.func14 (by kernel_rfl) (by kernel_rfl)
theorem hd15 : Has Tryd.prog 15 := Has.mk' Tryd.func15 (by kernel_rfl) (by kernel_rfl)
theorem hd16 : Has Tryd.prog 16 := Has.mk' Tryd.func16 (by kernel_rfl) (by kernel_rfl)
theorem hd17 : Has Tryd.prog 17 := Has.mk' Tryd.func17 (by kernel_rfl) (by kernel_rfl)
theorem hd18 : Has Tryd.prog 18 := Has.mk' Tryd.func18 (by kernel_rfl) (by kernel_rfl)
theorem hd19 : Has Tryd.prog 19 := Has.mk' Tryd.func19 (by kernel_rfl) (by kernel_rfl)
theorem hd20 : Has Tryd.prog 20 := Has.mk' Tryd.func20 (by kernel_rfl) (by kernel_rfl)
theorem hd21 : Has Tryd.prog 21 := Has.mk' Tryd.func21 (by kernel_rfl) (by kernel_rfl)
theorem hd22 : Has Tryd.prog 22 := Has.mk' Tryd.func22 (by kernel_rfl) (by kernel_rfl)
theorem hd23 : Has Tryd.prog 23 := Has.mk' Tryd.func23 (by kernel_rfl) (by kernel_rfl)
theorem hd24 : Has Tryd.prog 24 := Has.mk' Tryd.func24 (by kernel_rfl) (by kernel_rfl)
theorem hd25 : Has Tryd.prog 25 := Has.mk' Tryd.func25 (by kernel_rfl) (by kernel_rfl)
theorem hd26 : Has Tryd.prog 26 := Has.mk' Tryd.func26 (by kernel_rfl) (by kernel_rfl)
theorem hd27 : Has Tryd.prog 27 := Has.mk' Tryd.func27 (by kernel_rfl) (by kernel_rfl)
theorem hd28 : Has Tryd.prog 28 := Has.mk' Tryd.func28 (by kernel_rfl) (by kernel_rfl)
theorem hd29 : Has Tryd.prog 29 := Has.mk' Tryd.func29 (by kernel_rfl) (by kernel_rfl)
theorem hd30 : Has Tryd.prog 30 := Has.mk' Tryd.func30 (by kernel_rfl) (by kernel_rfl)
theorem hd31 : Has Tryd.prog 31 := Has.mk' Tryd.func31 (by kernel_rfl) (by kernel_rfl)
theorem hd32 : Has Tryd.prog 32 := Has.mk' Tryd.func32 (by kernel_rfl) (by kernel_rfl)
theorem hd33 : Has Tryd.prog 33 := Has.mk' Tryd.func33 (by kernel_rfl) (by kernel_rfl)
theorem hd34 : Has Tryd.prog 34 := Has.mk' Tryd.func34 (by kernel_rfl) (by kernel_rfl)
theorem hd35 : Has Tryd.prog 35 := Has.mk' Tryd.func35 (by kernel_rfl) (by kernel_rfl)
theorem hd36 : Has Tryd.prog 36 := Has.mk' Tryd.func36 (by kernel_rfl) (by kernel_rfl)
theorem hd37 : Has Tryd.prog 37 := Has.mk' Tryd.func37 (by kernel_rfl) (by kernel_rfl)
theorem hd38 : Has Tryd.prog 38 := Has.mk' Tryd.func38 (by kernel_rfl) (by kernel_rfl)
theorem hd39 : Has Tryd.prog 39 := Has.mk' Tryd.func39 (by kernel_rfl) (by kernel_rfl)
theorem hd40 : Has Tryd.prog 40 := Has.mk' Tryd.func40 (by kernel_rfl) (by kernel_rfl)
theorem hd41 : Has Tryd.prog 41 := Has.mk' Tryd.func41 (by kernel_rfl) (by kernel_rfl)
theorem hd42 : Has Tryd.prog 42 := Has.mk' Tryd.func42 (by kernel_rfl) (by kernel_rfl)
theorem hd43 : Has Tryd.prog 43 := Has.mk' Tryd.func43 (by kernel_rfl) (by kernel_rfl)
theorem hd44 : Has Tryd.prog 44 := Has.mk' Tryd.func44 (by kernel_rfl) (by kernel_rfl)
theorem hd45 : Has Tryd.prog 45 := Has.mk' Tryd.func45 (by kernel_rfl) (by kernel_rfl)
theorem hd46 : Has Tryd.prog 46 := Has.mk' Tryd.func46 (by kernel_rfl) (by kernel_rfl)
theorem hd47 : Has Tryd.prog 47 := Has.mk' Tryd.func47 (by kernel_rfl) (by kernel_rfl)
theorem hd48 : Has Tryd.prog 48 := Has.mk' Tryd.func48 (by kernel_rfl) (by kernel_rfl)
theorem hd49 : Has Tryd.prog 49 := Has.mk' Tryd.func49 (by kernel_rfl) (by kernel_rfl)
theorem hd50 : Has Tryd.prog 50 := Has.mk' Tryd.func50 (by kernel_rfl) (by kernel_rfl)
theorem hd51 : Has Tryd.prog 51 := Has.mk' Tryd.func51 (by kernel_rfl) (by kernel_rfl)
theorem hd52 : Has Tryd.prog 52 := Has.mk' Tryd.func52 (by kernel_rfl) (by kernel_rfl)
theorem hd53 : Has Tryd.prog 53 := Has.mk' Tryd.func53 (by kernel_rfl) (by kernel_rfl)
theorem hd54 : Has Tryd.prog 54 := Has.mk' Tryd.func54 (by kernel_rfl) (by kernel_rfl)
theorem hd55 : Has Tryd.prog 55 := Has.mk' Tryd.func55 (by kernel_rfl) (by kernel_rfl)
theorem hd56 : Has Tryd.prog 56 := Has.mk' Tryd.func56 (by kernel_rfl) (by kernel_rfl)
theorem hd57 : Has Tryd.prog 57 := Has.mk' Tryd.func57 (by kernel_rfl) (by kernel_rfl)
theorem hd58 : Has Tryd.prog 58 := Has.mk' Tryd.func58 (by kernel_rfl) (by kernel_rfl)
theorem hd59 : Has Tryd.prog 59 := Has.mk' Tryd.func59 (by kernel_rfl) (by kernel_rfl)
theorem hd60 : Has Tryd.prog 60 := Has.mk' Tryd.func60 (by kernel_rfl) (by kernel_rfl)
theorem hd61 : Has Tryd.prog 61 := Has.mk' Tryd.func61 (by kernel_rfl) (by kernel_rfl)
theorem hd62 : Has Tryd.prog 62 := Has.mk' Tryd.func62 (by kernel_rfl) (by kernel_rfl)
theorem hd63 : Has Tryd.prog 63 := Has.mk' Tryd.func63 (by kernel_rfl) (by kernel_rfl)
theorem hd64 : Has Tryd.prog 64 := Has.mk' Tryd.func64 (by kernel_rfl) (by kernel_rfl)
theorem hd65 : Has Tryd.prog 65 := Has.mk' Tryd.func65 (by kernel_rfl) (by kernel_rfl)
theorem hd66 : Has Tryd.prog 66 := Has.mk' Tryd.func66 (by kernel_rfl) (by kernel_rfl)
theorem hd67 : Has Tryd.prog 67 := Has.mk' Tryd.func67 (by kernel_rfl) (by kernel_rfl)
theorem hd68 : Has Tryd.prog 68 := Has.mk' Tryd.func68 (by kernel_rfl) (by kernel_rfl)
theorem hd69 : Has Tryd.prog 69 := Has.mk' Tryd.func69 (by kernel_rfl) (by kernel_rfl)
theorem hd70 : Has Tryd.prog 70 := Has.mk' Tryd.func70 (by kernel_rfl) (by kernel_rfl)
theorem hd71 : Has Tryd.prog 71 := Has.mk' Tryd.func71 (by kernel_rfl) (by kernel_rfl)
theorem hd73 : Has Tryd.prog 73 := Has.mk' Tryd.func73 (by kernel_rfl) (by kernel_rfl)
theorem hd74 : Has Tryd.prog 74 := Has.mk' Tryd.func74 (by kernel_rfl) (by kernel_rfl)
theorem hd75 : Has Tryd.prog 75 := Has.mk' Tryd.func75 (by kernel_rfl) (by kernel_rfl)
theorem hd76 : Has Tryd.prog 76 := Has.mk' Tryd.func76 (by kernel_rfl) (by kernel_rfl)
theorem hd77 : Has Tryd.prog 77 := Has.mk' Tryd.func77 (by kernel_rfl) (by kernel_rfl)
theorem hd78 : Has Tryd.prog 78 := Has.mk' Tryd.func78 (by kernel_rfl) (by kernel_rfl)
theorem hd79 : Has Tryd.prog 79 := Has.mk' Tryd.func79 (by kernel_rfl) (by kernel_rfl)
theorem hd80 : Has Tryd.prog 80 := Has.mk' Tryd.func80 (by kernel_rfl) (by kernel_rfl)
theorem hd81 : Has Tryd.prog 81 := Has.mk' Tryd.func81 (by kernel_rfl) (by kernel_rfl)
theorem hd82 : Has Tryd.prog 82 := Has.mk' Tryd.func82 (by kernel_rfl) (by kernel_rfl)
theorem hd83 : Has Tryd.prog 83 := Has.mk' Tryd.func83 (by kernel_rfl) (by kernel_rfl)
theorem hd84 : Has Tryd.prog 84 := Has.mk' Tryd.func84 (by kernel_rfl) (by kernel_rfl)
theorem hd85 : Has Tryd.prog 85 := Has.mk' Tryd.func85 (by kernel_rfl) (by kernel_rfl)
theorem hd86 : Has Tryd.prog 86 := Has.mk' Tryd.func86 (by kernel_rfl) (by kernel_rfl)
theorem hd87 : Has Tryd.prog 87 := Has.mk' Tryd.func87 (by kernel_rfl) (by kernel_rfl)
theorem hd88 : Has Tryd.prog 88 := Has.mk' Tryd.func88 (by kernel_rfl) (by kernel_rfl)
theorem hd89 : Has Tryd.prog 89 := Has.mk' Tryd.func89 (by kernel_rfl) (by kernel_rfl)
theorem hd90 : Has Tryd.prog 90 := Has.mk' Tryd.func90 (by kernel_rfl) (by kernel_rfl)
theorem hd91 : Has Tryd.prog 91 := Has.mk' Tryd.func91 (by kernel_rfl) (by kernel_rfl)
theorem hd92 : Has Tryd.prog 92 := Has.mk' Tryd.func92 (by kernel_rfl) (by kernel_rfl)
theorem hd93 : Has Tryd.prog 93 := Has.mk' Tryd.func93 (by kernel_rfl) (by kernel_rfl)
theorem hd94 : Has Tryd.prog 94 := Has.mk' Tryd.func94 (by kernel_rfl) (by kernel_rfl)
theorem hd95 : Has Tryd.prog 95 := Has.mk' Tryd.func95 (by kernel_rfl) (by kernel_rfl)
theorem hd96 : Has Tryd.prog 96 := Has.mk' Tryd.func96 (by kernel_rfl) (by kernel_rfl)
theorem hd98 : Has Tryd.prog 98 := Has.mk' Tryd.func98 (by kernel_rfl) (by kernel_rfl)
theorem hd99 : Has Tryd.prog 99 := Has.mk' Tryd.func99 (by kernel_rfl) (by kernel_rfl)
theorem hd100 : Has Tryd.prog 100 := Has.mk' Tryd.func100 (by kernel_rfl) (by kernel_rfl)
theorem hd101 : Has Tryd.prog 101 := Has.mk' Tryd.func101 (by kernel_rfl) (by kernel_rfl)
theorem hd102 : Has Tryd.prog 102 := Has.mk' Tryd.func102 (by kernel_rfl) (by kernel_rfl)
theorem hd103 : Has Tryd.prog 103 := Has.mk' Tryd.func103 (by kernel_rfl) (by kernel_rfl)
theorem hd106 : Has Tryd.prog 106 := Has.mk' Tryd.func106 (by kernel_rfl) (by kernel_rfl)
theorem hd107 : Has Tryd.prog 107 := Has.mk' Tryd.func107 (by kernel_rfl) (by kernel_rfl)
theorem hd108 : Has Tryd.prog 108 := Has.mk' Tryd.func108 (by kernel_rfl) (by kernel_rfl)
theorem hd109 : Has Tryd.prog 109 := Has.mk' Tryd.func109 (by kernel_rfl) (by kernel_rfl)
theorem hd114 : Has Tryd.prog 114 := Has.mk' Tryd.func114 (by kernel_rfl) (by kernel_rfl)
theorem hd117 : Has Tryd.prog 117 := Has.mk' Tryd.func117 (by kernel_rfl) (by kernel_rfl)
theorem hd118 : Has Tryd.prog 118 := Has.mk' Tryd.func118 (by kernel_rfl) (by kernel_rfl)
theorem hd119 : Has Tryd.prog 119 := Has.mk' Tryd.func119 (by kernel_rfl) (by kernel_rfl)
theorem hd120 : Has Tryd.prog 120 := Has.mk' Tryd.func120 (by kernel_rfl) (by kernel_rfl)
theorem hd121 : Has Tryd.prog 121 := Has.mk' Tryd.func121 (by kernel_rfl) (by kernel_rfl)
theorem hd122 : Has Tryd.prog 122 := Has.mk' Tryd.func122 (by kernel_rfl) (by kernel_rfl)
theorem hd130 : Has Tryd.prog 130 := Has.mk' Tryd.func130 (by kernel_rfl) (by kernel_rfl)
theorem hd131 : Has Tryd.prog 131 := Has.mk' Tryd.func131 (by kernel_rfl) (by kernel_rfl)
theorem hd132 : Has Tryd.prog 132 := Has.mk' Tryd.func132 (by kernel_rfl) (by kernel_rfl)
theorem hd134 : Has Tryd.prog 134 := Has.mk' Tryd.func134 (by kernel_rfl) (by kernel_rfl)
theorem hd158 : Has Tryd.prog 158 := Has.mk' Tryd.func158 (by kernel_rfl) (by kernel_rfl)
theorem mo : Tryd.prog.follows .mixedOrders = true := by kernel_rfl
end Go.Proofs.YtogidmceomlkeaaDoor.Ty
