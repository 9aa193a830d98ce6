/- Facts of the types and functions of this seat's program, each by the kernel. -/
import Derived.Test.YtiggkfaonnnjoaaDoorProg
import Derived.Test.YtiggkfaonnnjoaaDoorSl8
namespace Go.Proofs.YtiggkfaonnnjoaaDoor.Ty
open Go.Proofs.YtiggkfaonnnjoaaDoor.SL
theorem ag1 : aggB Tryd.prog 1 = some false := by kernel_rfl
theorem sz1 : sizeB Tryd.prog 1 = some 1 := by kernel_rfl
theorem by1 : (Tryd.prog.info? 1).map (·.bytes) = some 8 := by kernel_rfl
theorem zr1 : zeroB Tryd.prog 1 = some Value.nilFunc := by kernel_rfl
theorem ag2 : aggB Tryd.prog 2 = some false := by kernel_rfl
theorem sz2 : sizeB Tryd.prog 2 = some 1 := by kernel_rfl
theorem by2 : (Tryd.prog.info? 2).map (·.bytes) = some 8 := by kernel_rfl
theorem zr2 : zeroB Tryd.prog 2 = some (Value.int .i64 0) := by kernel_rfl
theorem ag3 : aggB Tryd.prog 3 = some false := by kernel_rfl
theorem sz3 : sizeB Tryd.prog 3 = some 1 := by kernel_rfl
theorem by3 : (Tryd.prog.info? 3).map (·.bytes) = some 8 := by kernel_rfl
theorem zr3 : zeroB Tryd.prog 3 = some (Value.int .i64 0) := by kernel_rfl
theorem ag4 : aggB Tryd.prog 4 = some false := by kernel_rfl
theorem sz4 : sizeB Tryd.prog 4 = some 1 := by kernel_rfl
theorem by4 : (Tryd.prog.info? 4).map (·.bytes) = some 1 := by kernel_rfl
theorem zr4 : zeroB Tryd.prog 4 = some (Value.bool false) := by kernel_rfl
theorem ag5 : aggB Tryd.prog 5 = some false := by kernel_rfl
theorem sz5 : sizeB Tryd.prog 5 = some 1 := by kernel_rfl
theorem by5 : (Tryd.prog.info? 5).map (·.bytes) = some 1 := by kernel_rfl
theorem zr5 : zeroB Tryd.prog 5 = some (Value.int .u8 0) := by kernel_rfl
theorem ag6 : aggB Tryd.prog 6 = some false := by kernel_rfl
theorem sz6 : sizeB Tryd.prog 6 = some 1 := by kernel_rfl
theorem by6 : (Tryd.prog.info? 6).map (·.bytes) = some 1 := by kernel_rfl
theorem zr6 : zeroB Tryd.prog 6 = some (Value.int .u8 0) := by kernel_rfl
theorem ag7 : aggB Tryd.prog 7 = some true := by kernel_rfl
theorem sz7 : sizeB Tryd.prog 7 = some 4 := by kernel_rfl
theorem by7 : (Tryd.prog.info? 7).map (·.bytes) = some 24 := by kernel_rfl
theorem zr7 : zeroB Tryd.prog 7 = some (Value.agg #[Value.int .i64 0, Value.int .i64 0, Value.bool false, Value.int .u8 0]) := by kernel_rfl
theorem ag8 : aggB Tryd.prog 8 = some true := by kernel_rfl
theorem sz8 : sizeB Tryd.prog 8 = some 4 := by kernel_rfl
theorem by8 : (Tryd.prog.info? 8).map (·.bytes) = some 24 := by kernel_rfl
theorem zr8 : zeroB Tryd.prog 8 = some (Value.agg #[Value.int .i64 0, Value.int .i64 0, Value.bool false, Value.int .u8 0]) := by kernel_rfl
theorem ag9 : aggB Tryd.prog 9 = some false := by kernel_rfl
theorem sz9 : sizeB Tryd.prog 9 = some 1 := by kernel_rfl
theorem by9 : (Tryd.prog.info? 9).map (·.bytes) = some 16 := by kernel_rfl
theorem zr9 : zeroB Tryd.prog 9 = some (str []) := by kernel_rfl
theorem ag10 : aggB Tryd.prog 10 = some false := by kernel_rfl
theorem sz10 : sizeB Tryd.prog 10 = some 1 := by kernel_rfl
theorem by10 : (Tryd.prog.info? 10).map (·.bytes) = some 16 := by kernel_rfl
theorem zr10 : zeroB Tryd.prog 10 = some (str []) := by kernel_rfl
theorem ag11 : aggB Tryd.prog 11 = some false := by kernel_rfl
theorem sz11 : sizeB Tryd.prog 11 = some 1 := by kernel_rfl
theorem by11 : (Tryd.prog.info? 11).map (·.bytes) = some 16 := by kernel_rfl
theorem zr11 : zeroB Tryd.prog 11 = some (str []) := by kernel_rfl
theorem ag12 : aggB Tryd.prog 12 = some false := by kernel_rfl
theorem sz12 : sizeB Tryd.prog 12 = some 1 := by kernel_rfl
theorem by12 : (Tryd.prog.info? 12).map (·.bytes) = some 8 := by kernel_rfl
theorem zr12 : zeroB Tryd.prog 12 = some (Value.int .u64 0) := by kernel_rfl
theorem ag13 : aggB Tryd.prog 13 = some true := by kernel_rfl
theorem sz13 : sizeB Tryd.prog 13 = some 2 := by kernel_rfl
theorem by13 : (Tryd.prog.info? 13).map (·.bytes) = some 24 := by kernel_rfl
theorem zr13 : zeroB Tryd.prog 13 = some (Value.agg #[str [], Value.int .u64 0]) := by kernel_rfl
theorem ag14 : aggB Tryd.prog 14 = some true := by kernel_rfl
theorem sz14 : sizeB Tryd.prog 14 = some 2 := by kernel_rfl
theorem by14 : (Tryd.prog.info? 14).map (·.bytes) = some 24 := by kernel_rfl
theorem zr14 : zeroB Tryd.prog 14 = some (Value.agg #[str [], Value.int .u64 0]) := by kernel_rfl
theorem ag15 : aggB Tryd.prog 15 = some false := by kernel_rfl
theorem sz15 : sizeB Tryd.prog 15 = some 1 := by kernel_rfl
theorem by15 : (Tryd.prog.info? 15).map (·.bytes) = some 8 := by kernel_rfl
theorem zr15 : zeroB Tryd.prog 15 = some (Value.pointer none) := by kernel_rfl
theorem ag16 : aggB Tryd.prog 16 = some false := by kernel_rfl
theorem sz16 : sizeB Tryd.prog 16 = some 1 := by kernel_rfl
theorem by16 : (Tryd.prog.info? 16).map (·.bytes) = some 8 := by kernel_rfl
theorem zr16 : zeroB Tryd.prog 16 = some (Value.pointer none) := by kernel_rfl
theorem ag17 : aggB Tryd.prog 17 = some false := by kernel_rfl
theorem sz17 : sizeB Tryd.prog 17 = some 1 := by kernel_rfl
theorem by17 : (Tryd.prog.info? 17).map (·.bytes) = some 8 := by kernel_rfl
theorem zr17 : zeroB Tryd.prog 17 = some (Value.pointer none) := by kernel_rfl
theorem ag18 : aggB Tryd.prog 18 = some true := by kernel_rfl
theorem sz18 : sizeB Tryd.prog 18 = some 1 := by kernel_rfl
theorem by18 : (Tryd.prog.info? 18).map (·.bytes) = some 8 := by kernel_rfl
theorem zr18 : zeroB Tryd.prog 18 = some (Value.agg #[Value.pointer none]) := by kernel_rfl
theorem ag19 : aggB Tryd.prog 19 = some true := by kernel_rfl
theorem sz19 : sizeB Tryd.prog 19 = some 1 := by kernel_rfl
theorem by19 : (Tryd.prog.info? 19).map (·.bytes) = some 8 := by kernel_rfl
theorem zr19 : zeroB Tryd.prog 19 = some (Value.agg #[Value.pointer none]) := by kernel_rfl
theorem ag21 : aggB Tryd.prog 21 = some false := by kernel_rfl
theorem sz21 : sizeB Tryd.prog 21 = some 1 := by kernel_rfl
theorem by21 : (Tryd.prog.info? 21).map (·.bytes) = some 4 := by kernel_rfl
theorem zr21 : zeroB Tryd.prog 21 = some (Value.int .i32 0) := by kernel_rfl
theorem ag22 : aggB Tryd.prog 22 = some false := by kernel_rfl
theorem sz22 : sizeB Tryd.prog 22 = some 1 := by kernel_rfl
theorem by22 : (Tryd.prog.info? 22).map (·.bytes) = some 24 := by kernel_rfl
theorem zr22 : zeroB Tryd.prog 22 = some (Value.slice none 0 0) := by kernel_rfl
theorem ag23 : aggB Tryd.prog 23 = some false := by kernel_rfl
theorem sz23 : sizeB Tryd.prog 23 = some 1 := by kernel_rfl
theorem by23 : (Tryd.prog.info? 23).map (·.bytes) = some 24 := by kernel_rfl
theorem zr23 : zeroB Tryd.prog 23 = some (Value.slice none 0 0) := by kernel_rfl
theorem ag24 : aggB Tryd.prog 24 = some false := by kernel_rfl
theorem sz24 : sizeB Tryd.prog 24 = some 1 := by kernel_rfl
theorem by24 : (Tryd.prog.info? 24).map (·.bytes) = some 24 := by kernel_rfl
theorem zr24 : zeroB Tryd.prog 24 = some (Value.slice none 0 0) := by kernel_rfl
theorem ag25 : aggB Tryd.prog 25 = some false := by kernel_rfl
theorem sz25 : sizeB Tryd.prog 25 = some 1 := by kernel_rfl
theorem by25 : (Tryd.prog.info? 25).map (·.bytes) = some 8 := by kernel_rfl
theorem zr25 : zeroB Tryd.prog 25 = some Value.nilFunc := by kernel_rfl
theorem ag26 : aggB Tryd.prog 26 = some false := by kernel_rfl
theorem sz26 : sizeB Tryd.prog 26 = some 1 := by kernel_rfl
theorem by26 : (Tryd.prog.info? 26).map (·.bytes) = some 8 := by kernel_rfl
theorem zr26 : zeroB Tryd.prog 26 = some (Value.pointer none) := by kernel_rfl
theorem ag27 : aggB Tryd.prog 27 = some false := by kernel_rfl
theorem sz27 : sizeB Tryd.prog 27 = some 1 := by kernel_rfl
theorem by27 : (Tryd.prog.info? 27).map (·.bytes) = some 8 := by kernel_rfl
theorem zr27 : zeroB Tryd.prog 27 = some Value.nilFunc := by kernel_rfl
theorem ag28 : aggB Tryd.prog 28 = some false := by kernel_rfl
theorem sz28 : sizeB Tryd.prog 28 = some 1 := by kernel_rfl
theorem by28 : (Tryd.prog.info? 28).map (·.bytes) = some 8 := by kernel_rfl
theorem zr28 : zeroB Tryd.prog 28 = some (Value.pointer none) := by kernel_rfl
theorem ag29 : aggB Tryd.prog 29 = some false := by kernel_rfl
theorem sz29 : sizeB Tryd.prog 29 = some 1 := by kernel_rfl
theorem by29 : (Tryd.prog.info? 29).map (·.bytes) = some 8 := by kernel_rfl
theorem zr29 : zeroB Tryd.prog 29 = some (Value.int .i64 0) := by kernel_rfl
theorem ag31 : aggB Tryd.prog 31 = some false := by kernel_rfl
theorem sz31 : sizeB Tryd.prog 31 = some 1 := by kernel_rfl
theorem by31 : (Tryd.prog.info? 31).map (·.bytes) = some 8 := by kernel_rfl
theorem zr31 : zeroB Tryd.prog 31 = some Value.nilFunc := by kernel_rfl
theorem ag32 : aggB Tryd.prog 32 = some false := by kernel_rfl
theorem sz32 : sizeB Tryd.prog 32 = some 1 := by kernel_rfl
theorem by32 : (Tryd.prog.info? 32).map (·.bytes) = some 8 := by kernel_rfl
theorem zr32 : zeroB Tryd.prog 32 = some Value.nilFunc := by kernel_rfl
theorem ag33 : aggB Tryd.prog 33 = some false := by kernel_rfl
theorem sz33 : sizeB Tryd.prog 33 = some 1 := by kernel_rfl
theorem by33 : (Tryd.prog.info? 33).map (·.bytes) = some 8 := by kernel_rfl
theorem zr33 : zeroB Tryd.prog 33 = some (Value.int .u64 0) := by kernel_rfl
theorem ag35 : aggB Tryd.prog 35 = some false := by kernel_rfl
theorem sz35 : sizeB Tryd.prog 35 = some 1 := by kernel_rfl
theorem by35 : (Tryd.prog.info? 35).map (·.bytes) = some 8 := by kernel_rfl
theorem zr35 : zeroB Tryd.prog 35 = some Value.nilFunc := by kernel_rfl
theorem ag36 : aggB Tryd.prog 36 = some false := by kernel_rfl
theorem sz36 : sizeB Tryd.prog 36 = some 1 := by kernel_rfl
theorem by36 : (Tryd.prog.info? 36).map (·.bytes) = some 8 := by kernel_rfl
theorem zr36 : zeroB Tryd.prog 36 = some Value.nilFunc := by kernel_rfl
theorem ag37 : aggB Tryd.prog 37 = some false := by kernel_rfl
theorem sz37 : sizeB Tryd.prog 37 = some 1 := by kernel_rfl
theorem by37 : (Tryd.prog.info? 37).map (·.bytes) = some 8 := by kernel_rfl
theorem zr37 : zeroB Tryd.prog 37 = some Value.nilFunc := by kernel_rfl
theorem ag38 : aggB Tryd.prog 38 = some false := by kernel_rfl
theorem sz38 : sizeB Tryd.prog 38 = some 1 := by kernel_rfl
theorem by38 : (Tryd.prog.info? 38).map (·.bytes) = some 8 := by kernel_rfl
theorem zr38 : zeroB Tryd.prog 38 = some Value.nilFunc := by kernel_rfl
theorem ag40 : aggB Tryd.prog 40 = some false := by kernel_rfl
theorem sz40 : sizeB Tryd.prog 40 = some 1 := by kernel_rfl
theorem by40 : (Tryd.prog.info? 40).map (·.bytes) = some 8 := by kernel_rfl
theorem zr40 : zeroB Tryd.prog 40 = some Value.nilFunc := by kernel_rfl
theorem ag41 : aggB Tryd.prog 41 = some false := by kernel_rfl
theorem sz41 : sizeB Tryd.prog 41 = some 1 := by kernel_rfl
theorem by41 : (Tryd.prog.info? 41).map (·.bytes) = some 8 := by kernel_rfl
theorem zr41 : zeroB Tryd.prog 41 = some Value.nilFunc := by kernel_rfl
theorem ag42 : aggB Tryd.prog 42 = some false := by kernel_rfl
theorem sz42 : sizeB Tryd.prog 42 = some 1 := by kernel_rfl
theorem by42 : (Tryd.prog.info? 42).map (·.bytes) = some 8 := by kernel_rfl
theorem zr42 : zeroB Tryd.prog 42 = some Value.nilFunc := by kernel_rfl
theorem ag43 : aggB Tryd.prog 43 = some false := by kernel_rfl
theorem sz43 : sizeB Tryd.prog 43 = some 1 := by kernel_rfl
theorem by43 : (Tryd.prog.info? 43).map (·.bytes) = some 24 := by kernel_rfl
theorem zr43 : zeroB Tryd.prog 43 = some (Value.slice none 0 0) := by kernel_rfl
theorem ag44 : aggB Tryd.prog 44 = some false := by kernel_rfl
theorem sz44 : sizeB Tryd.prog 44 = some 1 := by kernel_rfl
theorem by44 : (Tryd.prog.info? 44).map (·.bytes) = some 8 := by kernel_rfl
theorem zr44 : zeroB Tryd.prog 44 = some Value.nilFunc := by kernel_rfl
theorem ag45 : aggB Tryd.prog 45 = some false := by kernel_rfl
theorem sz45 : sizeB Tryd.prog 45 = some 1 := by kernel_rfl
theorem by45 : (Tryd.prog.info? 45).map (·.bytes) = some 8 := by kernel_rfl
theorem zr45 : zeroB Tryd.prog 45 = some Value.nilFunc := by kernel_rfl
theorem ag46 : aggB Tryd.prog 46 = some false := by kernel_rfl
theorem sz46 : sizeB Tryd.prog 46 = some 1 := by kernel_rfl
theorem by46 : (Tryd.prog.info? 46).map (·.bytes) = some 8 := by kernel_rfl
theorem zr46 : zeroB Tryd.prog 46 = some Value.nilFunc := by kernel_rfl
theorem ag47 : aggB Tryd.prog 47 = some false := by kernel_rfl
theorem sz47 : sizeB Tryd.prog 47 = some 1 := by kernel_rfl
theorem by47 : (Tryd.prog.info? 47).map (·.bytes) = some 8 := by kernel_rfl
theorem zr47 : zeroB Tryd.prog 47 = some (Value.map none) := by kernel_rfl
theorem ag48 : aggB Tryd.prog 48 = some false := by kernel_rfl
theorem sz48 : sizeB Tryd.prog 48 = some 1 := by kernel_rfl
theorem by48 : (Tryd.prog.info? 48).map (·.bytes) = some 8 := by kernel_rfl
theorem zr48 : zeroB Tryd.prog 48 = some (Value.map none) := by kernel_rfl
theorem ag49 : aggB Tryd.prog 49 = some false := by kernel_rfl
theorem sz49 : sizeB Tryd.prog 49 = some 1 := by kernel_rfl
theorem by49 : (Tryd.prog.info? 49).map (·.bytes) = some 24 := by kernel_rfl
theorem zr49 : zeroB Tryd.prog 49 = some (Value.slice none 0 0) := by kernel_rfl
theorem ag50 : aggB Tryd.prog 50 = some true := by kernel_rfl
theorem sz50 : sizeB Tryd.prog 50 = some 6 := by kernel_rfl
theorem by50 : (Tryd.prog.info? 50).map (·.bytes) = some 64 := by kernel_rfl
theorem zr50 : zeroB Tryd.prog 50 = some (Value.agg #[Value.int .i64 0, Value.map none, Value.map none, Value.slice none 0 0, Value.bool false, Value.int .i64 0]) := by kernel_rfl
theorem ag51 : aggB Tryd.prog 51 = some true := by kernel_rfl
theorem sz51 : sizeB Tryd.prog 51 = some 6 := by kernel_rfl
theorem by51 : (Tryd.prog.info? 51).map (·.bytes) = some 64 := by kernel_rfl
theorem zr51 : zeroB Tryd.prog 51 = some (Value.agg #[Value.int .i64 0, Value.map none, Value.map none, Value.slice none 0 0, Value.bool false, Value.int .i64 0]) := by kernel_rfl
theorem ag52 : aggB Tryd.prog 52 = some false := by kernel_rfl
theorem sz52 : sizeB Tryd.prog 52 = some 1 := by kernel_rfl
theorem by52 : (Tryd.prog.info? 52).map (·.bytes) = some 24 := by kernel_rfl
theorem zr52 : zeroB Tryd.prog 52 = some (Value.slice none 0 0) := by kernel_rfl
theorem ag53 : aggB Tryd.prog 53 = some false := by kernel_rfl
theorem sz53 : sizeB Tryd.prog 53 = some 1 := by kernel_rfl
theorem by53 : (Tryd.prog.info? 53).map (·.bytes) = some 8 := by kernel_rfl
theorem zr53 : zeroB Tryd.prog 53 = some (Value.pointer none) := by kernel_rfl
theorem ag54 : aggB Tryd.prog 54 = some true := by kernel_rfl
theorem sz54 : sizeB Tryd.prog 54 = some 6 := by kernel_rfl
theorem by54 : (Tryd.prog.info? 54).map (·.bytes) = some 64 := by kernel_rfl
theorem zr54 : zeroB Tryd.prog 54 = some (Value.agg #[Value.pointer none, Value.slice none 0 0, Value.pointer none, Value.bool false, Value.int .i64 0, Value.int .i64 0]) := by kernel_rfl
theorem ag55 : aggB Tryd.prog 55 = some true := by kernel_rfl
theorem sz55 : sizeB Tryd.prog 55 = some 6 := by kernel_rfl
theorem by55 : (Tryd.prog.info? 55).map (·.bytes) = some 64 := by kernel_rfl
theorem zr55 : zeroB Tryd.prog 55 = some (Value.agg #[Value.pointer none, Value.slice none 0 0, Value.pointer none, Value.bool false, Value.int .i64 0, Value.int .i64 0]) := by kernel_rfl
theorem ag56 : aggB Tryd.prog 56 = some false := by kernel_rfl
theorem sz56 : sizeB Tryd.prog 56 = some 1 := by kernel_rfl
theorem by56 : (Tryd.prog.info? 56).map (·.bytes) = some 8 := by kernel_rfl
theorem zr56 : zeroB Tryd.prog 56 = some Value.nilFunc := by kernel_rfl
theorem ag57 : aggB Tryd.prog 57 = some false := by kernel_rfl
theorem sz57 : sizeB Tryd.prog 57 = some 1 := by kernel_rfl
theorem by57 : (Tryd.prog.info? 57).map (·.bytes) = some 8 := by kernel_rfl
theorem zr57 : zeroB Tryd.prog 57 = some Value.nilFunc := by kernel_rfl
theorem ag58 : aggB Tryd.prog 58 = some false := by kernel_rfl
theorem sz58 : sizeB Tryd.prog 58 = some 1 := by kernel_rfl
theorem by58 : (Tryd.prog.info? 58).map (·.bytes) = some 8 := by kernel_rfl
theorem zr58 : zeroB Tryd.prog 58 = some Value.nilFunc := by kernel_rfl
theorem ag59 : aggB Tryd.prog 59 = some false := by kernel_rfl
theorem sz59 : sizeB Tryd.prog 59 = some 1 := by kernel_rfl
theorem by59 : (Tryd.prog.info? 59).map (·.bytes) = some 8 := by kernel_rfl
theorem zr59 : zeroB Tryd.prog 59 = some Value.nilFunc := by kernel_rfl
theorem ag60 : aggB Tryd.prog 60 = some false := by kernel_rfl
theorem sz60 : sizeB Tryd.prog 60 = some 1 := by kernel_rfl
theorem by60 : (Tryd.prog.info? 60).map (·.bytes) = some 8 := by kernel_rfl
theorem zr60 : zeroB Tryd.prog 60 = some Value.nilFunc := by kernel_rfl
theorem ag61 : aggB Tryd.prog 61 = some false := by kernel_rfl
theorem sz61 : sizeB Tryd.prog 61 = some 1 := by kernel_rfl
theorem by61 : (Tryd.prog.info? 61).map (·.bytes) = some 8 := by kernel_rfl
theorem zr61 : zeroB Tryd.prog 61 = some Value.nilFunc := by kernel_rfl
theorem ag62 : aggB Tryd.prog 62 = some false := by kernel_rfl
theorem sz62 : sizeB Tryd.prog 62 = some 1 := by kernel_rfl
theorem by62 : (Tryd.prog.info? 62).map (·.bytes) = some 8 := by kernel_rfl
theorem zr62 : zeroB Tryd.prog 62 = some Value.nilFunc := by kernel_rfl
theorem ag63 : aggB Tryd.prog 63 = some false := by kernel_rfl
theorem sz63 : sizeB Tryd.prog 63 = some 1 := by kernel_rfl
theorem by63 : (Tryd.prog.info? 63).map (·.bytes) = some 8 := by kernel_rfl
theorem zr63 : zeroB Tryd.prog 63 = some Value.nilFunc := by kernel_rfl
theorem ag64 : aggB Tryd.prog 64 = some false := by kernel_rfl
theorem sz64 : sizeB Tryd.prog 64 = some 1 := by kernel_rfl
theorem by64 : (Tryd.prog.info? 64).map (·.bytes) = some 8 := by kernel_rfl
theorem zr64 : zeroB Tryd.prog 64 = some Value.nilFunc := by kernel_rfl
theorem ag65 : aggB Tryd.prog 65 = some true := by kernel_rfl
theorem sz65 : sizeB Tryd.prog 65 = some 2 := by kernel_rfl
theorem by65 : (Tryd.prog.info? 65).map (·.bytes) = some 24 := by kernel_rfl
theorem zr65 : zeroB Tryd.prog 65 = some (Value.agg #[Value.int .i64 0, str []]) := by kernel_rfl
theorem ag66 : aggB Tryd.prog 66 = some true := by kernel_rfl
theorem sz66 : sizeB Tryd.prog 66 = some 2 := by kernel_rfl
theorem by66 : (Tryd.prog.info? 66).map (·.bytes) = some 24 := by kernel_rfl
theorem zr66 : zeroB Tryd.prog 66 = some (Value.agg #[Value.int .i64 0, str []]) := by kernel_rfl
theorem ag67 : aggB Tryd.prog 67 = some true := by kernel_rfl
theorem sz67 : sizeB Tryd.prog 67 = some 4 := by kernel_rfl
theorem by67 : (Tryd.prog.info? 67).map (·.bytes) = some 48 := by kernel_rfl
theorem zr67 : zeroB Tryd.prog 67 = some (Value.agg #[Value.int .i64 0, Value.slice none 0 0, Value.int .i64 0, Value.bool false]) := by kernel_rfl
theorem ag68 : aggB Tryd.prog 68 = some true := by kernel_rfl
theorem sz68 : sizeB Tryd.prog 68 = some 4 := by kernel_rfl
theorem by68 : (Tryd.prog.info? 68).map (·.bytes) = some 48 := by kernel_rfl
theorem zr68 : zeroB Tryd.prog 68 = some (Value.agg #[Value.int .i64 0, Value.slice none 0 0, Value.int .i64 0, Value.bool false]) := by kernel_rfl
theorem ag69 : aggB Tryd.prog 69 = some false := by kernel_rfl
theorem sz69 : sizeB Tryd.prog 69 = some 1 := by kernel_rfl
theorem by69 : (Tryd.prog.info? 69).map (·.bytes) = some 8 := by kernel_rfl
theorem zr69 : zeroB Tryd.prog 69 = some Value.nilFunc := by kernel_rfl
theorem ag70 : aggB Tryd.prog 70 = some false := by kernel_rfl
theorem sz70 : sizeB Tryd.prog 70 = some 1 := by kernel_rfl
theorem by70 : (Tryd.prog.info? 70).map (·.bytes) = some 8 := by kernel_rfl
theorem zr70 : zeroB Tryd.prog 70 = some Value.nilFunc := by kernel_rfl
theorem ag71 : aggB Tryd.prog 71 = some false := by kernel_rfl
theorem sz71 : sizeB Tryd.prog 71 = some 1 := by kernel_rfl
theorem by71 : (Tryd.prog.info? 71).map (·.bytes) = some 8 := by kernel_rfl
theorem zr71 : zeroB Tryd.prog 71 = some Value.nilFunc := by kernel_rfl
theorem ag72 : aggB Tryd.prog 72 = some false := by kernel_rfl
theorem sz72 : sizeB Tryd.prog 72 = some 1 := by kernel_rfl
theorem by72 : (Tryd.prog.info? 72).map (·.bytes) = some 8 := by kernel_rfl
theorem zr72 : zeroB Tryd.prog 72 = some Value.nilFunc := by kernel_rfl
theorem ag73 : aggB Tryd.prog 73 = some false := by kernel_rfl
theorem sz73 : sizeB Tryd.prog 73 = some 1 := by kernel_rfl
theorem by73 : (Tryd.prog.info? 73).map (·.bytes) = some 8 := by kernel_rfl
theorem zr73 : zeroB Tryd.prog 73 = some Value.nilFunc := by kernel_rfl
theorem ag74 : aggB Tryd.prog 74 = some false := by kernel_rfl
theorem sz74 : sizeB Tryd.prog 74 = some 1 := by kernel_rfl
theorem by74 : (Tryd.prog.info? 74).map (·.bytes) = some 8 := by kernel_rfl
theorem zr74 : zeroB Tryd.prog 74 = some Value.nilFunc := by kernel_rfl
theorem ag75 : aggB Tryd.prog 75 = some false := by kernel_rfl
theorem sz75 : sizeB Tryd.prog 75 = some 1 := by kernel_rfl
theorem by75 : (Tryd.prog.info? 75).map (·.bytes) = some 8 := by kernel_rfl
theorem zr75 : zeroB Tryd.prog 75 = some Value.nilFunc := by kernel_rfl
theorem ag76 : aggB Tryd.prog 76 = some false := by kernel_rfl
theorem sz76 : sizeB Tryd.prog 76 = some 1 := by kernel_rfl
theorem by76 : (Tryd.prog.info? 76).map (·.bytes) = some 8 := by kernel_rfl
theorem zr76 : zeroB Tryd.prog 76 = some Value.nilFunc := by kernel_rfl
theorem ag77 : aggB Tryd.prog 77 = some false := by kernel_rfl
theorem sz77 : sizeB Tryd.prog 77 = some 1 := by kernel_rfl
theorem by77 : (Tryd.prog.info? 77).map (·.bytes) = some 8 := by kernel_rfl
theorem zr77 : zeroB Tryd.prog 77 = some Value.nilFunc := by kernel_rfl
theorem ag78 : aggB Tryd.prog 78 = some false := by kernel_rfl
theorem sz78 : sizeB Tryd.prog 78 = some 1 := by kernel_rfl
theorem by78 : (Tryd.prog.info? 78).map (·.bytes) = some 8 := by kernel_rfl
theorem zr78 : zeroB Tryd.prog 78 = some (Value.pointer none) := by kernel_rfl
theorem ag79 : aggB Tryd.prog 79 = some true := by kernel_rfl
theorem sz79 : sizeB Tryd.prog 79 = some 2 := by kernel_rfl
theorem by79 : (Tryd.prog.info? 79).map (·.bytes) = some 24 := by kernel_rfl
theorem zr79 : zeroB Tryd.prog 79 = some (Value.agg #[str [], Value.int .i64 0]) := by kernel_rfl
theorem ag80 : aggB Tryd.prog 80 = some true := by kernel_rfl
theorem sz80 : sizeB Tryd.prog 80 = some 2 := by kernel_rfl
theorem by80 : (Tryd.prog.info? 80).map (·.bytes) = some 24 := by kernel_rfl
theorem zr80 : zeroB Tryd.prog 80 = some (Value.agg #[str [], Value.int .i64 0]) := by kernel_rfl
theorem ag81 : aggB Tryd.prog 81 = some false := by kernel_rfl
theorem sz81 : sizeB Tryd.prog 81 = some 1 := by kernel_rfl
theorem by81 : (Tryd.prog.info? 81).map (·.bytes) = some 8 := by kernel_rfl
theorem zr81 : zeroB Tryd.prog 81 = some Value.nilFunc := by kernel_rfl
theorem ag83 : aggB Tryd.prog 83 = some false := by kernel_rfl
theorem sz83 : sizeB Tryd.prog 83 = some 1 := by kernel_rfl
theorem by83 : (Tryd.prog.info? 83).map (·.bytes) = some 8 := by kernel_rfl
theorem zr83 : zeroB Tryd.prog 83 = some Value.nilFunc := by kernel_rfl
theorem ag84 : aggB Tryd.prog 84 = some false := by kernel_rfl
theorem sz84 : sizeB Tryd.prog 84 = some 1 := by kernel_rfl
theorem by84 : (Tryd.prog.info? 84).map (·.bytes) = some 8 := by kernel_rfl
theorem zr84 : zeroB Tryd.prog 84 = some Value.nilFunc := by kernel_rfl
theorem ag85 : aggB Tryd.prog 85 = some false := by kernel_rfl
theorem sz85 : sizeB Tryd.prog 85 = some 1 := by kernel_rfl
theorem by85 : (Tryd.prog.info? 85).map (·.bytes) = some 8 := by kernel_rfl
theorem zr85 : zeroB Tryd.prog 85 = some Value.nilFunc := by kernel_rfl
theorem ag86 : aggB Tryd.prog 86 = some false := by kernel_rfl
theorem sz86 : sizeB Tryd.prog 86 = some 1 := by kernel_rfl
theorem by86 : (Tryd.prog.info? 86).map (·.bytes) = some 8 := by kernel_rfl
theorem zr86 : zeroB Tryd.prog 86 = some Value.nilFunc := by kernel_rfl
theorem ag87 : aggB Tryd.prog 87 = some false := by kernel_rfl
theorem sz87 : sizeB Tryd.prog 87 = some 1 := by kernel_rfl
theorem by87 : (Tryd.prog.info? 87).map (·.bytes) = some 4 := by kernel_rfl
theorem zr87 : zeroB Tryd.prog 87 = some (Value.int .u32 0) := by kernel_rfl
theorem ag88 : aggB Tryd.prog 88 = some false := by kernel_rfl
theorem sz88 : sizeB Tryd.prog 88 = some 1 := by kernel_rfl
theorem by88 : (Tryd.prog.info? 88).map (·.bytes) = some 8 := by kernel_rfl
theorem zr88 : zeroB Tryd.prog 88 = some Value.nilFunc := by kernel_rfl
theorem ag89 : aggB Tryd.prog 89 = some false := by kernel_rfl
theorem sz89 : sizeB Tryd.prog 89 = some 1 := by kernel_rfl
theorem by89 : (Tryd.prog.info? 89).map (·.bytes) = some 8 := by kernel_rfl
theorem zr89 : zeroB Tryd.prog 89 = some Value.nilFunc := by kernel_rfl
theorem ag91 : aggB Tryd.prog 91 = some false := by kernel_rfl
theorem sz91 : sizeB Tryd.prog 91 = some 1 := by kernel_rfl
theorem by91 : (Tryd.prog.info? 91).map (·.bytes) = some 8 := by kernel_rfl
theorem zr91 : zeroB Tryd.prog 91 = some Value.nilFunc := by kernel_rfl
theorem ag92 : aggB Tryd.prog 92 = some false := by kernel_rfl
theorem sz92 : sizeB Tryd.prog 92 = some 1 := by kernel_rfl
theorem by92 : (Tryd.prog.info? 92).map (·.bytes) = some 8 := by kernel_rfl
theorem zr92 : zeroB Tryd.prog 92 = some Value.nilFunc := by kernel_rfl
theorem ag93 : aggB Tryd.prog 93 = some false := by kernel_rfl
theorem sz93 : sizeB Tryd.prog 93 = some 1 := by kernel_rfl
theorem by93 : (Tryd.prog.info? 93).map (·.bytes) = some 8 := by kernel_rfl
theorem zr93 : zeroB Tryd.prog 93 = some Value.nilFunc := by kernel_rfl
theorem ag95 : aggB Tryd.prog 95 = some false := by kernel_rfl
theorem sz95 : sizeB Tryd.prog 95 = some 1 := by kernel_rfl
theorem by95 : (Tryd.prog.info? 95).map (·.bytes) = some 8 := by kernel_rfl
theorem zr95 : zeroB Tryd.prog 95 = some Value.nilFunc := by kernel_rfl
theorem ag96 : aggB Tryd.prog 96 = some false := by kernel_rfl
theorem sz96 : sizeB Tryd.prog 96 = some 1 := by kernel_rfl
theorem by96 : (Tryd.prog.info? 96).map (·.bytes) = some 8 := by kernel_rfl
theorem zr96 : zeroB Tryd.prog 96 = some Value.nilFunc := by kernel_rfl
theorem ag97 : aggB Tryd.prog 97 = some false := by kernel_rfl
theorem sz97 : sizeB Tryd.prog 97 = some 1 := by kernel_rfl
theorem by97 : (Tryd.prog.info? 97).map (·.bytes) = some 8 := by kernel_rfl
theorem zr97 : zeroB Tryd.prog 97 = some (Value.int .u64 0) := by kernel_rfl
theorem ag98 : aggB Tryd.prog 98 = some false := by kernel_rfl
theorem sz98 : sizeB Tryd.prog 98 = some 1 := by kernel_rfl
theorem by98 : (Tryd.prog.info? 98).map (·.bytes) = some 8 := by kernel_rfl
theorem zr98 : zeroB Tryd.prog 98 = some Value.nilFunc := by kernel_rfl
theorem ag99 : aggB Tryd.prog 99 = some false := by kernel_rfl
theorem sz99 : sizeB Tryd.prog 99 = some 1 := by kernel_rfl
theorem by99 : (Tryd.prog.info? 99).map (·.bytes) = some 8 := by kernel_rfl
theorem zr99 : zeroB Tryd.prog 99 = some Value.nilFunc := by kernel_rfl
theorem ag100 : aggB Tryd.prog 100 = some false := by kernel_rfl
theorem sz100 : sizeB Tryd.prog 100 = some 1 := by kernel_rfl
theorem by100 : (Tryd.prog.info? 100).map (·.bytes) = some 8 := by kernel_rfl
theorem zr100 : zeroB Tryd.prog 100 = some Value.nilFunc := by kernel_rfl
theorem ag101 : aggB Tryd.prog 101 = some false := by kernel_rfl
theorem sz101 : sizeB Tryd.prog 101 = some 1 := by kernel_rfl
theorem by101 : (Tryd.prog.info? 101).map (·.bytes) = some 8 := by kernel_rfl
theorem zr101 : zeroB Tryd.prog 101 = some Value.nilFunc := by kernel_rfl
theorem ag102 : aggB Tryd.prog 102 = some false := by kernel_rfl
theorem sz102 : sizeB Tryd.prog 102 = some 1 := by kernel_rfl
theorem by102 : (Tryd.prog.info? 102).map (·.bytes) = some 8 := by kernel_rfl
theorem zr102 : zeroB Tryd.prog 102 = some Value.nilFunc := by kernel_rfl
theorem ag104 : aggB Tryd.prog 104 = some false := by kernel_rfl
theorem sz104 : sizeB Tryd.prog 104 = some 1 := by kernel_rfl
theorem by104 : (Tryd.prog.info? 104).map (·.bytes) = some 8 := by kernel_rfl
theorem zr104 : zeroB Tryd.prog 104 = some Value.nilFunc := by kernel_rfl
theorem ag105 : aggB Tryd.prog 105 = some true := by kernel_rfl
theorem sz105 : sizeB Tryd.prog 105 = some 9 := by kernel_rfl
theorem by105 : (Tryd.prog.info? 105).map (·.bytes) = some 9 := by kernel_rfl
theorem zr105 : zeroB Tryd.prog 105 = some (Value.agg #[Value.int .u8 0, Value.int .u8 0, Value.int .u8 0, Value.int .u8 0, Value.int .u8 0, Value.int .u8 0, Value.int .u8 0, Value.int .u8 0, Value.int .u8 0]) := by kernel_rfl
theorem ag106 : aggB Tryd.prog 106 = some true := by kernel_rfl
theorem sz106 : sizeB Tryd.prog 106 = some 2 := by kernel_rfl
theorem by106 : (Tryd.prog.info? 106).map (·.bytes) = some 8 := by kernel_rfl
theorem zr106 : zeroB Tryd.prog 106 = some (Value.agg #[Value.int .u32 0, Value.int .u32 0]) := by kernel_rfl
theorem ag107 : aggB Tryd.prog 107 = some true := by kernel_rfl
theorem sz107 : sizeB Tryd.prog 107 = some 2 := by kernel_rfl
theorem by107 : (Tryd.prog.info? 107).map (·.bytes) = some 8 := by kernel_rfl
theorem zr107 : zeroB Tryd.prog 107 = some (Value.agg #[Value.int .u32 0, Value.int .u32 0]) := by kernel_rfl
theorem ag108 : aggB Tryd.prog 108 = some false := by kernel_rfl
theorem sz108 : sizeB Tryd.prog 108 = some 1 := by kernel_rfl
theorem by108 : (Tryd.prog.info? 108).map (·.bytes) = some 8 := by kernel_rfl
theorem zr108 : zeroB Tryd.prog 108 = some Value.nilFunc := by kernel_rfl
theorem ag109 : aggB Tryd.prog 109 = some false := by kernel_rfl
theorem sz109 : sizeB Tryd.prog 109 = some 1 := by kernel_rfl
theorem by109 : (Tryd.prog.info? 109).map (·.bytes) = some 8 := by kernel_rfl
theorem zr109 : zeroB Tryd.prog 109 = some Value.nilFunc := by kernel_rfl
theorem ag110 : aggB Tryd.prog 110 = some true := by kernel_rfl
theorem sz110 : sizeB Tryd.prog 110 = some 256 := by kernel_rfl
theorem by110 : (Tryd.prog.info? 110).map (·.bytes) = some 256 := by kernel_rfl
theorem ag111 : aggB Tryd.prog 111 = some true := by kernel_rfl
theorem sz111 : sizeB Tryd.prog 111 = some 256 := by kernel_rfl
theorem by111 : (Tryd.prog.info? 111).map (·.bytes) = some 256 := by kernel_rfl
theorem ag113 : aggB Tryd.prog 113 = some false := by kernel_rfl
theorem sz113 : sizeB Tryd.prog 113 = some 1 := by kernel_rfl
theorem by113 : (Tryd.prog.info? 113).map (·.bytes) = some 8 := by kernel_rfl
theorem zr113 : zeroB Tryd.prog 113 = some Value.nilFunc := by kernel_rfl
theorem ag114 : aggB Tryd.prog 114 = some false := by kernel_rfl
theorem sz114 : sizeB Tryd.prog 114 = some 1 := by kernel_rfl
theorem by114 : (Tryd.prog.info? 114).map (·.bytes) = some 8 := by kernel_rfl
theorem zr114 : zeroB Tryd.prog 114 = some Value.nilFunc := by kernel_rfl
theorem ag115 : aggB Tryd.prog 115 = some false := by kernel_rfl
theorem sz115 : sizeB Tryd.prog 115 = some 1 := by kernel_rfl
theorem by115 : (Tryd.prog.info? 115).map (·.bytes) = some 8 := by kernel_rfl
theorem zr115 : zeroB Tryd.prog 115 = some (Value.pointer none) := by kernel_rfl
theorem ag116 : aggB Tryd.prog 116 = some false := by kernel_rfl
theorem sz116 : sizeB Tryd.prog 116 = some 1 := by kernel_rfl
theorem by116 : (Tryd.prog.info? 116).map (·.bytes) = some 8 := by kernel_rfl
theorem zr116 : zeroB Tryd.prog 116 = some Value.nilFunc := by kernel_rfl
theorem ag117 : aggB Tryd.prog 117 = some false := by kernel_rfl
theorem sz117 : sizeB Tryd.prog 117 = some 1 := by kernel_rfl
theorem by117 : (Tryd.prog.info? 117).map (·.bytes) = some 8 := by kernel_rfl
theorem zr117 : zeroB Tryd.prog 117 = some (Value.int .i64 0) := by kernel_rfl
theorem ag119 : aggB Tryd.prog 119 = some false := by kernel_rfl
theorem sz119 : sizeB Tryd.prog 119 = some 1 := by kernel_rfl
theorem by119 : (Tryd.prog.info? 119).map (·.bytes) = some 8 := by kernel_rfl
theorem zr119 : zeroB Tryd.prog 119 = some Value.nilFunc := by kernel_rfl
theorem ag120 : aggB Tryd.prog 120 = some false := by kernel_rfl
theorem sz120 : sizeB Tryd.prog 120 = some 1 := by kernel_rfl
theorem by120 : (Tryd.prog.info? 120).map (·.bytes) = some 8 := by kernel_rfl
theorem zr120 : zeroB Tryd.prog 120 = some Value.nilFunc := by kernel_rfl
theorem ag121 : aggB Tryd.prog 121 = some false := by kernel_rfl
theorem sz121 : sizeB Tryd.prog 121 = some 1 := by kernel_rfl
theorem by121 : (Tryd.prog.info? 121).map (·.bytes) = some 8 := by kernel_rfl
theorem zr121 : zeroB Tryd.prog 121 = some Value.nilFunc := by kernel_rfl
theorem ag122 : aggB Tryd.prog 122 = some false := by kernel_rfl
theorem sz122 : sizeB Tryd.prog 122 = some 1 := by kernel_rfl
theorem by122 : (Tryd.prog.info? 122).map (·.bytes) = some 8 := by kernel_rfl
theorem zr122 : zeroB Tryd.prog 122 = some Value.nilFunc := by kernel_rfl
theorem ag124 : aggB Tryd.prog 124 = some false := by kernel_rfl
theorem sz124 : sizeB Tryd.prog 124 = some 1 := by kernel_rfl
theorem by124 : (Tryd.prog.info? 124).map (·.bytes) = some 8 := by kernel_rfl
theorem zr124 : zeroB Tryd.prog 124 = some Value.nilFunc := by kernel_rfl
theorem ag125 : aggB Tryd.prog 125 = some false := by kernel_rfl
theorem sz125 : sizeB Tryd.prog 125 = some 1 := by kernel_rfl
theorem by125 : (Tryd.prog.info? 125).map (·.bytes) = some 8 := by kernel_rfl
theorem zr125 : zeroB Tryd.prog 125 = some Value.nilFunc := by kernel_rfl
theorem ag126 : aggB Tryd.prog 126 = some false := by kernel_rfl
theorem sz126 : sizeB Tryd.prog 126 = some 1 := by kernel_rfl
theorem by126 : (Tryd.prog.info? 126).map (·.bytes) = some 8 := by kernel_rfl
theorem zr126 : zeroB Tryd.prog 126 = some Value.nilFunc := by kernel_rfl
theorem ag127 : aggB Tryd.prog 127 = some false := by kernel_rfl
theorem sz127 : sizeB Tryd.prog 127 = some 1 := by kernel_rfl
theorem by127 : (Tryd.prog.info? 127).map (·.bytes) = some 8 := by kernel_rfl
theorem zr127 : zeroB Tryd.prog 127 = some (Value.pointer none) := by kernel_rfl
theorem ag128 : aggB Tryd.prog 128 = some false := by kernel_rfl
theorem sz128 : sizeB Tryd.prog 128 = some 1 := by kernel_rfl
theorem by128 : (Tryd.prog.info? 128).map (·.bytes) = some 8 := by kernel_rfl
theorem zr128 : zeroB Tryd.prog 128 = some Value.nilFunc := by kernel_rfl
theorem ag130 : aggB Tryd.prog 130 = some false := by kernel_rfl
theorem sz130 : sizeB Tryd.prog 130 = some 1 := by kernel_rfl
theorem by130 : (Tryd.prog.info? 130).map (·.bytes) = some 8 := by kernel_rfl
theorem zr130 : zeroB Tryd.prog 130 = some Value.nilFunc := by kernel_rfl
theorem ag131 : aggB Tryd.prog 131 = some false := by kernel_rfl
theorem sz131 : sizeB Tryd.prog 131 = some 1 := by kernel_rfl
theorem by131 : (Tryd.prog.info? 131).map (·.bytes) = some 8 := by kernel_rfl
theorem zr131 : zeroB Tryd.prog 131 = some Value.nilFunc := by kernel_rfl
theorem ag132 : aggB Tryd.prog 132 = some false := by kernel_rfl
theorem sz132 : sizeB Tryd.prog 132 = some 1 := by kernel_rfl
theorem by132 : (Tryd.prog.info? 132).map (·.bytes) = some 8 := by kernel_rfl
theorem zr132 : zeroB Tryd.prog 132 = some (Value.int .u64 0) := by kernel_rfl
theorem ag133 : aggB Tryd.prog 133 = some false := by kernel_rfl
theorem sz133 : sizeB Tryd.prog 133 = some 1 := by kernel_rfl
theorem by133 : (Tryd.prog.info? 133).map (·.bytes) = some 8 := by kernel_rfl
theorem zr133 : zeroB Tryd.prog 133 = some Value.nilFunc := by kernel_rfl
theorem ag134 : aggB Tryd.prog 134 = some false := by kernel_rfl
theorem sz134 : sizeB Tryd.prog 134 = some 1 := by kernel_rfl
theorem by134 : (Tryd.prog.info? 134).map (·.bytes) = some 8 := by kernel_rfl
theorem zr134 : zeroB Tryd.prog 134 = some Value.nilFunc := by kernel_rfl
theorem ag135 : aggB Tryd.prog 135 = some false := by kernel_rfl
theorem sz135 : sizeB Tryd.prog 135 = some 1 := by kernel_rfl
theorem by135 : (Tryd.prog.info? 135).map (·.bytes) = some 8 := by kernel_rfl
theorem zr135 : zeroB Tryd.prog 135 = some Value.nilFunc := by kernel_rfl
theorem ag136 : aggB Tryd.prog 136 = some false := by kernel_rfl
theorem sz136 : sizeB Tryd.prog 136 = some 1 := by kernel_rfl
theorem by136 : (Tryd.prog.info? 136).map (·.bytes) = some 8 := by kernel_rfl
theorem zr136 : zeroB Tryd.prog 136 = some (Value.pointer none) := by kernel_rfl
theorem ag137 : aggB Tryd.prog 137 = some false := by kernel_rfl
theorem sz137 : sizeB Tryd.prog 137 = some 1 := by kernel_rfl
theorem by137 : (Tryd.prog.info? 137).map (·.bytes) = some 8 := by kernel_rfl
theorem zr137 : zeroB Tryd.prog 137 = some Value.nilFunc := by kernel_rfl
theorem ag138 : aggB Tryd.prog 138 = some false := by kernel_rfl
theorem sz138 : sizeB Tryd.prog 138 = some 1 := by kernel_rfl
theorem by138 : (Tryd.prog.info? 138).map (·.bytes) = some 8 := by kernel_rfl
theorem zr138 : zeroB Tryd.prog 138 = some Value.nilFunc := by kernel_rfl
theorem ag139 : aggB Tryd.prog 139 = some false := by kernel_rfl
theorem sz139 : sizeB Tryd.prog 139 = some 1 := by kernel_rfl
theorem by139 : (Tryd.prog.info? 139).map (·.bytes) = some 8 := by kernel_rfl
theorem zr139 : zeroB Tryd.prog 139 = some (Value.pointer none) := by kernel_rfl
theorem ag141 : aggB Tryd.prog 141 = some false := by kernel_rfl
theorem sz141 : sizeB Tryd.prog 141 = some 1 := by kernel_rfl
theorem by141 : (Tryd.prog.info? 141).map (·.bytes) = some 8 := by kernel_rfl
theorem zr141 : zeroB Tryd.prog 141 = some Value.nilFunc := by kernel_rfl
theorem ag142 : aggB Tryd.prog 142 = some true := by kernel_rfl
theorem sz142 : sizeB Tryd.prog 142 = some 256 := by kernel_rfl
theorem by142 : (Tryd.prog.info? 142).map (·.bytes) = some 256 := by kernel_rfl
theorem ag143 : aggB Tryd.prog 143 = some true := by kernel_rfl
theorem sz143 : sizeB Tryd.prog 143 = some 2 := by kernel_rfl
theorem by143 : (Tryd.prog.info? 143).map (·.bytes) = some 2 := by kernel_rfl
theorem zr143 : zeroB Tryd.prog 143 = some (Value.agg #[Value.int .u8 0, Value.int .u8 0]) := by kernel_rfl
theorem ag144 : aggB Tryd.prog 144 = some true := by kernel_rfl
theorem sz144 : sizeB Tryd.prog 144 = some 2 := by kernel_rfl
theorem by144 : (Tryd.prog.info? 144).map (·.bytes) = some 2 := by kernel_rfl
theorem zr144 : zeroB Tryd.prog 144 = some (Value.agg #[Value.int .u8 0, Value.int .u8 0]) := by kernel_rfl
theorem ag145 : aggB Tryd.prog 145 = some true := by kernel_rfl
theorem sz145 : sizeB Tryd.prog 145 = some 32 := by kernel_rfl
theorem by145 : (Tryd.prog.info? 145).map (·.bytes) = some 32 := by kernel_rfl
theorem zr145 : zeroB Tryd.prog 145 = some (Value.agg #[Value.int .u8 0, Value.int .u8 0, Value.int .u8 0, Value.int .u8 0, Value.int .u8 0, Value.int .u8 0, Value.int .u8 0, Value.int .u8 0, Value.int .u8 0, Value.int .u8 0, Value.int .u8 0, Value.int .u8 0, Value.int .u8 0, Value.int .u8 0, Value.int .u8 0, Value.int .u8 0, Value.int .u8 0, Value.int .u8 0, Value.int .u8 0, Value.int .u8 0, Value.int .u8 0, Value.int .u8 0, Value.int .u8 0, Value.int .u8 0, Value.int .u8 0, Value.int .u8 0, Value.int .u8 0, Value.int .u8 0, Value.int .u8 0, Value.int .u8 0, Value.int .u8 0, Value.int .u8 0]) := by kernel_rfl
theorem ag146 : aggB Tryd.prog 146 = some false := by kernel_rfl
theorem sz146 : sizeB Tryd.prog 146 = some 1 := by kernel_rfl
theorem by146 : (Tryd.prog.info? 146).map (·.bytes) = some 8 := by kernel_rfl
theorem zr146 : zeroB Tryd.prog 146 = some Value.nilFunc := by kernel_rfl
theorem ag147 : aggB Tryd.prog 147 = some false := by kernel_rfl
theorem sz147 : sizeB Tryd.prog 147 = some 1 := by kernel_rfl
theorem by147 : (Tryd.prog.info? 147).map (·.bytes) = some 8 := by kernel_rfl
theorem zr147 : zeroB Tryd.prog 147 = some Value.nilFunc := by kernel_rfl
theorem ag148 : aggB Tryd.prog 148 = some false := by kernel_rfl
theorem sz148 : sizeB Tryd.prog 148 = some 1 := by kernel_rfl
theorem by148 : (Tryd.prog.info? 148).map (·.bytes) = some 8 := by kernel_rfl
theorem zr148 : zeroB Tryd.prog 148 = some Value.nilFunc := by kernel_rfl
theorem ag149 : aggB Tryd.prog 149 = some false := by kernel_rfl
theorem sz149 : sizeB Tryd.prog 149 = some 1 := by kernel_rfl
theorem by149 : (Tryd.prog.info? 149).map (·.bytes) = some 8 := by kernel_rfl
theorem zr149 : zeroB Tryd.prog 149 = some Value.nilFunc := by kernel_rfl
theorem ag150 : aggB Tryd.prog 150 = some true := by kernel_rfl
theorem sz150 : sizeB Tryd.prog 150 = some 4 := by kernel_rfl
theorem by150 : (Tryd.prog.info? 150).map (·.bytes) = some 40 := by kernel_rfl
theorem zr150 : zeroB Tryd.prog 150 = some (Value.agg #[Value.pointer none, Value.pointer none, Value.pointer none, str []]) := by kernel_rfl
theorem ag151 : aggB Tryd.prog 151 = some true := by kernel_rfl
theorem sz151 : sizeB Tryd.prog 151 = some 4 := by kernel_rfl
theorem by151 : (Tryd.prog.info? 151).map (·.bytes) = some 40 := by kernel_rfl
theorem zr151 : zeroB Tryd.prog 151 = some (Value.agg #[Value.pointer none, Value.pointer none, Value.pointer none, str []]) := by kernel_rfl
theorem ag152 : aggB Tryd.prog 152 = some true := by kernel_rfl
theorem sz152 : sizeB Tryd.prog 152 = some 0 := by kernel_rfl
theorem by152 : (Tryd.prog.info? 152).map (·.bytes) = some 0 := by kernel_rfl
theorem zr152 : zeroB Tryd.prog 152 = some (Value.agg #[]) := by kernel_rfl
theorem ag153 : aggB Tryd.prog 153 = some true := by kernel_rfl
theorem sz153 : sizeB Tryd.prog 153 = some 0 := by kernel_rfl
theorem by153 : (Tryd.prog.info? 153).map (·.bytes) = some 0 := by kernel_rfl
theorem zr153 : zeroB Tryd.prog 153 = some (Value.agg #[]) := by kernel_rfl
theorem ag154 : aggB Tryd.prog 154 = some true := by kernel_rfl
theorem sz154 : sizeB Tryd.prog 154 = some 0 := by kernel_rfl
theorem by154 : (Tryd.prog.info? 154).map (·.bytes) = some 0 := by kernel_rfl
theorem zr154 : zeroB Tryd.prog 154 = some (Value.agg #[]) := by kernel_rfl
theorem ag155 : aggB Tryd.prog 155 = some false := by kernel_rfl
theorem sz155 : sizeB Tryd.prog 155 = some 1 := by kernel_rfl
theorem by155 : (Tryd.prog.info? 155).map (·.bytes) = some 1 := by kernel_rfl
theorem zr155 : zeroB Tryd.prog 155 = some (Value.int .u8 0) := by kernel_rfl
theorem ag156 : aggB Tryd.prog 156 = some false := by kernel_rfl
theorem sz156 : sizeB Tryd.prog 156 = some 1 := by kernel_rfl
theorem by156 : (Tryd.prog.info? 156).map (·.bytes) = some 1 := by kernel_rfl
theorem zr156 : zeroB Tryd.prog 156 = some (Value.int .u8 0) := by kernel_rfl
theorem ag157 : aggB Tryd.prog 157 = some false := by kernel_rfl
theorem sz157 : sizeB Tryd.prog 157 = some 1 := by kernel_rfl
theorem by157 : (Tryd.prog.info? 157).map (·.bytes) = some 8 := by kernel_rfl
theorem zr157 : zeroB Tryd.prog 157 = some Value.nilFunc := by kernel_rfl
theorem ag158 : aggB Tryd.prog 158 = some false := by kernel_rfl
theorem sz158 : sizeB Tryd.prog 158 = some 1 := by kernel_rfl
theorem by158 : (Tryd.prog.info? 158).map (·.bytes) = some 8 := by kernel_rfl
theorem zr158 : zeroB Tryd.prog 158 = some (Value.pointer none) := by kernel_rfl
theorem ag159 : aggB Tryd.prog 159 = some false := by kernel_rfl
theorem sz159 : sizeB Tryd.prog 159 = some 1 := by kernel_rfl
theorem by159 : (Tryd.prog.info? 159).map (·.bytes) = some 4 := by kernel_rfl
theorem zr159 : zeroB Tryd.prog 159 = some (Value.int .i32 0) := by kernel_rfl
theorem ag160 : aggB Tryd.prog 160 = some false := by kernel_rfl
theorem sz160 : sizeB Tryd.prog 160 = some 1 := by kernel_rfl
theorem by160 : (Tryd.prog.info? 160).map (·.bytes) = some 4 := by kernel_rfl
theorem zr160 : zeroB Tryd.prog 160 = some (Value.int .i32 0) := by kernel_rfl
theorem ag161 : aggB Tryd.prog 161 = some true := by kernel_rfl
theorem sz161 : sizeB Tryd.prog 161 = some 11 := by kernel_rfl
theorem by161 : (Tryd.prog.info? 161).map (·.bytes) = some 48 := by kernel_rfl
theorem zr161 : zeroB Tryd.prog 161 = some (Value.agg #[Value.int .u64 0, Value.int .u64 0, Value.int .u32 0, Value.int .u8 0, Value.int .u8 0, Value.int .u8 0, Value.int .u8 0, Value.nilFunc, Value.pointer none, Value.int .i32 0, Value.int .i32 0]) := by kernel_rfl
theorem ag162 : aggB Tryd.prog 162 = some true := by kernel_rfl
theorem sz162 : sizeB Tryd.prog 162 = some 11 := by kernel_rfl
theorem by162 : (Tryd.prog.info? 162).map (·.bytes) = some 48 := by kernel_rfl
theorem zr162 : zeroB Tryd.prog 162 = some (Value.agg #[Value.int .u64 0, Value.int .u64 0, Value.int .u32 0, Value.int .u8 0, Value.int .u8 0, Value.int .u8 0, Value.int .u8 0, Value.nilFunc, Value.pointer none, Value.int .i32 0, Value.int .i32 0]) := by kernel_rfl
theorem ag163 : aggB Tryd.prog 163 = some false := by kernel_rfl
theorem sz163 : sizeB Tryd.prog 163 = some 1 := by kernel_rfl
theorem by163 : (Tryd.prog.info? 163).map (·.bytes) = some 8 := by kernel_rfl
theorem zr163 : zeroB Tryd.prog 163 = some (Value.pointer none) := by kernel_rfl
theorem hd2 : Has Tryd.prog 2 := Has.mk' Tryd.func2 (by kernel_rfl) (by kernel_rfl)
theorem hd3 : Has Tryd.prog 3 := Has.mk' Tryd.func3 (by kernel_rfl) (by kernel_rfl)
theorem hd4 : Has Tryd.prog 4 := Has.mk' Tryd.func4 (by kernel_rfl) (by kernel_rfl)
theorem hd5 : Has Tryd.prog 5 := Has.mk' Tryd.func5 (by kernel_rfl) (by kernel_rfl)
theorem hd6 : Has Tryd.prog 6 := Has.mk' Tryd.func6 (by kernel_rfl) (by kernel_rfl)
theorem hd7 : Has Tryd.prog 7 := Has.mk' Tryd.func7 (by kernel_rfl) (by kernel_rfl)
theorem hd8 : Has Tryd.prog 8 := Has.mk' Tryd.func8 (by kernel_rfl) (by kernel_rfl)
theorem hd9 : Has Tryd.prog 9 := Has.mk' Tryd.func9 (by kernel_rfl) (by kernel_rfl)
theorem hd10 : Has Tryd.prog 10 := Has.mk' Tryd.func10 (by kernel_rfl) (by kernel_rfl)
theorem hd11 : Has Tryd.prog 11 := Has.mk' Tryd.func11 (by kernel_rfl) (by kernel_rfl)
theorem hd12 : Has Tryd.prog 12 := Has.mk' Tryd.func12 (by kernel_rfl) (by kernel_rfl)
theorem hd13 : Has Tryd.prog 13 := Has.mk' Tryd.func13 (by kernel_rfl) (by kernel_rfl)
theorem hd14 : Has Tryd.prog 14 := Has.mk' Tryd.func14 (by kernel_rfl) (by kernel_rfl)
theorem hd15 : Has Tryd.prog 15 := Has.mk' Tryd.func15 (by kernel_rfl) (by kernel_rfl)
theorem hd16 : Has Tryd.prog 16 := Has.mk' Tryd.func16 (by kernel_rfl) (by kernel_rfl)
theorem hd17 : Has Tryd.prog 17 := Has.mk' Tryd.func17 (by kernel_rfl) (by kernel_rfl)
theorem hd18 : Has Tryd.prog 18 := Has.mk' Tryd.func18 (by kernel_rfl) (by kernel_rfl)
theorem hd19 : Has Tryd.prog 19 := Has.mk' Tryd.func19 (by kernel_rfl) (by kernel_rfl)
theorem hd20 : Has Tryd.prog 20 := Has.mk' Tryd.func20 (by kernel_rfl) (by kernel_rfl)
theorem hd21 : Has Tryd.prog 21 := Has.mk' Tryd.func21 (by kernel_rfl) (by kernel_rfl)
theorem hd22 : Has Tryd.prog 22 := Has.mk' Tryd.func22 (by kernel_rfl) (by kernel_rfl)
theorem hd23 : Has Tryd.prog 23 := Has.mk' Tryd.func23 (by kernel_rfl) (by kernel_rfl)
theorem hd24 : Has Tryd.prog 24 := Has.mk' Tryd.func24 (by kernel_rfl) (by kernel_rfl)
theorem hd25 : Has Tryd.prog 25 := Has.mk' Tryd.func25 (by kernel_rfl) (by kernel_rfl)
theorem hd26 : Has Tryd.prog 26 := Has.mk' Tryd.func26 (by kernel_rfl) (by kernel_rfl)
theorem hd27 : Has Tryd.prog 27 := Has.mk' Tryd.func27 (by kernel_rfl) (by kernel_rfl)
theorem hd28 : Has Tryd.prog 28 := Has.mk' Tryd.func28 (by kernel_rfl) (by kernel_rfl)
theorem hd29 : Has Tryd.prog 29 := Has.mk' Tryd.func29 (by kernel_rfl) (by kernel_rfl)
theorem hd30 : Has Tryd.prog 30 := Has.mk' Tryd.func30 (by kernel_rfl) (by kernel_rfl)
theorem hd31 : Has Tryd.prog 31 := Has.mk' Tryd.func31 (by kernel_rfl) (by kernel_rfl)
theorem hd32 : Has Tryd.prog 32 := Has.mk' Tryd.func32 (by kernel_rfl) (by kernel_rfl)
theorem hd33 : Has Tryd.prog 33 := Has.mk' Tryd.func33 (by kernel_rfl) (by kernel_rfl)
theorem hd34 : Has Tryd.prog 34 := Has.mk' Tryd.func34 (by kernel_rfl) (by kernel_rfl)
theorem hd35 : Has Tryd.prog 35 := Has.mk' Tryd.func35 (by kernel_rfl) (by kernel_rfl)
theorem hd36 : Has Tryd.prog 36 := Has.mk' Tryd.func36 (by kernel_rfl) (by kernel_rfl)
theorem hd37 : Has Tryd.prog 37 := Has.mk' Tryd.func37 (by kernel_rfl) (by kernel_rfl)
theorem hd38 : Has Tryd.prog 38 := Has.mk' Tryd.func38 (by kernel_rfl) (by kernel_rfl)
theorem hd39 : Has Tryd.prog 39 := Has.mk' Tryd.func39 (by kernel_rfl) (by kernel_rfl)
theorem hd40 : Has Tryd.prog 40 := Has.mk' Tryd.func40 (by kernel_rfl) (by kernel_rfl)
theorem hd41 : Has Tryd.prog 41 := Has.mk' Tryd.func41 (by kernel_rfl) (by kernel_rfl)
theorem hd42 : Has Tryd.prog 42 := Has.mk' Tryd.func42 (by kernel_rfl) (by kernel_rfl)
theorem hd43 : Has Tryd.prog 43 := Has.mk' Tryd.func43 (by kernel_rfl) (by kernel_rfl)
theorem hd44 : Has Tryd.prog 44 := Has.mk' Tryd.func44 (by kernel_rfl) (by kernel_rfl)
theorem hd45 : Has Tryd.prog 45 := Has.mk' Tryd.func45 (by kernel_rfl) (by kernel_rfl)
theorem hd46 : Has Tryd.prog 46 := Has.mk' Tryd.func46 (by kernel_rfl) (by kernel_rfl)
theorem hd47 : Has Tryd.prog 47 := Has.mk' Tryd.func47 (by kernel_rfl) (by kernel_rfl)
theorem hd48 : Has Tryd.prog 48 := Has.mk' Tryd.func48 (by kernel_rfl) (by kernel_rfl)
theorem hd49 : Has Tryd.prog 49 := Has.mk' Tryd.func49 (by kernel_rfl) (by kernel_rfl)
theorem hd50 : Has Tryd.prog 50 := Has.mk' Tryd.func50 (by kernel_rfl) (by kernel_rfl)
theorem hd51 : Has Tryd.prog 51 := Has.mk' Tryd.func51 (by kernel_rfl) (by kernel_rfl)
theorem hd52 : Has Tryd.prog 52 := Has.mk' Tryd.func52 (by kernel_rfl) (by kernel_rfl)
theorem hd53 : Has Tryd.prog 53 := Has.mk' Tryd.func53 (by kernel_rfl) (by kernel_rfl)
theorem hd54 : Has Tryd.prog 54 := Has.mk' Tryd.func54 (by kernel_rfl) (by kernel_rfl)
theorem hd55 : Has Tryd.prog 55 := Has.mk' Tryd.func55 (by kernel_rfl) (by kernel_rfl)
theorem hd57 : Has Tryd.prog 57 := Has.mk' Tryd.func57 (by kernel_rfl) (by kernel_rfl)
theorem hd58 : Has Tryd.prog 58 := Has.mk' Tryd.func58 (by kernel_rfl) (by kernel_rfl)
theorem hd59 : Has Tryd.prog 59 := Has.mk' Tryd.func59 (by kernel_rfl) (by kernel_rfl)
theorem hd60 : Has Tryd.prog 60 := Has.mk' Tryd.func60 (by kernel_rfl) (by kernel_rfl)
theorem hd61 : Has Tryd.prog 61 := Has.mk' Tryd.func61 (by kernel_rfl) (by kernel_rfl)
theorem hd62 : Has Tryd.prog 62 := Has.mk' Tryd.func62 (by kernel_rfl) (by kernel_rfl)
theorem hd63 : Has Tryd.prog 63 := Has.mk' Tryd.func63 (by kernel_rfl) (by kernel_rfl)
theorem hd64 : Has Tryd.prog 64 := Has.mk' Tryd.func64 (by kernel_rfl) (by kernel_rfl)
theorem hd65 : Has Tryd.prog 65 := Has.mk' Tryd.func65 (by kernel_rfl) (by kernel_rfl)
theorem hd66 : Has Tryd.prog 66 := Has.mk' Tryd.func66 (by kernel_rfl) (by kernel_rfl)
theorem hd67 : Has Tryd.prog 67 := Has.mk' Tryd.func67 (by kernel_rfl) (by kernel_rfl)
theorem hd68 : Has Tryd.prog 68 := Has.mk' Tryd.func68 (by kernel_rfl) (by kernel_rfl)
theorem hd69 : Has Tryd.prog 69 := Has.mk' Tryd.func69 (by kernel_rfl) (by kernel_rfl)
theorem hd70 : Has Tryd.prog 70 := Has.mk' Tryd.func70 (by kernel_rfl) (by kernel_rfl)
theorem hd71 : Has Tryd.prog 71 := Has.mk' Tryd.func71 (by kernel_rfl) (by kernel_rfl)
theorem hd72 : Has Tryd.prog 72 := Has.mk' Tryd.func72 (by kernel_rfl) (by kernel_rfl)
theorem hd73 : Has Tryd.prog 73 := Has.mk' Tryd.func73 (by kernel_rfl) (by kernel_rfl)
theorem hd74 : Has Tryd.prog 74 := Has.mk' Tryd.func74 (by kernel_rfl) (by kernel_rfl)
theorem hd75 : Has Tryd.prog 75 := Has.mk' Tryd.func75 (by kernel_rfl) (by kernel_rfl)
theorem hd76 : Has Tryd.prog 76 := Has.mk' Tryd.func76 (by kernel_rfl) (by kernel_rfl)
theorem hd77 : Has Tryd.prog 77 := Has.mk' Tryd.func77 (by kernel_rfl) (by kernel_rfl)
theorem hd78 : Has Tryd.prog 78 := Has.mk' Tryd.func78 (by kernel_rfl) (by kernel_rfl)
theorem hd79 : Has Tryd.prog 79 := Has.mk' Tryd.func79 (by kernel_rfl) (by kernel_rfl)
theorem hd80 : Has Tryd.prog 80 := Has.mk' Tryd.func80 (by kernel_rfl) (by kernel_rfl)
theorem hd81 : Has Tryd.prog 81 := Has.mk' Tryd.func81 (by kernel_rfl) (by kernel_rfl)
theorem hd82 : Has Tryd.prog 82 := Has.mk' Tryd.func82 (by kernel_rfl) (by kernel_rfl)
theorem hd83 : Has Tryd.prog 83 := Has.mk' Tryd.func83 (by kernel_rfl) (by kernel_rfl)
theorem hd84 : Has Tryd.prog 84 := Has.mk' Tryd.func84 (by kernel_rfl) (by kernel_rfl)
theorem hd85 : Has Tryd.prog 85 := Has.mk' Tryd.func85 (by kernel_rfl) (by kernel_rfl)
theorem hd86 : Has Tryd.prog 86 := Has.mk' Tryd.func86 (by kernel_rfl) (by kernel_rfl)
theorem hd87 : Has Tryd.prog 87 := Has.mk' Tryd.func87 (by kernel_rfl) (by kernel_rfl)
theorem hd88 : Has Tryd.prog 88 := Has.mk' Tryd.func88 (by kernel_rfl) (by kernel_rfl)
theorem hd89 : Has Tryd.prog 89 := Has.mk' Tryd.func89 (by kernel_rfl) (by kernel_rfl)
theorem hd90 : Has Tryd.prog 90 := Has.mk' Tryd.func90 (by kernel_rfl) (by kernel_rfl)
theorem hd91 : Has Tryd.prog 91 := Has.mk' Tryd.func91 (by kernel_rfl) (by kernel_rfl)
theorem hd92 : Has Tryd.prog 92 := Has.mk' Tryd.func92 (by kernel_rfl) (by kernel_rfl)
theorem hd93 : Has Tryd.prog 93 := Has.mk' Tryd.func93 (by kernel_rfl) (by kernel_rfl)
theorem hd94 : Has Tryd.prog 94 := Has.mk' Tryd.func94 (by kernel_rfl) (by kernel_rfl)
theorem hd95 : Has Tryd.prog 95 := Has.mk' Tryd.func95 (by kernel_rfl) (by kernel_rfl)
theorem hd96 : Has Tryd.prog 96 := Has.mk' Tryd.func96 (by kernel_rfl) (by kernel_rfl)
theorem hd97 : Has Tryd.prog 97 := Has.mk' Tryd.func97 (by kernel_rfl) (by kernel_rfl)
theorem hd98 : Has Tryd.prog 98 := Has.mk' Tryd.func98 (by kernel_rfl) (by kernel_rfl)
theorem hd99 : Has Tryd.prog 99 := Has.mk' Tryd.func99 (by kernel_rfl) (by kernel_rfl)
theorem hd100 : Has Tryd.prog 100 := Has.mk' Tryd.func100 (by kernel_rfl) (by kernel_rfl)
theorem hd101 : Has Tryd.prog 101 := Has.mk' Tryd.func101 (by kernel_rfl) (by kernel_rfl)
theorem hd103 : Has Tryd.prog 103 := Has.mk' Tryd.func103 (by kernel_rfl) (by kernel_rfl)
theorem hd126 : Has Tryd.prog 126 := Has.mk' Tryd.func126 (by kernel_rfl) (by kernel_rfl)
theorem mo : Tryd.prog.follows .mixedOrders = true := by kernel_rfl
end Go.Proofs.YtiggkfaonnnjoaaDoor.Ty
