/- Facts of the types and functions of this seat's program, each by the kernel. -/
import Derived.Test.YtiggkfaonnnjoaaGreatDoorProg
import Derived.Test.YtiggkfaonnnjoaaGreatDoorSl8
namespace Go.Proofs.YtiggkfaonnnjoaaGreatDoor.Ty
open Go.Proofs.YtiggkfaonnnjoaaGreatDoor.SL
theorem ag1 : aggB Tryz.prog 1 = some false := by kernel_rfl
theorem sz1 : sizeB Tryz.prog 1 = some 1 := by kernel_rfl
theorem by1 : (Tryz.prog.info? 1).map (·.bytes) = some 8 := by kernel_rfl
theorem zr1 : zeroB Tryz.prog 1 = some Value.nilFunc := by kernel_rfl
theorem ag2 : aggB Tryz.prog 2 = some false := by kernel_rfl
theorem sz2 : sizeB Tryz.prog 2 = some 1 := by kernel_rfl
theorem by2 : (Tryz.prog.info? 2).map (·.bytes) = some 8 := by kernel_rfl
theorem zr2 : zeroB Tryz.prog 2 = some (Value.int .i64 0) := by kernel_rfl
theorem ag3 : aggB Tryz.prog 3 = some false := by kernel_rfl
theorem sz3 : sizeB Tryz.prog 3 = some 1 := by kernel_rfl
theorem by3 : (Tryz.prog.info? 3).map (·.bytes) = some 8 := by kernel_rfl
theorem zr3 : zeroB Tryz.prog 3 = some (Value.int .i64 0) := by kernel_rfl
theorem ag4 : aggB Tryz.prog 4 = some false := by kernel_rfl
theorem sz4 : sizeB Tryz.prog 4 = some 1 := by kernel_rfl
theorem by4 : (Tryz.prog.info? 4).map (·.bytes) = some 1 := by kernel_rfl
theorem zr4 : zeroB Tryz.prog 4 = some (Value.bool false) := by kernel_rfl
theorem ag5 : aggB Tryz.prog 5 = some false := by kernel_rfl
theorem sz5 : sizeB Tryz.prog 5 = some 1 := by kernel_rfl
theorem by5 : (Tryz.prog.info? 5).map (·.bytes) = some 1 := by kernel_rfl
theorem zr5 : zeroB Tryz.prog 5 = some (Value.int .u8 0) := by kernel_rfl
theorem ag6 : aggB Tryz.prog 6 = some false := by kernel_rfl
theorem sz6 : sizeB Tryz.prog 6 = some 1 := by kernel_rfl
theorem by6 : (Tryz.prog.info? 6).map (·.bytes) = some 1 := by kernel_rfl
theorem zr6 : zeroB Tryz.prog 6 = some (Value.int .u8 0) := by kernel_rfl
theorem ag7 : aggB Tryz.prog 7 = some true := by kernel_rfl
theorem sz7 : sizeB Tryz.prog 7 = some 4 := by kernel_rfl
theorem by7 : (Tryz.prog.info? 7).map (·.bytes) = some 24 := by kernel_rfl
theorem zr7 : zeroB Tryz.prog 7 = some (Value.agg #[Value.int .i64 0, Value.int .i64 0, Value.bool false, Value.int .u8 0]) := by kernel_rfl
theorem ag8 : aggB Tryz.prog 8 = some true := by kernel_rfl
theorem sz8 : sizeB Tryz.prog 8 = some 4 := by kernel_rfl
theorem by8 : (Tryz.prog.info? 8).map (·.bytes) = some 24 := by kernel_rfl
theorem zr8 : zeroB Tryz.prog 8 = some (Value.agg #[Value.int .i64 0, Value.int .i64 0, Value.bool false, Value.int .u8 0]) := by kernel_rfl
theorem ag9 : aggB Tryz.prog 9 = some false := by kernel_rfl
theorem sz9 : sizeB Tryz.prog 9 = some 1 := by kernel_rfl
theorem by9 : (Tryz.prog.info? 9).map (·.bytes) = some 16 := by kernel_rfl
theorem zr9 : zeroB Tryz.prog 9 = some (str []) := by kernel_rfl
theorem ag10 : aggB Tryz.prog 10 = some false := by kernel_rfl
theorem sz10 : sizeB Tryz.prog 10 = some 1 := by kernel_rfl
theorem by10 : (Tryz.prog.info? 10).map (·.bytes) = some 16 := by kernel_rfl
theorem zr10 : zeroB Tryz.prog 10 = some (str []) := by kernel_rfl
theorem ag11 : aggB Tryz.prog 11 = some false := by kernel_rfl
theorem sz11 : sizeB Tryz.prog 11 = some 1 := by kernel_rfl
theorem by11 : (Tryz.prog.info? 11).map (·.bytes) = some 16 := by kernel_rfl
theorem zr11 : zeroB Tryz.prog 11 = some (str []) := by kernel_rfl
theorem ag12 : aggB Tryz.prog 12 = some false := by kernel_rfl
theorem sz12 : sizeB Tryz.prog 12 = some 1 := by kernel_rfl
theorem by12 : (Tryz.prog.info? 12).map (·.bytes) = some 8 := by kernel_rfl
theorem zr12 : zeroB Tryz.prog 12 = some (Value.int .u64 0) := by kernel_rfl
theorem ag13 : aggB Tryz.prog 13 = some true := by kernel_rfl
theorem sz13 : sizeB Tryz.prog 13 = some 2 := by kernel_rfl
theorem by13 : (Tryz.prog.info? 13).map (·.bytes) = some 24 := by kernel_rfl
theorem zr13 : zeroB Tryz.prog 13 = some (Value.agg #[str [], Value.int .u64 0]) := by kernel_rfl
theorem ag14 : aggB Tryz.prog 14 = some true := by kernel_rfl
theorem sz14 : sizeB Tryz.prog 14 = some 2 := by kernel_rfl
theorem by14 : (Tryz.prog.info? 14).map (·.bytes) = some 24 := by kernel_rfl
theorem zr14 : zeroB Tryz.prog 14 = some (Value.agg #[str [], Value.int .u64 0]) := by kernel_rfl
theorem ag15 : aggB Tryz.prog 15 = some false := by kernel_rfl
theorem sz15 : sizeB Tryz.prog 15 = some 1 := by kernel_rfl
theorem by15 : (Tryz.prog.info? 15).map (·.bytes) = some 8 := by kernel_rfl
theorem zr15 : zeroB Tryz.prog 15 = some (Value.pointer none) := by kernel_rfl
theorem ag16 : aggB Tryz.prog 16 = some false := by kernel_rfl
theorem sz16 : sizeB Tryz.prog 16 = some 1 := by kernel_rfl
theorem by16 : (Tryz.prog.info? 16).map (·.bytes) = some 8 := by kernel_rfl
theorem zr16 : zeroB Tryz.prog 16 = some (Value.pointer none) := by kernel_rfl
theorem ag17 : aggB Tryz.prog 17 = some false := by kernel_rfl
theorem sz17 : sizeB Tryz.prog 17 = some 1 := by kernel_rfl
theorem by17 : (Tryz.prog.info? 17).map (·.bytes) = some 8 := by kernel_rfl
theorem zr17 : zeroB Tryz.prog 17 = some (Value.pointer none) := by kernel_rfl
theorem ag18 : aggB Tryz.prog 18 = some true := by kernel_rfl
theorem sz18 : sizeB Tryz.prog 18 = some 1 := by kernel_rfl
theorem by18 : (Tryz.prog.info? 18).map (·.bytes) = some 8 := by kernel_rfl
theorem zr18 : zeroB Tryz.prog 18 = some (Value.agg #[Value.pointer none]) := by kernel_rfl
theorem ag19 : aggB Tryz.prog 19 = some true := by kernel_rfl
theorem sz19 : sizeB Tryz.prog 19 = some 1 := by kernel_rfl
theorem by19 : (Tryz.prog.info? 19).map (·.bytes) = some 8 := by kernel_rfl
theorem zr19 : zeroB Tryz.prog 19 = some (Value.agg #[Value.pointer none]) := by kernel_rfl
theorem ag21 : aggB Tryz.prog 21 = some false := by kernel_rfl
theorem sz21 : sizeB Tryz.prog 21 = some 1 := by kernel_rfl
theorem by21 : (Tryz.prog.info? 21).map (·.bytes) = some 4 := by kernel_rfl
theorem zr21 : zeroB Tryz.prog 21 = some (Value.int .i32 0) := by kernel_rfl
theorem ag22 : aggB Tryz.prog 22 = some false := by kernel_rfl
theorem sz22 : sizeB Tryz.prog 22 = some 1 := by kernel_rfl
theorem by22 : (Tryz.prog.info? 22).map (·.bytes) = some 24 := by kernel_rfl
theorem zr22 : zeroB Tryz.prog 22 = some (Value.slice none 0 0) := by kernel_rfl
theorem ag23 : aggB Tryz.prog 23 = some false := by kernel_rfl
theorem sz23 : sizeB Tryz.prog 23 = some 1 := by kernel_rfl
theorem by23 : (Tryz.prog.info? 23).map (·.bytes) = some 8 := by kernel_rfl
theorem zr23 : zeroB Tryz.prog 23 = some Value.nilFunc := by kernel_rfl
theorem ag24 : aggB Tryz.prog 24 = some false := by kernel_rfl
theorem sz24 : sizeB Tryz.prog 24 = some 1 := by kernel_rfl
theorem by24 : (Tryz.prog.info? 24).map (·.bytes) = some 8 := by kernel_rfl
theorem zr24 : zeroB Tryz.prog 24 = some (Value.int .u64 0) := by kernel_rfl
theorem ag25 : aggB Tryz.prog 25 = some false := by kernel_rfl
theorem sz25 : sizeB Tryz.prog 25 = some 1 := by kernel_rfl
theorem by25 : (Tryz.prog.info? 25).map (·.bytes) = some 8 := by kernel_rfl
theorem zr25 : zeroB Tryz.prog 25 = some (Value.pointer none) := by kernel_rfl
theorem ag26 : aggB Tryz.prog 26 = some false := by kernel_rfl
theorem sz26 : sizeB Tryz.prog 26 = some 1 := by kernel_rfl
theorem by26 : (Tryz.prog.info? 26).map (·.bytes) = some 8 := by kernel_rfl
theorem zr26 : zeroB Tryz.prog 26 = some Value.nilFunc := by kernel_rfl
theorem ag27 : aggB Tryz.prog 27 = some false := by kernel_rfl
theorem sz27 : sizeB Tryz.prog 27 = some 1 := by kernel_rfl
theorem by27 : (Tryz.prog.info? 27).map (·.bytes) = some 8 := by kernel_rfl
theorem zr27 : zeroB Tryz.prog 27 = some (Value.pointer none) := by kernel_rfl
theorem ag28 : aggB Tryz.prog 28 = some false := by kernel_rfl
theorem sz28 : sizeB Tryz.prog 28 = some 1 := by kernel_rfl
theorem by28 : (Tryz.prog.info? 28).map (·.bytes) = some 8 := by kernel_rfl
theorem zr28 : zeroB Tryz.prog 28 = some (Value.int .i64 0) := by kernel_rfl
theorem ag30 : aggB Tryz.prog 30 = some false := by kernel_rfl
theorem sz30 : sizeB Tryz.prog 30 = some 1 := by kernel_rfl
theorem by30 : (Tryz.prog.info? 30).map (·.bytes) = some 8 := by kernel_rfl
theorem zr30 : zeroB Tryz.prog 30 = some Value.nilFunc := by kernel_rfl
theorem ag32 : aggB Tryz.prog 32 = some false := by kernel_rfl
theorem sz32 : sizeB Tryz.prog 32 = some 1 := by kernel_rfl
theorem by32 : (Tryz.prog.info? 32).map (·.bytes) = some 8 := by kernel_rfl
theorem zr32 : zeroB Tryz.prog 32 = some Value.nilFunc := by kernel_rfl
theorem ag33 : aggB Tryz.prog 33 = some false := by kernel_rfl
theorem sz33 : sizeB Tryz.prog 33 = some 1 := by kernel_rfl
theorem by33 : (Tryz.prog.info? 33).map (·.bytes) = some 24 := by kernel_rfl
theorem zr33 : zeroB Tryz.prog 33 = some (Value.slice none 0 0) := by kernel_rfl
theorem ag34 : aggB Tryz.prog 34 = some false := by kernel_rfl
theorem sz34 : sizeB Tryz.prog 34 = some 1 := by kernel_rfl
theorem by34 : (Tryz.prog.info? 34).map (·.bytes) = some 8 := by kernel_rfl
theorem zr34 : zeroB Tryz.prog 34 = some Value.nilFunc := by kernel_rfl
theorem ag35 : aggB Tryz.prog 35 = some false := by kernel_rfl
theorem sz35 : sizeB Tryz.prog 35 = some 1 := by kernel_rfl
theorem by35 : (Tryz.prog.info? 35).map (·.bytes) = some 8 := by kernel_rfl
theorem zr35 : zeroB Tryz.prog 35 = some Value.nilFunc := by kernel_rfl
theorem ag36 : aggB Tryz.prog 36 = some false := by kernel_rfl
theorem sz36 : sizeB Tryz.prog 36 = some 1 := by kernel_rfl
theorem by36 : (Tryz.prog.info? 36).map (·.bytes) = some 8 := by kernel_rfl
theorem zr36 : zeroB Tryz.prog 36 = some Value.nilFunc := by kernel_rfl
theorem ag37 : aggB Tryz.prog 37 = some false := by kernel_rfl
theorem sz37 : sizeB Tryz.prog 37 = some 1 := by kernel_rfl
theorem by37 : (Tryz.prog.info? 37).map (·.bytes) = some 8 := by kernel_rfl
theorem zr37 : zeroB Tryz.prog 37 = some Value.nilFunc := by kernel_rfl
theorem ag39 : aggB Tryz.prog 39 = some false := by kernel_rfl
theorem sz39 : sizeB Tryz.prog 39 = some 1 := by kernel_rfl
theorem by39 : (Tryz.prog.info? 39).map (·.bytes) = some 8 := by kernel_rfl
theorem zr39 : zeroB Tryz.prog 39 = some Value.nilFunc := by kernel_rfl
theorem ag40 : aggB Tryz.prog 40 = some false := by kernel_rfl
theorem sz40 : sizeB Tryz.prog 40 = some 1 := by kernel_rfl
theorem by40 : (Tryz.prog.info? 40).map (·.bytes) = some 8 := by kernel_rfl
theorem zr40 : zeroB Tryz.prog 40 = some Value.nilFunc := by kernel_rfl
theorem ag41 : aggB Tryz.prog 41 = some false := by kernel_rfl
theorem sz41 : sizeB Tryz.prog 41 = some 1 := by kernel_rfl
theorem by41 : (Tryz.prog.info? 41).map (·.bytes) = some 8 := by kernel_rfl
theorem zr41 : zeroB Tryz.prog 41 = some (Value.map none) := by kernel_rfl
theorem ag42 : aggB Tryz.prog 42 = some false := by kernel_rfl
theorem sz42 : sizeB Tryz.prog 42 = some 1 := by kernel_rfl
theorem by42 : (Tryz.prog.info? 42).map (·.bytes) = some 8 := by kernel_rfl
theorem zr42 : zeroB Tryz.prog 42 = some (Value.map none) := by kernel_rfl
theorem ag43 : aggB Tryz.prog 43 = some false := by kernel_rfl
theorem sz43 : sizeB Tryz.prog 43 = some 1 := by kernel_rfl
theorem by43 : (Tryz.prog.info? 43).map (·.bytes) = some 24 := by kernel_rfl
theorem zr43 : zeroB Tryz.prog 43 = some (Value.slice none 0 0) := by kernel_rfl
theorem ag44 : aggB Tryz.prog 44 = some true := by kernel_rfl
theorem sz44 : sizeB Tryz.prog 44 = some 6 := by kernel_rfl
theorem by44 : (Tryz.prog.info? 44).map (·.bytes) = some 64 := by kernel_rfl
theorem zr44 : zeroB Tryz.prog 44 = some (Value.agg #[Value.int .i64 0, Value.map none, Value.map none, Value.slice none 0 0, Value.bool false, Value.int .i64 0]) := by kernel_rfl
theorem ag45 : aggB Tryz.prog 45 = some true := by kernel_rfl
theorem sz45 : sizeB Tryz.prog 45 = some 6 := by kernel_rfl
theorem by45 : (Tryz.prog.info? 45).map (·.bytes) = some 64 := by kernel_rfl
theorem zr45 : zeroB Tryz.prog 45 = some (Value.agg #[Value.int .i64 0, Value.map none, Value.map none, Value.slice none 0 0, Value.bool false, Value.int .i64 0]) := by kernel_rfl
theorem ag46 : aggB Tryz.prog 46 = some false := by kernel_rfl
theorem sz46 : sizeB Tryz.prog 46 = some 1 := by kernel_rfl
theorem by46 : (Tryz.prog.info? 46).map (·.bytes) = some 24 := by kernel_rfl
theorem zr46 : zeroB Tryz.prog 46 = some (Value.slice none 0 0) := by kernel_rfl
theorem ag47 : aggB Tryz.prog 47 = some false := by kernel_rfl
theorem sz47 : sizeB Tryz.prog 47 = some 1 := by kernel_rfl
theorem by47 : (Tryz.prog.info? 47).map (·.bytes) = some 8 := by kernel_rfl
theorem zr47 : zeroB Tryz.prog 47 = some (Value.pointer none) := by kernel_rfl
theorem ag48 : aggB Tryz.prog 48 = some true := by kernel_rfl
theorem sz48 : sizeB Tryz.prog 48 = some 6 := by kernel_rfl
theorem by48 : (Tryz.prog.info? 48).map (·.bytes) = some 64 := by kernel_rfl
theorem zr48 : zeroB Tryz.prog 48 = some (Value.agg #[Value.pointer none, Value.slice none 0 0, Value.pointer none, Value.bool false, Value.int .i64 0, Value.int .i64 0]) := by kernel_rfl
theorem ag49 : aggB Tryz.prog 49 = some true := by kernel_rfl
theorem sz49 : sizeB Tryz.prog 49 = some 6 := by kernel_rfl
theorem by49 : (Tryz.prog.info? 49).map (·.bytes) = some 64 := by kernel_rfl
theorem zr49 : zeroB Tryz.prog 49 = some (Value.agg #[Value.pointer none, Value.slice none 0 0, Value.pointer none, Value.bool false, Value.int .i64 0, Value.int .i64 0]) := by kernel_rfl
theorem ag50 : aggB Tryz.prog 50 = some false := by kernel_rfl
theorem sz50 : sizeB Tryz.prog 50 = some 1 := by kernel_rfl
theorem by50 : (Tryz.prog.info? 50).map (·.bytes) = some 24 := by kernel_rfl
theorem zr50 : zeroB Tryz.prog 50 = some (Value.slice none 0 0) := by kernel_rfl
theorem ag51 : aggB Tryz.prog 51 = some false := by kernel_rfl
theorem sz51 : sizeB Tryz.prog 51 = some 1 := by kernel_rfl
theorem by51 : (Tryz.prog.info? 51).map (·.bytes) = some 8 := by kernel_rfl
theorem zr51 : zeroB Tryz.prog 51 = some Value.nilFunc := by kernel_rfl
theorem ag52 : aggB Tryz.prog 52 = some false := by kernel_rfl
theorem sz52 : sizeB Tryz.prog 52 = some 1 := by kernel_rfl
theorem by52 : (Tryz.prog.info? 52).map (·.bytes) = some 8 := by kernel_rfl
theorem zr52 : zeroB Tryz.prog 52 = some Value.nilFunc := by kernel_rfl
theorem ag53 : aggB Tryz.prog 53 = some false := by kernel_rfl
theorem sz53 : sizeB Tryz.prog 53 = some 1 := by kernel_rfl
theorem by53 : (Tryz.prog.info? 53).map (·.bytes) = some 8 := by kernel_rfl
theorem zr53 : zeroB Tryz.prog 53 = some Value.nilFunc := by kernel_rfl
theorem ag54 : aggB Tryz.prog 54 = some false := by kernel_rfl
theorem sz54 : sizeB Tryz.prog 54 = some 1 := by kernel_rfl
theorem by54 : (Tryz.prog.info? 54).map (·.bytes) = some 8 := by kernel_rfl
theorem zr54 : zeroB Tryz.prog 54 = some Value.nilFunc := by kernel_rfl
theorem ag55 : aggB Tryz.prog 55 = some false := by kernel_rfl
theorem sz55 : sizeB Tryz.prog 55 = some 1 := by kernel_rfl
theorem by55 : (Tryz.prog.info? 55).map (·.bytes) = some 8 := by kernel_rfl
theorem zr55 : zeroB Tryz.prog 55 = some Value.nilFunc := by kernel_rfl
theorem ag56 : aggB Tryz.prog 56 = some false := by kernel_rfl
theorem sz56 : sizeB Tryz.prog 56 = some 1 := by kernel_rfl
theorem by56 : (Tryz.prog.info? 56).map (·.bytes) = some 8 := by kernel_rfl
theorem zr56 : zeroB Tryz.prog 56 = some Value.nilFunc := by kernel_rfl
theorem ag57 : aggB Tryz.prog 57 = some false := by kernel_rfl
theorem sz57 : sizeB Tryz.prog 57 = some 1 := by kernel_rfl
theorem by57 : (Tryz.prog.info? 57).map (·.bytes) = some 8 := by kernel_rfl
theorem zr57 : zeroB Tryz.prog 57 = some Value.nilFunc := by kernel_rfl
theorem ag58 : aggB Tryz.prog 58 = some false := by kernel_rfl
theorem sz58 : sizeB Tryz.prog 58 = some 1 := by kernel_rfl
theorem by58 : (Tryz.prog.info? 58).map (·.bytes) = some 8 := by kernel_rfl
theorem zr58 : zeroB Tryz.prog 58 = some Value.nilFunc := by kernel_rfl
theorem ag59 : aggB Tryz.prog 59 = some false := by kernel_rfl
theorem sz59 : sizeB Tryz.prog 59 = some 1 := by kernel_rfl
theorem by59 : (Tryz.prog.info? 59).map (·.bytes) = some 8 := by kernel_rfl
theorem zr59 : zeroB Tryz.prog 59 = some Value.nilFunc := by kernel_rfl
theorem ag60 : aggB Tryz.prog 60 = some true := by kernel_rfl
theorem sz60 : sizeB Tryz.prog 60 = some 2 := by kernel_rfl
theorem by60 : (Tryz.prog.info? 60).map (·.bytes) = some 24 := by kernel_rfl
theorem zr60 : zeroB Tryz.prog 60 = some (Value.agg #[Value.int .i64 0, str []]) := by kernel_rfl
theorem ag61 : aggB Tryz.prog 61 = some true := by kernel_rfl
theorem sz61 : sizeB Tryz.prog 61 = some 2 := by kernel_rfl
theorem by61 : (Tryz.prog.info? 61).map (·.bytes) = some 24 := by kernel_rfl
theorem zr61 : zeroB Tryz.prog 61 = some (Value.agg #[Value.int .i64 0, str []]) := by kernel_rfl
theorem ag62 : aggB Tryz.prog 62 = some true := by kernel_rfl
theorem sz62 : sizeB Tryz.prog 62 = some 4 := by kernel_rfl
theorem by62 : (Tryz.prog.info? 62).map (·.bytes) = some 48 := by kernel_rfl
theorem zr62 : zeroB Tryz.prog 62 = some (Value.agg #[Value.int .i64 0, Value.slice none 0 0, Value.int .i64 0, Value.bool false]) := by kernel_rfl
theorem ag63 : aggB Tryz.prog 63 = some true := by kernel_rfl
theorem sz63 : sizeB Tryz.prog 63 = some 4 := by kernel_rfl
theorem by63 : (Tryz.prog.info? 63).map (·.bytes) = some 48 := by kernel_rfl
theorem zr63 : zeroB Tryz.prog 63 = some (Value.agg #[Value.int .i64 0, Value.slice none 0 0, Value.int .i64 0, Value.bool false]) := by kernel_rfl
theorem ag64 : aggB Tryz.prog 64 = some false := by kernel_rfl
theorem sz64 : sizeB Tryz.prog 64 = some 1 := by kernel_rfl
theorem by64 : (Tryz.prog.info? 64).map (·.bytes) = some 8 := by kernel_rfl
theorem zr64 : zeroB Tryz.prog 64 = some Value.nilFunc := by kernel_rfl
theorem ag65 : aggB Tryz.prog 65 = some false := by kernel_rfl
theorem sz65 : sizeB Tryz.prog 65 = some 1 := by kernel_rfl
theorem by65 : (Tryz.prog.info? 65).map (·.bytes) = some 8 := by kernel_rfl
theorem zr65 : zeroB Tryz.prog 65 = some Value.nilFunc := by kernel_rfl
theorem ag66 : aggB Tryz.prog 66 = some false := by kernel_rfl
theorem sz66 : sizeB Tryz.prog 66 = some 1 := by kernel_rfl
theorem by66 : (Tryz.prog.info? 66).map (·.bytes) = some 8 := by kernel_rfl
theorem zr66 : zeroB Tryz.prog 66 = some Value.nilFunc := by kernel_rfl
theorem ag67 : aggB Tryz.prog 67 = some false := by kernel_rfl
theorem sz67 : sizeB Tryz.prog 67 = some 1 := by kernel_rfl
theorem by67 : (Tryz.prog.info? 67).map (·.bytes) = some 8 := by kernel_rfl
theorem zr67 : zeroB Tryz.prog 67 = some Value.nilFunc := by kernel_rfl
theorem ag68 : aggB Tryz.prog 68 = some false := by kernel_rfl
theorem sz68 : sizeB Tryz.prog 68 = some 1 := by kernel_rfl
theorem by68 : (Tryz.prog.info? 68).map (·.bytes) = some 8 := by kernel_rfl
theorem zr68 : zeroB Tryz.prog 68 = some Value.nilFunc := by kernel_rfl
theorem ag69 : aggB Tryz.prog 69 = some false := by kernel_rfl
theorem sz69 : sizeB Tryz.prog 69 = some 1 := by kernel_rfl
theorem by69 : (Tryz.prog.info? 69).map (·.bytes) = some 8 := by kernel_rfl
theorem zr69 : zeroB Tryz.prog 69 = some Value.nilFunc := by kernel_rfl
theorem ag70 : aggB Tryz.prog 70 = some false := by kernel_rfl
theorem sz70 : sizeB Tryz.prog 70 = some 1 := by kernel_rfl
theorem by70 : (Tryz.prog.info? 70).map (·.bytes) = some 8 := by kernel_rfl
theorem zr70 : zeroB Tryz.prog 70 = some Value.nilFunc := by kernel_rfl
theorem ag71 : aggB Tryz.prog 71 = some false := by kernel_rfl
theorem sz71 : sizeB Tryz.prog 71 = some 1 := by kernel_rfl
theorem by71 : (Tryz.prog.info? 71).map (·.bytes) = some 8 := by kernel_rfl
theorem zr71 : zeroB Tryz.prog 71 = some Value.nilFunc := by kernel_rfl
theorem ag72 : aggB Tryz.prog 72 = some false := by kernel_rfl
theorem sz72 : sizeB Tryz.prog 72 = some 1 := by kernel_rfl
theorem by72 : (Tryz.prog.info? 72).map (·.bytes) = some 8 := by kernel_rfl
theorem zr72 : zeroB Tryz.prog 72 = some Value.nilFunc := by kernel_rfl
theorem ag73 : aggB Tryz.prog 73 = some false := by kernel_rfl
theorem sz73 : sizeB Tryz.prog 73 = some 1 := by kernel_rfl
theorem by73 : (Tryz.prog.info? 73).map (·.bytes) = some 8 := by kernel_rfl
theorem zr73 : zeroB Tryz.prog 73 = some Value.nilFunc := by kernel_rfl
theorem ag74 : aggB Tryz.prog 74 = some false := by kernel_rfl
theorem sz74 : sizeB Tryz.prog 74 = some 1 := by kernel_rfl
theorem by74 : (Tryz.prog.info? 74).map (·.bytes) = some 8 := by kernel_rfl
theorem zr74 : zeroB Tryz.prog 74 = some (Value.pointer none) := by kernel_rfl
theorem ag75 : aggB Tryz.prog 75 = some true := by kernel_rfl
theorem sz75 : sizeB Tryz.prog 75 = some 2 := by kernel_rfl
theorem by75 : (Tryz.prog.info? 75).map (·.bytes) = some 24 := by kernel_rfl
theorem zr75 : zeroB Tryz.prog 75 = some (Value.agg #[str [], Value.int .i64 0]) := by kernel_rfl
theorem ag76 : aggB Tryz.prog 76 = some true := by kernel_rfl
theorem sz76 : sizeB Tryz.prog 76 = some 2 := by kernel_rfl
theorem by76 : (Tryz.prog.info? 76).map (·.bytes) = some 24 := by kernel_rfl
theorem zr76 : zeroB Tryz.prog 76 = some (Value.agg #[str [], Value.int .i64 0]) := by kernel_rfl
theorem ag77 : aggB Tryz.prog 77 = some false := by kernel_rfl
theorem sz77 : sizeB Tryz.prog 77 = some 1 := by kernel_rfl
theorem by77 : (Tryz.prog.info? 77).map (·.bytes) = some 8 := by kernel_rfl
theorem zr77 : zeroB Tryz.prog 77 = some Value.nilFunc := by kernel_rfl
theorem ag79 : aggB Tryz.prog 79 = some false := by kernel_rfl
theorem sz79 : sizeB Tryz.prog 79 = some 1 := by kernel_rfl
theorem by79 : (Tryz.prog.info? 79).map (·.bytes) = some 8 := by kernel_rfl
theorem zr79 : zeroB Tryz.prog 79 = some Value.nilFunc := by kernel_rfl
theorem ag80 : aggB Tryz.prog 80 = some false := by kernel_rfl
theorem sz80 : sizeB Tryz.prog 80 = some 1 := by kernel_rfl
theorem by80 : (Tryz.prog.info? 80).map (·.bytes) = some 8 := by kernel_rfl
theorem zr80 : zeroB Tryz.prog 80 = some Value.nilFunc := by kernel_rfl
theorem ag81 : aggB Tryz.prog 81 = some false := by kernel_rfl
theorem sz81 : sizeB Tryz.prog 81 = some 1 := by kernel_rfl
theorem by81 : (Tryz.prog.info? 81).map (·.bytes) = some 8 := by kernel_rfl
theorem zr81 : zeroB Tryz.prog 81 = some Value.nilFunc := by kernel_rfl
theorem ag82 : aggB Tryz.prog 82 = some false := by kernel_rfl
theorem sz82 : sizeB Tryz.prog 82 = some 1 := by kernel_rfl
theorem by82 : (Tryz.prog.info? 82).map (·.bytes) = some 8 := by kernel_rfl
theorem zr82 : zeroB Tryz.prog 82 = some Value.nilFunc := by kernel_rfl
theorem ag83 : aggB Tryz.prog 83 = some false := by kernel_rfl
theorem sz83 : sizeB Tryz.prog 83 = some 1 := by kernel_rfl
theorem by83 : (Tryz.prog.info? 83).map (·.bytes) = some 4 := by kernel_rfl
theorem zr83 : zeroB Tryz.prog 83 = some (Value.int .u32 0) := by kernel_rfl
theorem ag84 : aggB Tryz.prog 84 = some false := by kernel_rfl
theorem sz84 : sizeB Tryz.prog 84 = some 1 := by kernel_rfl
theorem by84 : (Tryz.prog.info? 84).map (·.bytes) = some 8 := by kernel_rfl
theorem zr84 : zeroB Tryz.prog 84 = some Value.nilFunc := by kernel_rfl
theorem ag85 : aggB Tryz.prog 85 = some false := by kernel_rfl
theorem sz85 : sizeB Tryz.prog 85 = some 1 := by kernel_rfl
theorem by85 : (Tryz.prog.info? 85).map (·.bytes) = some 8 := by kernel_rfl
theorem zr85 : zeroB Tryz.prog 85 = some Value.nilFunc := by kernel_rfl
theorem ag87 : aggB Tryz.prog 87 = some false := by kernel_rfl
theorem sz87 : sizeB Tryz.prog 87 = some 1 := by kernel_rfl
theorem by87 : (Tryz.prog.info? 87).map (·.bytes) = some 8 := by kernel_rfl
theorem zr87 : zeroB Tryz.prog 87 = some Value.nilFunc := by kernel_rfl
theorem ag88 : aggB Tryz.prog 88 = some false := by kernel_rfl
theorem sz88 : sizeB Tryz.prog 88 = some 1 := by kernel_rfl
theorem by88 : (Tryz.prog.info? 88).map (·.bytes) = some 24 := by kernel_rfl
theorem zr88 : zeroB Tryz.prog 88 = some (Value.slice none 0 0) := by kernel_rfl
theorem ag89 : aggB Tryz.prog 89 = some false := by kernel_rfl
theorem sz89 : sizeB Tryz.prog 89 = some 1 := by kernel_rfl
theorem by89 : (Tryz.prog.info? 89).map (·.bytes) = some 8 := by kernel_rfl
theorem zr89 : zeroB Tryz.prog 89 = some Value.nilFunc := by kernel_rfl
theorem ag90 : aggB Tryz.prog 90 = some false := by kernel_rfl
theorem sz90 : sizeB Tryz.prog 90 = some 1 := by kernel_rfl
theorem by90 : (Tryz.prog.info? 90).map (·.bytes) = some 8 := by kernel_rfl
theorem zr90 : zeroB Tryz.prog 90 = some Value.nilFunc := by kernel_rfl
theorem ag92 : aggB Tryz.prog 92 = some false := by kernel_rfl
theorem sz92 : sizeB Tryz.prog 92 = some 1 := by kernel_rfl
theorem by92 : (Tryz.prog.info? 92).map (·.bytes) = some 8 := by kernel_rfl
theorem zr92 : zeroB Tryz.prog 92 = some Value.nilFunc := by kernel_rfl
theorem ag93 : aggB Tryz.prog 93 = some false := by kernel_rfl
theorem sz93 : sizeB Tryz.prog 93 = some 1 := by kernel_rfl
theorem by93 : (Tryz.prog.info? 93).map (·.bytes) = some 8 := by kernel_rfl
theorem zr93 : zeroB Tryz.prog 93 = some Value.nilFunc := by kernel_rfl
theorem ag94 : aggB Tryz.prog 94 = some false := by kernel_rfl
theorem sz94 : sizeB Tryz.prog 94 = some 1 := by kernel_rfl
theorem by94 : (Tryz.prog.info? 94).map (·.bytes) = some 8 := by kernel_rfl
theorem zr94 : zeroB Tryz.prog 94 = some (Value.int .u64 0) := by kernel_rfl
theorem ag95 : aggB Tryz.prog 95 = some false := by kernel_rfl
theorem sz95 : sizeB Tryz.prog 95 = some 1 := by kernel_rfl
theorem by95 : (Tryz.prog.info? 95).map (·.bytes) = some 8 := by kernel_rfl
theorem zr95 : zeroB Tryz.prog 95 = some Value.nilFunc := by kernel_rfl
theorem ag96 : aggB Tryz.prog 96 = some false := by kernel_rfl
theorem sz96 : sizeB Tryz.prog 96 = some 1 := by kernel_rfl
theorem by96 : (Tryz.prog.info? 96).map (·.bytes) = some 8 := by kernel_rfl
theorem zr96 : zeroB Tryz.prog 96 = some Value.nilFunc := by kernel_rfl
theorem ag97 : aggB Tryz.prog 97 = some false := by kernel_rfl
theorem sz97 : sizeB Tryz.prog 97 = some 1 := by kernel_rfl
theorem by97 : (Tryz.prog.info? 97).map (·.bytes) = some 8 := by kernel_rfl
theorem zr97 : zeroB Tryz.prog 97 = some Value.nilFunc := by kernel_rfl
theorem ag98 : aggB Tryz.prog 98 = some false := by kernel_rfl
theorem sz98 : sizeB Tryz.prog 98 = some 1 := by kernel_rfl
theorem by98 : (Tryz.prog.info? 98).map (·.bytes) = some 8 := by kernel_rfl
theorem zr98 : zeroB Tryz.prog 98 = some Value.nilFunc := by kernel_rfl
theorem ag99 : aggB Tryz.prog 99 = some false := by kernel_rfl
theorem sz99 : sizeB Tryz.prog 99 = some 1 := by kernel_rfl
theorem by99 : (Tryz.prog.info? 99).map (·.bytes) = some 8 := by kernel_rfl
theorem zr99 : zeroB Tryz.prog 99 = some Value.nilFunc := by kernel_rfl
theorem ag101 : aggB Tryz.prog 101 = some false := by kernel_rfl
theorem sz101 : sizeB Tryz.prog 101 = some 1 := by kernel_rfl
theorem by101 : (Tryz.prog.info? 101).map (·.bytes) = some 8 := by kernel_rfl
theorem zr101 : zeroB Tryz.prog 101 = some Value.nilFunc := by kernel_rfl
theorem ag102 : aggB Tryz.prog 102 = some true := by kernel_rfl
theorem sz102 : sizeB Tryz.prog 102 = some 9 := by kernel_rfl
theorem by102 : (Tryz.prog.info? 102).map (·.bytes) = some 9 := by kernel_rfl
theorem zr102 : zeroB Tryz.prog 102 = some (Value.agg #[Value.int .u8 0, Value.int .u8 0, Value.int .u8 0, Value.int .u8 0, Value.int .u8 0, Value.int .u8 0, Value.int .u8 0, Value.int .u8 0, Value.int .u8 0]) := by kernel_rfl
theorem ag103 : aggB Tryz.prog 103 = some true := by kernel_rfl
theorem sz103 : sizeB Tryz.prog 103 = some 2 := by kernel_rfl
theorem by103 : (Tryz.prog.info? 103).map (·.bytes) = some 8 := by kernel_rfl
theorem zr103 : zeroB Tryz.prog 103 = some (Value.agg #[Value.int .u32 0, Value.int .u32 0]) := by kernel_rfl
theorem ag104 : aggB Tryz.prog 104 = some true := by kernel_rfl
theorem sz104 : sizeB Tryz.prog 104 = some 2 := by kernel_rfl
theorem by104 : (Tryz.prog.info? 104).map (·.bytes) = some 8 := by kernel_rfl
theorem zr104 : zeroB Tryz.prog 104 = some (Value.agg #[Value.int .u32 0, Value.int .u32 0]) := by kernel_rfl
theorem ag105 : aggB Tryz.prog 105 = some false := by kernel_rfl
theorem sz105 : sizeB Tryz.prog 105 = some 1 := by kernel_rfl
theorem by105 : (Tryz.prog.info? 105).map (·.bytes) = some 8 := by kernel_rfl
theorem zr105 : zeroB Tryz.prog 105 = some Value.nilFunc := by kernel_rfl
theorem ag106 : aggB Tryz.prog 106 = some false := by kernel_rfl
theorem sz106 : sizeB Tryz.prog 106 = some 1 := by kernel_rfl
theorem by106 : (Tryz.prog.info? 106).map (·.bytes) = some 8 := by kernel_rfl
theorem zr106 : zeroB Tryz.prog 106 = some Value.nilFunc := by kernel_rfl
theorem ag107 : aggB Tryz.prog 107 = some true := by kernel_rfl
theorem sz107 : sizeB Tryz.prog 107 = some 256 := by kernel_rfl
theorem by107 : (Tryz.prog.info? 107).map (·.bytes) = some 256 := by kernel_rfl
theorem ag108 : aggB Tryz.prog 108 = some true := by kernel_rfl
theorem sz108 : sizeB Tryz.prog 108 = some 256 := by kernel_rfl
theorem by108 : (Tryz.prog.info? 108).map (·.bytes) = some 256 := by kernel_rfl
theorem ag110 : aggB Tryz.prog 110 = some false := by kernel_rfl
theorem sz110 : sizeB Tryz.prog 110 = some 1 := by kernel_rfl
theorem by110 : (Tryz.prog.info? 110).map (·.bytes) = some 8 := by kernel_rfl
theorem zr110 : zeroB Tryz.prog 110 = some Value.nilFunc := by kernel_rfl
theorem ag111 : aggB Tryz.prog 111 = some false := by kernel_rfl
theorem sz111 : sizeB Tryz.prog 111 = some 1 := by kernel_rfl
theorem by111 : (Tryz.prog.info? 111).map (·.bytes) = some 8 := by kernel_rfl
theorem zr111 : zeroB Tryz.prog 111 = some Value.nilFunc := by kernel_rfl
theorem ag112 : aggB Tryz.prog 112 = some false := by kernel_rfl
theorem sz112 : sizeB Tryz.prog 112 = some 1 := by kernel_rfl
theorem by112 : (Tryz.prog.info? 112).map (·.bytes) = some 8 := by kernel_rfl
theorem zr112 : zeroB Tryz.prog 112 = some (Value.pointer none) := by kernel_rfl
theorem ag113 : aggB Tryz.prog 113 = some false := by kernel_rfl
theorem sz113 : sizeB Tryz.prog 113 = some 1 := by kernel_rfl
theorem by113 : (Tryz.prog.info? 113).map (·.bytes) = some 8 := by kernel_rfl
theorem zr113 : zeroB Tryz.prog 113 = some Value.nilFunc := by kernel_rfl
theorem ag114 : aggB Tryz.prog 114 = some false := by kernel_rfl
theorem sz114 : sizeB Tryz.prog 114 = some 1 := by kernel_rfl
theorem by114 : (Tryz.prog.info? 114).map (·.bytes) = some 8 := by kernel_rfl
theorem zr114 : zeroB Tryz.prog 114 = some (Value.int .i64 0) := by kernel_rfl
theorem ag116 : aggB Tryz.prog 116 = some false := by kernel_rfl
theorem sz116 : sizeB Tryz.prog 116 = some 1 := by kernel_rfl
theorem by116 : (Tryz.prog.info? 116).map (·.bytes) = some 8 := by kernel_rfl
theorem zr116 : zeroB Tryz.prog 116 = some Value.nilFunc := by kernel_rfl
theorem ag117 : aggB Tryz.prog 117 = some false := by kernel_rfl
theorem sz117 : sizeB Tryz.prog 117 = some 1 := by kernel_rfl
theorem by117 : (Tryz.prog.info? 117).map (·.bytes) = some 8 := by kernel_rfl
theorem zr117 : zeroB Tryz.prog 117 = some Value.nilFunc := by kernel_rfl
theorem ag118 : aggB Tryz.prog 118 = some false := by kernel_rfl
theorem sz118 : sizeB Tryz.prog 118 = some 1 := by kernel_rfl
theorem by118 : (Tryz.prog.info? 118).map (·.bytes) = some 8 := by kernel_rfl
theorem zr118 : zeroB Tryz.prog 118 = some Value.nilFunc := by kernel_rfl
theorem ag119 : aggB Tryz.prog 119 = some false := by kernel_rfl
theorem sz119 : sizeB Tryz.prog 119 = some 1 := by kernel_rfl
theorem by119 : (Tryz.prog.info? 119).map (·.bytes) = some 8 := by kernel_rfl
theorem zr119 : zeroB Tryz.prog 119 = some Value.nilFunc := by kernel_rfl
theorem ag121 : aggB Tryz.prog 121 = some false := by kernel_rfl
theorem sz121 : sizeB Tryz.prog 121 = some 1 := by kernel_rfl
theorem by121 : (Tryz.prog.info? 121).map (·.bytes) = some 8 := by kernel_rfl
theorem zr121 : zeroB Tryz.prog 121 = some Value.nilFunc := by kernel_rfl
theorem ag122 : aggB Tryz.prog 122 = some false := by kernel_rfl
theorem sz122 : sizeB Tryz.prog 122 = some 1 := by kernel_rfl
theorem by122 : (Tryz.prog.info? 122).map (·.bytes) = some 8 := by kernel_rfl
theorem zr122 : zeroB Tryz.prog 122 = some Value.nilFunc := by kernel_rfl
theorem ag123 : aggB Tryz.prog 123 = some false := by kernel_rfl
theorem sz123 : sizeB Tryz.prog 123 = some 1 := by kernel_rfl
theorem by123 : (Tryz.prog.info? 123).map (·.bytes) = some 8 := by kernel_rfl
theorem zr123 : zeroB Tryz.prog 123 = some Value.nilFunc := by kernel_rfl
theorem ag124 : aggB Tryz.prog 124 = some false := by kernel_rfl
theorem sz124 : sizeB Tryz.prog 124 = some 1 := by kernel_rfl
theorem by124 : (Tryz.prog.info? 124).map (·.bytes) = some 8 := by kernel_rfl
theorem zr124 : zeroB Tryz.prog 124 = some (Value.pointer none) := by kernel_rfl
theorem ag125 : aggB Tryz.prog 125 = some false := by kernel_rfl
theorem sz125 : sizeB Tryz.prog 125 = some 1 := by kernel_rfl
theorem by125 : (Tryz.prog.info? 125).map (·.bytes) = some 8 := by kernel_rfl
theorem zr125 : zeroB Tryz.prog 125 = some Value.nilFunc := by kernel_rfl
theorem ag127 : aggB Tryz.prog 127 = some false := by kernel_rfl
theorem sz127 : sizeB Tryz.prog 127 = some 1 := by kernel_rfl
theorem by127 : (Tryz.prog.info? 127).map (·.bytes) = some 8 := by kernel_rfl
theorem zr127 : zeroB Tryz.prog 127 = some Value.nilFunc := by kernel_rfl
theorem ag128 : aggB Tryz.prog 128 = some false := by kernel_rfl
theorem sz128 : sizeB Tryz.prog 128 = some 1 := by kernel_rfl
theorem by128 : (Tryz.prog.info? 128).map (·.bytes) = some 8 := by kernel_rfl
theorem zr128 : zeroB Tryz.prog 128 = some Value.nilFunc := by kernel_rfl
theorem ag129 : aggB Tryz.prog 129 = some false := by kernel_rfl
theorem sz129 : sizeB Tryz.prog 129 = some 1 := by kernel_rfl
theorem by129 : (Tryz.prog.info? 129).map (·.bytes) = some 8 := by kernel_rfl
theorem zr129 : zeroB Tryz.prog 129 = some (Value.int .u64 0) := by kernel_rfl
theorem ag130 : aggB Tryz.prog 130 = some false := by kernel_rfl
theorem sz130 : sizeB Tryz.prog 130 = some 1 := by kernel_rfl
theorem by130 : (Tryz.prog.info? 130).map (·.bytes) = some 8 := by kernel_rfl
theorem zr130 : zeroB Tryz.prog 130 = some Value.nilFunc := by kernel_rfl
theorem ag131 : aggB Tryz.prog 131 = some false := by kernel_rfl
theorem sz131 : sizeB Tryz.prog 131 = some 1 := by kernel_rfl
theorem by131 : (Tryz.prog.info? 131).map (·.bytes) = some 8 := by kernel_rfl
theorem zr131 : zeroB Tryz.prog 131 = some Value.nilFunc := by kernel_rfl
theorem ag132 : aggB Tryz.prog 132 = some false := by kernel_rfl
theorem sz132 : sizeB Tryz.prog 132 = some 1 := by kernel_rfl
theorem by132 : (Tryz.prog.info? 132).map (·.bytes) = some 8 := by kernel_rfl
theorem zr132 : zeroB Tryz.prog 132 = some Value.nilFunc := by kernel_rfl
theorem ag133 : aggB Tryz.prog 133 = some false := by kernel_rfl
theorem sz133 : sizeB Tryz.prog 133 = some 1 := by kernel_rfl
theorem by133 : (Tryz.prog.info? 133).map (·.bytes) = some 8 := by kernel_rfl
theorem zr133 : zeroB Tryz.prog 133 = some (Value.pointer none) := by kernel_rfl
theorem ag134 : aggB Tryz.prog 134 = some false := by kernel_rfl
theorem sz134 : sizeB Tryz.prog 134 = some 1 := by kernel_rfl
theorem by134 : (Tryz.prog.info? 134).map (·.bytes) = some 8 := by kernel_rfl
theorem zr134 : zeroB Tryz.prog 134 = some Value.nilFunc := by kernel_rfl
theorem ag135 : aggB Tryz.prog 135 = some false := by kernel_rfl
theorem sz135 : sizeB Tryz.prog 135 = some 1 := by kernel_rfl
theorem by135 : (Tryz.prog.info? 135).map (·.bytes) = some 8 := by kernel_rfl
theorem zr135 : zeroB Tryz.prog 135 = some Value.nilFunc := by kernel_rfl
theorem ag136 : aggB Tryz.prog 136 = some false := by kernel_rfl
theorem sz136 : sizeB Tryz.prog 136 = some 1 := by kernel_rfl
theorem by136 : (Tryz.prog.info? 136).map (·.bytes) = some 8 := by kernel_rfl
theorem zr136 : zeroB Tryz.prog 136 = some (Value.pointer none) := by kernel_rfl
theorem ag138 : aggB Tryz.prog 138 = some false := by kernel_rfl
theorem sz138 : sizeB Tryz.prog 138 = some 1 := by kernel_rfl
theorem by138 : (Tryz.prog.info? 138).map (·.bytes) = some 8 := by kernel_rfl
theorem zr138 : zeroB Tryz.prog 138 = some Value.nilFunc := by kernel_rfl
theorem ag139 : aggB Tryz.prog 139 = some true := by kernel_rfl
theorem sz139 : sizeB Tryz.prog 139 = some 256 := by kernel_rfl
theorem by139 : (Tryz.prog.info? 139).map (·.bytes) = some 256 := by kernel_rfl
theorem ag140 : aggB Tryz.prog 140 = some true := by kernel_rfl
theorem sz140 : sizeB Tryz.prog 140 = some 2 := by kernel_rfl
theorem by140 : (Tryz.prog.info? 140).map (·.bytes) = some 2 := by kernel_rfl
theorem zr140 : zeroB Tryz.prog 140 = some (Value.agg #[Value.int .u8 0, Value.int .u8 0]) := by kernel_rfl
theorem ag141 : aggB Tryz.prog 141 = some true := by kernel_rfl
theorem sz141 : sizeB Tryz.prog 141 = some 2 := by kernel_rfl
theorem by141 : (Tryz.prog.info? 141).map (·.bytes) = some 2 := by kernel_rfl
theorem zr141 : zeroB Tryz.prog 141 = some (Value.agg #[Value.int .u8 0, Value.int .u8 0]) := by kernel_rfl
theorem ag142 : aggB Tryz.prog 142 = some true := by kernel_rfl
theorem sz142 : sizeB Tryz.prog 142 = some 32 := by kernel_rfl
theorem by142 : (Tryz.prog.info? 142).map (·.bytes) = some 32 := by kernel_rfl
theorem zr142 : zeroB Tryz.prog 142 = some (Value.agg #[Value.int .u8 0, Value.int .u8 0, Value.int .u8 0, Value.int .u8 0, Value.int .u8 0, Value.int .u8 0, Value.int .u8 0, Value.int .u8 0, Value.int .u8 0, Value.int .u8 0, Value.int .u8 0, Value.int .u8 0, Value.int .u8 0, Value.int .u8 0, Value.int .u8 0, Value.int .u8 0, Value.int .u8 0, Value.int .u8 0, Value.int .u8 0, Value.int .u8 0, Value.int .u8 0, Value.int .u8 0, Value.int .u8 0, Value.int .u8 0, Value.int .u8 0, Value.int .u8 0, Value.int .u8 0, Value.int .u8 0, Value.int .u8 0, Value.int .u8 0, Value.int .u8 0, Value.int .u8 0]) := by kernel_rfl
theorem ag143 : aggB Tryz.prog 143 = some false := by kernel_rfl
theorem sz143 : sizeB Tryz.prog 143 = some 1 := by kernel_rfl
theorem by143 : (Tryz.prog.info? 143).map (·.bytes) = some 8 := by kernel_rfl
theorem zr143 : zeroB Tryz.prog 143 = some Value.nilFunc := by kernel_rfl
theorem ag144 : aggB Tryz.prog 144 = some false := by kernel_rfl
theorem sz144 : sizeB Tryz.prog 144 = some 1 := by kernel_rfl
theorem by144 : (Tryz.prog.info? 144).map (·.bytes) = some 8 := by kernel_rfl
theorem zr144 : zeroB Tryz.prog 144 = some Value.nilFunc := by kernel_rfl
theorem ag145 : aggB Tryz.prog 145 = some false := by kernel_rfl
theorem sz145 : sizeB Tryz.prog 145 = some 1 := by kernel_rfl
theorem by145 : (Tryz.prog.info? 145).map (·.bytes) = some 8 := by kernel_rfl
theorem zr145 : zeroB Tryz.prog 145 = some Value.nilFunc := by kernel_rfl
theorem ag146 : aggB Tryz.prog 146 = some false := by kernel_rfl
theorem sz146 : sizeB Tryz.prog 146 = some 1 := by kernel_rfl
theorem by146 : (Tryz.prog.info? 146).map (·.bytes) = some 8 := by kernel_rfl
theorem zr146 : zeroB Tryz.prog 146 = some Value.nilFunc := by kernel_rfl
theorem ag147 : aggB Tryz.prog 147 = some true := by kernel_rfl
theorem sz147 : sizeB Tryz.prog 147 = some 4 := by kernel_rfl
theorem by147 : (Tryz.prog.info? 147).map (·.bytes) = some 40 := by kernel_rfl
theorem zr147 : zeroB Tryz.prog 147 = some (Value.agg #[Value.pointer none, Value.pointer none, Value.pointer none, str []]) := by kernel_rfl
theorem ag148 : aggB Tryz.prog 148 = some true := by kernel_rfl
theorem sz148 : sizeB Tryz.prog 148 = some 4 := by kernel_rfl
theorem by148 : (Tryz.prog.info? 148).map (·.bytes) = some 40 := by kernel_rfl
theorem zr148 : zeroB Tryz.prog 148 = some (Value.agg #[Value.pointer none, Value.pointer none, Value.pointer none, str []]) := by kernel_rfl
theorem ag149 : aggB Tryz.prog 149 = some true := by kernel_rfl
theorem sz149 : sizeB Tryz.prog 149 = some 0 := by kernel_rfl
theorem by149 : (Tryz.prog.info? 149).map (·.bytes) = some 0 := by kernel_rfl
theorem zr149 : zeroB Tryz.prog 149 = some (Value.agg #[]) := by kernel_rfl
theorem ag150 : aggB Tryz.prog 150 = some true := by kernel_rfl
theorem sz150 : sizeB Tryz.prog 150 = some 0 := by kernel_rfl
theorem by150 : (Tryz.prog.info? 150).map (·.bytes) = some 0 := by kernel_rfl
theorem zr150 : zeroB Tryz.prog 150 = some (Value.agg #[]) := by kernel_rfl
theorem ag151 : aggB Tryz.prog 151 = some true := by kernel_rfl
theorem sz151 : sizeB Tryz.prog 151 = some 0 := by kernel_rfl
theorem by151 : (Tryz.prog.info? 151).map (·.bytes) = some 0 := by kernel_rfl
theorem zr151 : zeroB Tryz.prog 151 = some (Value.agg #[]) := by kernel_rfl
theorem ag152 : aggB Tryz.prog 152 = some false := by kernel_rfl
theorem sz152 : sizeB Tryz.prog 152 = some 1 := by kernel_rfl
theorem by152 : (Tryz.prog.info? 152).map (·.bytes) = some 1 := by kernel_rfl
theorem zr152 : zeroB Tryz.prog 152 = some (Value.int .u8 0) := by kernel_rfl
theorem ag153 : aggB Tryz.prog 153 = some false := by kernel_rfl
theorem sz153 : sizeB Tryz.prog 153 = some 1 := by kernel_rfl
theorem by153 : (Tryz.prog.info? 153).map (·.bytes) = some 1 := by kernel_rfl
theorem zr153 : zeroB Tryz.prog 153 = some (Value.int .u8 0) := by kernel_rfl
theorem ag154 : aggB Tryz.prog 154 = some false := by kernel_rfl
theorem sz154 : sizeB Tryz.prog 154 = some 1 := by kernel_rfl
theorem by154 : (Tryz.prog.info? 154).map (·.bytes) = some 8 := by kernel_rfl
theorem zr154 : zeroB Tryz.prog 154 = some Value.nilFunc := by kernel_rfl
theorem ag155 : aggB Tryz.prog 155 = some false := by kernel_rfl
theorem sz155 : sizeB Tryz.prog 155 = some 1 := by kernel_rfl
theorem by155 : (Tryz.prog.info? 155).map (·.bytes) = some 8 := by kernel_rfl
theorem zr155 : zeroB Tryz.prog 155 = some (Value.pointer none) := by kernel_rfl
theorem ag156 : aggB Tryz.prog 156 = some false := by kernel_rfl
theorem sz156 : sizeB Tryz.prog 156 = some 1 := by kernel_rfl
theorem by156 : (Tryz.prog.info? 156).map (·.bytes) = some 4 := by kernel_rfl
theorem zr156 : zeroB Tryz.prog 156 = some (Value.int .i32 0) := by kernel_rfl
theorem ag157 : aggB Tryz.prog 157 = some false := by kernel_rfl
theorem sz157 : sizeB Tryz.prog 157 = some 1 := by kernel_rfl
theorem by157 : (Tryz.prog.info? 157).map (·.bytes) = some 4 := by kernel_rfl
theorem zr157 : zeroB Tryz.prog 157 = some (Value.int .i32 0) := by kernel_rfl
theorem ag158 : aggB Tryz.prog 158 = some true := by kernel_rfl
theorem sz158 : sizeB Tryz.prog 158 = some 11 := by kernel_rfl
theorem by158 : (Tryz.prog.info? 158).map (·.bytes) = some 48 := by kernel_rfl
theorem zr158 : zeroB Tryz.prog 158 = some (Value.agg #[Value.int .u64 0, Value.int .u64 0, Value.int .u32 0, Value.int .u8 0, Value.int .u8 0, Value.int .u8 0, Value.int .u8 0, Value.nilFunc, Value.pointer none, Value.int .i32 0, Value.int .i32 0]) := by kernel_rfl
theorem ag159 : aggB Tryz.prog 159 = some true := by kernel_rfl
theorem sz159 : sizeB Tryz.prog 159 = some 11 := by kernel_rfl
theorem by159 : (Tryz.prog.info? 159).map (·.bytes) = some 48 := by kernel_rfl
theorem zr159 : zeroB Tryz.prog 159 = some (Value.agg #[Value.int .u64 0, Value.int .u64 0, Value.int .u32 0, Value.int .u8 0, Value.int .u8 0, Value.int .u8 0, Value.int .u8 0, Value.nilFunc, Value.pointer none, Value.int .i32 0, Value.int .i32 0]) := by kernel_rfl
theorem ag160 : aggB Tryz.prog 160 = some false := by kernel_rfl
theorem sz160 : sizeB Tryz.prog 160 = some 1 := by kernel_rfl
theorem by160 : (Tryz.prog.info? 160).map (·.bytes) = some 8 := by kernel_rfl
theorem zr160 : zeroB Tryz.prog 160 = some Value.nilFunc := by kernel_rfl
theorem ag161 : aggB Tryz.prog 161 = some false := by kernel_rfl
theorem sz161 : sizeB Tryz.prog 161 = some 1 := by kernel_rfl
theorem by161 : (Tryz.prog.info? 161).map (·.bytes) = some 8 := by kernel_rfl
theorem zr161 : zeroB Tryz.prog 161 = some (Value.pointer none) := by kernel_rfl
theorem hd2 : Has Tryz.prog 2 := Has.mk' Tryz.func2 (by kernel_rfl) (by kernel_rfl)
theorem hd3 : Has Tryz.prog 3 := Has.mk' Tryz.func3 (by kernel_rfl) (by kernel_rfl)
theorem hd4 : Has Tryz.prog 4 := Has.mk' Tryz.func4 (by kernel_rfl) (by kernel_rfl)
theorem hd5 : Has Tryz.prog 5 := Has.mk' Tryz.func5 (by kernel_rfl) (by kernel_rfl)
theorem hd6 : Has Tryz.prog 6 := Has.mk' Tryz.func6 (by kernel_rfl) (by kernel_rfl)
theorem hd7 : Has Tryz.prog 7 := Has.mk' Tryz.func7 (by kernel_rfl) (by kernel_rfl)
theorem hd8 : Has Tryz.prog 8 := Has.mk' Tryz.func8 (by kernel_rfl) (by kernel_rfl)
theorem hd9 : Has Tryz.prog 9 := Has.mk' Tryz.func9 (by kernel_rfl) (by kernel_rfl)
theorem hd10 : Has Tryz.prog 10 := Has.mk' Tryz.func10 (by kernel_rfl) (by kernel_rfl)
theorem hd11 : Has Tryz.prog 11 := Has.mk' Tryz.func11 (by kernel_rfl) (by kernel_rfl)
theorem hd12 : Has Tryz.prog 12 := Has.mk' Tryz.func12 (by kernel_rfl) (by kernel_rfl)
theorem hd13 : Has Tryz.prog 13 := Has.mk' Tryz.func13 (by kernel_rfl) (by kernel_rfl)
theorem hd14 : Has Tryz.prog 14 := Has.mk' Tryz.func14 (by kernel_rfl) (by kernel_rfl)
theorem hd15 : Has Tryz.prog 15 := Has.mk' Tryz.func15 (by kernel_rfl) (by kernel_rfl)
theorem hd16 : Has Tryz.prog 16 := Has.mk' Tryz.func16 (by kernel_rfl) (by kernel_rfl)
theorem hd17 : Has Tryz.prog 17 := Has.mk' Tryz.func17 (by kernel_rfl) (by kernel_rfl)
theorem hd18 : Has Tryz.prog 18 := Has.mk' Tryz.func18 (by kernel_rfl) (by kernel_rfl)
theorem hd19 : Has Tryz.prog 19 := Has.mk' Tryz.func19 (by kernel_rfl) (by kernel_rfl)
theorem hd20 : Has Tryz.prog 20 := Has.mk' Tryz.func20 (by kernel_rfl) (by kernel_rfl)
theorem hd21 : Has Tryz.prog 21 := Has.mk' Tryz.func21 (by kernel_rfl) (by kernel_rfl)
theorem hd22 : Has Tryz.prog 22 := Has.mk' Tryz.func22 (by kernel_rfl) (by kernel_rfl)
theorem hd23 : Has Tryz.prog 23 := Has.mk' Tryz.func23 (by kernel_rfl) (by kernel_rfl)
theorem hd24 : Has Tryz.prog 24 := Has.mk' Tryz.func24 (by kernel_rfl) (by kernel_rfl)
theorem hd25 : Has Tryz.prog 25 := Has.mk' Tryz.func25 (by kernel_rfl) (by kernel_rfl)
theorem hd26 : Has Tryz.prog 26 := Has.mk' Tryz.func26 (by kernel_rfl) (by kernel_rfl)
theorem hd27 : Has Tryz.prog 27 := Has.mk' Tryz.func27 (by kernel_rfl) (by kernel_rfl)
theorem hd28 : Has Tryz.prog 28 := Has.mk' Tryz.func28 (by kernel_rfl) (by kernel_rfl)
theorem hd29 : Has Tryz.prog 29 := Has.mk' Tryz.func29 (by kernel_rfl) (by kernel_rfl)
theorem hd30 : Has Tryz.prog 30 := Has.mk' Tryz.func30 (by kernel_rfl) (by kernel_rfl)
theorem hd31 : Has Tryz.prog 31 := Has.mk' Tryz.func31 (by kernel_rfl) (by kernel_rfl)
theorem hd32 : Has Tryz.prog 32 := Has.mk' Tryz.func32 (by kernel_rfl) (by kernel_rfl)
theorem hd33 : Has Tryz.prog 33 := Has.mk' Tryz.func33 (by kernel_rfl) (by kernel_rfl)
theorem hd34 : Has Tryz.prog 34 := Has.mk' Tryz.func34 (by kernel_rfl) (by kernel_rfl)
theorem hd35 : Has Tryz.prog 35 := Has.mk' Tryz.func35 (by kernel_rfl) (by kernel_rfl)
theorem hd36 : Has Tryz.prog 36 := Has.mk' Tryz.func36 (by kernel_rfl) (by kernel_rfl)
theorem hd37 : Has Tryz.prog 37 := Has.mk' Tryz.func37 (by kernel_rfl) (by kernel_rfl)
theorem hd38 : Has Tryz.prog 38 := Has.mk' Tryz.func38 (by kernel_rfl) (by kernel_rfl)
theorem hd39 : Has Tryz.prog 39 := Has.mk' Tryz.func39 (by kernel_rfl) (by kernel_rfl)
theorem hd40 : Has Tryz.prog 40 := Has.mk' Tryz.func40 (by kernel_rfl) (by kernel_rfl)
theorem hd41 : Has Tryz.prog 41 := Has.mk' Tryz.func41 (by kernel_rfl) (by kernel_rfl)
theorem hd42 : Has Tryz.prog 42 := Has.mk' Tryz.func42 (by kernel_rfl) (by kernel_rfl)
theorem hd43 : Has Tryz.prog 43 := Has.mk' Tryz.func43 (by kernel_rfl) (by kernel_rfl)
theorem hd44 : Has Tryz.prog 44 := Has.mk' Tryz.func44 (by kernel_rfl) (by kernel_rfl)
theorem hd45 : Has Tryz.prog 45 := Has.mk' Tryz.func45 (by kernel_rfl) (by kernel_rfl)
theorem hd46 : Has Tryz.prog 46 := Has.mk' Tryz.func46 (by kernel_rfl) (by kernel_rfl)
theorem hd47 : Has Tryz.prog 47 := Has.mk' Tryz.func47 (by kernel_rfl) (by kernel_rfl)
theorem hd48 : Has Tryz.prog 48 := Has.mk' Tryz.func48 (by kernel_rfl) (by kernel_rfl)
theorem hd49 : Has Tryz.prog 49 := Has.mk' Tryz.func49 (by kernel_rfl) (by kernel_rfl)
theorem hd50 : Has Tryz.prog 50 := Has.mk' Tryz.func50 (by kernel_rfl) (by kernel_rfl)
theorem hd51 : Has Tryz.prog 51 := Has.mk' Tryz.func51 (by kernel_rfl) (by kernel_rfl)
theorem hd52 : Has Tryz.prog 52 := Has.mk' Tryz.func52 (by kernel_rfl) (by kernel_rfl)
theorem hd53 : Has Tryz.prog 53 := Has.mk' Tryz.func53 (by kernel_rfl) (by kernel_rfl)
theorem hd54 : Has Tryz.prog 54 := Has.mk' Tryz.func54 (by kernel_rfl) (by kernel_rfl)
theorem hd55 : Has Tryz.prog 55 := Has.mk' Tryz.func55 (by kernel_rfl) (by kernel_rfl)
theorem hd57 : Has Tryz.prog 57 := Has.mk' Tryz.func57 (by kernel_rfl) (by kernel_rfl)
theorem hd58 : Has Tryz.prog 58 := Has.mk' Tryz.func58 (by kernel_rfl) (by kernel_rfl)
theorem hd59 : Has Tryz.prog 59 := Has.mk' Tryz.func59 (by kernel_rfl) (by kernel_rfl)
theorem hd60 : Has Tryz.prog 60 := Has.mk' Tryz.func60 (by kernel_rfl) (by kernel_rfl)
theorem hd61 : Has Tryz.prog 61 := Has.mk' Tryz.func61 (by kernel_rfl) (by kernel_rfl)
theorem hd62 : Has Tryz.prog 62 := Has.mk' Tryz.func62 (by kernel_rfl) (by kernel_rfl)
theorem hd63 : Has Tryz.prog 63 := Has.mk' Tryz.func63 (by kernel_rfl) (by kernel_rfl)
theorem hd64 : Has Tryz.prog 64 := Has.mk' Tryz.func64 (by kernel_rfl) (by kernel_rfl)
theorem hd65 : Has Tryz.prog 65 := Has.mk' Tryz.func65 (by kernel_rfl) (by kernel_rfl)
theorem hd66 : Has Tryz.prog 66 := Has.mk' Tryz.func66 (by kernel_rfl) (by kernel_rfl)
theorem hd67 : Has Tryz.prog 67 := Has.mk' Tryz.func67 (by kernel_rfl) (by kernel_rfl)
theorem hd68 : Has Tryz.prog 68 := Has.mk' Tryz.func68 (by kernel_rfl) (by kernel_rfl)
theorem hd69 : Has Tryz.prog 69 := Has.mk' Tryz.func69 (by kernel_rfl) (by kernel_rfl)
theorem hd70 : Has Tryz.prog 70 := Has.mk' Tryz.func70 (by kernel_rfl) (by kernel_rfl)
theorem hd71 : Has Tryz.prog 71 := Has.mk' Tryz.func71 (by kernel_rfl) (by kernel_rfl)
theorem hd72 : Has Tryz.prog 72 := Has.mk' Tryz.func72 (by kernel_rfl) (by kernel_rfl)
theorem hd73 : Has Tryz.prog 73 := Has.mk' Tryz.func73 (by kernel_rfl) (by kernel_rfl)
theorem hd74 : Has Tryz.prog 74 := Has.mk' Tryz.func74 (by kernel_rfl) (by kernel_rfl)
theorem hd75 : Has Tryz.prog 75 := Has.mk' Tryz.func75 (by kernel_rfl) (by kernel_rfl)
theorem hd76 : Has Tryz.prog 76 := Has.mk' Tryz.func76 (by kernel_rfl) (by kernel_rfl)
theorem hd77 : Has Tryz.prog 77 := Has.mk' Tryz.func77 (by kernel_rfl) (by kernel_rfl)
theorem hd78 : Has Tryz.prog 78 := Has.mk' Tryz.func78 (by kernel_rfl) (by kernel_rfl)
theorem hd79 : Has Tryz.prog 79 := Has.mk' Tryz.func79 (by kernel_rfl) (by kernel_rfl)
theorem hd80 : Has Tryz.prog 80 := Has.mk' Tryz.func80 (by kernel_rfl) (by kernel_rfl)
theorem hd81 : Has Tryz.prog 81 := Has.mk' Tryz.func81 (by kernel_rfl) (by kernel_rfl)
theorem hd82 : Has Tryz.prog 82 := Has.mk' Tryz.func82 (by kernel_rfl) (by kernel_rfl)
theorem hd83 : Has Tryz.prog 83 := Has.mk' Tryz.func83 (by kernel_rfl) (by kernel_rfl)
theorem hd84 : Has Tryz.prog 84 := Has.mk' Tryz.func84 (by kernel_rfl) (by kernel_rfl)
theorem hd85 : Has Tryz.prog 85 := Has.mk' Tryz.func85 (by kernel_rfl) (by kernel_rfl)
theorem hd86 : Has Tryz.prog 86 := Has.mk' Tryz.func86 (by kernel_rfl) (by kernel_rfl)
theorem hd87 : Has Tryz.prog 87 := Has.mk' Tryz.func87 (by kernel_rfl) (by kernel_rfl)
theorem hd88 : Has Tryz.prog 88 := Has.mk' Tryz.func88 (by kernel_rfl) (by kernel_rfl)
theorem hd89 : Has Tryz.prog 89 := Has.mk' Tryz.func89 (by kernel_rfl) (by kernel_rfl)
theorem hd90 : Has Tryz.prog 90 := Has.mk' Tryz.func90 (by kernel_rfl) (by kernel_rfl)
theorem hd91 : Has Tryz.prog 91 := Has.mk' Tryz.func91 (by kernel_rfl) (by kernel_rfl)
theorem hd92 : Has Tryz.prog 92 := Has.mk' Tryz.func92 (by kernel_rfl) (by kernel_rfl)
theorem hd93 : Has Tryz.prog 93 := Has.mk' Tryz.func93 (by kernel_rfl) (by kernel_rfl)
theorem hd94 : Has Tryz.prog 94 := Has.mk' Tryz.func94 (by kernel_rfl) (by kernel_rfl)
theorem hd95 : Has Tryz.prog 95 := Has.mk' Tryz.func95 (by kernel_rfl) (by kernel_rfl)
theorem hd96 : Has Tryz.prog 96 := Has.mk' Tryz.func96 (by kernel_rfl) (by kernel_rfl)
theorem hd97 : Has Tryz.prog 97 := Has.mk' Tryz.func97 (by kernel_rfl) (by kernel_rfl)
theorem hd98 : Has Tryz.prog 98 := Has.mk' Tryz.func98 (by kernel_rfl) (by kernel_rfl)
theorem hd99 : Has Tryz.prog 99 := Has.mk' Tryz.func99 (by kernel_rfl) (by kernel_rfl)
theorem hd100 : Has Tryz.prog 100 := Has.mk' Tryz.func100 (by kernel_rfl) (by kernel_rfl)
theorem hd101 : Has Tryz.prog 101 := Has.mk' Tryz.func101 (by kernel_rfl) (by kernel_rfl)
theorem hd103 : Has Tryz.prog 103 := Has.mk' Tryz.func103 (by kernel_rfl) (by kernel_rfl)
theorem hd128 : Has Tryz.prog 128 := Has.mk' Tryz.func128 (by kernel_rfl) (by kernel_rfl)
theorem mo : Tryz.prog.follows .mixedOrders = true := by kernel_rfl
end Go.Proofs.YtiggkfaonnnjoaaGreatDoor.Ty
