/- Facts of the types and functions of this seat's program, each by the kernel. -/
import Derived.Test.YtogidmceomlkeaaGreatDoorProg
import Derived.Test.YtogidmceomlkeaaGreatDoorSl8
namespace Go.Proofs.YtogidmceomlkeaaGreatDoor.Ty
open Go.Proofs.YtogidmceomlkeaaGreatDoor.SL
theorem ag2 : aggB Tryz.prog 2 = some false := by kernel_rfl
theorem sz2 : sizeB Tryz.prog 2 = some 1 := by kernel_rfl
theorem by2 : (Tryz.prog.info? 2).map (·.bytes) = some 8 := by kernel_rfl
theorem zr2 : zeroB Tryz.prog 2 = some (Value.int .i64 0) := by kernel_rfl
theorem ag3 : aggB Tryz.prog 3 = some false := by kernel_rfl
theorem sz3 : sizeB Tryz.prog 3 = some 1 := by kernel_rfl
theorem by3 : (Tryz.prog.info? 3).map (·.bytes) = some 8 := by kernel_rfl
theorem zr3 : zeroB Tryz.prog 3 = some (Value.int .i64 0) := by kernel_rfl
theorem ag4 : aggB Tryz.prog 4 = some false := by kernel_rfl
theorem sz4 : sizeB Tryz.prog 4 = some 1 := by kernel_rfl
theorem by4 : (Tryz.prog.info? 4).map (·.bytes) = some 1 := by kernel_rfl
theorem zr4 : zeroB Tryz.prog 4 = some (Value.bool false) := by kernel_rfl
theorem ag5 : aggB Tryz.prog 5 = some false := by kernel_rfl
theorem sz5 : sizeB Tryz.prog 5 = some 1 := by kernel_rfl
theorem by5 : (Tryz.prog.info? 5).map (·.bytes) = some 1 := by kernel_rfl
theorem zr5 : zeroB Tryz.prog 5 = some (Value.int .u8 0) := by kernel_rfl
theorem ag6 : aggB Tryz.prog 6 = some false := by kernel_rfl
theorem sz6 : sizeB Tryz.prog 6 = some 1 := by kernel_rfl
theorem by6 : (Tryz.prog.info? 6).map (·.bytes) = some 1 := by kernel_rfl
theorem zr6 : zeroB Tryz.prog 6 = some (Value.int .u8 0) := by kernel_rfl
theorem ag7 : aggB Tryz.prog 7 = some true := by kernel_rfl
theorem sz7 : sizeB Tryz.prog 7 = some 4 := by kernel_rfl
theorem by7 : (Tryz.prog.info? 7).map (·.bytes) = some 24 := by kernel_rfl
theorem zr7 : zeroB Tryz.prog 7 = some (Value.agg #[Value.int .i64 0, Value.int .i64 0, Value.bool false, Value.int .u8 0]) := by kernel_rfl
theorem ag8 : aggB Tryz.prog 8 = some true := by kernel_rfl
theorem sz8 : sizeB Tryz.prog 8 = some 4 := by kernel_rfl
theorem by8 : (Tryz.prog.info? 8).map (·.bytes) = some 24 := by kernel_rfl
theorem zr8 : zeroB Tryz.prog 8 = some (Value.agg #[Value.int .i64 0, Value.int .i64 0, Value.bool false, Value.int .u8 0]) := by kernel_rfl
theorem ag9 : aggB Tryz.prog 9 = some false := by kernel_rfl
theorem sz9 : sizeB Tryz.prog 9 = some 1 := by kernel_rfl
theorem by9 : (Tryz.prog.info? 9).map (·.bytes) = some 16 := by kernel_rfl
theorem zr9 : zeroB Tryz.prog 9 = some (str []) := by kernel_rfl
theorem ag10 : aggB Tryz.prog 10 = some false := by kernel_rfl
theorem sz10 : sizeB Tryz.prog 10 = some 1 := by kernel_rfl
theorem by10 : (Tryz.prog.info? 10).map (·.bytes) = some 16 := by kernel_rfl
theorem zr10 : zeroB Tryz.prog 10 = some (str []) := by kernel_rfl
theorem ag11 : aggB Tryz.prog 11 = some false := by kernel_rfl
theorem sz11 : sizeB Tryz.prog 11 = some 1 := by kernel_rfl
theorem by11 : (Tryz.prog.info? 11).map (·.bytes) = some 16 := by kernel_rfl
theorem zr11 : zeroB Tryz.prog 11 = some (str []) := by kernel_rfl
theorem ag12 : aggB Tryz.prog 12 = some false := by kernel_rfl
theorem sz12 : sizeB Tryz.prog 12 = some 1 := by kernel_rfl
theorem by12 : (Tryz.prog.info? 12).map (·.bytes) = some 8 := by kernel_rfl
theorem zr12 : zeroB Tryz.prog 12 = some (Value.int .u64 0) := by kernel_rfl
theorem ag13 : aggB Tryz.prog 13 = some true := by kernel_rfl
theorem sz13 : sizeB Tryz.prog 13 = some 2 := by kernel_rfl
theorem by13 : (Tryz.prog.info? 13).map (·.bytes) = some 24 := by kernel_rfl
theorem zr13 : zeroB Tryz.prog 13 = some (Value.agg #[str [], Value.int .u64 0]) := by kernel_rfl
theorem ag14 : aggB Tryz.prog 14 = some true := by kernel_rfl
theorem sz14 : sizeB Tryz.prog 14 = some 2 := by kernel_rfl
theorem by14 : (Tryz.prog.info? 14).map (·.bytes) = some 24 := by kernel_rfl
theorem zr14 : zeroB Tryz.prog 14 = some (Value.agg #[str [], Value.int .u64 0]) := by kernel_rfl
theorem ag15 : aggB Tryz.prog 15 = some false := by kernel_rfl
theorem sz15 : sizeB Tryz.prog 15 = some 1 := by kernel_rfl
theorem by15 : (Tryz.prog.info? 15).map (·.bytes) = some 8 := by kernel_rfl
theorem zr15 : zeroB Tryz.prog 15 = some (Value.pointer none) := by kernel_rfl
theorem ag16 : aggB Tryz.prog 16 = some false := by kernel_rfl
theorem sz16 : sizeB Tryz.prog 16 = some 1 := by kernel_rfl
theorem by16 : (Tryz.prog.info? 16).map (·.bytes) = some 8 := by kernel_rfl
theorem zr16 : zeroB Tryz.prog 16 = some (Value.pointer none) := by kernel_rfl
theorem ag17 : aggB Tryz.prog 17 = some false := by kernel_rfl
theorem sz17 : sizeB Tryz.prog 17 = some 1 := by kernel_rfl
theorem by17 : (Tryz.prog.info? 17).map (·.bytes) = some 8 := by kernel_rfl
theorem zr17 : zeroB Tryz.prog 17 = some (Value.pointer none) := by kernel_rfl
theorem ag18 : aggB Tryz.prog 18 = some true := by kernel_rfl
theorem sz18 : sizeB Tryz.prog 18 = some 1 := by kernel_rfl
theorem by18 : (Tryz.prog.info? 18).map (·.bytes) = some 8 := by kernel_rfl
theorem zr18 : zeroB Tryz.prog 18 = some (Value.agg #[Value.pointer none]) := by kernel_rfl
theorem ag19 : aggB Tryz.prog 19 = some true := by kernel_rfl
theorem sz19 : sizeB Tryz.prog 19 = some 1 := by kernel_rfl
theorem by19 : (Tryz.prog.info? 19).map (·.bytes) = some 8 := by kernel_rfl
theorem zr19 : zeroB Tryz.prog 19 = some (Value.agg #[Value.pointer none]) := by kernel_rfl
theorem ag21 : aggB Tryz.prog 21 = some false := by kernel_rfl
theorem sz21 : sizeB Tryz.prog 21 = some 1 := by kernel_rfl
theorem by21 : (Tryz.prog.info? 21).map (·.bytes) = some 4 := by kernel_rfl
theorem zr21 : zeroB Tryz.prog 21 = some (Value.int .i32 0) := by kernel_rfl
theorem ag22 : aggB Tryz.prog 22 = some false := by kernel_rfl
theorem sz22 : sizeB Tryz.prog 22 = some 1 := by kernel_rfl
theorem by22 : (Tryz.prog.info? 22).map (·.bytes) = some 24 := by kernel_rfl
theorem zr22 : zeroB Tryz.prog 22 = some (Value.slice none 0 0) := by kernel_rfl
theorem ag27 : aggB Tryz.prog 27 = some false := by kernel_rfl
theorem sz27 : sizeB Tryz.prog 27 = some 1 := by kernel_rfl
theorem by27 : (Tryz.prog.info? 27).map (·.bytes) = some 24 := by kernel_rfl
theorem zr27 : zeroB Tryz.prog 27 = some (Value.slice none 0 0) := by kernel_rfl
theorem ag28 : aggB Tryz.prog 28 = some false := by kernel_rfl
theorem sz28 : sizeB Tryz.prog 28 = some 1 := by kernel_rfl
theorem by28 : (Tryz.prog.info? 28).map (·.bytes) = some 24 := by kernel_rfl
theorem zr28 : zeroB Tryz.prog 28 = some (Value.slice none 0 0) := by kernel_rfl
theorem ag29 : aggB Tryz.prog 29 = some false := by kernel_rfl
theorem sz29 : sizeB Tryz.prog 29 = some 1 := by kernel_rfl
theorem by29 : (Tryz.prog.info? 29).map (·.bytes) = some 24 := by kernel_rfl
theorem zr29 : zeroB Tryz.prog 29 = some (Value.slice none 0 0) := by kernel_rfl
theorem ag30 : aggB Tryz.prog 30 = some false := by kernel_rfl
theorem sz30 : sizeB Tryz.prog 30 = some 1 := by kernel_rfl
theorem by30 : (Tryz.prog.info? 30).map (·.bytes) = some 8 := by kernel_rfl
theorem zr30 : zeroB Tryz.prog 30 = some (Value.pointer none) := by kernel_rfl
theorem ag34 : aggB Tryz.prog 34 = some true := by kernel_rfl
theorem sz34 : sizeB Tryz.prog 34 = some 2 := by kernel_rfl
theorem by34 : (Tryz.prog.info? 34).map (·.bytes) = some 32 := by kernel_rfl
theorem zr34 : zeroB Tryz.prog 34 = some (Value.agg #[str [], str []]) := by kernel_rfl
theorem ag35 : aggB Tryz.prog 35 = some true := by kernel_rfl
theorem sz35 : sizeB Tryz.prog 35 = some 2 := by kernel_rfl
theorem by35 : (Tryz.prog.info? 35).map (·.bytes) = some 32 := by kernel_rfl
theorem zr35 : zeroB Tryz.prog 35 = some (Value.agg #[str [], str []]) := by kernel_rfl
theorem ag36 : aggB Tryz.prog 36 = some true := by kernel_rfl
theorem sz36 : sizeB Tryz.prog 36 = some 3 := by kernel_rfl
theorem by36 : (Tryz.prog.info? 36).map (·.bytes) = some 40 := by kernel_rfl
theorem zr36 : zeroB Tryz.prog 36 = some (Value.agg #[Value.int .i64 0, str [], str []]) := by kernel_rfl
theorem ag37 : aggB Tryz.prog 37 = some true := by kernel_rfl
theorem sz37 : sizeB Tryz.prog 37 = some 3 := by kernel_rfl
theorem by37 : (Tryz.prog.info? 37).map (·.bytes) = some 40 := by kernel_rfl
theorem zr37 : zeroB Tryz.prog 37 = some (Value.agg #[Value.int .i64 0, str [], str []]) := by kernel_rfl
theorem ag43 : aggB Tryz.prog 43 = some true := by kernel_rfl
theorem sz43 : sizeB Tryz.prog 43 = some 0 := by kernel_rfl
theorem by43 : (Tryz.prog.info? 43).map (·.bytes) = some 0 := by kernel_rfl
theorem zr43 : zeroB Tryz.prog 43 = some (Value.agg #[]) := by kernel_rfl
theorem ag44 : aggB Tryz.prog 44 = some true := by kernel_rfl
theorem sz44 : sizeB Tryz.prog 44 = some 0 := by kernel_rfl
theorem by44 : (Tryz.prog.info? 44).map (·.bytes) = some 0 := by kernel_rfl
theorem zr44 : zeroB Tryz.prog 44 = some (Value.agg #[]) := by kernel_rfl
theorem ag45 : aggB Tryz.prog 45 = some true := by kernel_rfl
theorem sz45 : sizeB Tryz.prog 45 = some 0 := by kernel_rfl
theorem by45 : (Tryz.prog.info? 45).map (·.bytes) = some 0 := by kernel_rfl
theorem zr45 : zeroB Tryz.prog 45 = some (Value.agg #[]) := by kernel_rfl
theorem ag46 : aggB Tryz.prog 46 = some false := by kernel_rfl
theorem sz46 : sizeB Tryz.prog 46 = some 1 := by kernel_rfl
theorem by46 : (Tryz.prog.info? 46).map (·.bytes) = some 4 := by kernel_rfl
theorem zr46 : zeroB Tryz.prog 46 = some (Value.int .u32 0) := by kernel_rfl
theorem ag47 : aggB Tryz.prog 47 = some true := by kernel_rfl
theorem sz47 : sizeB Tryz.prog 47 = some 1 := by kernel_rfl
theorem by47 : (Tryz.prog.info? 47).map (·.bytes) = some 4 := by kernel_rfl
theorem zr47 : zeroB Tryz.prog 47 = some (Value.agg #[Value.int .u32 0]) := by kernel_rfl
theorem ag48 : aggB Tryz.prog 48 = some true := by kernel_rfl
theorem sz48 : sizeB Tryz.prog 48 = some 1 := by kernel_rfl
theorem by48 : (Tryz.prog.info? 48).map (·.bytes) = some 4 := by kernel_rfl
theorem zr48 : zeroB Tryz.prog 48 = some (Value.agg #[Value.int .u32 0]) := by kernel_rfl
theorem ag49 : aggB Tryz.prog 49 = some true := by kernel_rfl
theorem sz49 : sizeB Tryz.prog 49 = some 2 := by kernel_rfl
theorem by49 : (Tryz.prog.info? 49).map (·.bytes) = some 8 := by kernel_rfl
theorem zr49 : zeroB Tryz.prog 49 = some (Value.agg #[Value.int .i32 0, Value.int .u32 0]) := by kernel_rfl
theorem ag50 : aggB Tryz.prog 50 = some true := by kernel_rfl
theorem sz50 : sizeB Tryz.prog 50 = some 2 := by kernel_rfl
theorem by50 : (Tryz.prog.info? 50).map (·.bytes) = some 8 := by kernel_rfl
theorem zr50 : zeroB Tryz.prog 50 = some (Value.agg #[Value.int .i32 0, Value.int .u32 0]) := by kernel_rfl
theorem ag51 : aggB Tryz.prog 51 = some true := by kernel_rfl
theorem sz51 : sizeB Tryz.prog 51 = some 2 := by kernel_rfl
theorem by51 : (Tryz.prog.info? 51).map (·.bytes) = some 8 := by kernel_rfl
theorem zr51 : zeroB Tryz.prog 51 = some (Value.agg #[Value.int .i32 0, Value.int .u32 0]) := by kernel_rfl
theorem ag52 : aggB Tryz.prog 52 = some true := by kernel_rfl
theorem sz52 : sizeB Tryz.prog 52 = some 2 := by kernel_rfl
theorem by52 : (Tryz.prog.info? 52).map (·.bytes) = some 8 := by kernel_rfl
theorem zr52 : zeroB Tryz.prog 52 = some (Value.agg #[Value.int .i32 0, Value.int .u32 0]) := by kernel_rfl
theorem ag53 : aggB Tryz.prog 53 = some true := by kernel_rfl
theorem sz53 : sizeB Tryz.prog 53 = some 3 := by kernel_rfl
theorem by53 : (Tryz.prog.info? 53).map (·.bytes) = some 12 := by kernel_rfl
theorem zr53 : zeroB Tryz.prog 53 = some (Value.agg #[Value.int .u32 0, Value.int .i32 0, Value.int .u32 0]) := by kernel_rfl
theorem ag54 : aggB Tryz.prog 54 = some true := by kernel_rfl
theorem sz54 : sizeB Tryz.prog 54 = some 3 := by kernel_rfl
theorem by54 : (Tryz.prog.info? 54).map (·.bytes) = some 12 := by kernel_rfl
theorem zr54 : zeroB Tryz.prog 54 = some (Value.agg #[Value.int .u32 0, Value.int .i32 0, Value.int .u32 0]) := by kernel_rfl
theorem ag55 : aggB Tryz.prog 55 = some false := by kernel_rfl
theorem sz55 : sizeB Tryz.prog 55 = some 1 := by kernel_rfl
theorem by55 : (Tryz.prog.info? 55).map (·.bytes) = some 8 := by kernel_rfl
theorem zr55 : zeroB Tryz.prog 55 = some (Value.map none) := by kernel_rfl
theorem ag56 : aggB Tryz.prog 56 = some true := by kernel_rfl
theorem sz56 : sizeB Tryz.prog 56 = some 5 := by kernel_rfl
theorem by56 : (Tryz.prog.info? 56).map (·.bytes) = some 48 := by kernel_rfl
theorem zr56 : zeroB Tryz.prog 56 = some (Value.agg #[Value.slice none 0 0, Value.int .u32 0, Value.int .i32 0, Value.int .u32 0, Value.map none]) := by kernel_rfl
theorem ag57 : aggB Tryz.prog 57 = some true := by kernel_rfl
theorem sz57 : sizeB Tryz.prog 57 = some 5 := by kernel_rfl
theorem by57 : (Tryz.prog.info? 57).map (·.bytes) = some 48 := by kernel_rfl
theorem zr57 : zeroB Tryz.prog 57 = some (Value.agg #[Value.slice none 0 0, Value.int .u32 0, Value.int .i32 0, Value.int .u32 0, Value.map none]) := by kernel_rfl
theorem ag62 : aggB Tryz.prog 62 = some false := by kernel_rfl
theorem sz62 : sizeB Tryz.prog 62 = some 1 := by kernel_rfl
theorem by62 : (Tryz.prog.info? 62).map (·.bytes) = some 8 := by kernel_rfl
theorem zr62 : zeroB Tryz.prog 62 = some (Value.int .i64 0) := by kernel_rfl
theorem ag68 : aggB Tryz.prog 68 = some false := by kernel_rfl
theorem sz68 : sizeB Tryz.prog 68 = some 1 := by kernel_rfl
theorem by68 : (Tryz.prog.info? 68).map (·.bytes) = some 8 := by kernel_rfl
theorem zr68 : zeroB Tryz.prog 68 = some (Value.pointer none) := by kernel_rfl
theorem ag72 : aggB Tryz.prog 72 = some false := by kernel_rfl
theorem sz72 : sizeB Tryz.prog 72 = some 1 := by kernel_rfl
theorem by72 : (Tryz.prog.info? 72).map (·.bytes) = some 8 := by kernel_rfl
theorem zr72 : zeroB Tryz.prog 72 = some (Value.pointer none) := by kernel_rfl
theorem ag74 : aggB Tryz.prog 74 = some false := by kernel_rfl
theorem sz74 : sizeB Tryz.prog 74 = some 1 := by kernel_rfl
theorem by74 : (Tryz.prog.info? 74).map (·.bytes) = some 8 := by kernel_rfl
theorem zr74 : zeroB Tryz.prog 74 = some (Value.pointer none) := by kernel_rfl
theorem ag78 : aggB Tryz.prog 78 = some false := by kernel_rfl
theorem sz78 : sizeB Tryz.prog 78 = some 1 := by kernel_rfl
theorem by78 : (Tryz.prog.info? 78).map (·.bytes) = some 8 := by kernel_rfl
theorem zr78 : zeroB Tryz.prog 78 = some (Value.int .u64 0) := by kernel_rfl
theorem ag80 : aggB Tryz.prog 80 = some false := by kernel_rfl
theorem sz80 : sizeB Tryz.prog 80 = some 1 := by kernel_rfl
theorem by80 : (Tryz.prog.info? 80).map (·.bytes) = some 8 := by kernel_rfl
theorem zr80 : zeroB Tryz.prog 80 = some (Value.pointer none) := by kernel_rfl
theorem ag84 : aggB Tryz.prog 84 = some false := by kernel_rfl
theorem sz84 : sizeB Tryz.prog 84 = some 1 := by kernel_rfl
theorem by84 : (Tryz.prog.info? 84).map (·.bytes) = some 8 := by kernel_rfl
theorem zr84 : zeroB Tryz.prog 84 = some (Value.int .i64 0) := by kernel_rfl
theorem ag94 : aggB Tryz.prog 94 = some false := by kernel_rfl
theorem sz94 : sizeB Tryz.prog 94 = some 1 := by kernel_rfl
theorem by94 : (Tryz.prog.info? 94).map (·.bytes) = some 8 := by kernel_rfl
theorem zr94 : zeroB Tryz.prog 94 = some (Value.int .u64 0) := by kernel_rfl
theorem ag95 : aggB Tryz.prog 95 = some false := by kernel_rfl
theorem sz95 : sizeB Tryz.prog 95 = some 1 := by kernel_rfl
theorem by95 : (Tryz.prog.info? 95).map (·.bytes) = some 8 := by kernel_rfl
theorem zr95 : zeroB Tryz.prog 95 = some (Value.pointer none) := by kernel_rfl
theorem ag97 : aggB Tryz.prog 97 = some false := by kernel_rfl
theorem sz97 : sizeB Tryz.prog 97 = some 1 := by kernel_rfl
theorem by97 : (Tryz.prog.info? 97).map (·.bytes) = some 8 := by kernel_rfl
theorem zr97 : zeroB Tryz.prog 97 = some (Value.pointer none) := by kernel_rfl
theorem ag99 : aggB Tryz.prog 99 = some false := by kernel_rfl
theorem sz99 : sizeB Tryz.prog 99 = some 1 := by kernel_rfl
theorem by99 : (Tryz.prog.info? 99).map (·.bytes) = some 8 := by kernel_rfl
theorem zr99 : zeroB Tryz.prog 99 = some (Value.pointer none) := by kernel_rfl
theorem ag102 : aggB Tryz.prog 102 = some false := by kernel_rfl
theorem sz102 : sizeB Tryz.prog 102 = some 1 := by kernel_rfl
theorem by102 : (Tryz.prog.info? 102).map (·.bytes) = some 8 := by kernel_rfl
theorem zr102 : zeroB Tryz.prog 102 = some (Value.int .u64 0) := by kernel_rfl
theorem ag106 : aggB Tryz.prog 106 = some false := by kernel_rfl
theorem sz106 : sizeB Tryz.prog 106 = some 1 := by kernel_rfl
theorem by106 : (Tryz.prog.info? 106).map (·.bytes) = some 8 := by kernel_rfl
theorem zr106 : zeroB Tryz.prog 106 = some (Value.pointer none) := by kernel_rfl
theorem ag113 : aggB Tryz.prog 113 = some false := by kernel_rfl
theorem sz113 : sizeB Tryz.prog 113 = some 1 := by kernel_rfl
theorem by113 : (Tryz.prog.info? 113).map (·.bytes) = some 8 := by kernel_rfl
theorem zr113 : zeroB Tryz.prog 113 = some (Value.pointer none) := by kernel_rfl
theorem ag117 : aggB Tryz.prog 117 = some true := by kernel_rfl
theorem sz117 : sizeB Tryz.prog 117 = some 256 := by kernel_rfl
theorem by117 : (Tryz.prog.info? 117).map (·.bytes) = some 256 := by kernel_rfl
theorem ag118 : aggB Tryz.prog 118 = some true := by kernel_rfl
theorem sz118 : sizeB Tryz.prog 118 = some 256 := by kernel_rfl
theorem by118 : (Tryz.prog.info? 118).map (·.bytes) = some 256 := by kernel_rfl
theorem ag122 : aggB Tryz.prog 122 = some false := by kernel_rfl
theorem sz122 : sizeB Tryz.prog 122 = some 1 := by kernel_rfl
theorem by122 : (Tryz.prog.info? 122).map (·.bytes) = some 8 := by kernel_rfl
theorem zr122 : zeroB Tryz.prog 122 = some (Value.pointer none) := by kernel_rfl
theorem ag128 : aggB Tryz.prog 128 = some true := by kernel_rfl
theorem sz128 : sizeB Tryz.prog 128 = some 256 := by kernel_rfl
theorem by128 : (Tryz.prog.info? 128).map (·.bytes) = some 256 := by kernel_rfl
theorem ag129 : aggB Tryz.prog 129 = some true := by kernel_rfl
theorem sz129 : sizeB Tryz.prog 129 = some 2 := by kernel_rfl
theorem by129 : (Tryz.prog.info? 129).map (·.bytes) = some 2 := by kernel_rfl
theorem zr129 : zeroB Tryz.prog 129 = some (Value.agg #[Value.int .u8 0, Value.int .u8 0]) := by kernel_rfl
theorem ag130 : aggB Tryz.prog 130 = some true := by kernel_rfl
theorem sz130 : sizeB Tryz.prog 130 = some 2 := by kernel_rfl
theorem by130 : (Tryz.prog.info? 130).map (·.bytes) = some 2 := by kernel_rfl
theorem zr130 : zeroB Tryz.prog 130 = some (Value.agg #[Value.int .u8 0, Value.int .u8 0]) := by kernel_rfl
theorem ag131 : aggB Tryz.prog 131 = some true := by kernel_rfl
theorem sz131 : sizeB Tryz.prog 131 = some 32 := by kernel_rfl
theorem by131 : (Tryz.prog.info? 131).map (·.bytes) = some 32 := by kernel_rfl
theorem zr131 : zeroB Tryz.prog 131 = some (Value.agg #[Value.int .u8 0, Value.int .u8 0, Value.int .u8 0, Value.int .u8 0, Value.int .u8 0, Value.int .u8 0, Value.int .u8 0, Value.int .u8 0, Value.int .u8 0, Value.int .u8 0, Value.int .u8 0, Value.int .u8 0, Value.int .u8 0, Value.int .u8 0, Value.int .u8 0, Value.int .u8 0, Value.int .u8 0, Value.int .u8 0, Value.int .u8 0, Value.int .u8 0, Value.int .u8 0, Value.int .u8 0, Value.int .u8 0, Value.int .u8 0, Value.int .u8 0, Value.int .u8 0, Value.int .u8 0, Value.int .u8 0, Value.int .u8 0, Value.int .u8 0, Value.int .u8 0, Value.int .u8 0]) := by kernel_rfl
theorem ag137 : aggB Tryz.prog 137 = some true := by kernel_rfl
theorem sz137 : sizeB Tryz.prog 137 = some 4 := by kernel_rfl
theorem by137 : (Tryz.prog.info? 137).map (·.bytes) = some 40 := by kernel_rfl
theorem zr137 : zeroB Tryz.prog 137 = some (Value.agg #[Value.pointer none, Value.pointer none, Value.pointer none, str []]) := by kernel_rfl
theorem ag138 : aggB Tryz.prog 138 = some true := by kernel_rfl
theorem sz138 : sizeB Tryz.prog 138 = some 4 := by kernel_rfl
theorem by138 : (Tryz.prog.info? 138).map (·.bytes) = some 40 := by kernel_rfl
theorem zr138 : zeroB Tryz.prog 138 = some (Value.agg #[Value.pointer none, Value.pointer none, Value.pointer none, str []]) := by kernel_rfl
theorem ag139 : aggB Tryz.prog 139 = some true := by kernel_rfl
theorem sz139 : sizeB Tryz.prog 139 = some 0 := by kernel_rfl
theorem by139 : (Tryz.prog.info? 139).map (·.bytes) = some 0 := by kernel_rfl
theorem zr139 : zeroB Tryz.prog 139 = some (Value.agg #[]) := by kernel_rfl
theorem ag140 : aggB Tryz.prog 140 = some true := by kernel_rfl
theorem sz140 : sizeB Tryz.prog 140 = some 0 := by kernel_rfl
theorem by140 : (Tryz.prog.info? 140).map (·.bytes) = some 0 := by kernel_rfl
theorem zr140 : zeroB Tryz.prog 140 = some (Value.agg #[]) := by kernel_rfl
theorem ag141 : aggB Tryz.prog 141 = some true := by kernel_rfl
theorem sz141 : sizeB Tryz.prog 141 = some 0 := by kernel_rfl
theorem by141 : (Tryz.prog.info? 141).map (·.bytes) = some 0 := by kernel_rfl
theorem zr141 : zeroB Tryz.prog 141 = some (Value.agg #[]) := by kernel_rfl
theorem ag143 : aggB Tryz.prog 143 = some false := by kernel_rfl
theorem sz143 : sizeB Tryz.prog 143 = some 1 := by kernel_rfl
theorem by143 : (Tryz.prog.info? 143).map (·.bytes) = some 1 := by kernel_rfl
theorem zr143 : zeroB Tryz.prog 143 = some (Value.int .u8 0) := by kernel_rfl
theorem ag144 : aggB Tryz.prog 144 = some false := by kernel_rfl
theorem sz144 : sizeB Tryz.prog 144 = some 1 := by kernel_rfl
theorem by144 : (Tryz.prog.info? 144).map (·.bytes) = some 1 := by kernel_rfl
theorem zr144 : zeroB Tryz.prog 144 = some (Value.int .u8 0) := by kernel_rfl
theorem ag146 : aggB Tryz.prog 146 = some false := by kernel_rfl
theorem sz146 : sizeB Tryz.prog 146 = some 1 := by kernel_rfl
theorem by146 : (Tryz.prog.info? 146).map (·.bytes) = some 8 := by kernel_rfl
theorem zr146 : zeroB Tryz.prog 146 = some (Value.pointer none) := by kernel_rfl
theorem ag147 : aggB Tryz.prog 147 = some false := by kernel_rfl
theorem sz147 : sizeB Tryz.prog 147 = some 1 := by kernel_rfl
theorem by147 : (Tryz.prog.info? 147).map (·.bytes) = some 4 := by kernel_rfl
theorem zr147 : zeroB Tryz.prog 147 = some (Value.int .i32 0) := by kernel_rfl
theorem ag148 : aggB Tryz.prog 148 = some false := by kernel_rfl
theorem sz148 : sizeB Tryz.prog 148 = some 1 := by kernel_rfl
theorem by148 : (Tryz.prog.info? 148).map (·.bytes) = some 4 := by kernel_rfl
theorem zr148 : zeroB Tryz.prog 148 = some (Value.int .i32 0) := by kernel_rfl
theorem ag149 : aggB Tryz.prog 149 = some true := by kernel_rfl
theorem sz149 : sizeB Tryz.prog 149 = some 11 := by kernel_rfl
theorem by149 : (Tryz.prog.info? 149).map (·.bytes) = some 48 := by kernel_rfl
theorem zr149 : zeroB Tryz.prog 149 = some (Value.agg #[Value.int .u64 0, Value.int .u64 0, Value.int .u32 0, Value.int .u8 0, Value.int .u8 0, Value.int .u8 0, Value.int .u8 0, Value.nilFunc, Value.pointer none, Value.int .i32 0, Value.int .i32 0]) := by kernel_rfl
theorem ag150 : aggB Tryz.prog 150 = some true := by kernel_rfl
theorem sz150 : sizeB Tryz.prog 150 = some 11 := by kernel_rfl
theorem by150 : (Tryz.prog.info? 150).map (·.bytes) = some 48 := by kernel_rfl
theorem zr150 : zeroB Tryz.prog 150 = some (Value.agg #[Value.int .u64 0, Value.int .u64 0, Value.int .u32 0, Value.int .u8 0, Value.int .u8 0, Value.int .u8 0, Value.int .u8 0, Value.nilFunc, Value.pointer none, Value.int .i32 0, Value.int .i32 0]) := by kernel_rfl
theorem hd2 : Has Tryz.prog 2 := Has.mk' Tryz.func2 (by kernel_rfl) (by kernel_rfl)
theorem hd3 : Has Tryz.prog 3 := Has.mk' Tryz.func3 (by kernel_rfl) (by kernel_rfl)
theorem hd4 : Has Tryz.prog 4 := Has.mk' Tryz.func4 (by kernel_rfl) (by kernel_rfl)
theorem hd5 : Has Tryz.prog 5 := Has.mk' Tryz.func5 (by kernel_rfl) (by kernel_rfl)
theorem hd6 : Has Tryz.prog 6 := Has.mk' Tryz.func6 (by kernel_rfl) (by kernel_rfl)
theorem hd7 : Has Tryz.prog 7 := Has.mk' Tryz.func7 (by kernel_rfl) (by kernel_rfl)
theorem hd8 : Has Tryz.prog 8 := Has.mk' Tryz.func8 (by kernel_rfl) (by kernel_rfl)
theorem hd9 : Has Tryz.prog 9 := Has.mk' Tryz.func9 (by kernel_rfl) (by kernel_rfl)
theorem hd10 : Has Tryz.prog 10 := Has.mk' Tryz.func10 (by kernel_rfl) (by kernel_rfl)
theorem hd11 : Has Tryz.prog 11 := Has.mk' Tryz.func11 (by kernel_rfl) (by kernel_rfl)
theorem hd12 : Has Tryz.prog 12 := Has.mk' Tryz.func12 (by kernel_rfl) (by kernel_rfl)
theorem hd13 : Has Tryz.prog 13 := Has.mk' Tryz.func13 (by kernel_rfl) (by kernel_rfl)
theorem hd14 : Has Tryz.prog 14 := Has.mk' Tryz.func14 (by kernel_rfl) (by kernel_rfl)
theorem hd15 : Has Tryz.prog 15 := Has.mk' Tryz.func15 (by kernel_rfl) (by kernel_rfl)
theorem hd16 : Has Tryz.prog 16 := Has.mk' Tryz.func16 (by kernel_rfl) (by kernel_rfl)
theorem hd17 : Has Tryz.prog 17 := Has.mk' Tryz.func17 (by kernel_rfl) (by kernel_rfl)
theorem hd18 : Has Tryz.prog 18 := Has.mk' Tryz.func18 (by kernel_rfl) (by kernel_rfl)
theorem hd19 : Has Tryz.prog 19 := Has.mk' Tryz.func19 (by kernel_rfl) (by kernel_rfl)
theorem hd20 : Has Tryz.prog 20 := Has.mk' Tryz.func20 (by kernel_rfl) (by kernel_rfl)
theorem hd21 : Has Tryz.prog 21 := Has.mk' Tryz.func21 (by kernel_rfl) (by kernel_rfl)
theorem hd22 : Has Tryz.prog 22 := Has.mk' Tryz.func22 (by kernel_rfl) (by kernel_rfl)
theorem hd23 : Has Tryz.prog 23 := Has.mk' Tryz.func23 (by kernel_rfl) (by kernel_rfl)
theorem hd24 : Has Tryz.prog 24 := Has.mk' Tryz.func24 (by kernel_rfl) (by kernel_rfl)
theorem hd25 : Has Tryz.prog 25 := Has.mk' Tryz.func25 (by kernel_rfl) (by kernel_rfl)
theorem hd26 : Has Tryz.prog 26 := Has.mk' Tryz.func26 (by kernel_rfl) (by kernel_rfl)
theorem hd27 : Has Tryz.prog 27 := Has.mk' Tryz.func27 (by kernel_rfl) (by kernel_rfl)
theorem hd28 : Has Tryz.prog 28 := Has.mk' Tryz.func28 (by kernel_rfl) (by kernel_rfl)
theorem hd29 : Has Tryz.prog 29 := Has.mk' Tryz.func29 (by kernel_rfl) (by kernel_rfl)
theorem hd30 : Has Tryz.prog 30 := Has.mk' Tryz.func30 (by kernel_rfl) (by kernel_rfl)
theorem hd31 : Has Tryz.prog 31 := Has.mk' Tryz.func31 (by kernel_rfl) (by kernel_rfl)
theorem hd32 : Has Tryz.prog 32 := Has.mk' Tryz.func32 (by kernel_rfl) (by kernel_rfl)
theorem hd33 : Has Tryz.prog 33 := Has.mk' Tryz.func33 (by kernel_rfl) (by kernel_rfl)
theorem hd34 : Has Tryz.prog 34 := Has.mk' Tryz.func34 (by kernel_rfl) (by kernel_rfl)
theorem hd35 : Has Tryz.prog 35 := Has.mk' Tryz.func35 (by kernel_rfl) (by kernel_rfl)
theorem hd36 : Has Tryz.prog 36 := Has.mk' Tryz.func36 (by kernel_rfl) (by kernel_rfl)
theorem hd37 : Has Tryz.prog 37 := Has.mk' Tryz.func37 (by kernel_rfl) (by kernel_rfl)
theorem hd38 : Has Tryz.prog 38 := Has.mk' Tryz.func38 (by kernel_rfl) (by kernel_rfl)
theorem hd39 : Has Tryz.prog 39 := Has.mk' Tryz.func39 (by kernel_rfl) (by kernel_rfl)
theorem hd40 : Has Tryz.prog 40 := Has.mk' Tryz.func40 (by kernel_rfl) (by kernel_rfl)
theorem hd41 : Has Tryz.prog 41 := Has.mk' Tryz.func41 (by kernel_rfl) (by kernel_rfl)
theorem hd42 : Has Tryz.prog 42 := Has.mk' Tryz.func42 (by kernel_rfl) (by kernel_rfl)
theorem hd44 : Has Tryz.prog 44 := Has.mk' Tryz.func44 (by kernel_rfl) (by kernel_rfl)
theorem hd45 : Has Tryz.prog 45 := Has.mk' Tryz.func45 (by kernel_rfl) (by kernel_rfl)
theorem hd46 : Has Tryz.prog 46 := Has.mk' Tryz.func46 (by kernel_rfl) (by kernel_rfl)
theorem hd47 : Has Tryz.prog 47 := Has.mk' Tryz.func47 (by kernel_rfl) (by kernel_rfl)
theorem hd48 : Has Tryz.prog 48 := Has.mk' Tryz.func48 (by kernel_rfl) (by kernel_rfl)
theorem hd49 : Has Tryz.prog 49 := Has.mk' Tryz.func49 (by kernel_rfl) (by kernel_rfl)
theorem hd50 : Has Tryz.prog 50 := Has.mk' Tryz.func50 (by kernel_rfl) (by kernel_rfl)
theorem hd51 : Has Tryz.prog 51 := Has.mk' Tryz.func51 (by kernel_rfl) (by kernel_rfl)
theorem hd52 : Has Tryz.prog 52 := Has.mk' Tryz.func52 (by kernel_rfl) (by kernel_rfl)
theorem hd53 : Has Tryz.prog 53 := Has.mk' Tryz.func53 (by kernel_rfl) (by kernel_rfl)
theorem hd54 : Has Tryz.prog 54 := Has.mk' Tryz.func54 (by kernel_rfl) (by kernel_rfl)
theorem hd56 : Has Tryz.prog 56 := Has.mk' Tryz.func56 (by kernel_rfl) (by kernel_rfl)
theorem hd57 : Has Tryz.prog 57 := Has.mk' Tryz.func57 (by kernel_rfl) (by kernel_rfl)
theorem hd58 : Has Tryz.prog 58 := Has.mk' Tryz.func58 (by kernel_rfl) (by kernel_rfl)
theorem hd59 : Has Tryz.prog 59 := Has.mk' Tryz.func59 (by kernel_rfl) (by kernel_rfl)
theorem hd60 : Has Tryz.prog 60 := Has.mk' Tryz.func60 (by kernel_rfl) (by kernel_rfl)
theorem hd61 : Has Tryz.prog 61 := Has.mk' Tryz.func61 (by kernel_rfl) (by kernel_rfl)
theorem hd62 : Has Tryz.prog 62 := Has.mk' Tryz.func62 (by kernel_rfl) (by kernel_rfl)
theorem hd63 : Has Tryz.prog 63 := Has.mk' Tryz.func63 (by kernel_rfl) (by kernel_rfl)
theorem hd64 : Has Tryz.prog 64 := Has.mk' Tryz.func64 (by kernel_rfl) (by kernel_rfl)
theorem hd65 : Has Tryz.prog 65 := Has.mk' Tryz.func65 (by kernel_rfl) (by kernel_rfl)
theorem hd66 : Has Tryz.prog 66 := Has.mk' Tryz.func66 (by kernel_rfl) (by kernel_rfl)
theorem hd67 : Has Tryz.prog 67 := Has.mk' Tryz.func67 (by kernel_rfl) (by kernel_rfl)
theorem hd68 : Has Tryz.prog 68 := Has.mk' Tryz.func68 (by kernel_rfl) (by kernel_rfl)
theorem hd69 : Has Tryz.prog 69 := Has.mk' Tryz.func69 (by kernel_rfl) (by kernel_rfl)
theorem hd74 : Has Tryz.prog 74 := Has.mk' Tryz.func74 (by kernel_rfl) (by kernel_rfl)
theorem hd77 : Has Tryz.prog 77 := Has.mk' Tryz.func77 (by kernel_rfl) (by kernel_rfl)
theorem hd78 : Has Tryz.prog 78 := Has.mk' Tryz.func78 (by kernel_rfl) (by kernel_rfl)
theorem hd79 : Has Tryz.prog 79 := Has.mk' Tryz.func79 (by kernel_rfl) (by kernel_rfl)
theorem hd80 : Has Tryz.prog 80 := Has.mk' Tryz.func80 (by kernel_rfl) (by kernel_rfl)
theorem hd81 : Has Tryz.prog 81 := Has.mk' Tryz.func81 (by kernel_rfl) (by kernel_rfl)
theorem hd82 : Has Tryz.prog 82 := Has.mk' Tryz.func82 (by kernel_rfl) (by kernel_rfl)
theorem hd83 : Has Tryz.prog 83 := Has.mk' Tryz.func83 (by kernel_rfl) (by kernel_rfl)
theorem hd84 : Has Tryz.prog 84 := Has.mk' Tryz.func84 (by kernel_rfl) (by kernel_rfl)
theorem hd92 : Has Tryz.prog 92 := Has.mk' Tryz.func92 (by kernel_rfl) (by kernel_rfl)
theorem hd93 : Has Tryz.prog 93 := Has.mk' Tryz.func93 (by kernel_rfl) (by kernel_rfl)
theorem hd94 : Has Tryz.prog 94 := Has.mk' Tryz.func94 (by kernel_rfl) (by kernel_rfl)
theorem hd95 : Has Tryz.prog 95 := Has.mk' Tryz.func95 (by kernel_rfl) (by kernel_rfl)
theorem hd96 : Has Tryz.prog 96 := Has.mk' Tryz.func96 (by kernel_rfl) (by kernel_rfl)
theorem hd97 : Has Tryz.prog 97 := Has.mk' Tryz.func97 (by kernel_rfl) (by kernel_rfl)
theorem hd98 : Has Tryz.prog 98 := Has.mk' Tryz.func98 (by kernel_rfl) (by kernel_rfl)
theorem hd99 : Has Tryz.prog 99 := Has.mk' Tryz.func99 (by kernel_rfl) (by kernel_rfl)
theorem hd100 : Has Tryz.prog 100 := Has.mk' Tryz.func100 (by kernel_rfl) (by kernel_rfl)
theorem hd101 : Has Tryz.prog 101 := Has.mk' Tryz.func101 (by kernel_rfl) (by kernel_rfl)
theorem hd102 : Has Tryz.prog 102 := Has.mk' Tryz.func102 (by kernel_rfl) (by kernel_rfl)
theorem hd103 : Has Tryz.prog 103 := Has.mk' Tryz.func103 (by kernel_rfl) (by kernel_rfl)
theorem hd104 : Has Tryz.prog 104 := Has.mk' Tryz.func104 (by kernel_rfl) (by kernel_rfl)
theorem hd105 : Has Tryz.prog 105 := Has.mk' Tryz.func105 (by kernel_rfl) (by kernel_rfl)
theorem hd106 : Has Tryz.prog 106 := Has.mk' Tryz.func106 (by kernel_rfl) (by kernel_rfl)
theorem hd107 : Has Tryz.prog 107 := Has.mk' Tryz.func107 (by kernel_rfl) (by kernel_rfl)
theorem hd108 : Has Tryz.prog 108 := Has.mk' Tryz.func108 (by kernel_rfl) (by kernel_rfl)
theorem hd109 : Has Tryz.prog 109 := Has.mk' Tryz.func109 (by kernel_rfl) (by kernel_rfl)
theorem hd111 : Has Tryz.prog 111 := Has.mk' Tryz.func111 (by kernel_rfl) (by kernel_rfl)
theorem hd134 : Has Tryz.prog 134 := Has.mk' Tryz.func134 (by kernel_rfl) (by kernel_rfl)
theorem mo : Tryz.prog.follows .mixedOrders = true := by kernel_rfl
end Go.Proofs.YtogidmceomlkeaaGreatDoor.Ty
