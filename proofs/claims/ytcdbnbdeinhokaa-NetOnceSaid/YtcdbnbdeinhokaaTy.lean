/- Facts of the types and functions of this seat's program, each by the kernel. -/
import Derived.Test.YtcdbnbdeinhokaaProg
import Derived.Test.YtcdbnbdeinhokaaSl8
namespace Go.Proofs.Ytcdbnbdeinhokaa.Ty
open Go.Proofs.Ytcdbnbdeinhokaa.SL
theorem ag2 : aggB Try.prog 2 = some false := by kernel_rfl
theorem sz2 : sizeB Try.prog 2 = some 1 := by kernel_rfl
theorem by2 : (Try.prog.info? 2).map (·.bytes) = some 8 := by kernel_rfl
theorem zr2 : zeroB Try.prog 2 = some (.int .i64 0) := by kernel_rfl
theorem ag3 : aggB Try.prog 3 = some false := by kernel_rfl
theorem sz3 : sizeB Try.prog 3 = some 1 := by kernel_rfl
theorem by3 : (Try.prog.info? 3).map (·.bytes) = some 8 := by kernel_rfl
theorem zr3 : zeroB Try.prog 3 = some (.int .i64 0) := by kernel_rfl
theorem ag4 : aggB Try.prog 4 = some false := by kernel_rfl
theorem sz4 : sizeB Try.prog 4 = some 1 := by kernel_rfl
theorem by4 : (Try.prog.info? 4).map (·.bytes) = some 1 := by kernel_rfl
theorem zr4 : zeroB Try.prog 4 = some (.bool false) := by kernel_rfl
theorem ag5 : aggB Try.prog 5 = some false := by kernel_rfl
theorem sz5 : sizeB Try.prog 5 = some 1 := by kernel_rfl
theorem by5 : (Try.prog.info? 5).map (·.bytes) = some 1 := by kernel_rfl
theorem zr5 : zeroB Try.prog 5 = some (.int .u8 0) := by kernel_rfl
theorem ag6 : aggB Try.prog 6 = some false := by kernel_rfl
theorem sz6 : sizeB Try.prog 6 = some 1 := by kernel_rfl
theorem by6 : (Try.prog.info? 6).map (·.bytes) = some 1 := by kernel_rfl
theorem zr6 : zeroB Try.prog 6 = some (.int .u8 0) := by kernel_rfl
theorem ag7 : aggB Try.prog 7 = some true := by kernel_rfl
theorem sz7 : sizeB Try.prog 7 = some 4 := by kernel_rfl
theorem by7 : (Try.prog.info? 7).map (·.bytes) = some 24 := by kernel_rfl
theorem zr7 : zeroB Try.prog 7 = some (.agg #[.int .i64 0, .int .i64 0, .bool false, .int .u8 0]) := by kernel_rfl
theorem ag8 : aggB Try.prog 8 = some true := by kernel_rfl
theorem sz8 : sizeB Try.prog 8 = some 4 := by kernel_rfl
theorem by8 : (Try.prog.info? 8).map (·.bytes) = some 24 := by kernel_rfl
theorem zr8 : zeroB Try.prog 8 = some (.agg #[.int .i64 0, .int .i64 0, .bool false, .int .u8 0]) := by kernel_rfl
theorem ag9 : aggB Try.prog 9 = some false := by kernel_rfl
theorem sz9 : sizeB Try.prog 9 = some 1 := by kernel_rfl
theorem by9 : (Try.prog.info? 9).map (·.bytes) = some 16 := by kernel_rfl
theorem zr9 : zeroB Try.prog 9 = some (str []) := by kernel_rfl
theorem ag10 : aggB Try.prog 10 = some false := by kernel_rfl
theorem sz10 : sizeB Try.prog 10 = some 1 := by kernel_rfl
theorem by10 : (Try.prog.info? 10).map (·.bytes) = some 16 := by kernel_rfl
theorem zr10 : zeroB Try.prog 10 = some (str []) := by kernel_rfl
theorem ag11 : aggB Try.prog 11 = some false := by kernel_rfl
theorem sz11 : sizeB Try.prog 11 = some 1 := by kernel_rfl
theorem by11 : (Try.prog.info? 11).map (·.bytes) = some 16 := by kernel_rfl
theorem zr11 : zeroB Try.prog 11 = some (str []) := by kernel_rfl
theorem ag12 : aggB Try.prog 12 = some false := by kernel_rfl
theorem sz12 : sizeB Try.prog 12 = some 1 := by kernel_rfl
theorem by12 : (Try.prog.info? 12).map (·.bytes) = some 8 := by kernel_rfl
theorem zr12 : zeroB Try.prog 12 = some (.int .u64 0) := by kernel_rfl
theorem ag13 : aggB Try.prog 13 = some true := by kernel_rfl
theorem sz13 : sizeB Try.prog 13 = some 2 := by kernel_rfl
theorem by13 : (Try.prog.info? 13).map (·.bytes) = some 24 := by kernel_rfl
theorem zr13 : zeroB Try.prog 13 = some (.agg #[str [], .int .u64 0]) := by kernel_rfl
theorem ag14 : aggB Try.prog 14 = some true := by kernel_rfl
theorem sz14 : sizeB Try.prog 14 = some 2 := by kernel_rfl
theorem by14 : (Try.prog.info? 14).map (·.bytes) = some 24 := by kernel_rfl
theorem zr14 : zeroB Try.prog 14 = some (.agg #[str [], .int .u64 0]) := by kernel_rfl
theorem ag15 : aggB Try.prog 15 = some false := by kernel_rfl
theorem sz15 : sizeB Try.prog 15 = some 1 := by kernel_rfl
theorem by15 : (Try.prog.info? 15).map (·.bytes) = some 8 := by kernel_rfl
theorem zr15 : zeroB Try.prog 15 = some (.pointer none) := by kernel_rfl
theorem ag16 : aggB Try.prog 16 = some false := by kernel_rfl
theorem sz16 : sizeB Try.prog 16 = some 1 := by kernel_rfl
theorem by16 : (Try.prog.info? 16).map (·.bytes) = some 8 := by kernel_rfl
theorem zr16 : zeroB Try.prog 16 = some (.pointer none) := by kernel_rfl
theorem ag17 : aggB Try.prog 17 = some false := by kernel_rfl
theorem sz17 : sizeB Try.prog 17 = some 1 := by kernel_rfl
theorem by17 : (Try.prog.info? 17).map (·.bytes) = some 8 := by kernel_rfl
theorem zr17 : zeroB Try.prog 17 = some (.pointer none) := by kernel_rfl
theorem ag18 : aggB Try.prog 18 = some true := by kernel_rfl
theorem sz18 : sizeB Try.prog 18 = some 1 := by kernel_rfl
theorem by18 : (Try.prog.info? 18).map (·.bytes) = some 8 := by kernel_rfl
theorem zr18 : zeroB Try.prog 18 = some (.agg #[.pointer none]) := by kernel_rfl
theorem ag19 : aggB Try.prog 19 = some true := by kernel_rfl
theorem sz19 : sizeB Try.prog 19 = some 1 := by kernel_rfl
theorem by19 : (Try.prog.info? 19).map (·.bytes) = some 8 := by kernel_rfl
theorem zr19 : zeroB Try.prog 19 = some (.agg #[.pointer none]) := by kernel_rfl
theorem ag21 : aggB Try.prog 21 = some false := by kernel_rfl
theorem sz21 : sizeB Try.prog 21 = some 1 := by kernel_rfl
theorem by21 : (Try.prog.info? 21).map (·.bytes) = some 4 := by kernel_rfl
theorem zr21 : zeroB Try.prog 21 = some (.int .i32 0) := by kernel_rfl
theorem ag22 : aggB Try.prog 22 = some false := by kernel_rfl
theorem sz22 : sizeB Try.prog 22 = some 1 := by kernel_rfl
theorem by22 : (Try.prog.info? 22).map (·.bytes) = some 24 := by kernel_rfl
theorem zr22 : zeroB Try.prog 22 = some (.slice none 0 0) := by kernel_rfl
theorem ag24 : aggB Try.prog 24 = some false := by kernel_rfl
theorem sz24 : sizeB Try.prog 24 = some 1 := by kernel_rfl
theorem by24 : (Try.prog.info? 24).map (·.bytes) = some 8 := by kernel_rfl
theorem zr24 : zeroB Try.prog 24 = some (.int .u64 0) := by kernel_rfl
theorem ag25 : aggB Try.prog 25 = some false := by kernel_rfl
theorem sz25 : sizeB Try.prog 25 = some 1 := by kernel_rfl
theorem by25 : (Try.prog.info? 25).map (·.bytes) = some 8 := by kernel_rfl
theorem zr25 : zeroB Try.prog 25 = some (.pointer none) := by kernel_rfl
theorem ag28 : aggB Try.prog 28 = some false := by kernel_rfl
theorem sz28 : sizeB Try.prog 28 = some 1 := by kernel_rfl
theorem by28 : (Try.prog.info? 28).map (·.bytes) = some 24 := by kernel_rfl
theorem zr28 : zeroB Try.prog 28 = some (.slice none 0 0) := by kernel_rfl
theorem ag29 : aggB Try.prog 29 = some false := by kernel_rfl
theorem sz29 : sizeB Try.prog 29 = some 1 := by kernel_rfl
theorem by29 : (Try.prog.info? 29).map (·.bytes) = some 8 := by kernel_rfl
theorem zr29 : zeroB Try.prog 29 = some (.map none) := by kernel_rfl
theorem ag30 : aggB Try.prog 30 = some false := by kernel_rfl
theorem sz30 : sizeB Try.prog 30 = some 1 := by kernel_rfl
theorem by30 : (Try.prog.info? 30).map (·.bytes) = some 8 := by kernel_rfl
theorem zr30 : zeroB Try.prog 30 = some (.int .i64 0) := by kernel_rfl
theorem ag39 : aggB Try.prog 39 = some false := by kernel_rfl
theorem sz39 : sizeB Try.prog 39 = some 1 := by kernel_rfl
theorem by39 : (Try.prog.info? 39).map (·.bytes) = some 24 := by kernel_rfl
theorem zr39 : zeroB Try.prog 39 = some (.slice none 0 0) := by kernel_rfl
theorem ag40 : aggB Try.prog 40 = some false := by kernel_rfl
theorem sz40 : sizeB Try.prog 40 = some 1 := by kernel_rfl
theorem by40 : (Try.prog.info? 40).map (·.bytes) = some 8 := by kernel_rfl
theorem zr40 : zeroB Try.prog 40 = some (.pointer none) := by kernel_rfl
theorem ag41 : aggB Try.prog 41 = some false := by kernel_rfl
theorem sz41 : sizeB Try.prog 41 = some 1 := by kernel_rfl
theorem by41 : (Try.prog.info? 41).map (·.bytes) = some 24 := by kernel_rfl
theorem zr41 : zeroB Try.prog 41 = some (.slice none 0 0) := by kernel_rfl
theorem ag42 : aggB Try.prog 42 = some true := by kernel_rfl
theorem sz42 : sizeB Try.prog 42 = some 2 := by kernel_rfl
theorem by42 : (Try.prog.info? 42).map (·.bytes) = some 32 := by kernel_rfl
theorem zr42 : zeroB Try.prog 42 = some (.agg #[.slice none 0 0, .int .i64 0]) := by kernel_rfl
theorem ag43 : aggB Try.prog 43 = some true := by kernel_rfl
theorem sz43 : sizeB Try.prog 43 = some 2 := by kernel_rfl
theorem by43 : (Try.prog.info? 43).map (·.bytes) = some 32 := by kernel_rfl
theorem zr43 : zeroB Try.prog 43 = some (.agg #[.slice none 0 0, .int .i64 0]) := by kernel_rfl
theorem ag44 : aggB Try.prog 44 = some true := by kernel_rfl
theorem sz44 : sizeB Try.prog 44 = some 7 := by kernel_rfl
theorem by44 : (Try.prog.info? 44).map (·.bytes) = some 64 := by kernel_rfl
theorem zr44 : zeroB Try.prog 44 = some (.agg #[.int .i64 0, .int .i64 0, str [], .int .i64 0, .int .i64 0, .int .u8 0, .int .i64 0]) := by kernel_rfl
theorem ag45 : aggB Try.prog 45 = some true := by kernel_rfl
theorem sz45 : sizeB Try.prog 45 = some 7 := by kernel_rfl
theorem by45 : (Try.prog.info? 45).map (·.bytes) = some 64 := by kernel_rfl
theorem zr45 : zeroB Try.prog 45 = some (.agg #[.int .i64 0, .int .i64 0, str [], .int .i64 0, .int .i64 0, .int .u8 0, .int .i64 0]) := by kernel_rfl
theorem ag47 : aggB Try.prog 47 = some false := by kernel_rfl
theorem sz47 : sizeB Try.prog 47 = some 1 := by kernel_rfl
theorem by47 : (Try.prog.info? 47).map (·.bytes) = some 24 := by kernel_rfl
theorem zr47 : zeroB Try.prog 47 = some (.slice none 0 0) := by kernel_rfl
theorem ag48 : aggB Try.prog 48 = some true := by kernel_rfl
theorem sz48 : sizeB Try.prog 48 = some 2 := by kernel_rfl
theorem by48 : (Try.prog.info? 48).map (·.bytes) = some 32 := by kernel_rfl
theorem zr48 : zeroB Try.prog 48 = some (.agg #[.slice none 0 0, .int .i64 0]) := by kernel_rfl
theorem ag49 : aggB Try.prog 49 = some true := by kernel_rfl
theorem sz49 : sizeB Try.prog 49 = some 2 := by kernel_rfl
theorem by49 : (Try.prog.info? 49).map (·.bytes) = some 32 := by kernel_rfl
theorem zr49 : zeroB Try.prog 49 = some (.agg #[.slice none 0 0, .int .i64 0]) := by kernel_rfl
theorem ag50 : aggB Try.prog 50 = some true := by kernel_rfl
theorem sz50 : sizeB Try.prog 50 = some 3 := by kernel_rfl
theorem by50 : (Try.prog.info? 50).map (·.bytes) = some 40 := by kernel_rfl
theorem zr50 : zeroB Try.prog 50 = some (.agg #[.int .i64 0, .slice none 0 0, .bool false]) := by kernel_rfl
theorem ag51 : aggB Try.prog 51 = some true := by kernel_rfl
theorem sz51 : sizeB Try.prog 51 = some 3 := by kernel_rfl
theorem by51 : (Try.prog.info? 51).map (·.bytes) = some 40 := by kernel_rfl
theorem zr51 : zeroB Try.prog 51 = some (.agg #[.int .i64 0, .slice none 0 0, .bool false]) := by kernel_rfl
theorem ag52 : aggB Try.prog 52 = some false := by kernel_rfl
theorem sz52 : sizeB Try.prog 52 = some 1 := by kernel_rfl
theorem by52 : (Try.prog.info? 52).map (·.bytes) = some 8 := by kernel_rfl
theorem zr52 : zeroB Try.prog 52 = some (.pointer none) := by kernel_rfl
theorem ag54 : aggB Try.prog 54 = some true := by kernel_rfl
theorem sz54 : sizeB Try.prog 54 = some 3 := by kernel_rfl
theorem by54 : (Try.prog.info? 54).map (·.bytes) = some 32 := by kernel_rfl
theorem zr54 : zeroB Try.prog 54 = some (.agg #[.int .i64 0, str [], .bool false]) := by kernel_rfl
theorem ag55 : aggB Try.prog 55 = some true := by kernel_rfl
theorem sz55 : sizeB Try.prog 55 = some 3 := by kernel_rfl
theorem by55 : (Try.prog.info? 55).map (·.bytes) = some 32 := by kernel_rfl
theorem zr55 : zeroB Try.prog 55 = some (.agg #[.int .i64 0, str [], .bool false]) := by kernel_rfl
theorem ag57 : aggB Try.prog 57 = some true := by kernel_rfl
theorem sz57 : sizeB Try.prog 57 = some 4 := by kernel_rfl
theorem by57 : (Try.prog.info? 57).map (·.bytes) = some 40 := by kernel_rfl
theorem zr57 : zeroB Try.prog 57 = some (.agg #[.pointer none, .pointer none, .pointer none, str []]) := by kernel_rfl
theorem ag58 : aggB Try.prog 58 = some true := by kernel_rfl
theorem sz58 : sizeB Try.prog 58 = some 4 := by kernel_rfl
theorem by58 : (Try.prog.info? 58).map (·.bytes) = some 40 := by kernel_rfl
theorem zr58 : zeroB Try.prog 58 = some (.agg #[.pointer none, .pointer none, .pointer none, str []]) := by kernel_rfl
theorem ag59 : aggB Try.prog 59 = some true := by kernel_rfl
theorem sz59 : sizeB Try.prog 59 = some 0 := by kernel_rfl
theorem by59 : (Try.prog.info? 59).map (·.bytes) = some 0 := by kernel_rfl
theorem zr59 : zeroB Try.prog 59 = some (.agg #[]) := by kernel_rfl
theorem ag60 : aggB Try.prog 60 = some true := by kernel_rfl
theorem sz60 : sizeB Try.prog 60 = some 0 := by kernel_rfl
theorem by60 : (Try.prog.info? 60).map (·.bytes) = some 0 := by kernel_rfl
theorem zr60 : zeroB Try.prog 60 = some (.agg #[]) := by kernel_rfl
theorem ag61 : aggB Try.prog 61 = some true := by kernel_rfl
theorem sz61 : sizeB Try.prog 61 = some 0 := by kernel_rfl
theorem by61 : (Try.prog.info? 61).map (·.bytes) = some 0 := by kernel_rfl
theorem zr61 : zeroB Try.prog 61 = some (.agg #[]) := by kernel_rfl
theorem ag62 : aggB Try.prog 62 = some false := by kernel_rfl
theorem sz62 : sizeB Try.prog 62 = some 1 := by kernel_rfl
theorem by62 : (Try.prog.info? 62).map (·.bytes) = some 4 := by kernel_rfl
theorem zr62 : zeroB Try.prog 62 = some (.int .u32 0) := by kernel_rfl
theorem ag63 : aggB Try.prog 63 = some false := by kernel_rfl
theorem sz63 : sizeB Try.prog 63 = some 1 := by kernel_rfl
theorem by63 : (Try.prog.info? 63).map (·.bytes) = some 1 := by kernel_rfl
theorem zr63 : zeroB Try.prog 63 = some (.int .u8 0) := by kernel_rfl
theorem ag64 : aggB Try.prog 64 = some false := by kernel_rfl
theorem sz64 : sizeB Try.prog 64 = some 1 := by kernel_rfl
theorem by64 : (Try.prog.info? 64).map (·.bytes) = some 1 := by kernel_rfl
theorem zr64 : zeroB Try.prog 64 = some (.int .u8 0) := by kernel_rfl
theorem ag66 : aggB Try.prog 66 = some false := by kernel_rfl
theorem sz66 : sizeB Try.prog 66 = some 1 := by kernel_rfl
theorem by66 : (Try.prog.info? 66).map (·.bytes) = some 8 := by kernel_rfl
theorem zr66 : zeroB Try.prog 66 = some (.pointer none) := by kernel_rfl
theorem ag67 : aggB Try.prog 67 = some false := by kernel_rfl
theorem sz67 : sizeB Try.prog 67 = some 1 := by kernel_rfl
theorem by67 : (Try.prog.info? 67).map (·.bytes) = some 4 := by kernel_rfl
theorem zr67 : zeroB Try.prog 67 = some (.int .i32 0) := by kernel_rfl
theorem ag68 : aggB Try.prog 68 = some false := by kernel_rfl
theorem sz68 : sizeB Try.prog 68 = some 1 := by kernel_rfl
theorem by68 : (Try.prog.info? 68).map (·.bytes) = some 4 := by kernel_rfl
theorem zr68 : zeroB Try.prog 68 = some (.int .i32 0) := by kernel_rfl
theorem ag69 : aggB Try.prog 69 = some true := by kernel_rfl
theorem sz69 : sizeB Try.prog 69 = some 11 := by kernel_rfl
theorem by69 : (Try.prog.info? 69).map (·.bytes) = some 48 := by kernel_rfl
theorem zr69 : zeroB Try.prog 69 = some (.agg #[.int .u64 0, .int .u64 0, .int .u32 0, .int .u8 0, .int .u8 0, .int .u8 0, .int .u8 0, .nilFunc, .pointer none, .int .i32 0, .int .i32 0]) := by kernel_rfl
theorem ag70 : aggB Try.prog 70 = some true := by kernel_rfl
theorem sz70 : sizeB Try.prog 70 = some 11 := by kernel_rfl
theorem by70 : (Try.prog.info? 70).map (·.bytes) = some 48 := by kernel_rfl
theorem zr70 : zeroB Try.prog 70 = some (.agg #[.int .u64 0, .int .u64 0, .int .u32 0, .int .u8 0, .int .u8 0, .int .u8 0, .int .u8 0, .nilFunc, .pointer none, .int .i32 0, .int .i32 0]) := by kernel_rfl
theorem ag71 : aggB Try.prog 71 = some false := by kernel_rfl
theorem sz71 : sizeB Try.prog 71 = some 1 := by kernel_rfl
theorem by71 : (Try.prog.info? 71).map (·.bytes) = some 8 := by kernel_rfl
theorem zr71 : zeroB Try.prog 71 = some (.pointer none) := by kernel_rfl
theorem hd2 : Has Try.prog 2 := Has.mk' Try.func2 (by kernel_rfl) (by kernel_rfl)
theorem hd3 : Has Try.prog 3 := Has.mk' Try.func3 (by kernel_rfl) (by kernel_rfl)
theorem hd4 : Has Try.prog 4 := Has.mk' Try.func4 (by kernel_rfl) (by kernel_rfl)
theorem hd5 : Has Try.prog 5 := Has.mk' Try.func5 (by kernel_rfl) (by kernel_rfl)
theorem hd6 : Has Try.prog 6 := Has.mk' Try.func6 (by kernel_rfl) (by kernel_rfl)
theorem hd7 : Has Try.prog 7 := Has.mk' Try.func7 (by kernel_rfl) (by kernel_rfl)
theorem hd8 : Has Try.prog 8 := Has.mk' Try.func8 (by kernel_rfl) (by kernel_rfl)
theorem hd9 : Has Try.prog 9 := Has.mk' Try.func9 (by kernel_rfl) (by kernel_rfl)
theorem hd10 : Has Try.prog 10 := Has.mk' Try.func10 (by kernel_rfl) (by kernel_rfl)
theorem hd11 : Has Try.prog 11 := Has.mk' Try.func11 (by kernel_rfl) (by kernel_rfl)
theorem hd12 : Has Try.prog 12 := Has.mk' Try.func12 (by kernel_rfl) (by kernel_rfl)
theorem hd13 : Has Try.prog 13 := Has.mk' Try.func13 (by kernel_rfl) (by kernel_rfl)
theorem hd14 : Has Try.prog 14 := Has.mk' Try.func14 (by kernel_rfl) (by kernel_rfl)
theorem hd15 : Has Try.prog 15 := Has.mk' Try.func15 (by kernel_rfl) (by kernel_rfl)
theorem hd16 : Has Try.prog 16 := Has.mk' Try.func16 (by kernel_rfl) (by kernel_rfl)
theorem hd17 : Has Try.prog 17 := Has.mk' Try.func17 (by kernel_rfl) (by kernel_rfl)
theorem hd18 : Has Try.prog 18 := Has.mk' Try.func18 (by kernel_rfl) (by kernel_rfl)
theorem hd19 : Has Try.prog 19 := Has.mk' Try.func19 (by kernel_rfl) (by kernel_rfl)
theorem hd20 : Has Try.prog 20 := Has.mk' Try.func20 (by kernel_rfl) (by kernel_rfl)
theorem hd21 : Has Try.prog 21 := Has.mk' Try.func21 (by kernel_rfl) (by kernel_rfl)
theorem mo : Try.prog.follows .mixedOrders = true := by kernel_rfl
end Go.Proofs.Ytcdbnbdeinhokaa.Ty
