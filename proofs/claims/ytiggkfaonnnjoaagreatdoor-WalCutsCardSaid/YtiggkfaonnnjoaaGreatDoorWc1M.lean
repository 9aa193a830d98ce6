import Derived.Test.YtiggkfaonnnjoaaGreatDoorWb7M
import Derived.Test.YtiggkfaonnnjoaaGreatDoorWxM
/- The log: a segment is shortened, the steps. -/
namespace Go.Proofs.YtiggkfaonnnjoaaGreatDoor.SL
open Go.RowKit Go.Proofs.YtiggkfaonnnjoaaGreatDoor
open Go.Proofs.YtiggkfaonnnjoaaGreatDoorW.PrintLast (rtab opsOf)
set_option linter.unusedVariables false
set_option linter.unusedSimpArgs false

def runD : List (Dk → Dk × Int) → Dk → Dk × Int
  | [], D => (D, 0)
  | f :: l, D => if (f D).2 = 0 then runD l (f D).1 else f D
theorem runD_step {fs : List (Dk → Dk × Int)} {i : Nat} {f : Dk → Dk × Int} {D : Dk} (h : fs[i]? = some f) : runD (fs.drop i) D = if (f D).2 = 0 then runD (fs.drop (i + 1)) (f D).1 else f D := by
  obtain ⟨hi, he⟩ := List.getElem?_eq_some_iff.1 h
  rw [List.drop_eq_getElem_cons hi, he]; rfl
def stepsT (s k : List UInt8) : List (Dk → Dk × Int) := [fun D => appendD D [116] s, fun D => syncD D [116], fun D => renameD D [116] k]
theorem sho1_spec_t1 : rtab .any (opsOf Tryz.f49 1) = (true, [([], []), ([0], [0]), ([1], [1]), ([2], [2]), ([], []), ([], []), ([5], [5]), ([6], [6]), ([7], [7]), ([4, 8], [4, 8]), ([3, 9], [3, 9]), ([10, 10, 0, 1, 2, 3, 4, 5, 6, 7, 8, 9, 10], [10])]) := by kernel_rfl
theorem sho1_spec {B w : World} {L : List HP} {a pa : Option Addr} {g gd gx g3 g4 g7 m2 c la du pn pc f0 sz n t : Nat} {hv : Value} {bg dt : Bool} {s : List UInt8} {D : Dk} (hk : OkD D n t) (hn : n ≤ 1000000000) (ht : t ≤ 1099511627776) (hs : s.length ≤ 140737488355328) (hsz : sz ≤ s.length) (hf0 : f0 ≤ 99999999) (hS : St B (dkA gd D :: cel g [Value.pointer (some ⟨gd, 0, none⟩), Value.slice a m2 c, hv, Value.bool bg, Value.int .i64 (la : Int), Value.int .i64 (du : Int)] 49 :: cel gx [Value.int .i64 (f0 : Int), Value.slice pa pn pc, Value.int .i64 (sz : Int), Value.bool dt] 63 :: cel g3 [Value.pointer (some ⟨g, 0, none⟩)] 27 :: cel g4 [Value.pointer (some ⟨gx, 0, none⟩)] 47 :: cel g7 [str s] 9 :: L) w) : Does Tryz.prog 49 [Value.pointer (some ⟨g3, 0, none⟩), Value.pointer (some ⟨g7, 0, none⟩), Value.pointer (some ⟨g4, 0, none⟩)] w (fun v w1 => v = .int .i64 (appendD D [116] (s.take sz)).2 ∧ St B (dkA gd ((appendD D [116] (s.take sz)).1) :: cel g [Value.pointer (some ⟨gd, 0, none⟩), Value.slice a m2 c, hv, Value.bool bg, Value.int .i64 (la : Int), Value.int .i64 (du : Int)] 49 :: cel gx [Value.int .i64 (f0 : Int), Value.slice pa pn pc, Value.int .i64 (sz : Int), Value.bool dt] 63 :: cel g3 [Value.pointer (some ⟨g, 0, none⟩)] 27 :: cel g4 [Value.pointer (some ⟨gx, 0, none⟩)] 47 :: cel g7 [str s] 9 :: L) w1) := by
 refine enter (n := 15) Tryz.func49 rfl rfl [Value.pointer (some ⟨g3, 0, none⟩), Value.pointer (some ⟨g7, 0, none⟩), Value.pointer (some ⟨g4, 0, none⟩)] rfl ?_
 refine WP.seq (WP.region rfl ?_)
 refine WO.asg rfl rfl ?_
 refine WO.nil (NX.go (WP.seq ?_))
 refine WD.start (fun w => (∀ jz, World.cell? w ⟨g, jz, none⟩ = [Value.pointer (some ⟨gd, 0, none⟩), Value.slice a m2 c, hv, Value.bool bg, Value.int .i64 (la : Int), Value.int .i64 (du : Int)][jz]?) ∧ (∀ jz, World.cell? w ⟨gx, jz, none⟩ = [Value.int .i64 (f0 : Int), Value.slice pa pn pc, Value.int .i64 (sz : Int), Value.bool dt][jz]?) ∧ (∀ jz, World.cell? w ⟨g3, jz, none⟩ = [Value.pointer (some ⟨g, 0, none⟩)][jz]?) ∧ (∀ jz, World.cell? w ⟨g4, jz, none⟩ = [Value.pointer (some ⟨gx, 0, none⟩)][jz]?) ∧ (∀ jz, World.cell? w ⟨g7, jz, none⟩ = [str s][jz]?)) [] (bt 12 0) Ty.mo rfl (by kernel_rfl) hS (fun _ h => ⟨h.cel_at 1 rfl, h.cel_at 2 rfl, h.cel_at 3 rfl, h.cel_at 4 rfl, h.cel_at 5 rfl⟩) (fun w1 hS1 s2 => ?_)
 clear hS
 refine WD.take (i := 0) sho1_spec_t1 (bt 12 1) s2 rfl rfl rfl (by kernel_rfl) (PQ.then PQ.body) rfl (fun w hs => run_load Ty.ag27 rfl ((hs.2.2.1 0).trans rfl)) ?_
 refine WD.pure (i := 1) sho1_spec_t1 (bt 12 3) rfl rfl rfl (by kernel_rfl) (PQ.then PQ.body) rfl (fun w => run_nilCheck rfl) ?_
 refine WD.pure (i := 2) sho1_spec_t1 (bt 12 7) rfl rfl rfl (by kernel_rfl) (PQ.then PQ.body) rfl (fun w => run_fieldAddr (q := ⟨g, 0, none⟩) (show fieldB Tryz.prog 49 0 = some 0 from by kernel_rfl) rfl rfl) ?_
 refine WD.take (i := 3) sho1_spec_t1 (bt 12 15) s2 rfl rfl rfl (by kernel_rfl) (PQ.then PQ.body) rfl (fun w hs => run_load Ty.ag25 rfl ((hs.1 0).trans rfl)) ?_
 refine WD.take (i := 4) sho1_spec_t1 (bt 12 31) s2 rfl rfl rfl (by kernel_rfl) (PQ.then PQ.body) rfl (fun w hs => run_load Ty.ag9 rfl ((hs.2.2.2.2 0).trans rfl)) ?_
 refine WD.take (i := 5) sho1_spec_t1 (bt 12 63) s2 rfl rfl rfl (by kernel_rfl) (PQ.then PQ.body) rfl (fun w hs => run_load Ty.ag47 rfl ((hs.2.2.2.1 0).trans rfl)) ?_
 refine WD.pure (i := 6) sho1_spec_t1 (bt 12 127) rfl rfl rfl (by kernel_rfl) (PQ.then PQ.body) rfl (fun w => run_nilCheck rfl) ?_
 refine WD.pure (i := 7) sho1_spec_t1 (bt 12 255) rfl rfl rfl (by kernel_rfl) (PQ.then PQ.body) rfl (fun w => run_fieldAddr (q := ⟨gx, 2, none⟩) (show fieldB Tryz.prog 63 2 = some 2 from by kernel_rfl) rfl rfl) ?_
 refine WD.take (i := 8) sho1_spec_t1 (bt 12 511) s2 rfl rfl rfl (by kernel_rfl) (PQ.then PQ.body) rfl (fun w hs => run_load Ty.ag3 rfl ((hs.2.1 2).trans rfl)) ?_
 refine WD.pure (i := 9) sho1_spec_t1 (bt 12 1023) rfl rfl rfl (by kernel_rfl) (PQ.then PQ.body) rfl (fun w => run_sliceS (i := 0) (j := sz) Tryz.underlying9 rfl rfl ⟨_, rfl⟩ (Nat.zero_le _) (by omega) (List.drop_zero)) ?_
 refine WD.one (i := 10) sho1_spec_t1 (bt 12 2047) rfl (by kernel_rfl) ?_
 refine WO.call rfl rfl Ty.hd24 rfl (dappend_spec hk.w hk.b hn ht [116] (s.take sz) (by decide) (by rw [List.length_take]; omega) hS1) (fun v4 w3 pv4 => ?_)
 obtain ⟨rfl, hS3⟩ := pv4
 clear hS1
 refine WO.nil ?_
 have s5 : (∀ jz, World.cell? w3 ⟨g, jz, none⟩ = [Value.pointer (some ⟨gd, 0, none⟩), Value.slice a m2 c, hv, Value.bool bg, Value.int .i64 (la : Int), Value.int .i64 (du : Int)][jz]?) ∧ (∀ jz, World.cell? w3 ⟨gx, jz, none⟩ = [Value.int .i64 (f0 : Int), Value.slice pa pn pc, Value.int .i64 (sz : Int), Value.bool dt][jz]?) ∧ (∀ jz, World.cell? w3 ⟨g3, jz, none⟩ = [Value.pointer (some ⟨g, 0, none⟩)][jz]?) ∧ (∀ jz, World.cell? w3 ⟨g4, jz, none⟩ = [Value.pointer (some ⟨gx, 0, none⟩)][jz]?) ∧ (∀ jz, World.cell? w3 ⟨g7, jz, none⟩ = [str s][jz]?) := ⟨hS3.cel_at 1 rfl, hS3.cel_at 2 rfl, hS3.cel_at 3 rfl, hS3.cel_at 4 rfl, hS3.cel_at 5 rfl⟩
 refine NX.held s5 ?_
 refine WD.pure (i := 11) sho1_spec_t1 (bt 12 4095) rfl rfl rfl (by kernel_rfl) (PQ.then PQ.body) rfl (fun w => run_assign rfl) ?_
 refine WD.done sho1_spec_t1 (by kernel_rfl) ?_
 refine NX.go (WP.ret ?_)
 refine NX.done (l := [.tmp 3]) rfl rfl ?_
 exact ⟨rfl, hS3⟩
theorem sho2_spec {B w : World} {L : List HP} {a pa : Option Addr} {g gd gx g3 g4 g7 m2 c la du pn pc f0 sz n t : Nat} {hv : Value} {bg dt : Bool} {s : List UInt8} {D : Dk} (hk : OkD D n t) (hn : n ≤ 1000000000) (ht : t ≤ 1099511627776) (hs : s.length ≤ 140737488355328) (hsz : sz ≤ s.length) (hf0 : f0 ≤ 99999999) (hS : St B (dkA gd D :: cel g [Value.pointer (some ⟨gd, 0, none⟩), Value.slice a m2 c, hv, Value.bool bg, Value.int .i64 (la : Int), Value.int .i64 (du : Int)] 49 :: cel gx [Value.int .i64 (f0 : Int), Value.slice pa pn pc, Value.int .i64 (sz : Int), Value.bool dt] 63 :: cel g3 [Value.pointer (some ⟨g, 0, none⟩)] 27 :: cel g4 [Value.pointer (some ⟨gx, 0, none⟩)] 47 :: cel g7 [str s] 9 :: L) w) : Does Tryz.prog 50 [Value.pointer (some ⟨g3, 0, none⟩)] w (fun v w1 => v = .int .i64 (syncD D [116]).2 ∧ St B (dkA gd ((syncD D [116]).1) :: cel g [Value.pointer (some ⟨gd, 0, none⟩), Value.slice a m2 c, hv, Value.bool bg, Value.int .i64 (la : Int), Value.int .i64 (du : Int)] 49 :: cel gx [Value.int .i64 (f0 : Int), Value.slice pa pn pc, Value.int .i64 (sz : Int), Value.bool dt] 63 :: cel g3 [Value.pointer (some ⟨g, 0, none⟩)] 27 :: cel g4 [Value.pointer (some ⟨gx, 0, none⟩)] 47 :: cel g7 [str s] 9 :: L) w1) := by
 refine enter (n := 7) Tryz.func50 rfl rfl [Value.pointer (some ⟨g3, 0, none⟩)] rfl ?_
 refine WP.seq (WP.region rfl ?_)
 refine WO.asg rfl rfl ?_
 refine WO.nil (NX.go (WP.seq (WP.region rfl ?_)))
 refine WO.val (run_load Ty.ag27 rfl ((hS.cel_at 3 rfl 0).trans rfl)) rfl rfl rfl ?_
 refine WO.val (run_nilCheck rfl) rfl rfl rfl ?_
 refine WO.val (run_fieldAddr (q := ⟨g, 0, none⟩) (show fieldB Tryz.prog 49 0 = some 0 from by kernel_rfl) rfl rfl) rfl rfl rfl ?_
 refine WO.val (run_load Ty.ag25 rfl ((hS.cel_at 1 rfl 0).trans rfl)) rfl rfl rfl ?_
 refine WO.call rfl rfl Ty.hd26 rfl (dsync_spec hk.w [116] hS) (fun v2 w1 pv2 => ?_)
 obtain ⟨rfl, hS1⟩ := pv2
 clear hS
 refine WO.asg rfl rfl ?_
 refine WO.nil (NX.go (WP.ret ?_))
 refine NX.done (l := [.tmp 1]) rfl rfl ?_
 exact ⟨rfl, hS1⟩
theorem sho3_spec_t1 : rtab .any (opsOf Tryz.f51 1) = (true, [([], []), ([0], [0]), ([1], [1]), ([2], [2]), ([], []), ([4], [4]), ([5], [5]), ([6], [6]), ([7], [7]), ([3, 8, 8], [3, 8]), ([9, 9, 0, 1, 2, 3, 4, 5, 6, 7, 8, 9], [9])]) := by kernel_rfl
theorem sho3_spec {B w : World} {L : List HP} {a pa : Option Addr} {g gd gx g3 g4 g7 m2 c la du pn pc f0 sz n t : Nat} {hv : Value} {bg dt : Bool} {s : List UInt8} {D : Dk} (hk : OkD D n t) (hn : n ≤ 1000000000) (ht : t ≤ 1099511627776) (hs : s.length ≤ 140737488355328) (hsz : sz ≤ s.length) (hf0 : f0 ≤ 99999999) (hS : St B (dkA gd D :: cel g [Value.pointer (some ⟨gd, 0, none⟩), Value.slice a m2 c, hv, Value.bool bg, Value.int .i64 (la : Int), Value.int .i64 (du : Int)] 49 :: cel gx [Value.int .i64 (f0 : Int), Value.slice pa pn pc, Value.int .i64 (sz : Int), Value.bool dt] 63 :: cel g3 [Value.pointer (some ⟨g, 0, none⟩)] 27 :: cel g4 [Value.pointer (some ⟨gx, 0, none⟩)] 47 :: cel g7 [str s] 9 :: L) w) : Does Tryz.prog 51 [Value.pointer (some ⟨g3, 0, none⟩), Value.pointer (some ⟨g4, 0, none⟩)] w (fun v w1 => v = .int .i64 (renameD D [116] (nameW f0)).2 ∧ St B (dkA gd ((renameD D [116] (nameW f0)).1) :: cel g [Value.pointer (some ⟨gd, 0, none⟩), Value.slice a m2 c, hv, Value.bool bg, Value.int .i64 (la : Int), Value.int .i64 (du : Int)] 49 :: cel gx [Value.int .i64 (f0 : Int), Value.slice pa pn pc, Value.int .i64 (sz : Int), Value.bool dt] 63 :: cel g3 [Value.pointer (some ⟨g, 0, none⟩)] 27 :: cel g4 [Value.pointer (some ⟨gx, 0, none⟩)] 47 :: cel g7 [str s] 9 :: L) w1) := by
 refine enter (n := 13) Tryz.func51 rfl rfl [Value.pointer (some ⟨g3, 0, none⟩), Value.pointer (some ⟨g4, 0, none⟩)] rfl ?_
 refine WP.seq (WP.region rfl ?_)
 refine WO.asg rfl rfl ?_
 refine WO.nil (NX.go (WP.seq ?_))
 refine WD.start (fun w => (∀ jz, World.cell? w ⟨g, jz, none⟩ = [Value.pointer (some ⟨gd, 0, none⟩), Value.slice a m2 c, hv, Value.bool bg, Value.int .i64 (la : Int), Value.int .i64 (du : Int)][jz]?) ∧ (∀ jz, World.cell? w ⟨gx, jz, none⟩ = [Value.int .i64 (f0 : Int), Value.slice pa pn pc, Value.int .i64 (sz : Int), Value.bool dt][jz]?) ∧ (∀ jz, World.cell? w ⟨g3, jz, none⟩ = [Value.pointer (some ⟨g, 0, none⟩)][jz]?) ∧ (∀ jz, World.cell? w ⟨g4, jz, none⟩ = [Value.pointer (some ⟨gx, 0, none⟩)][jz]?) ∧ (∀ jz, World.cell? w ⟨g7, jz, none⟩ = [str s][jz]?)) [] (bt 11 0) Ty.mo rfl (by kernel_rfl) hS (fun _ h => ⟨h.cel_at 1 rfl, h.cel_at 2 rfl, h.cel_at 3 rfl, h.cel_at 4 rfl, h.cel_at 5 rfl⟩) (fun w1 hS1 s2 => ?_)
 clear hS
 refine WD.take (i := 0) sho3_spec_t1 (bt 11 1) s2 rfl rfl rfl (by kernel_rfl) (PQ.then PQ.body) rfl (fun w hs => run_load Ty.ag27 rfl ((hs.2.2.1 0).trans rfl)) ?_
 refine WD.pure (i := 1) sho3_spec_t1 (bt 11 3) rfl rfl rfl (by kernel_rfl) (PQ.then PQ.body) rfl (fun w => run_nilCheck rfl) ?_
 refine WD.pure (i := 2) sho3_spec_t1 (bt 11 7) rfl rfl rfl (by kernel_rfl) (PQ.then PQ.body) rfl (fun w => run_fieldAddr (q := ⟨g, 0, none⟩) (show fieldB Tryz.prog 49 0 = some 0 from by kernel_rfl) rfl rfl) ?_
 refine WD.take (i := 3) sho3_spec_t1 (bt 11 15) s2 rfl rfl rfl (by kernel_rfl) (PQ.then PQ.body) rfl (fun w hs => run_load Ty.ag25 rfl ((hs.1 0).trans rfl)) ?_
 refine WD.take (i := 4) sho3_spec_t1 (bt 11 31) s2 rfl rfl rfl (by kernel_rfl) (PQ.then PQ.body) rfl (fun w hs => run_load Ty.ag47 rfl ((hs.2.2.2.1 0).trans rfl)) ?_
 refine WD.pure (i := 5) sho3_spec_t1 (bt 11 63) rfl rfl rfl (by kernel_rfl) (PQ.then PQ.body) rfl (fun w => run_nilCheck rfl) ?_
 refine WD.pure (i := 6) sho3_spec_t1 (bt 11 127) rfl rfl rfl (by kernel_rfl) (PQ.then PQ.body) rfl (fun w => run_fieldAddr (q := ⟨gx, 0, none⟩) (show fieldB Tryz.prog 63 0 = some 0 from by kernel_rfl) rfl rfl) ?_
 refine WD.take (i := 7) sho3_spec_t1 (bt 11 255) s2 rfl rfl rfl (by kernel_rfl) (PQ.then PQ.body) rfl (fun w hs => run_load Ty.ag3 rfl ((hs.2.1 0).trans rfl)) ?_
 refine WD.one (i := 8) sho3_spec_t1 (bt 11 511) rfl (by kernel_rfl) ?_
 refine WO.call rfl rfl Ty.hd25 rfl (wname_spec f0 (by omega) hS1) (fun v4 w3 pv4 => ?_)
 obtain ⟨rfl, hS3⟩ := pv4
 clear hS1
 refine WO.nil ?_
 have s5 : (∀ jz, World.cell? w3 ⟨g, jz, none⟩ = [Value.pointer (some ⟨gd, 0, none⟩), Value.slice a m2 c, hv, Value.bool bg, Value.int .i64 (la : Int), Value.int .i64 (du : Int)][jz]?) ∧ (∀ jz, World.cell? w3 ⟨gx, jz, none⟩ = [Value.int .i64 (f0 : Int), Value.slice pa pn pc, Value.int .i64 (sz : Int), Value.bool dt][jz]?) ∧ (∀ jz, World.cell? w3 ⟨g3, jz, none⟩ = [Value.pointer (some ⟨g, 0, none⟩)][jz]?) ∧ (∀ jz, World.cell? w3 ⟨g4, jz, none⟩ = [Value.pointer (some ⟨gx, 0, none⟩)][jz]?) ∧ (∀ jz, World.cell? w3 ⟨g7, jz, none⟩ = [str s][jz]?) := ⟨hS3.cel_at 1 rfl, hS3.cel_at 2 rfl, hS3.cel_at 3 rfl, hS3.cel_at 4 rfl, hS3.cel_at 5 rfl⟩
 refine NX.held s5 ?_
 refine WD.one (i := 9) sho3_spec_t1 (bt 11 1023) rfl (by kernel_rfl) ?_
 refine WO.call rfl rfl Ty.hd52 rfl (drename_spec hk.w hk.b hn [116] (nameW f0) (by rw [nameW_length]; decide) hS3) (fun v7 w6 pv7 => ?_)
 obtain ⟨rfl, hS6⟩ := pv7
 clear hS3
 refine WO.nil ?_
 have s8 : (∀ jz, World.cell? w6 ⟨g, jz, none⟩ = [Value.pointer (some ⟨gd, 0, none⟩), Value.slice a m2 c, hv, Value.bool bg, Value.int .i64 (la : Int), Value.int .i64 (du : Int)][jz]?) ∧ (∀ jz, World.cell? w6 ⟨gx, jz, none⟩ = [Value.int .i64 (f0 : Int), Value.slice pa pn pc, Value.int .i64 (sz : Int), Value.bool dt][jz]?) ∧ (∀ jz, World.cell? w6 ⟨g3, jz, none⟩ = [Value.pointer (some ⟨g, 0, none⟩)][jz]?) ∧ (∀ jz, World.cell? w6 ⟨g4, jz, none⟩ = [Value.pointer (some ⟨gx, 0, none⟩)][jz]?) ∧ (∀ jz, World.cell? w6 ⟨g7, jz, none⟩ = [str s][jz]?) := ⟨hS6.cel_at 1 rfl, hS6.cel_at 2 rfl, hS6.cel_at 3 rfl, hS6.cel_at 4 rfl, hS6.cel_at 5 rfl⟩
 refine NX.held s8 ?_
 refine WD.pure (i := 10) sho3_spec_t1 (bt 11 2047) rfl rfl rfl (by kernel_rfl) (PQ.then PQ.body) rfl (fun w => run_assign rfl) ?_
 refine WD.done sho3_spec_t1 (by kernel_rfl) ?_
 refine NX.go (WP.ret ?_)
 refine NX.done (l := [.tmp 2]) rfl rfl ?_
 exact ⟨rfl, hS6⟩

def valsT (g3 g4 g7 : Nat) : List Value := [Value.func (.func 49) #[] #[.pointer (some ⟨g3, 0, none⟩), .pointer (some ⟨g7, 0, none⟩), .pointer (some ⟨g4, 0, none⟩)], Value.func (.func 50) #[] #[.pointer (some ⟨g3, 0, none⟩)], Value.func (.func 51) #[] #[.pointer (some ⟨g3, 0, none⟩), .pointer (some ⟨g4, 0, none⟩)]]
theorem callT {B w : World} {L : List HP} {a pa : Option Addr} {g gd gx g3 g4 g7 m2 c la du pn pc f0 sz n t : Nat} {hv : Value} {bg dt : Bool} {s : List UInt8} {D : Dk} {i : Nat} {fv : Value} (hk : OkD D n t) (hn : n ≤ 1000000000) (ht : t ≤ 1099511627776) (hs : s.length ≤ 140737488355328) (hsz : sz ≤ s.length) (hf0 : f0 ≤ 99999999) (hi : (valsT g3 g4 g7)[i]? = some fv) (hS : St B (dkA gd D :: cel g [Value.pointer (some ⟨gd, 0, none⟩), Value.slice a m2 c, hv, Value.bool bg, Value.int .i64 (la : Int), Value.int .i64 (du : Int)] 49 :: cel gx [Value.int .i64 (f0 : Int), Value.slice pa pn pc, Value.int .i64 (sz : Int), Value.bool dt] 63 :: cel g3 [Value.pointer (some ⟨g, 0, none⟩)] 27 :: cel g4 [Value.pointer (some ⟨gx, 0, none⟩)] 47 :: cel g7 [str s] 9 :: L) w) :
    ∃ f, (stepsT (s.take sz) (nameW f0))[i]? = some f ∧ ∃ (F : Nat) (us cs : List Value), fv = .func (.func F) us.toArray cs.toArray ∧ Has Tryz.prog F ∧ Does Tryz.prog F (us ++ [] ++ cs) w (fun v w1 => v = .int .i64 (f D).2 ∧ St B (dkA gd ((f D).1) :: cel g [Value.pointer (some ⟨gd, 0, none⟩), Value.slice a m2 c, hv, Value.bool bg, Value.int .i64 (la : Int), Value.int .i64 (du : Int)] 49 :: cel gx [Value.int .i64 (f0 : Int), Value.slice pa pn pc, Value.int .i64 (sz : Int), Value.bool dt] 63 :: cel g3 [Value.pointer (some ⟨g, 0, none⟩)] 27 :: cel g4 [Value.pointer (some ⟨gx, 0, none⟩)] 47 :: cel g7 [str s] 9 :: L) w1) ∧ OkD (f D).1 (n + 1) (t + s.length) := by
  match i with
  | 0 => cases hi; exact ⟨_, rfl, 49, [], [_, _, _], rfl, Ty.hd49, sho1_spec hk hn ht hs hsz hf0 hS, hk.append.mono (Nat.le_refl _) (by rw [List.length_take]; omega)⟩
  | 1 => cases hi; exact ⟨_, rfl, 50, [], [_], rfl, Ty.hd50, sho2_spec hk hn ht hs hsz hf0 hS, hk.sync.mono (by omega) (by omega)⟩
  | 2 => cases hi; exact ⟨_, rfl, 51, [], [_, _], rfl, Ty.hd51, sho3_spec hk hn ht hs hsz hf0 hS, hk.rename.mono (by omega) (by omega)⟩
  | i + 3 => cases hi
end Go.Proofs.YtiggkfaonnnjoaaGreatDoor.SL

/- The log: a segment is shortened. -/
namespace Go.Proofs.YtiggkfaonnnjoaaGreatDoor.SL
open Go.RowKit Go.Proofs.YtiggkfaonnnjoaaGreatDoor
open Go.Proofs.YtiggkfaonnnjoaaGreatDoorW.PrintLast (rtab opsOf)
set_option linter.unusedVariables false
set_option linter.unusedSimpArgs false
theorem lshort_spec_t1 : rtab .any (opsOf Tryz.f30 1) = (true, [([], []), ([0], [0]), ([1], [1]), ([2], [2]), ([], []), ([4], [4]), ([5], [5]), ([6], [6]), ([7], [7]), ([3, 8, 8], [3, 8]), ([9], [9]), ([10], [10]), ([10], [10]), ([], []), ([13, 11, 9, 0, 1, 2, 3, 4, 5, 6, 7, 8, 9, 10, 11, 13], [11, 13]), ([12, 14, 0, 1, 2, 3, 4, 5, 6, 7, 8, 9, 10, 11, 12, 13, 14], [12])]) := by kernel_rfl
theorem lshort_spec_t5 : rtab .any (opsOf Tryz.f30 5) = (true, [([], []), ([], []), ([1], [1]), ([2], [2]), ([3], [3]), ([], []), ([4, 5], [4, 5]), ([6], [6]), ([0, 0, 1, 2, 3, 4, 5, 6, 7], [0]), ([8, 0, 1, 2, 3, 4, 5, 6, 7], [8]), ([9, 7, 0, 1, 2, 3, 4, 5, 6, 7], [7, 9])]) := by kernel_rfl
theorem lshort_spec_t6 : rtab .any (opsOf Tryz.f30 6) = (true, [([], []), ([], []), ([1], [1]), ([2], [2]), ([3], [3]), ([], []), ([4, 5], [4, 5]), ([0, 0, 1, 2, 3, 4, 5, 6], [0]), ([7, 0, 1, 2, 3, 4, 5, 6], [7]), ([8, 6, 0, 1, 2, 3, 4, 5, 6], [6, 8])]) := by kernel_rfl
theorem lshort_spec {B w : World} {L : List HP} {a pa : Option Addr} {g gd gx m2 c la du pc n t at_ kk : Nat} {hv : Value} {bg : Bool} {sx : Sg} {D : Dk} (hk : OkD D n t) (hn : n ≤ 1000000) (ht : t ≤ 100000000) (hf0 : sx.first ≤ 99999999) (hk1 : kk < sx.rs.length) (hat : at_ + 1 = sx.first + kk) (hat2 : at_ ≤ 99999999) (hsz : (encR (sx.rs.take kk)).length ≤ (encR sx.rs).length) (hr : readD D (nameW sx.first) = (encR sx.rs, 0)) (hno : ¬ (readD D [116]).2 = 0) (hlr : sx.rs.length ≤ 1000000) (hS : St B (cel g [Value.pointer (some ⟨gd, 0, none⟩), Value.slice a m2 c, hv, Value.bool bg, Value.int .i64 (la : Int), Value.int .i64 (du : Int)] 49 :: cel gx [Value.int .i64 (sx.first : Int), Value.slice pa sx.rs.length pc, Value.int .i64 ((encR sx.rs).length : Int), Value.bool sx.dirty] 63 :: own pa sx.rs.length pc 3 1 (pis sx.rs) :: dkA gd D :: L) w) : Does Tryz.prog 30 [Value.pointer (some ⟨g, 0, none⟩), Value.pointer (some ⟨gx, 0, none⟩), Value.int .i64 (at_ : Int)] w (fun v w1 => v = .int .i64 (runD (stepsT ((encR sx.rs).take (encR (sx.rs.take kk)).length) (nameW sx.first)) D).2 ∧ St B (cel g [Value.pointer (some ⟨gd, 0, none⟩), Value.slice a m2 c, hv, Value.bool bg, Value.int .i64 (la : Int), Value.int .i64 (du : Int)] 49 :: cel gx [Value.int .i64 (sx.first : Int), Value.slice pa ((sx.rs.take kk).length) pc, Value.int .i64 ((encR (sx.rs.take kk)).length : Int), Value.bool sx.dirty] 63 :: own pa ((sx.rs.take kk).length) pc 3 1 (pis (sx.rs.take kk)) :: dkA gd (runD (stepsT ((encR sx.rs).take (encR (sx.rs.take kk)).length) (nameW sx.first)) D).1 :: L) w1) := by
 have hkl : (sx.rs.take kk).length = kk := by rw [List.length_take]; omega
 have hlen : (encR sx.rs).length ≤ t := by have z := readW_len (k := nameW sx.first) hk; rw [hr] at z; exact z
 refine enter (n := 91) Tryz.func30 rfl rfl [Value.pointer (some ⟨g, 0, none⟩), Value.pointer (some ⟨gx, 0, none⟩), Value.int .i64 (at_ : Int)] rfl ?_
 refine WP.seq (WP.region rfl ?_)
 refine WO.box (l := [Value.pointer (some ⟨g, 0, none⟩)]) hS rfl rfl rfl (fun g2 w1 lg2 hS1 => ?_)
 clear hS
 refine WO.box (l := [Value.pointer (some ⟨gx, 0, none⟩)]) hS1 rfl rfl rfl (fun g4 w3 lg4 hS3 => ?_)
 clear hS1
 refine WO.asg rfl rfl ?_
 refine WO.nil (NX.go (WP.seq ?_))
 refine WD.start (fun w => (∀ jz, World.cell? w ⟨g4, jz, none⟩ = [Value.pointer (some ⟨gx, 0, none⟩)][jz]?) ∧ (∀ jz, World.cell? w ⟨g2, jz, none⟩ = [Value.pointer (some ⟨g, 0, none⟩)][jz]?) ∧ (∀ jz, World.cell? w ⟨g, jz, none⟩ = [Value.pointer (some ⟨gd, 0, none⟩), Value.slice a m2 c, hv, Value.bool bg, Value.int .i64 (la : Int), Value.int .i64 (du : Int)][jz]?) ∧ (∀ jz, World.cell? w ⟨gx, jz, none⟩ = [Value.int .i64 (sx.first : Int), Value.slice pa sx.rs.length pc, Value.int .i64 ((encR sx.rs).length : Int), Value.bool sx.dirty][jz]?) ∧ Rd w pa sx.rs.length 1 (pis sx.rs)) [] (bt 16 0) Ty.mo rfl (by kernel_rfl) hS3 (fun _ h => ⟨h.cel_at 0 rfl, h.cel_at 1 rfl, h.cel_at 2 rfl, h.cel_at 3 rfl, (h.own_rd_i 4 rfl)⟩) (fun w5 hS5 s6 => ?_)
 clear hS3
 refine WD.take (i := 0) lshort_spec_t1 (bt 16 1) s6 rfl rfl rfl (by kernel_rfl) (PQ.then PQ.body) rfl (fun w hs => run_load Ty.ag27 rfl ((hs.2.1 0).trans rfl)) ?_
 refine WD.pure (i := 1) lshort_spec_t1 (bt 16 3) rfl rfl rfl (by kernel_rfl) (PQ.then PQ.body) rfl (fun w => run_nilCheck rfl) ?_
 refine WD.pure (i := 2) lshort_spec_t1 (bt 16 7) rfl rfl rfl (by kernel_rfl) (PQ.then PQ.body) rfl (fun w => run_fieldAddr (q := ⟨g, 0, none⟩) (show fieldB Tryz.prog 49 0 = some 0 from by kernel_rfl) rfl rfl) ?_
 refine WD.take (i := 3) lshort_spec_t1 (bt 16 15) s6 rfl rfl rfl (by kernel_rfl) (PQ.then PQ.body) rfl (fun w hs => run_load Ty.ag25 rfl ((hs.2.2.1 0).trans rfl)) ?_
 refine WD.take (i := 4) lshort_spec_t1 (bt 16 31) s6 rfl rfl rfl (by kernel_rfl) (PQ.then PQ.body) rfl (fun w hs => run_load Ty.ag47 rfl ((hs.1 0).trans rfl)) ?_
 refine WD.pure (i := 5) lshort_spec_t1 (bt 16 63) rfl rfl rfl (by kernel_rfl) (PQ.then PQ.body) rfl (fun w => run_nilCheck rfl) ?_
 refine WD.pure (i := 6) lshort_spec_t1 (bt 16 127) rfl rfl rfl (by kernel_rfl) (PQ.then PQ.body) rfl (fun w => run_fieldAddr (q := ⟨gx, 0, none⟩) (show fieldB Tryz.prog 63 0 = some 0 from by kernel_rfl) rfl rfl) ?_
 refine WD.take (i := 7) lshort_spec_t1 (bt 16 255) s6 rfl rfl rfl (by kernel_rfl) (PQ.then PQ.body) rfl (fun w hs => run_load Ty.ag3 rfl ((hs.2.2.2.1 0).trans rfl)) ?_
 refine WD.two (i := 8) (k := 13) lshort_spec_t1 (bt 16 511) (bt 16 8447) rfl rfl (by kernel_rfl) ?_ ?_
 ·
  refine WO.call rfl rfl Ty.hd25 rfl (wname_spec sx.first (by omega) hS5) (fun v8 w7 pv8 => ?_)
  obtain ⟨rfl, hS7⟩ := pv8
  clear hS5
  refine WO.nil ?_
  have s9 : (∀ jz, World.cell? w7 ⟨g4, jz, none⟩ = [Value.pointer (some ⟨gx, 0, none⟩)][jz]?) ∧ (∀ jz, World.cell? w7 ⟨g2, jz, none⟩ = [Value.pointer (some ⟨g, 0, none⟩)][jz]?) ∧ (∀ jz, World.cell? w7 ⟨g, jz, none⟩ = [Value.pointer (some ⟨gd, 0, none⟩), Value.slice a m2 c, hv, Value.bool bg, Value.int .i64 (la : Int), Value.int .i64 (du : Int)][jz]?) ∧ (∀ jz, World.cell? w7 ⟨gx, jz, none⟩ = [Value.int .i64 (sx.first : Int), Value.slice pa sx.rs.length pc, Value.int .i64 ((encR sx.rs).length : Int), Value.bool sx.dirty][jz]?) ∧ Rd w7 pa sx.rs.length 1 (pis sx.rs) := ⟨hS7.cel_at 0 rfl, hS7.cel_at 1 rfl, hS7.cel_at 2 rfl, hS7.cel_at 3 rfl, (hS7.own_rd_i 4 rfl)⟩
  refine NX.held s9 ?_
  refine WD.two (i := 9) (k := 13) lshort_spec_t1 (bt 16 1023) (bt 16 8703) rfl rfl (by kernel_rfl) ?_ ?_
  ·
   have hS10 := hS7.permT [5, 0, 0, 0, 0, 0] (L' := dkA gd D :: cel g4 [Value.pointer (some ⟨gx, 0, none⟩)] 47 :: cel g2 [Value.pointer (some ⟨g, 0, none⟩)] 27 :: cel g [Value.pointer (some ⟨gd, 0, none⟩), Value.slice a m2 c, hv, Value.bool bg, Value.int .i64 (la : Int), Value.int .i64 (du : Int)] 49 :: cel gx [Value.int .i64 (sx.first : Int), Value.slice pa sx.rs.length pc, Value.int .i64 ((encR sx.rs).length : Int), Value.bool sx.dirty] 63 :: own pa sx.rs.length pc 3 1 (pis sx.rs) :: L) rfl
   clear hS7
   refine WO.call rfl rfl Ty.hd18 rfl (dread_spec hk.w (nameW sx.first) hS10) (fun v12 w11 pv12 => ?_)
   obtain ⟨hv, hS11⟩ := pv12
   clear hS10
   rw [hr] at hv
   change _ = Value.tuple #[str (encR sx.rs), Value.int .i64 0] at hv
   subst hv
   refine WO.nil ?_
   have s13 : (∀ jz, World.cell? w11 ⟨g4, jz, none⟩ = [Value.pointer (some ⟨gx, 0, none⟩)][jz]?) ∧ (∀ jz, World.cell? w11 ⟨g2, jz, none⟩ = [Value.pointer (some ⟨g, 0, none⟩)][jz]?) ∧ (∀ jz, World.cell? w11 ⟨g, jz, none⟩ = [Value.pointer (some ⟨gd, 0, none⟩), Value.slice a m2 c, hv, Value.bool bg, Value.int .i64 (la : Int), Value.int .i64 (du : Int)][jz]?) ∧ (∀ jz, World.cell? w11 ⟨gx, jz, none⟩ = [Value.int .i64 (sx.first : Int), Value.slice pa sx.rs.length pc, Value.int .i64 ((encR sx.rs).length : Int), Value.bool sx.dirty][jz]?) ∧ Rd w11 pa sx.rs.length 1 (pis sx.rs) := ⟨hS11.cel_at 1 rfl, hS11.cel_at 2 rfl, hS11.cel_at 3 rfl, hS11.cel_at 4 rfl, (hS11.own_rd_i 5 rfl)⟩
   refine NX.held s13 ?_
   refine WD.pure (i := 10) lshort_spec_t1 (bt 16 2047) rfl rfl rfl (by kernel_rfl) (PQ.then PQ.body) rfl (fun w => run_move rfl) ?_
   refine WD.pure (i := 11) lshort_spec_t1 (bt 16 4095) rfl rfl rfl (by kernel_rfl) (PQ.then PQ.body) rfl (fun w => run_extract rfl rfl) ?_
   refine WD.pure (i := 12) lshort_spec_t1 (bt 16 8191) rfl rfl rfl (by kernel_rfl) (PQ.then PQ.body) rfl (fun w => run_extract rfl rfl) ?_
   refine WD.one (i := 13) lshort_spec_t1 (bt 16 16383) rfl (by kernel_rfl) ?_
   refine WO.alloc (l := [str []]) hS11 Ty.zr9 rfl rfl (fun g15 w14 lg15 hS14 => ?_)
   clear hS11
   refine WO.nil ?_
   have s16 : (∀ jz, World.cell? w14 ⟨g4, jz, none⟩ = [Value.pointer (some ⟨gx, 0, none⟩)][jz]?) ∧ (∀ jz, World.cell? w14 ⟨g2, jz, none⟩ = [Value.pointer (some ⟨g, 0, none⟩)][jz]?) ∧ (∀ jz, World.cell? w14 ⟨g, jz, none⟩ = [Value.pointer (some ⟨gd, 0, none⟩), Value.slice a m2 c, hv, Value.bool bg, Value.int .i64 (la : Int), Value.int .i64 (du : Int)][jz]?) ∧ (∀ jz, World.cell? w14 ⟨gx, jz, none⟩ = [Value.int .i64 (sx.first : Int), Value.slice pa sx.rs.length pc, Value.int .i64 ((encR sx.rs).length : Int), Value.bool sx.dirty][jz]?) ∧ Rd w14 pa sx.rs.length 1 (pis sx.rs) := ⟨hS14.cel_at 2 rfl, hS14.cel_at 3 rfl, hS14.cel_at 4 rfl, hS14.cel_at 5 rfl, (hS14.own_rd_i 6 rfl)⟩
   refine NX.held s16 ?_
   refine WD.one (i := 14) lshort_spec_t1 (bt 16 32767) rfl (by kernel_rfl) ?_
   refine WO.store (l' := [str (encR sx.rs)]) 0 hS14 rfl Ty.sz9 rfl rfl rfl rfl rfl (Nat.le_of_ble_eq_true rfl) rfl (fun w17 (hS17 : St B (cel g15 [str (encR sx.rs)] 9 :: dkA gd D :: cel g4 [Value.pointer (some ⟨gx, 0, none⟩)] 47 :: cel g2 [Value.pointer (some ⟨g, 0, none⟩)] 27 :: cel g [Value.pointer (some ⟨gd, 0, none⟩), Value.slice a m2 c, hv, Value.bool bg, Value.int .i64 (la : Int), Value.int .i64 (du : Int)] 49 :: cel gx [Value.int .i64 (sx.first : Int), Value.slice pa sx.rs.length pc, Value.int .i64 ((encR sx.rs).length : Int), Value.bool sx.dirty] 63 :: own pa sx.rs.length pc 3 1 (pis sx.rs) :: L) w17) => ?_)
   clear hS14
   refine WO.nil ?_
   have s18 : (∀ jz, World.cell? w17 ⟨g4, jz, none⟩ = [Value.pointer (some ⟨gx, 0, none⟩)][jz]?) ∧ (∀ jz, World.cell? w17 ⟨g2, jz, none⟩ = [Value.pointer (some ⟨g, 0, none⟩)][jz]?) ∧ (∀ jz, World.cell? w17 ⟨g, jz, none⟩ = [Value.pointer (some ⟨gd, 0, none⟩), Value.slice a m2 c, hv, Value.bool bg, Value.int .i64 (la : Int), Value.int .i64 (du : Int)][jz]?) ∧ (∀ jz, World.cell? w17 ⟨gx, jz, none⟩ = [Value.int .i64 (sx.first : Int), Value.slice pa sx.rs.length pc, Value.int .i64 ((encR sx.rs).length : Int), Value.bool sx.dirty][jz]?) ∧ Rd w17 pa sx.rs.length 1 (pis sx.rs) := ⟨hS17.cel_at 2 rfl, hS17.cel_at 3 rfl, hS17.cel_at 4 rfl, hS17.cel_at 5 rfl, (hS17.own_rd_i 6 rfl)⟩
   refine NX.held s18 ?_
   refine WD.pure (i := 15) lshort_spec_t1 (bt 16 65535) rfl rfl rfl (by kernel_rfl) (PQ.then PQ.body) rfl (fun w => run_assign rfl) ?_
   refine WD.done lshort_spec_t1 (by kernel_rfl) ?_
   refine NX.go (WP.seq (WP.seq (WP.region rfl ?_)))
   refine WO.mv rfl rfl ?_
   refine WO.val (run_neq rfl rfl) rfl rfl rfl ?_
   refine WO.nil (NX.go ?_)
   refine WP.condF rfl (by decide) ?_
   refine WP.skip (NX.go (WP.seq (WP.region rfl ?_)))
   refine WO.mv rfl rfl ?_
   refine WO.val (run_load Ty.ag47 rfl ((hS17.cel_at 2 rfl 0).trans rfl)) rfl rfl rfl ?_
   refine WO.val (run_nilCheck rfl) rfl rfl rfl ?_
   refine WO.val (run_fieldAddr (q := ⟨gx, 0, none⟩) (show fieldB Tryz.prog 63 0 = some 0 from by kernel_rfl) rfl rfl) rfl rfl rfl ?_
   refine WO.val (run_load Ty.ag3 rfl ((hS17.cel_at 5 rfl 0).trans rfl)) rfl rfl rfl ?_
   refine WO.val (run_sub rfl rfl (IntWalk.i64_in _ (by omega))) rfl rfl rfl ?_
   refine WO.val (run_add rfl rfl (show IntKind.i64.wrap ((at_ : Int) - (sx.first : Int) + 1) = ((sx.rs.take kk).length : Int) from by rw [IntWalk.i64_in _ (by omega)]; omega)) rfl rfl rfl ?_
   refine WO.asg rfl rfl ?_
   refine WO.nil (NX.go (WP.seq ?_))
   refine WD.start (fun w => (∀ jz, World.cell? w ⟨g15, jz, none⟩ = [str (encR sx.rs)][jz]?) ∧ (∀ jz, World.cell? w ⟨g4, jz, none⟩ = [Value.pointer (some ⟨gx, 0, none⟩)][jz]?) ∧ (∀ jz, World.cell? w ⟨g2, jz, none⟩ = [Value.pointer (some ⟨g, 0, none⟩)][jz]?) ∧ (∀ jz, World.cell? w ⟨g, jz, none⟩ = [Value.pointer (some ⟨gd, 0, none⟩), Value.slice a m2 c, hv, Value.bool bg, Value.int .i64 (la : Int), Value.int .i64 (du : Int)][jz]?) ∧ (∀ jz, World.cell? w ⟨gx, jz, none⟩ = [Value.int .i64 (sx.first : Int), Value.slice pa sx.rs.length pc, Value.int .i64 ((encR sx.rs).length : Int), Value.bool sx.dirty][jz]?) ∧ Rd w pa sx.rs.length 1 (pis sx.rs)) [10] (bt 11 0) Ty.mo rfl (by kernel_rfl) hS17 (fun _ h => ⟨h.cel_at 0 rfl, h.cel_at 2 rfl, h.cel_at 3 rfl, h.cel_at 4 rfl, h.cel_at 5 rfl, (h.own_rd_i 6 rfl)⟩) (fun w19 hS19 s20 => ?_)
   clear hS17
   refine WD.take (i := 0) lshort_spec_t5 (bt 11 1) s20 rfl rfl rfl (by kernel_rfl) (PQ.then PQ.body) rfl (fun w hs => run_load Ty.ag47 rfl ((hs.2.1 0).trans rfl)) ?_
   refine WD.take (i := 1) lshort_spec_t5 (bt 11 3) s20 rfl rfl rfl (by kernel_rfl) (PQ.then PQ.body) rfl (fun w hs => run_load Ty.ag47 rfl ((hs.2.1 0).trans rfl)) ?_
   refine WD.pure (i := 2) lshort_spec_t5 (bt 11 7) rfl rfl rfl (by kernel_rfl) (PQ.then PQ.body) rfl (fun w => run_nilCheck rfl) ?_
   refine WD.pure (i := 3) lshort_spec_t5 (bt 11 15) rfl rfl rfl (by kernel_rfl) (PQ.then PQ.body) rfl (fun w => run_fieldAddr (q := ⟨gx, 1, none⟩) (show fieldB Tryz.prog 63 1 = some 1 from by kernel_rfl) rfl rfl) ?_
   refine WD.take (i := 4) lshort_spec_t5 (bt 11 31) s20 rfl rfl rfl (by kernel_rfl) (PQ.then PQ.body) rfl (fun w hs => run_load Ty.ag22 rfl ((hs.2.2.2.2.1 1).trans rfl)) ?_
   refine WD.pure (i := 5) lshort_spec_t5 (bt 11 63) rfl rfl rfl (by kernel_rfl) (PQ.then PQ.body) rfl (fun w => run_move rfl) ?_
   refine WD.take (i := 6) lshort_spec_t5 (bt 11 127) s20 rfl rfl rfl (by kernel_rfl) (PQ.then PQ.body) rfl (fun w hs => run_indexAddr (q := adr pa ((sx.rs.take kk).length)) Tryz.underlying22 Ty.sz3 rfl rfl (by omega) (by omega) ((hs.2.2.2.2.2).2.1 (by omega)) (by simp)) ?_
   refine WD.take (i := 7) lshort_spec_t5 (bt 11 255) s20 rfl rfl rfl (by kernel_rfl) (PQ.then PQ.body) rfl (fun w hs => run_load Ty.ag3 rfl ((hs.2.2.2.2.2).cell (by rw [hkl]; exact pis_get hk1))) ?_
   refine WD.pure (i := 8) lshort_spec_t5 (bt 11 511) rfl rfl rfl (by kernel_rfl) (PQ.then PQ.body) rfl (fun w => run_nilCheck rfl) ?_
   refine WD.pure (i := 9) lshort_spec_t5 (bt 11 1023) rfl rfl rfl (by kernel_rfl) (PQ.then PQ.body) rfl (fun w => run_fieldAddr (q := ⟨gx, 2, none⟩) (show fieldB Tryz.prog 63 2 = some 2 from by kernel_rfl) rfl rfl) ?_
   refine WD.one (i := 10) lshort_spec_t5 (bt 11 2047) rfl (by kernel_rfl) ?_
   refine WO.store (l' := [Value.int .i64 (sx.first : Int), Value.slice pa sx.rs.length pc, Value.int .i64 ((encR (sx.rs.take kk)).length : Int), Value.bool sx.dirty]) 5 hS19 rfl Ty.sz3 rfl rfl rfl rfl rfl (Nat.le_of_ble_eq_true rfl) rfl (fun w21 (hS21 : St B (cel g15 [str (encR sx.rs)] 9 :: dkA gd D :: cel g4 [Value.pointer (some ⟨gx, 0, none⟩)] 47 :: cel g2 [Value.pointer (some ⟨g, 0, none⟩)] 27 :: cel g [Value.pointer (some ⟨gd, 0, none⟩), Value.slice a m2 c, hv, Value.bool bg, Value.int .i64 (la : Int), Value.int .i64 (du : Int)] 49 :: cel gx [Value.int .i64 (sx.first : Int), Value.slice pa sx.rs.length pc, Value.int .i64 ((encR (sx.rs.take kk)).length : Int), Value.bool sx.dirty] 63 :: own pa sx.rs.length pc 3 1 (pis sx.rs) :: L) w21) => ?_)
   clear hS19
   refine WO.nil ?_
   refine NX.last (by decide) ?_
   refine WD.done lshort_spec_t5 (by kernel_rfl) ?_
   refine NX.go (WP.seq ?_)
   have hpc := hS21.own_le_i 6 rfl
   refine WD.start (fun w => (∀ jz, World.cell? w ⟨g15, jz, none⟩ = [str (encR sx.rs)][jz]?) ∧ (∀ jz, World.cell? w ⟨g4, jz, none⟩ = [Value.pointer (some ⟨gx, 0, none⟩)][jz]?) ∧ (∀ jz, World.cell? w ⟨g2, jz, none⟩ = [Value.pointer (some ⟨g, 0, none⟩)][jz]?) ∧ (∀ jz, World.cell? w ⟨g, jz, none⟩ = [Value.pointer (some ⟨gd, 0, none⟩), Value.slice a m2 c, hv, Value.bool bg, Value.int .i64 (la : Int), Value.int .i64 (du : Int)][jz]?) ∧ (∀ jz, World.cell? w ⟨gx, jz, none⟩ = [Value.int .i64 (sx.first : Int), Value.slice pa sx.rs.length pc, Value.int .i64 ((encR (sx.rs.take kk)).length : Int), Value.bool sx.dirty][jz]?) ∧ Rd w pa sx.rs.length 1 (pis sx.rs)) [9] (bt 10 0) Ty.mo rfl (by kernel_rfl) hS21 (fun _ h => ⟨h.cel_at 0 rfl, h.cel_at 2 rfl, h.cel_at 3 rfl, h.cel_at 4 rfl, h.cel_at 5 rfl, (h.own_rd_i 6 rfl)⟩) (fun w22 hS22 s23 => ?_)
   clear hS21
   refine WD.take (i := 0) lshort_spec_t6 (bt 10 1) s23 rfl rfl rfl (by kernel_rfl) (PQ.then PQ.body) rfl (fun w hs => run_load Ty.ag47 rfl ((hs.2.1 0).trans rfl)) ?_
   refine WD.take (i := 1) lshort_spec_t6 (bt 10 3) s23 rfl rfl rfl (by kernel_rfl) (PQ.then PQ.body) rfl (fun w hs => run_load Ty.ag47 rfl ((hs.2.1 0).trans rfl)) ?_
   refine WD.pure (i := 2) lshort_spec_t6 (bt 10 7) rfl rfl rfl (by kernel_rfl) (PQ.then PQ.body) rfl (fun w => run_nilCheck rfl) ?_
   refine WD.pure (i := 3) lshort_spec_t6 (bt 10 15) rfl rfl rfl (by kernel_rfl) (PQ.then PQ.body) rfl (fun w => run_fieldAddr (q := ⟨gx, 1, none⟩) (show fieldB Tryz.prog 63 1 = some 1 from by kernel_rfl) rfl rfl) ?_
   refine WD.take (i := 4) lshort_spec_t6 (bt 10 31) s23 rfl rfl rfl (by kernel_rfl) (PQ.then PQ.body) rfl (fun w hs => run_load Ty.ag22 rfl ((hs.2.2.2.2.1 1).trans rfl)) ?_
   refine WD.pure (i := 5) lshort_spec_t6 (bt 10 63) rfl rfl rfl (by kernel_rfl) (PQ.then PQ.body) rfl (fun w => run_move rfl) ?_
   refine WD.pure (i := 6) lshort_spec_t6 (bt 10 127) rfl rfl rfl (by kernel_rfl) (PQ.then PQ.body) rfl (fun w => run_sliceTo (j := (sx.rs.take kk).length) Tryz.underlying22 Ty.sz3 rfl ⟨_, rfl⟩ (by omega)) ?_
   refine WD.pure (i := 7) lshort_spec_t6 (bt 10 255) rfl rfl rfl (by kernel_rfl) (PQ.then PQ.body) rfl (fun w => run_nilCheck rfl) ?_
   refine WD.pure (i := 8) lshort_spec_t6 (bt 10 511) rfl rfl rfl (by kernel_rfl) (PQ.then PQ.body) rfl (fun w => run_fieldAddr (q := ⟨gx, 1, none⟩) (show fieldB Tryz.prog 63 1 = some 1 from by kernel_rfl) rfl rfl) ?_
   refine WD.one (i := 9) lshort_spec_t6 (bt 10 1023) rfl (by kernel_rfl) ?_
   refine WO.store (l' := [Value.int .i64 (sx.first : Int), Value.slice pa ((sx.rs.take kk).length) pc, Value.int .i64 ((encR (sx.rs.take kk)).length : Int), Value.bool sx.dirty]) 5 hS22 rfl Ty.sz22 rfl rfl rfl rfl rfl (Nat.le_of_ble_eq_true rfl) rfl (fun w24 (hS24 : St B (cel g15 [str (encR sx.rs)] 9 :: dkA gd D :: cel g4 [Value.pointer (some ⟨gx, 0, none⟩)] 47 :: cel g2 [Value.pointer (some ⟨g, 0, none⟩)] 27 :: cel g [Value.pointer (some ⟨gd, 0, none⟩), Value.slice a m2 c, hv, Value.bool bg, Value.int .i64 (la : Int), Value.int .i64 (du : Int)] 49 :: cel gx [Value.int .i64 (sx.first : Int), Value.slice pa ((sx.rs.take kk).length) pc, Value.int .i64 ((encR (sx.rs.take kk)).length : Int), Value.bool sx.dirty] 63 :: own pa sx.rs.length pc 3 1 (pis sx.rs) :: L) w24) => ?_)
   clear hS22
   refine WO.nil ?_
   refine NX.last (by decide) ?_
   refine WD.done lshort_spec_t6 (by kernel_rfl) ?_
   refine NX.go (WP.seq (WP.seq ?_))
   have hS25 := hS24.own_take_i 6 rfl (m := (sx.rs.take kk).length) (by omega) (l' := pis (sx.rs.take kk)) (by rw [Nat.mul_one, hkl, pis_take (by omega)]) rfl
   clear hS24
   replace hS25 : St B (cel g15 [str (encR sx.rs)] 9 :: dkA gd D :: cel g4 [Value.pointer (some ⟨gx, 0, none⟩)] 47 :: cel g2 [Value.pointer (some ⟨g, 0, none⟩)] 27 :: cel g [Value.pointer (some ⟨gd, 0, none⟩), Value.slice a m2 c, hv, Value.bool bg, Value.int .i64 (la : Int), Value.int .i64 (du : Int)] 49 :: cel gx [Value.int .i64 (sx.first : Int), Value.slice pa ((sx.rs.take kk).length) pc, Value.int .i64 ((encR (sx.rs.take kk)).length : Int), Value.bool sx.dirty] 63 :: own pa ((sx.rs.take kk).length) pc 3 1 (pis (sx.rs.take kk)) :: L) w24 := hS25
   refine WP.region rfl ?_
   refine WO.val (run_load Ty.ag27 rfl ((hS25.cel_at 3 rfl 0).trans rfl)) rfl rfl rfl ?_
   refine WO.val (run_nilCheck rfl) rfl rfl rfl ?_
   refine WO.val (run_fieldAddr (q := ⟨g, 0, none⟩) (show fieldB Tryz.prog 49 0 = some 0 from by kernel_rfl) rfl rfl) rfl rfl rfl ?_
   refine WO.val (run_load Ty.ag25 rfl ((hS25.cel_at 4 rfl 0).trans rfl)) rfl rfl rfl ?_
   have hS26 := hS25.permT [1, 0, 0, 0, 0, 0, 0] (L' := dkA gd D :: cel g15 [str (encR sx.rs)] 9 :: cel g4 [Value.pointer (some ⟨gx, 0, none⟩)] 47 :: cel g2 [Value.pointer (some ⟨g, 0, none⟩)] 27 :: cel g [Value.pointer (some ⟨gd, 0, none⟩), Value.slice a m2 c, hv, Value.bool bg, Value.int .i64 (la : Int), Value.int .i64 (du : Int)] 49 :: cel gx [Value.int .i64 (sx.first : Int), Value.slice pa ((sx.rs.take kk).length) pc, Value.int .i64 ((encR (sx.rs.take kk)).length : Int), Value.bool sx.dirty] 63 :: own pa ((sx.rs.take kk).length) pc 3 1 (pis (sx.rs.take kk)) :: L) rfl
   clear hS25
   refine WO.call rfl rfl Ty.hd18 rfl (dread_spec hk.w [116] hS26) (fun v28 w27 pv28 => ?_)
   obtain ⟨rfl, hS27⟩ := pv28
   clear hS26
   refine WO.mv rfl rfl ?_
   refine WO.val (run_extract rfl rfl) rfl rfl rfl ?_
   refine WO.val (run_extract rfl rfl) rfl rfl rfl ?_
   refine WO.asg rfl rfl ?_
   refine WO.asg rfl rfl ?_
   refine WO.nil (NX.go (WP.seq (WP.region rfl ?_)))
   refine WO.mv rfl rfl ?_
   refine WO.val (run_eql rfl rfl) rfl rfl rfl ?_
   refine WO.nil (NX.go ?_)
   refine WP.condP rfl (fun g67 => ?_) (fun g67 => ?_)
   ·
    exfalso; exact hno g67
   ·
    refine WP.skip (NX.go (WP.seq (WP.seq (WP.region rfl ?_))))
    refine WO.val (run_makeFunc rfl rfl) rfl rfl rfl ?_
    refine WO.val (run_makeFunc rfl rfl) rfl rfl rfl ?_
    refine WO.val (run_makeFunc rfl rfl) rfl rfl rfl ?_
    refine WO.buildSlice (l := [Value.func (.func 49) #[] #[Value.pointer (some ⟨g2, 0, none⟩), Value.pointer (some ⟨g15, 0, none⟩), Value.pointer (some ⟨g4, 0, none⟩)], Value.func (.func 50) #[] #[Value.pointer (some ⟨g2, 0, none⟩)], Value.func (.func 51) #[] #[Value.pointer (some ⟨g2, 0, none⟩), Value.pointer (some ⟨g4, 0, none⟩)]]) hS27 Tryz.underlying88 rfl (fun w => by kernel_rfl) rfl (fun g31 w29 lg31 hS29 => ?_)
    clear hS27
    have hS29 := hS29.own_of_cel (m := 3) (k := 1) rfl
    replace hS29 : St B (own (some ⟨g31, 0, none⟩) 3 3 34 1 (valsT g2 g4 g15) :: dkA gd D :: cel g15 [str (encR sx.rs)] 9 :: cel g4 [Value.pointer (some ⟨gx, 0, none⟩)] 47 :: cel g2 [Value.pointer (some ⟨g, 0, none⟩)] 27 :: cel g [Value.pointer (some ⟨gd, 0, none⟩), Value.slice a m2 c, hv, Value.bool bg, Value.int .i64 (la : Int), Value.int .i64 (du : Int)] 49 :: cel gx [Value.int .i64 (sx.first : Int), Value.slice pa ((sx.rs.take kk).length) pc, Value.int .i64 ((encR (sx.rs.take kk)).length : Int), Value.bool sx.dirty] 63 :: own pa ((sx.rs.take kk).length) pc 3 1 (pis (sx.rs.take kk)) :: L) w29 := hS29
    refine WO.val (run_len rfl Tryz.underlying88 rfl) rfl rfl rfl ?_
    refine WO.mv rfl rfl ?_
    refine WO.nil (NX.go (WP.block ?_))
    refine WP.loop (α := Nat × Dk × Nat × Nat) (fun x => match x with | ⟨i, Dq, nq, tq⟩ => [(79, Value.slice (some ⟨g31, 0, none⟩) 3 3), (80, Value.int .i64 (3 : Int)), (81, Value.int .i64 (i : Int))]) (fun x w => match x with | ⟨i, Dq, nq, tq⟩ => (i ≤ 3 ∧ OkD Dq nq tq ∧ nq ≤ n + i ∧ tq ≤ t + 100000000 * i ∧ runD (stepsT ((encR sx.rs).take (encR (sx.rs.take kk)).length) (nameW sx.first)) D = runD ((stepsT ((encR sx.rs).take (encR (sx.rs.take kk)).length) (nameW sx.first)).drop i) Dq) ∧ St B (own (some ⟨g31, 0, none⟩) 3 3 34 1 (valsT g2 g4 g15) :: dkA gd Dq :: cel g15 [str (encR sx.rs)] 9 :: cel g4 [Value.pointer (some ⟨gx, 0, none⟩)] 47 :: cel g2 [Value.pointer (some ⟨g, 0, none⟩)] 27 :: cel g [Value.pointer (some ⟨gd, 0, none⟩), Value.slice a m2 c, hv, Value.bool bg, Value.int .i64 (la : Int), Value.int .i64 (du : Int)] 49 :: cel gx [Value.int .i64 (sx.first : Int), Value.slice pa ((sx.rs.take kk).length) pc, Value.int .i64 ((encR (sx.rs.take kk)).length : Int), Value.bool sx.dirty] 63 :: own pa ((sx.rs.take kk).length) pc 3 1 (pis (sx.rs.take kk)) :: L) w) (fun x => match x with | ⟨i, Dq, nq, tq⟩ => 3 - i) (0, D, n, t) ⟨⟨Nat.zero_le _, hk, Nat.le_refl _, Nat.le_refl _, rfl⟩, hS29⟩ (Sub.cons rfl (Sub.cons rfl (Sub.consE rfl (by first | rfl | first | rfl | (congr 1; omega) | (simp; done) | (simp; omega)) (Sub.nil _)))) ?_
    rintro ⟨i, Dq, nq, tq⟩ w32 ⟨⟨hi, hkq, hnq, htq, hp⟩, hS32⟩
    clear hS29
    refine WP.seq (WP.region rfl ?_)
    refine WO.val (run_lss rfl rfl) rfl rfl rfl ?_
    refine WO.nil (NX.go (WP.seq ?_))
    refine WP.condP rfl (fun g82 => ?_) (fun g82 => ?_)
    ·
     refine WP.skip (NX.go (WP.seq (WP.block (WP.seq ?_))))
     obtain ⟨fv, hv0⟩ : ∃ fv, (valsT g2 g4 g15)[i]? = some fv := ⟨_, List.getElem?_eq_getElem (by show i < 3; omega)⟩
     refine WP.region rfl ?_
     refine WO.val (run_indexAddr (q := adr (some ⟨g31, 0, none⟩) i) Tryz.underlying88 Ty.sz34 rfl rfl (by omega) (by omega) ((hS32.own_rd_i 0 rfl).2.1 (by omega)) (by simp)) rfl rfl rfl ?_
     refine WO.val (run_load Ty.ag34 rfl ((hS32.own_rd_i 0 rfl).cell hv0)) rfl rfl rfl ?_
     refine WO.asg rfl rfl ?_
     refine WO.nil (NX.go (WP.seq (WP.region rfl ?_)))
     refine WO.mv rfl rfl ?_
     obtain ⟨f, hf, F, us, cs, hfv, hF, hD, hok⟩ := callT (s := encR sx.rs) (sz := (encR (sx.rs.take kk)).length) hkq (by omega) (by omega) (by omega) hsz hf0 hv0 (hS32.permT [1, 4, 4, 3, 2, 1, 0, 0] (L' := dkA gd Dq :: cel g [Value.pointer (some ⟨gd, 0, none⟩), Value.slice a m2 c, hv, Value.bool bg, Value.int .i64 (la : Int), Value.int .i64 (du : Int)] 49 :: cel gx [Value.int .i64 (sx.first : Int), Value.slice pa ((sx.rs.take kk).length) pc, Value.int .i64 ((encR (sx.rs.take kk)).length : Int), Value.bool sx.dirty] 63 :: cel g2 [Value.pointer (some ⟨g, 0, none⟩)] 27 :: cel g4 [Value.pointer (some ⟨gx, 0, none⟩)] 47 :: cel g15 [str (encR sx.rs)] 9 :: own (some ⟨g31, 0, none⟩) 3 3 34 1 (valsT g2 g4 g15) :: own pa ((sx.rs.take kk).length) pc 3 1 (pis (sx.rs.take kk)) :: L) rfl)
     subst hfv
     refine WO.callV (us := us) (cs := cs) rfl rfl hF rfl hD (fun v34 w33 pv34 => ?_)
     obtain ⟨rfl, hS33⟩ := pv34
     clear hS32
     refine WO.asg rfl rfl ?_
     refine WO.nil (NX.go (WP.seq (WP.region rfl ?_)))
     refine WO.mv rfl rfl ?_
     refine WO.val (run_neq rfl rfl) rfl rfl rfl ?_
     refine WO.nil (NX.go ?_)
     refine WP.condP rfl (fun g88 => ?_) (fun g88 => ?_)
     ·
      refine WP.seq (WP.region rfl ?_)
      refine WO.mv rfl rfl ?_
      refine WO.asg rfl rfl ?_
      refine WO.nil (NX.go (WP.ret (NX.blkRet (NX.thenRet (NX.thenRet (NX.blkRet (NX.thenRet ?_)))))))
      refine NX.done (l := [.tmp 6]) rfl rfl ?_
      have e0 : runD (stepsT ((encR sx.rs).take (encR (sx.rs.take kk)).length) (nameW sx.first)) D = f Dq := by rw [hp, runD_step hf, if_neg g88]
      rw [e0]
      exact ⟨rfl, (hS33.permT [3, 3, 3, 3, 1, 1, 1, 0] (L' := cel g2 [Value.pointer (some ⟨g, 0, none⟩)] 27 :: cel g4 [Value.pointer (some ⟨gx, 0, none⟩)] 47 :: cel g15 [str (encR sx.rs)] 9 :: own (some ⟨g31, 0, none⟩) 3 3 34 1 (valsT g2 g4 g15) :: cel g [Value.pointer (some ⟨gd, 0, none⟩), Value.slice a m2 c, hv, Value.bool bg, Value.int .i64 (la : Int), Value.int .i64 (du : Int)] 49 :: cel gx [Value.int .i64 (sx.first : Int), Value.slice pa ((sx.rs.take kk).length) pc, Value.int .i64 ((encR (sx.rs.take kk)).length : Int), Value.bool sx.dirty] 63 :: own pa ((sx.rs.take kk).length) pc 3 1 (pis (sx.rs.take kk)) :: dkA gd ((f Dq).1) :: L) rfl).drop.drop.drop.drop⟩
     ·
      refine WP.skip (NX.blk (NX.go (WP.region rfl ?_)))
      refine WO.val (run_add rfl rfl (IntWalk.i64_in _ (by omega))) rfl rfl rfl ?_
      refine WO.mv rfl rfl ?_
      refine WO.nil ?_
      exact NX.again (i + 1, (f Dq).1, nq + 1, tq + 100000000) ⟨⟨by omega, hok.mono (Nat.le_refl _) (by omega), by omega, by omega, by rw [hp, runD_step hf, if_pos (Decidable.of_not_not g88)]⟩, (hS33.permT [6, 0, 4, 3, 2, 0, 0, 0] (L' := own (some ⟨g31, 0, none⟩) 3 3 34 1 (valsT g2 g4 g15) :: dkA gd ((f Dq).1) :: cel g15 [str (encR sx.rs)] 9 :: cel g4 [Value.pointer (some ⟨gx, 0, none⟩)] 47 :: cel g2 [Value.pointer (some ⟨g, 0, none⟩)] 27 :: cel g [Value.pointer (some ⟨gd, 0, none⟩), Value.slice a m2 c, hv, Value.bool bg, Value.int .i64 (la : Int), Value.int .i64 (du : Int)] 49 :: cel gx [Value.int .i64 (sx.first : Int), Value.slice pa ((sx.rs.take kk).length) pc, Value.int .i64 ((encR (sx.rs.take kk)).length : Int), Value.bool sx.dirty] 63 :: own pa ((sx.rs.take kk).length) pc 3 1 (pis (sx.rs.take kk)) :: L) rfl)⟩ (by show 3 - (i + 1) < 3 - i; omega) (Sub.cons rfl (Sub.cons rfl (Sub.consE rfl (by congr 1) (Sub.nil _))))
    ·
     refine WP.exit (NX.thenExit (NX.thenExit ?_))
     refine NX.blkExit ?_
     refine NX.go (WP.seq (WP.region rfl ?_))
     refine WO.asg rfl rfl ?_
     refine WO.nil (NX.go (WP.ret ?_))
     refine NX.done (l := [.tmp 6]) rfl rfl ?_
     have hin : i = 3 := by omega
     subst hin
     have e0 : runD (stepsT ((encR sx.rs).take (encR (sx.rs.take kk)).length) (nameW sx.first)) D = (Dq, 0) := by rw [hp]; rfl
     rw [e0]
     exact ⟨rfl, (hS32.permT [0, 1, 1, 1, 1, 1, 1, 0] (L' := own (some ⟨g31, 0, none⟩) 3 3 34 1 (valsT g2 g4 g15) :: cel g15 [str (encR sx.rs)] 9 :: cel g4 [Value.pointer (some ⟨gx, 0, none⟩)] 47 :: cel g2 [Value.pointer (some ⟨g, 0, none⟩)] 27 :: cel g [Value.pointer (some ⟨gd, 0, none⟩), Value.slice a m2 c, hv, Value.bool bg, Value.int .i64 (la : Int), Value.int .i64 (du : Int)] 49 :: cel gx [Value.int .i64 (sx.first : Int), Value.slice pa ((sx.rs.take kk).length) pc, Value.int .i64 ((encR (sx.rs.take kk)).length : Int), Value.bool sx.dirty] 63 :: own pa ((sx.rs.take kk).length) pc 3 1 (pis (sx.rs.take kk)) :: dkA gd Dq :: L) rfl).drop.drop.drop.drop⟩
  ·
   refine WO.alloc (l := [str []]) hS7 Ty.zr9 rfl rfl (fun g36 w35 lg36 hS35 => ?_)
   clear hS7
   refine WO.nil ?_
   have s37 : (∀ jz, World.cell? w35 ⟨g4, jz, none⟩ = [Value.pointer (some ⟨gx, 0, none⟩)][jz]?) ∧ (∀ jz, World.cell? w35 ⟨g2, jz, none⟩ = [Value.pointer (some ⟨g, 0, none⟩)][jz]?) ∧ (∀ jz, World.cell? w35 ⟨g, jz, none⟩ = [Value.pointer (some ⟨gd, 0, none⟩), Value.slice a m2 c, hv, Value.bool bg, Value.int .i64 (la : Int), Value.int .i64 (du : Int)][jz]?) ∧ (∀ jz, World.cell? w35 ⟨gx, jz, none⟩ = [Value.int .i64 (sx.first : Int), Value.slice pa sx.rs.length pc, Value.int .i64 ((encR sx.rs).length : Int), Value.bool sx.dirty][jz]?) ∧ Rd w35 pa sx.rs.length 1 (pis sx.rs) := ⟨hS35.cel_at 1 rfl, hS35.cel_at 2 rfl, hS35.cel_at 3 rfl, hS35.cel_at 4 rfl, (hS35.own_rd_i 5 rfl)⟩
   refine NX.held s37 ?_
   refine WD.one (i := 9) lshort_spec_t1 (bt 16 9215) rfl (by kernel_rfl) ?_
   have hS38 := hS35.permT [6, 0, 0, 0, 0, 0, 0] (L' := dkA gd D :: cel g36 [str []] 9 :: cel g4 [Value.pointer (some ⟨gx, 0, none⟩)] 47 :: cel g2 [Value.pointer (some ⟨g, 0, none⟩)] 27 :: cel g [Value.pointer (some ⟨gd, 0, none⟩), Value.slice a m2 c, hv, Value.bool bg, Value.int .i64 (la : Int), Value.int .i64 (du : Int)] 49 :: cel gx [Value.int .i64 (sx.first : Int), Value.slice pa sx.rs.length pc, Value.int .i64 ((encR sx.rs).length : Int), Value.bool sx.dirty] 63 :: own pa sx.rs.length pc 3 1 (pis sx.rs) :: L) rfl
   clear hS35
   refine WO.call rfl rfl Ty.hd18 rfl (dread_spec hk.w (nameW sx.first) hS38) (fun v40 w39 pv40 => ?_)
   obtain ⟨hv, hS39⟩ := pv40
   clear hS38
   rw [hr] at hv
   change _ = Value.tuple #[str (encR sx.rs), Value.int .i64 0] at hv
   subst hv
   refine WO.nil ?_
   have s41 : (∀ jz, World.cell? w39 ⟨g4, jz, none⟩ = [Value.pointer (some ⟨gx, 0, none⟩)][jz]?) ∧ (∀ jz, World.cell? w39 ⟨g2, jz, none⟩ = [Value.pointer (some ⟨g, 0, none⟩)][jz]?) ∧ (∀ jz, World.cell? w39 ⟨g, jz, none⟩ = [Value.pointer (some ⟨gd, 0, none⟩), Value.slice a m2 c, hv, Value.bool bg, Value.int .i64 (la : Int), Value.int .i64 (du : Int)][jz]?) ∧ (∀ jz, World.cell? w39 ⟨gx, jz, none⟩ = [Value.int .i64 (sx.first : Int), Value.slice pa sx.rs.length pc, Value.int .i64 ((encR sx.rs).length : Int), Value.bool sx.dirty][jz]?) ∧ Rd w39 pa sx.rs.length 1 (pis sx.rs) := ⟨hS39.cel_at 2 rfl, hS39.cel_at 3 rfl, hS39.cel_at 4 rfl, hS39.cel_at 5 rfl, (hS39.own_rd_i 6 rfl)⟩
   refine NX.held s41 ?_
   refine WD.pure (i := 10) lshort_spec_t1 (bt 16 10239) rfl rfl rfl (by kernel_rfl) (PQ.then PQ.body) rfl (fun w => run_move rfl) ?_
   refine WD.pure (i := 11) lshort_spec_t1 (bt 16 12287) rfl rfl rfl (by kernel_rfl) (PQ.then PQ.body) rfl (fun w => run_extract rfl rfl) ?_
   refine WD.pure (i := 12) lshort_spec_t1 (bt 16 16383) rfl rfl rfl (by kernel_rfl) (PQ.then PQ.body) rfl (fun w => run_extract rfl rfl) ?_
   refine WD.one (i := 14) lshort_spec_t1 (bt 16 32767) rfl (by kernel_rfl) ?_
   refine WO.store (l' := [str (encR sx.rs)]) 1 hS39 rfl Ty.sz9 rfl rfl rfl rfl rfl (Nat.le_of_ble_eq_true rfl) rfl (fun w42 (hS42 : St B (dkA gd D :: cel g36 [str (encR sx.rs)] 9 :: cel g4 [Value.pointer (some ⟨gx, 0, none⟩)] 47 :: cel g2 [Value.pointer (some ⟨g, 0, none⟩)] 27 :: cel g [Value.pointer (some ⟨gd, 0, none⟩), Value.slice a m2 c, hv, Value.bool bg, Value.int .i64 (la : Int), Value.int .i64 (du : Int)] 49 :: cel gx [Value.int .i64 (sx.first : Int), Value.slice pa sx.rs.length pc, Value.int .i64 ((encR sx.rs).length : Int), Value.bool sx.dirty] 63 :: own pa sx.rs.length pc 3 1 (pis sx.rs) :: L) w42) => ?_)
   clear hS39
   refine WO.nil ?_
   have s43 : (∀ jz, World.cell? w42 ⟨g4, jz, none⟩ = [Value.pointer (some ⟨gx, 0, none⟩)][jz]?) ∧ (∀ jz, World.cell? w42 ⟨g2, jz, none⟩ = [Value.pointer (some ⟨g, 0, none⟩)][jz]?) ∧ (∀ jz, World.cell? w42 ⟨g, jz, none⟩ = [Value.pointer (some ⟨gd, 0, none⟩), Value.slice a m2 c, hv, Value.bool bg, Value.int .i64 (la : Int), Value.int .i64 (du : Int)][jz]?) ∧ (∀ jz, World.cell? w42 ⟨gx, jz, none⟩ = [Value.int .i64 (sx.first : Int), Value.slice pa sx.rs.length pc, Value.int .i64 ((encR sx.rs).length : Int), Value.bool sx.dirty][jz]?) ∧ Rd w42 pa sx.rs.length 1 (pis sx.rs) := ⟨hS42.cel_at 2 rfl, hS42.cel_at 3 rfl, hS42.cel_at 4 rfl, hS42.cel_at 5 rfl, (hS42.own_rd_i 6 rfl)⟩
   refine NX.held s43 ?_
   refine WD.pure (i := 15) lshort_spec_t1 (bt 16 65535) rfl rfl rfl (by kernel_rfl) (PQ.then PQ.body) rfl (fun w => run_assign rfl) ?_
   refine WD.done lshort_spec_t1 (by kernel_rfl) ?_
   refine NX.go (WP.seq (WP.seq (WP.region rfl ?_)))
   refine WO.mv rfl rfl ?_
   refine WO.val (run_neq rfl rfl) rfl rfl rfl ?_
   refine WO.nil (NX.go ?_)
   refine WP.condF rfl (by decide) ?_
   refine WP.skip (NX.go (WP.seq (WP.region rfl ?_)))
   refine WO.mv rfl rfl ?_
   refine WO.val (run_load Ty.ag47 rfl ((hS42.cel_at 2 rfl 0).trans rfl)) rfl rfl rfl ?_
   refine WO.val (run_nilCheck rfl) rfl rfl rfl ?_
   refine WO.val (run_fieldAddr (q := ⟨gx, 0, none⟩) (show fieldB Tryz.prog 63 0 = some 0 from by kernel_rfl) rfl rfl) rfl rfl rfl ?_
   refine WO.val (run_load Ty.ag3 rfl ((hS42.cel_at 5 rfl 0).trans rfl)) rfl rfl rfl ?_
   refine WO.val (run_sub rfl rfl (IntWalk.i64_in _ (by omega))) rfl rfl rfl ?_
   refine WO.val (run_add rfl rfl (show IntKind.i64.wrap ((at_ : Int) - (sx.first : Int) + 1) = ((sx.rs.take kk).length : Int) from by rw [IntWalk.i64_in _ (by omega)]; omega)) rfl rfl rfl ?_
   refine WO.asg rfl rfl ?_
   refine WO.nil (NX.go (WP.seq ?_))
   refine WD.start (fun w => (∀ jz, World.cell? w ⟨g36, jz, none⟩ = [str (encR sx.rs)][jz]?) ∧ (∀ jz, World.cell? w ⟨g4, jz, none⟩ = [Value.pointer (some ⟨gx, 0, none⟩)][jz]?) ∧ (∀ jz, World.cell? w ⟨g2, jz, none⟩ = [Value.pointer (some ⟨g, 0, none⟩)][jz]?) ∧ (∀ jz, World.cell? w ⟨g, jz, none⟩ = [Value.pointer (some ⟨gd, 0, none⟩), Value.slice a m2 c, hv, Value.bool bg, Value.int .i64 (la : Int), Value.int .i64 (du : Int)][jz]?) ∧ (∀ jz, World.cell? w ⟨gx, jz, none⟩ = [Value.int .i64 (sx.first : Int), Value.slice pa sx.rs.length pc, Value.int .i64 ((encR sx.rs).length : Int), Value.bool sx.dirty][jz]?) ∧ Rd w pa sx.rs.length 1 (pis sx.rs)) [10] (bt 11 0) Ty.mo rfl (by kernel_rfl) hS42 (fun _ h => ⟨h.cel_at 1 rfl, h.cel_at 2 rfl, h.cel_at 3 rfl, h.cel_at 4 rfl, h.cel_at 5 rfl, (h.own_rd_i 6 rfl)⟩) (fun w44 hS44 s45 => ?_)
   clear hS42
   refine WD.take (i := 0) lshort_spec_t5 (bt 11 1) s45 rfl rfl rfl (by kernel_rfl) (PQ.then PQ.body) rfl (fun w hs => run_load Ty.ag47 rfl ((hs.2.1 0).trans rfl)) ?_
   refine WD.take (i := 1) lshort_spec_t5 (bt 11 3) s45 rfl rfl rfl (by kernel_rfl) (PQ.then PQ.body) rfl (fun w hs => run_load Ty.ag47 rfl ((hs.2.1 0).trans rfl)) ?_
   refine WD.pure (i := 2) lshort_spec_t5 (bt 11 7) rfl rfl rfl (by kernel_rfl) (PQ.then PQ.body) rfl (fun w => run_nilCheck rfl) ?_
   refine WD.pure (i := 3) lshort_spec_t5 (bt 11 15) rfl rfl rfl (by kernel_rfl) (PQ.then PQ.body) rfl (fun w => run_fieldAddr (q := ⟨gx, 1, none⟩) (show fieldB Tryz.prog 63 1 = some 1 from by kernel_rfl) rfl rfl) ?_
   refine WD.take (i := 4) lshort_spec_t5 (bt 11 31) s45 rfl rfl rfl (by kernel_rfl) (PQ.then PQ.body) rfl (fun w hs => run_load Ty.ag22 rfl ((hs.2.2.2.2.1 1).trans rfl)) ?_
   refine WD.pure (i := 5) lshort_spec_t5 (bt 11 63) rfl rfl rfl (by kernel_rfl) (PQ.then PQ.body) rfl (fun w => run_move rfl) ?_
   refine WD.take (i := 6) lshort_spec_t5 (bt 11 127) s45 rfl rfl rfl (by kernel_rfl) (PQ.then PQ.body) rfl (fun w hs => run_indexAddr (q := adr pa ((sx.rs.take kk).length)) Tryz.underlying22 Ty.sz3 rfl rfl (by omega) (by omega) ((hs.2.2.2.2.2).2.1 (by omega)) (by simp)) ?_
   refine WD.take (i := 7) lshort_spec_t5 (bt 11 255) s45 rfl rfl rfl (by kernel_rfl) (PQ.then PQ.body) rfl (fun w hs => run_load Ty.ag3 rfl ((hs.2.2.2.2.2).cell (by rw [hkl]; exact pis_get hk1))) ?_
   refine WD.pure (i := 8) lshort_spec_t5 (bt 11 511) rfl rfl rfl (by kernel_rfl) (PQ.then PQ.body) rfl (fun w => run_nilCheck rfl) ?_
   refine WD.pure (i := 9) lshort_spec_t5 (bt 11 1023) rfl rfl rfl (by kernel_rfl) (PQ.then PQ.body) rfl (fun w => run_fieldAddr (q := ⟨gx, 2, none⟩) (show fieldB Tryz.prog 63 2 = some 2 from by kernel_rfl) rfl rfl) ?_
   refine WD.one (i := 10) lshort_spec_t5 (bt 11 2047) rfl (by kernel_rfl) ?_
   refine WO.store (l' := [Value.int .i64 (sx.first : Int), Value.slice pa sx.rs.length pc, Value.int .i64 ((encR (sx.rs.take kk)).length : Int), Value.bool sx.dirty]) 5 hS44 rfl Ty.sz3 rfl rfl rfl rfl rfl (Nat.le_of_ble_eq_true rfl) rfl (fun w46 (hS46 : St B (dkA gd D :: cel g36 [str (encR sx.rs)] 9 :: cel g4 [Value.pointer (some ⟨gx, 0, none⟩)] 47 :: cel g2 [Value.pointer (some ⟨g, 0, none⟩)] 27 :: cel g [Value.pointer (some ⟨gd, 0, none⟩), Value.slice a m2 c, hv, Value.bool bg, Value.int .i64 (la : Int), Value.int .i64 (du : Int)] 49 :: cel gx [Value.int .i64 (sx.first : Int), Value.slice pa sx.rs.length pc, Value.int .i64 ((encR (sx.rs.take kk)).length : Int), Value.bool sx.dirty] 63 :: own pa sx.rs.length pc 3 1 (pis sx.rs) :: L) w46) => ?_)
   clear hS44
   refine WO.nil ?_
   refine NX.last (by decide) ?_
   refine WD.done lshort_spec_t5 (by kernel_rfl) ?_
   refine NX.go (WP.seq ?_)
   have hpc := hS46.own_le_i 6 rfl
   refine WD.start (fun w => (∀ jz, World.cell? w ⟨g36, jz, none⟩ = [str (encR sx.rs)][jz]?) ∧ (∀ jz, World.cell? w ⟨g4, jz, none⟩ = [Value.pointer (some ⟨gx, 0, none⟩)][jz]?) ∧ (∀ jz, World.cell? w ⟨g2, jz, none⟩ = [Value.pointer (some ⟨g, 0, none⟩)][jz]?) ∧ (∀ jz, World.cell? w ⟨g, jz, none⟩ = [Value.pointer (some ⟨gd, 0, none⟩), Value.slice a m2 c, hv, Value.bool bg, Value.int .i64 (la : Int), Value.int .i64 (du : Int)][jz]?) ∧ (∀ jz, World.cell? w ⟨gx, jz, none⟩ = [Value.int .i64 (sx.first : Int), Value.slice pa sx.rs.length pc, Value.int .i64 ((encR (sx.rs.take kk)).length : Int), Value.bool sx.dirty][jz]?) ∧ Rd w pa sx.rs.length 1 (pis sx.rs)) [9] (bt 10 0) Ty.mo rfl (by kernel_rfl) hS46 (fun _ h => ⟨h.cel_at 1 rfl, h.cel_at 2 rfl, h.cel_at 3 rfl, h.cel_at 4 rfl, h.cel_at 5 rfl, (h.own_rd_i 6 rfl)⟩) (fun w47 hS47 s48 => ?_)
   clear hS46
   refine WD.take (i := 0) lshort_spec_t6 (bt 10 1) s48 rfl rfl rfl (by kernel_rfl) (PQ.then PQ.body) rfl (fun w hs => run_load Ty.ag47 rfl ((hs.2.1 0).trans rfl)) ?_
   refine WD.take (i := 1) lshort_spec_t6 (bt 10 3) s48 rfl rfl rfl (by kernel_rfl) (PQ.then PQ.body) rfl (fun w hs => run_load Ty.ag47 rfl ((hs.2.1 0).trans rfl)) ?_
   refine WD.pure (i := 2) lshort_spec_t6 (bt 10 7) rfl rfl rfl (by kernel_rfl) (PQ.then PQ.body) rfl (fun w => run_nilCheck rfl) ?_
   refine WD.pure (i := 3) lshort_spec_t6 (bt 10 15) rfl rfl rfl (by kernel_rfl) (PQ.then PQ.body) rfl (fun w => run_fieldAddr (q := ⟨gx, 1, none⟩) (show fieldB Tryz.prog 63 1 = some 1 from by kernel_rfl) rfl rfl) ?_
   refine WD.take (i := 4) lshort_spec_t6 (bt 10 31) s48 rfl rfl rfl (by kernel_rfl) (PQ.then PQ.body) rfl (fun w hs => run_load Ty.ag22 rfl ((hs.2.2.2.2.1 1).trans rfl)) ?_
   refine WD.pure (i := 5) lshort_spec_t6 (bt 10 63) rfl rfl rfl (by kernel_rfl) (PQ.then PQ.body) rfl (fun w => run_move rfl) ?_
   refine WD.pure (i := 6) lshort_spec_t6 (bt 10 127) rfl rfl rfl (by kernel_rfl) (PQ.then PQ.body) rfl (fun w => run_sliceTo (j := (sx.rs.take kk).length) Tryz.underlying22 Ty.sz3 rfl ⟨_, rfl⟩ (by omega)) ?_
   refine WD.pure (i := 7) lshort_spec_t6 (bt 10 255) rfl rfl rfl (by kernel_rfl) (PQ.then PQ.body) rfl (fun w => run_nilCheck rfl) ?_
   refine WD.pure (i := 8) lshort_spec_t6 (bt 10 511) rfl rfl rfl (by kernel_rfl) (PQ.then PQ.body) rfl (fun w => run_fieldAddr (q := ⟨gx, 1, none⟩) (show fieldB Tryz.prog 63 1 = some 1 from by kernel_rfl) rfl rfl) ?_
   refine WD.one (i := 9) lshort_spec_t6 (bt 10 1023) rfl (by kernel_rfl) ?_
   refine WO.store (l' := [Value.int .i64 (sx.first : Int), Value.slice pa ((sx.rs.take kk).length) pc, Value.int .i64 ((encR (sx.rs.take kk)).length : Int), Value.bool sx.dirty]) 5 hS47 rfl Ty.sz22 rfl rfl rfl rfl rfl (Nat.le_of_ble_eq_true rfl) rfl (fun w49 (hS49 : St B (dkA gd D :: cel g36 [str (encR sx.rs)] 9 :: cel g4 [Value.pointer (some ⟨gx, 0, none⟩)] 47 :: cel g2 [Value.pointer (some ⟨g, 0, none⟩)] 27 :: cel g [Value.pointer (some ⟨gd, 0, none⟩), Value.slice a m2 c, hv, Value.bool bg, Value.int .i64 (la : Int), Value.int .i64 (du : Int)] 49 :: cel gx [Value.int .i64 (sx.first : Int), Value.slice pa ((sx.rs.take kk).length) pc, Value.int .i64 ((encR (sx.rs.take kk)).length : Int), Value.bool sx.dirty] 63 :: own pa sx.rs.length pc 3 1 (pis sx.rs) :: L) w49) => ?_)
   clear hS47
   refine WO.nil ?_
   refine NX.last (by decide) ?_
   refine WD.done lshort_spec_t6 (by kernel_rfl) ?_
   refine NX.go (WP.seq (WP.seq ?_))
   have hS50 := hS49.own_take_i 6 rfl (m := (sx.rs.take kk).length) (by omega) (l' := pis (sx.rs.take kk)) (by rw [Nat.mul_one, hkl, pis_take (by omega)]) rfl
   clear hS49
   replace hS50 : St B (dkA gd D :: cel g36 [str (encR sx.rs)] 9 :: cel g4 [Value.pointer (some ⟨gx, 0, none⟩)] 47 :: cel g2 [Value.pointer (some ⟨g, 0, none⟩)] 27 :: cel g [Value.pointer (some ⟨gd, 0, none⟩), Value.slice a m2 c, hv, Value.bool bg, Value.int .i64 (la : Int), Value.int .i64 (du : Int)] 49 :: cel gx [Value.int .i64 (sx.first : Int), Value.slice pa ((sx.rs.take kk).length) pc, Value.int .i64 ((encR (sx.rs.take kk)).length : Int), Value.bool sx.dirty] 63 :: own pa ((sx.rs.take kk).length) pc 3 1 (pis (sx.rs.take kk)) :: L) w49 := hS50
   refine WP.region rfl ?_
   refine WO.val (run_load Ty.ag27 rfl ((hS50.cel_at 3 rfl 0).trans rfl)) rfl rfl rfl ?_
   refine WO.val (run_nilCheck rfl) rfl rfl rfl ?_
   refine WO.val (run_fieldAddr (q := ⟨g, 0, none⟩) (show fieldB Tryz.prog 49 0 = some 0 from by kernel_rfl) rfl rfl) rfl rfl rfl ?_
   refine WO.val (run_load Ty.ag25 rfl ((hS50.cel_at 4 rfl 0).trans rfl)) rfl rfl rfl ?_
   refine WO.call rfl rfl Ty.hd18 rfl (dread_spec hk.w [116] hS50) (fun v52 w51 pv52 => ?_)
   obtain ⟨rfl, hS51⟩ := pv52
   clear hS50
   refine WO.mv rfl rfl ?_
   refine WO.val (run_extract rfl rfl) rfl rfl rfl ?_
   refine WO.val (run_extract rfl rfl) rfl rfl rfl ?_
   refine WO.asg rfl rfl ?_
   refine WO.asg rfl rfl ?_
   refine WO.nil (NX.go (WP.seq (WP.region rfl ?_)))
   refine WO.mv rfl rfl ?_
   refine WO.val (run_eql rfl rfl) rfl rfl rfl ?_
   refine WO.nil (NX.go ?_)
   refine WP.condP rfl (fun g67 => ?_) (fun g67 => ?_)
   ·
    exfalso; exact hno g67
   ·
    refine WP.skip (NX.go (WP.seq (WP.seq (WP.region rfl ?_))))
    refine WO.val (run_makeFunc rfl rfl) rfl rfl rfl ?_
    refine WO.val (run_makeFunc rfl rfl) rfl rfl rfl ?_
    refine WO.val (run_makeFunc rfl rfl) rfl rfl rfl ?_
    refine WO.buildSlice (l := [Value.func (.func 49) #[] #[Value.pointer (some ⟨g2, 0, none⟩), Value.pointer (some ⟨g36, 0, none⟩), Value.pointer (some ⟨g4, 0, none⟩)], Value.func (.func 50) #[] #[Value.pointer (some ⟨g2, 0, none⟩)], Value.func (.func 51) #[] #[Value.pointer (some ⟨g2, 0, none⟩), Value.pointer (some ⟨g4, 0, none⟩)]]) hS51 Tryz.underlying88 rfl (fun w => by kernel_rfl) rfl (fun g54 w53 lg54 hS53 => ?_)
    clear hS51
    have hS53 := hS53.own_of_cel (m := 3) (k := 1) rfl
    replace hS53 : St B (own (some ⟨g54, 0, none⟩) 3 3 34 1 (valsT g2 g4 g36) :: dkA gd D :: cel g36 [str (encR sx.rs)] 9 :: cel g4 [Value.pointer (some ⟨gx, 0, none⟩)] 47 :: cel g2 [Value.pointer (some ⟨g, 0, none⟩)] 27 :: cel g [Value.pointer (some ⟨gd, 0, none⟩), Value.slice a m2 c, hv, Value.bool bg, Value.int .i64 (la : Int), Value.int .i64 (du : Int)] 49 :: cel gx [Value.int .i64 (sx.first : Int), Value.slice pa ((sx.rs.take kk).length) pc, Value.int .i64 ((encR (sx.rs.take kk)).length : Int), Value.bool sx.dirty] 63 :: own pa ((sx.rs.take kk).length) pc 3 1 (pis (sx.rs.take kk)) :: L) w53 := hS53
    refine WO.val (run_len rfl Tryz.underlying88 rfl) rfl rfl rfl ?_
    refine WO.mv rfl rfl ?_
    refine WO.nil (NX.go (WP.block ?_))
    refine WP.loop (α := Nat × Dk × Nat × Nat) (fun x => match x with | ⟨i, Dq, nq, tq⟩ => [(79, Value.slice (some ⟨g54, 0, none⟩) 3 3), (80, Value.int .i64 (3 : Int)), (81, Value.int .i64 (i : Int))]) (fun x w => match x with | ⟨i, Dq, nq, tq⟩ => (i ≤ 3 ∧ OkD Dq nq tq ∧ nq ≤ n + i ∧ tq ≤ t + 100000000 * i ∧ runD (stepsT ((encR sx.rs).take (encR (sx.rs.take kk)).length) (nameW sx.first)) D = runD ((stepsT ((encR sx.rs).take (encR (sx.rs.take kk)).length) (nameW sx.first)).drop i) Dq) ∧ St B (own (some ⟨g54, 0, none⟩) 3 3 34 1 (valsT g2 g4 g36) :: dkA gd Dq :: cel g36 [str (encR sx.rs)] 9 :: cel g4 [Value.pointer (some ⟨gx, 0, none⟩)] 47 :: cel g2 [Value.pointer (some ⟨g, 0, none⟩)] 27 :: cel g [Value.pointer (some ⟨gd, 0, none⟩), Value.slice a m2 c, hv, Value.bool bg, Value.int .i64 (la : Int), Value.int .i64 (du : Int)] 49 :: cel gx [Value.int .i64 (sx.first : Int), Value.slice pa ((sx.rs.take kk).length) pc, Value.int .i64 ((encR (sx.rs.take kk)).length : Int), Value.bool sx.dirty] 63 :: own pa ((sx.rs.take kk).length) pc 3 1 (pis (sx.rs.take kk)) :: L) w) (fun x => match x with | ⟨i, Dq, nq, tq⟩ => 3 - i) (0, D, n, t) ⟨⟨Nat.zero_le _, hk, Nat.le_refl _, Nat.le_refl _, rfl⟩, hS53⟩ (Sub.cons rfl (Sub.cons rfl (Sub.consE rfl (by first | rfl | first | rfl | (congr 1; omega) | (simp; done) | (simp; omega)) (Sub.nil _)))) ?_
    rintro ⟨i, Dq, nq, tq⟩ w55 ⟨⟨hi, hkq, hnq, htq, hp⟩, hS55⟩
    clear hS53
    refine WP.seq (WP.region rfl ?_)
    refine WO.val (run_lss rfl rfl) rfl rfl rfl ?_
    refine WO.nil (NX.go (WP.seq ?_))
    refine WP.condP rfl (fun g82 => ?_) (fun g82 => ?_)
    ·
     refine WP.skip (NX.go (WP.seq (WP.block (WP.seq ?_))))
     obtain ⟨fv, hv0⟩ : ∃ fv, (valsT g2 g4 g36)[i]? = some fv := ⟨_, List.getElem?_eq_getElem (by show i < 3; omega)⟩
     refine WP.region rfl ?_
     refine WO.val (run_indexAddr (q := adr (some ⟨g54, 0, none⟩) i) Tryz.underlying88 Ty.sz34 rfl rfl (by omega) (by omega) ((hS55.own_rd_i 0 rfl).2.1 (by omega)) (by simp)) rfl rfl rfl ?_
     refine WO.val (run_load Ty.ag34 rfl ((hS55.own_rd_i 0 rfl).cell hv0)) rfl rfl rfl ?_
     refine WO.asg rfl rfl ?_
     refine WO.nil (NX.go (WP.seq (WP.region rfl ?_)))
     refine WO.mv rfl rfl ?_
     obtain ⟨f, hf, F, us, cs, hfv, hF, hD, hok⟩ := callT (s := encR sx.rs) (sz := (encR (sx.rs.take kk)).length) hkq (by omega) (by omega) (by omega) hsz hf0 hv0 (hS55.permT [1, 4, 4, 3, 2, 1, 0, 0] (L' := dkA gd Dq :: cel g [Value.pointer (some ⟨gd, 0, none⟩), Value.slice a m2 c, hv, Value.bool bg, Value.int .i64 (la : Int), Value.int .i64 (du : Int)] 49 :: cel gx [Value.int .i64 (sx.first : Int), Value.slice pa ((sx.rs.take kk).length) pc, Value.int .i64 ((encR (sx.rs.take kk)).length : Int), Value.bool sx.dirty] 63 :: cel g2 [Value.pointer (some ⟨g, 0, none⟩)] 27 :: cel g4 [Value.pointer (some ⟨gx, 0, none⟩)] 47 :: cel g36 [str (encR sx.rs)] 9 :: own (some ⟨g54, 0, none⟩) 3 3 34 1 (valsT g2 g4 g36) :: own pa ((sx.rs.take kk).length) pc 3 1 (pis (sx.rs.take kk)) :: L) rfl)
     subst hfv
     refine WO.callV (us := us) (cs := cs) rfl rfl hF rfl hD (fun v57 w56 pv57 => ?_)
     obtain ⟨rfl, hS56⟩ := pv57
     clear hS55
     refine WO.asg rfl rfl ?_
     refine WO.nil (NX.go (WP.seq (WP.region rfl ?_)))
     refine WO.mv rfl rfl ?_
     refine WO.val (run_neq rfl rfl) rfl rfl rfl ?_
     refine WO.nil (NX.go ?_)
     refine WP.condP rfl (fun g88 => ?_) (fun g88 => ?_)
     ·
      refine WP.seq (WP.region rfl ?_)
      refine WO.mv rfl rfl ?_
      refine WO.asg rfl rfl ?_
      refine WO.nil (NX.go (WP.ret (NX.blkRet (NX.thenRet (NX.thenRet (NX.blkRet (NX.thenRet ?_)))))))
      refine NX.done (l := [.tmp 6]) rfl rfl ?_
      have e0 : runD (stepsT ((encR sx.rs).take (encR (sx.rs.take kk)).length) (nameW sx.first)) D = f Dq := by rw [hp, runD_step hf, if_neg g88]
      rw [e0]
      exact ⟨rfl, (hS56.permT [3, 3, 3, 3, 1, 1, 1, 0] (L' := cel g2 [Value.pointer (some ⟨g, 0, none⟩)] 27 :: cel g4 [Value.pointer (some ⟨gx, 0, none⟩)] 47 :: cel g36 [str (encR sx.rs)] 9 :: own (some ⟨g54, 0, none⟩) 3 3 34 1 (valsT g2 g4 g36) :: cel g [Value.pointer (some ⟨gd, 0, none⟩), Value.slice a m2 c, hv, Value.bool bg, Value.int .i64 (la : Int), Value.int .i64 (du : Int)] 49 :: cel gx [Value.int .i64 (sx.first : Int), Value.slice pa ((sx.rs.take kk).length) pc, Value.int .i64 ((encR (sx.rs.take kk)).length : Int), Value.bool sx.dirty] 63 :: own pa ((sx.rs.take kk).length) pc 3 1 (pis (sx.rs.take kk)) :: dkA gd ((f Dq).1) :: L) rfl).drop.drop.drop.drop⟩
     ·
      refine WP.skip (NX.blk (NX.go (WP.region rfl ?_)))
      refine WO.val (run_add rfl rfl (IntWalk.i64_in _ (by omega))) rfl rfl rfl ?_
      refine WO.mv rfl rfl ?_
      refine WO.nil ?_
      exact NX.again (i + 1, (f Dq).1, nq + 1, tq + 100000000) ⟨⟨by omega, hok.mono (Nat.le_refl _) (by omega), by omega, by omega, by rw [hp, runD_step hf, if_pos (Decidable.of_not_not g88)]⟩, (hS56.permT [6, 0, 4, 3, 2, 0, 0, 0] (L' := own (some ⟨g54, 0, none⟩) 3 3 34 1 (valsT g2 g4 g36) :: dkA gd ((f Dq).1) :: cel g36 [str (encR sx.rs)] 9 :: cel g4 [Value.pointer (some ⟨gx, 0, none⟩)] 47 :: cel g2 [Value.pointer (some ⟨g, 0, none⟩)] 27 :: cel g [Value.pointer (some ⟨gd, 0, none⟩), Value.slice a m2 c, hv, Value.bool bg, Value.int .i64 (la : Int), Value.int .i64 (du : Int)] 49 :: cel gx [Value.int .i64 (sx.first : Int), Value.slice pa ((sx.rs.take kk).length) pc, Value.int .i64 ((encR (sx.rs.take kk)).length : Int), Value.bool sx.dirty] 63 :: own pa ((sx.rs.take kk).length) pc 3 1 (pis (sx.rs.take kk)) :: L) rfl)⟩ (by show 3 - (i + 1) < 3 - i; omega) (Sub.cons rfl (Sub.cons rfl (Sub.consE rfl (by congr 1) (Sub.nil _))))
    ·
     refine WP.exit (NX.thenExit (NX.thenExit ?_))
     refine NX.blkExit ?_
     refine NX.go (WP.seq (WP.region rfl ?_))
     refine WO.asg rfl rfl ?_
     refine WO.nil (NX.go (WP.ret ?_))
     refine NX.done (l := [.tmp 6]) rfl rfl ?_
     have hin : i = 3 := by omega
     subst hin
     have e0 : runD (stepsT ((encR sx.rs).take (encR (sx.rs.take kk)).length) (nameW sx.first)) D = (Dq, 0) := by rw [hp]; rfl
     rw [e0]
     exact ⟨rfl, (hS55.permT [0, 1, 1, 1, 1, 1, 1, 0] (L' := own (some ⟨g54, 0, none⟩) 3 3 34 1 (valsT g2 g4 g36) :: cel g36 [str (encR sx.rs)] 9 :: cel g4 [Value.pointer (some ⟨gx, 0, none⟩)] 47 :: cel g2 [Value.pointer (some ⟨g, 0, none⟩)] 27 :: cel g [Value.pointer (some ⟨gd, 0, none⟩), Value.slice a m2 c, hv, Value.bool bg, Value.int .i64 (la : Int), Value.int .i64 (du : Int)] 49 :: cel gx [Value.int .i64 (sx.first : Int), Value.slice pa ((sx.rs.take kk).length) pc, Value.int .i64 ((encR (sx.rs.take kk)).length : Int), Value.bool sx.dirty] 63 :: own pa ((sx.rs.take kk).length) pc 3 1 (pis (sx.rs.take kk)) :: dkA gd Dq :: L) rfl).drop.drop.drop.drop⟩
 ·
  refine WO.alloc (l := [str []]) hS5 Ty.zr9 rfl rfl (fun g59 w58 lg59 hS58 => ?_)
  clear hS5
  refine WO.nil ?_
  have s60 : (∀ jz, World.cell? w58 ⟨g4, jz, none⟩ = [Value.pointer (some ⟨gx, 0, none⟩)][jz]?) ∧ (∀ jz, World.cell? w58 ⟨g2, jz, none⟩ = [Value.pointer (some ⟨g, 0, none⟩)][jz]?) ∧ (∀ jz, World.cell? w58 ⟨g, jz, none⟩ = [Value.pointer (some ⟨gd, 0, none⟩), Value.slice a m2 c, hv, Value.bool bg, Value.int .i64 (la : Int), Value.int .i64 (du : Int)][jz]?) ∧ (∀ jz, World.cell? w58 ⟨gx, jz, none⟩ = [Value.int .i64 (sx.first : Int), Value.slice pa sx.rs.length pc, Value.int .i64 ((encR sx.rs).length : Int), Value.bool sx.dirty][jz]?) ∧ Rd w58 pa sx.rs.length 1 (pis sx.rs) := ⟨hS58.cel_at 1 rfl, hS58.cel_at 2 rfl, hS58.cel_at 3 rfl, hS58.cel_at 4 rfl, (hS58.own_rd_i 5 rfl)⟩
  refine NX.held s60 ?_
  refine WD.one (i := 8) lshort_spec_t1 (bt 16 8703) rfl (by kernel_rfl) ?_
  refine WO.call rfl rfl Ty.hd25 rfl (wname_spec sx.first (by omega) hS58) (fun v62 w61 pv62 => ?_)
  obtain ⟨rfl, hS61⟩ := pv62
  clear hS58
  refine WO.nil ?_
  have s63 : (∀ jz, World.cell? w61 ⟨g4, jz, none⟩ = [Value.pointer (some ⟨gx, 0, none⟩)][jz]?) ∧ (∀ jz, World.cell? w61 ⟨g2, jz, none⟩ = [Value.pointer (some ⟨g, 0, none⟩)][jz]?) ∧ (∀ jz, World.cell? w61 ⟨g, jz, none⟩ = [Value.pointer (some ⟨gd, 0, none⟩), Value.slice a m2 c, hv, Value.bool bg, Value.int .i64 (la : Int), Value.int .i64 (du : Int)][jz]?) ∧ (∀ jz, World.cell? w61 ⟨gx, jz, none⟩ = [Value.int .i64 (sx.first : Int), Value.slice pa sx.rs.length pc, Value.int .i64 ((encR sx.rs).length : Int), Value.bool sx.dirty][jz]?) ∧ Rd w61 pa sx.rs.length 1 (pis sx.rs) := ⟨hS61.cel_at 1 rfl, hS61.cel_at 2 rfl, hS61.cel_at 3 rfl, hS61.cel_at 4 rfl, (hS61.own_rd_i 5 rfl)⟩
  refine NX.held s63 ?_
  refine WD.one (i := 9) lshort_spec_t1 (bt 16 9215) rfl (by kernel_rfl) ?_
  have hS64 := hS61.permT [6, 0, 0, 0, 0, 0, 0] (L' := dkA gd D :: cel g59 [str []] 9 :: cel g4 [Value.pointer (some ⟨gx, 0, none⟩)] 47 :: cel g2 [Value.pointer (some ⟨g, 0, none⟩)] 27 :: cel g [Value.pointer (some ⟨gd, 0, none⟩), Value.slice a m2 c, hv, Value.bool bg, Value.int .i64 (la : Int), Value.int .i64 (du : Int)] 49 :: cel gx [Value.int .i64 (sx.first : Int), Value.slice pa sx.rs.length pc, Value.int .i64 ((encR sx.rs).length : Int), Value.bool sx.dirty] 63 :: own pa sx.rs.length pc 3 1 (pis sx.rs) :: L) rfl
  clear hS61
  refine WO.call rfl rfl Ty.hd18 rfl (dread_spec hk.w (nameW sx.first) hS64) (fun v66 w65 pv66 => ?_)
  obtain ⟨hv, hS65⟩ := pv66
  clear hS64
  rw [hr] at hv
  change _ = Value.tuple #[str (encR sx.rs), Value.int .i64 0] at hv
  subst hv
  refine WO.nil ?_
  have s67 : (∀ jz, World.cell? w65 ⟨g4, jz, none⟩ = [Value.pointer (some ⟨gx, 0, none⟩)][jz]?) ∧ (∀ jz, World.cell? w65 ⟨g2, jz, none⟩ = [Value.pointer (some ⟨g, 0, none⟩)][jz]?) ∧ (∀ jz, World.cell? w65 ⟨g, jz, none⟩ = [Value.pointer (some ⟨gd, 0, none⟩), Value.slice a m2 c, hv, Value.bool bg, Value.int .i64 (la : Int), Value.int .i64 (du : Int)][jz]?) ∧ (∀ jz, World.cell? w65 ⟨gx, jz, none⟩ = [Value.int .i64 (sx.first : Int), Value.slice pa sx.rs.length pc, Value.int .i64 ((encR sx.rs).length : Int), Value.bool sx.dirty][jz]?) ∧ Rd w65 pa sx.rs.length 1 (pis sx.rs) := ⟨hS65.cel_at 2 rfl, hS65.cel_at 3 rfl, hS65.cel_at 4 rfl, hS65.cel_at 5 rfl, (hS65.own_rd_i 6 rfl)⟩
  refine NX.held s67 ?_
  refine WD.pure (i := 10) lshort_spec_t1 (bt 16 10239) rfl rfl rfl (by kernel_rfl) (PQ.then PQ.body) rfl (fun w => run_move rfl) ?_
  refine WD.pure (i := 11) lshort_spec_t1 (bt 16 12287) rfl rfl rfl (by kernel_rfl) (PQ.then PQ.body) rfl (fun w => run_extract rfl rfl) ?_
  refine WD.pure (i := 12) lshort_spec_t1 (bt 16 16383) rfl rfl rfl (by kernel_rfl) (PQ.then PQ.body) rfl (fun w => run_extract rfl rfl) ?_
  refine WD.one (i := 14) lshort_spec_t1 (bt 16 32767) rfl (by kernel_rfl) ?_
  refine WO.store (l' := [str (encR sx.rs)]) 1 hS65 rfl Ty.sz9 rfl rfl rfl rfl rfl (Nat.le_of_ble_eq_true rfl) rfl (fun w68 (hS68 : St B (dkA gd D :: cel g59 [str (encR sx.rs)] 9 :: cel g4 [Value.pointer (some ⟨gx, 0, none⟩)] 47 :: cel g2 [Value.pointer (some ⟨g, 0, none⟩)] 27 :: cel g [Value.pointer (some ⟨gd, 0, none⟩), Value.slice a m2 c, hv, Value.bool bg, Value.int .i64 (la : Int), Value.int .i64 (du : Int)] 49 :: cel gx [Value.int .i64 (sx.first : Int), Value.slice pa sx.rs.length pc, Value.int .i64 ((encR sx.rs).length : Int), Value.bool sx.dirty] 63 :: own pa sx.rs.length pc 3 1 (pis sx.rs) :: L) w68) => ?_)
  clear hS65
  refine WO.nil ?_
  have s69 : (∀ jz, World.cell? w68 ⟨g4, jz, none⟩ = [Value.pointer (some ⟨gx, 0, none⟩)][jz]?) ∧ (∀ jz, World.cell? w68 ⟨g2, jz, none⟩ = [Value.pointer (some ⟨g, 0, none⟩)][jz]?) ∧ (∀ jz, World.cell? w68 ⟨g, jz, none⟩ = [Value.pointer (some ⟨gd, 0, none⟩), Value.slice a m2 c, hv, Value.bool bg, Value.int .i64 (la : Int), Value.int .i64 (du : Int)][jz]?) ∧ (∀ jz, World.cell? w68 ⟨gx, jz, none⟩ = [Value.int .i64 (sx.first : Int), Value.slice pa sx.rs.length pc, Value.int .i64 ((encR sx.rs).length : Int), Value.bool sx.dirty][jz]?) ∧ Rd w68 pa sx.rs.length 1 (pis sx.rs) := ⟨hS68.cel_at 2 rfl, hS68.cel_at 3 rfl, hS68.cel_at 4 rfl, hS68.cel_at 5 rfl, (hS68.own_rd_i 6 rfl)⟩
  refine NX.held s69 ?_
  refine WD.pure (i := 15) lshort_spec_t1 (bt 16 65535) rfl rfl rfl (by kernel_rfl) (PQ.then PQ.body) rfl (fun w => run_assign rfl) ?_
  refine WD.done lshort_spec_t1 (by kernel_rfl) ?_
  refine NX.go (WP.seq (WP.seq (WP.region rfl ?_)))
  refine WO.mv rfl rfl ?_
  refine WO.val (run_neq rfl rfl) rfl rfl rfl ?_
  refine WO.nil (NX.go ?_)
  refine WP.condF rfl (by decide) ?_
  refine WP.skip (NX.go (WP.seq (WP.region rfl ?_)))
  refine WO.mv rfl rfl ?_
  refine WO.val (run_load Ty.ag47 rfl ((hS68.cel_at 2 rfl 0).trans rfl)) rfl rfl rfl ?_
  refine WO.val (run_nilCheck rfl) rfl rfl rfl ?_
  refine WO.val (run_fieldAddr (q := ⟨gx, 0, none⟩) (show fieldB Tryz.prog 63 0 = some 0 from by kernel_rfl) rfl rfl) rfl rfl rfl ?_
  refine WO.val (run_load Ty.ag3 rfl ((hS68.cel_at 5 rfl 0).trans rfl)) rfl rfl rfl ?_
  refine WO.val (run_sub rfl rfl (IntWalk.i64_in _ (by omega))) rfl rfl rfl ?_
  refine WO.val (run_add rfl rfl (show IntKind.i64.wrap ((at_ : Int) - (sx.first : Int) + 1) = ((sx.rs.take kk).length : Int) from by rw [IntWalk.i64_in _ (by omega)]; omega)) rfl rfl rfl ?_
  refine WO.asg rfl rfl ?_
  refine WO.nil (NX.go (WP.seq ?_))
  refine WD.start (fun w => (∀ jz, World.cell? w ⟨g59, jz, none⟩ = [str (encR sx.rs)][jz]?) ∧ (∀ jz, World.cell? w ⟨g4, jz, none⟩ = [Value.pointer (some ⟨gx, 0, none⟩)][jz]?) ∧ (∀ jz, World.cell? w ⟨g2, jz, none⟩ = [Value.pointer (some ⟨g, 0, none⟩)][jz]?) ∧ (∀ jz, World.cell? w ⟨g, jz, none⟩ = [Value.pointer (some ⟨gd, 0, none⟩), Value.slice a m2 c, hv, Value.bool bg, Value.int .i64 (la : Int), Value.int .i64 (du : Int)][jz]?) ∧ (∀ jz, World.cell? w ⟨gx, jz, none⟩ = [Value.int .i64 (sx.first : Int), Value.slice pa sx.rs.length pc, Value.int .i64 ((encR sx.rs).length : Int), Value.bool sx.dirty][jz]?) ∧ Rd w pa sx.rs.length 1 (pis sx.rs)) [10] (bt 11 0) Ty.mo rfl (by kernel_rfl) hS68 (fun _ h => ⟨h.cel_at 1 rfl, h.cel_at 2 rfl, h.cel_at 3 rfl, h.cel_at 4 rfl, h.cel_at 5 rfl, (h.own_rd_i 6 rfl)⟩) (fun w70 hS70 s71 => ?_)
  clear hS68
  refine WD.take (i := 0) lshort_spec_t5 (bt 11 1) s71 rfl rfl rfl (by kernel_rfl) (PQ.then PQ.body) rfl (fun w hs => run_load Ty.ag47 rfl ((hs.2.1 0).trans rfl)) ?_
  refine WD.take (i := 1) lshort_spec_t5 (bt 11 3) s71 rfl rfl rfl (by kernel_rfl) (PQ.then PQ.body) rfl (fun w hs => run_load Ty.ag47 rfl ((hs.2.1 0).trans rfl)) ?_
  refine WD.pure (i := 2) lshort_spec_t5 (bt 11 7) rfl rfl rfl (by kernel_rfl) (PQ.then PQ.body) rfl (fun w => run_nilCheck rfl) ?_
  refine WD.pure (i := 3) lshort_spec_t5 (bt 11 15) rfl rfl rfl (by kernel_rfl) (PQ.then PQ.body) rfl (fun w => run_fieldAddr (q := ⟨gx, 1, none⟩) (show fieldB Tryz.prog 63 1 = some 1 from by kernel_rfl) rfl rfl) ?_
  refine WD.take (i := 4) lshort_spec_t5 (bt 11 31) s71 rfl rfl rfl (by kernel_rfl) (PQ.then PQ.body) rfl (fun w hs => run_load Ty.ag22 rfl ((hs.2.2.2.2.1 1).trans rfl)) ?_
  refine WD.pure (i := 5) lshort_spec_t5 (bt 11 63) rfl rfl rfl (by kernel_rfl) (PQ.then PQ.body) rfl (fun w => run_move rfl) ?_
  refine WD.take (i := 6) lshort_spec_t5 (bt 11 127) s71 rfl rfl rfl (by kernel_rfl) (PQ.then PQ.body) rfl (fun w hs => run_indexAddr (q := adr pa ((sx.rs.take kk).length)) Tryz.underlying22 Ty.sz3 rfl rfl (by omega) (by omega) ((hs.2.2.2.2.2).2.1 (by omega)) (by simp)) ?_
  refine WD.take (i := 7) lshort_spec_t5 (bt 11 255) s71 rfl rfl rfl (by kernel_rfl) (PQ.then PQ.body) rfl (fun w hs => run_load Ty.ag3 rfl ((hs.2.2.2.2.2).cell (by rw [hkl]; exact pis_get hk1))) ?_
  refine WD.pure (i := 8) lshort_spec_t5 (bt 11 511) rfl rfl rfl (by kernel_rfl) (PQ.then PQ.body) rfl (fun w => run_nilCheck rfl) ?_
  refine WD.pure (i := 9) lshort_spec_t5 (bt 11 1023) rfl rfl rfl (by kernel_rfl) (PQ.then PQ.body) rfl (fun w => run_fieldAddr (q := ⟨gx, 2, none⟩) (show fieldB Tryz.prog 63 2 = some 2 from by kernel_rfl) rfl rfl) ?_
  refine WD.one (i := 10) lshort_spec_t5 (bt 11 2047) rfl (by kernel_rfl) ?_
  refine WO.store (l' := [Value.int .i64 (sx.first : Int), Value.slice pa sx.rs.length pc, Value.int .i64 ((encR (sx.rs.take kk)).length : Int), Value.bool sx.dirty]) 5 hS70 rfl Ty.sz3 rfl rfl rfl rfl rfl (Nat.le_of_ble_eq_true rfl) rfl (fun w72 (hS72 : St B (dkA gd D :: cel g59 [str (encR sx.rs)] 9 :: cel g4 [Value.pointer (some ⟨gx, 0, none⟩)] 47 :: cel g2 [Value.pointer (some ⟨g, 0, none⟩)] 27 :: cel g [Value.pointer (some ⟨gd, 0, none⟩), Value.slice a m2 c, hv, Value.bool bg, Value.int .i64 (la : Int), Value.int .i64 (du : Int)] 49 :: cel gx [Value.int .i64 (sx.first : Int), Value.slice pa sx.rs.length pc, Value.int .i64 ((encR (sx.rs.take kk)).length : Int), Value.bool sx.dirty] 63 :: own pa sx.rs.length pc 3 1 (pis sx.rs) :: L) w72) => ?_)
  clear hS70
  refine WO.nil ?_
  refine NX.last (by decide) ?_
  refine WD.done lshort_spec_t5 (by kernel_rfl) ?_
  refine NX.go (WP.seq ?_)
  have hpc := hS72.own_le_i 6 rfl
  refine WD.start (fun w => (∀ jz, World.cell? w ⟨g59, jz, none⟩ = [str (encR sx.rs)][jz]?) ∧ (∀ jz, World.cell? w ⟨g4, jz, none⟩ = [Value.pointer (some ⟨gx, 0, none⟩)][jz]?) ∧ (∀ jz, World.cell? w ⟨g2, jz, none⟩ = [Value.pointer (some ⟨g, 0, none⟩)][jz]?) ∧ (∀ jz, World.cell? w ⟨g, jz, none⟩ = [Value.pointer (some ⟨gd, 0, none⟩), Value.slice a m2 c, hv, Value.bool bg, Value.int .i64 (la : Int), Value.int .i64 (du : Int)][jz]?) ∧ (∀ jz, World.cell? w ⟨gx, jz, none⟩ = [Value.int .i64 (sx.first : Int), Value.slice pa sx.rs.length pc, Value.int .i64 ((encR (sx.rs.take kk)).length : Int), Value.bool sx.dirty][jz]?) ∧ Rd w pa sx.rs.length 1 (pis sx.rs)) [9] (bt 10 0) Ty.mo rfl (by kernel_rfl) hS72 (fun _ h => ⟨h.cel_at 1 rfl, h.cel_at 2 rfl, h.cel_at 3 rfl, h.cel_at 4 rfl, h.cel_at 5 rfl, (h.own_rd_i 6 rfl)⟩) (fun w73 hS73 s74 => ?_)
  clear hS72
  refine WD.take (i := 0) lshort_spec_t6 (bt 10 1) s74 rfl rfl rfl (by kernel_rfl) (PQ.then PQ.body) rfl (fun w hs => run_load Ty.ag47 rfl ((hs.2.1 0).trans rfl)) ?_
  refine WD.take (i := 1) lshort_spec_t6 (bt 10 3) s74 rfl rfl rfl (by kernel_rfl) (PQ.then PQ.body) rfl (fun w hs => run_load Ty.ag47 rfl ((hs.2.1 0).trans rfl)) ?_
  refine WD.pure (i := 2) lshort_spec_t6 (bt 10 7) rfl rfl rfl (by kernel_rfl) (PQ.then PQ.body) rfl (fun w => run_nilCheck rfl) ?_
  refine WD.pure (i := 3) lshort_spec_t6 (bt 10 15) rfl rfl rfl (by kernel_rfl) (PQ.then PQ.body) rfl (fun w => run_fieldAddr (q := ⟨gx, 1, none⟩) (show fieldB Tryz.prog 63 1 = some 1 from by kernel_rfl) rfl rfl) ?_
  refine WD.take (i := 4) lshort_spec_t6 (bt 10 31) s74 rfl rfl rfl (by kernel_rfl) (PQ.then PQ.body) rfl (fun w hs => run_load Ty.ag22 rfl ((hs.2.2.2.2.1 1).trans rfl)) ?_
  refine WD.pure (i := 5) lshort_spec_t6 (bt 10 63) rfl rfl rfl (by kernel_rfl) (PQ.then PQ.body) rfl (fun w => run_move rfl) ?_
  refine WD.pure (i := 6) lshort_spec_t6 (bt 10 127) rfl rfl rfl (by kernel_rfl) (PQ.then PQ.body) rfl (fun w => run_sliceTo (j := (sx.rs.take kk).length) Tryz.underlying22 Ty.sz3 rfl ⟨_, rfl⟩ (by omega)) ?_
  refine WD.pure (i := 7) lshort_spec_t6 (bt 10 255) rfl rfl rfl (by kernel_rfl) (PQ.then PQ.body) rfl (fun w => run_nilCheck rfl) ?_
  refine WD.pure (i := 8) lshort_spec_t6 (bt 10 511) rfl rfl rfl (by kernel_rfl) (PQ.then PQ.body) rfl (fun w => run_fieldAddr (q := ⟨gx, 1, none⟩) (show fieldB Tryz.prog 63 1 = some 1 from by kernel_rfl) rfl rfl) ?_
  refine WD.one (i := 9) lshort_spec_t6 (bt 10 1023) rfl (by kernel_rfl) ?_
  refine WO.store (l' := [Value.int .i64 (sx.first : Int), Value.slice pa ((sx.rs.take kk).length) pc, Value.int .i64 ((encR (sx.rs.take kk)).length : Int), Value.bool sx.dirty]) 5 hS73 rfl Ty.sz22 rfl rfl rfl rfl rfl (Nat.le_of_ble_eq_true rfl) rfl (fun w75 (hS75 : St B (dkA gd D :: cel g59 [str (encR sx.rs)] 9 :: cel g4 [Value.pointer (some ⟨gx, 0, none⟩)] 47 :: cel g2 [Value.pointer (some ⟨g, 0, none⟩)] 27 :: cel g [Value.pointer (some ⟨gd, 0, none⟩), Value.slice a m2 c, hv, Value.bool bg, Value.int .i64 (la : Int), Value.int .i64 (du : Int)] 49 :: cel gx [Value.int .i64 (sx.first : Int), Value.slice pa ((sx.rs.take kk).length) pc, Value.int .i64 ((encR (sx.rs.take kk)).length : Int), Value.bool sx.dirty] 63 :: own pa sx.rs.length pc 3 1 (pis sx.rs) :: L) w75) => ?_)
  clear hS73
  refine WO.nil ?_
  refine NX.last (by decide) ?_
  refine WD.done lshort_spec_t6 (by kernel_rfl) ?_
  refine NX.go (WP.seq (WP.seq ?_))
  have hS76 := hS75.own_take_i 6 rfl (m := (sx.rs.take kk).length) (by omega) (l' := pis (sx.rs.take kk)) (by rw [Nat.mul_one, hkl, pis_take (by omega)]) rfl
  clear hS75
  replace hS76 : St B (dkA gd D :: cel g59 [str (encR sx.rs)] 9 :: cel g4 [Value.pointer (some ⟨gx, 0, none⟩)] 47 :: cel g2 [Value.pointer (some ⟨g, 0, none⟩)] 27 :: cel g [Value.pointer (some ⟨gd, 0, none⟩), Value.slice a m2 c, hv, Value.bool bg, Value.int .i64 (la : Int), Value.int .i64 (du : Int)] 49 :: cel gx [Value.int .i64 (sx.first : Int), Value.slice pa ((sx.rs.take kk).length) pc, Value.int .i64 ((encR (sx.rs.take kk)).length : Int), Value.bool sx.dirty] 63 :: own pa ((sx.rs.take kk).length) pc 3 1 (pis (sx.rs.take kk)) :: L) w75 := hS76
  refine WP.region rfl ?_
  refine WO.val (run_load Ty.ag27 rfl ((hS76.cel_at 3 rfl 0).trans rfl)) rfl rfl rfl ?_
  refine WO.val (run_nilCheck rfl) rfl rfl rfl ?_
  refine WO.val (run_fieldAddr (q := ⟨g, 0, none⟩) (show fieldB Tryz.prog 49 0 = some 0 from by kernel_rfl) rfl rfl) rfl rfl rfl ?_
  refine WO.val (run_load Ty.ag25 rfl ((hS76.cel_at 4 rfl 0).trans rfl)) rfl rfl rfl ?_
  refine WO.call rfl rfl Ty.hd18 rfl (dread_spec hk.w [116] hS76) (fun v78 w77 pv78 => ?_)
  obtain ⟨rfl, hS77⟩ := pv78
  clear hS76
  refine WO.mv rfl rfl ?_
  refine WO.val (run_extract rfl rfl) rfl rfl rfl ?_
  refine WO.val (run_extract rfl rfl) rfl rfl rfl ?_
  refine WO.asg rfl rfl ?_
  refine WO.asg rfl rfl ?_
  refine WO.nil (NX.go (WP.seq (WP.region rfl ?_)))
  refine WO.mv rfl rfl ?_
  refine WO.val (run_eql rfl rfl) rfl rfl rfl ?_
  refine WO.nil (NX.go ?_)
  refine WP.condP rfl (fun g67 => ?_) (fun g67 => ?_)
  ·
   exfalso; exact hno g67
  ·
   refine WP.skip (NX.go (WP.seq (WP.seq (WP.region rfl ?_))))
   refine WO.val (run_makeFunc rfl rfl) rfl rfl rfl ?_
   refine WO.val (run_makeFunc rfl rfl) rfl rfl rfl ?_
   refine WO.val (run_makeFunc rfl rfl) rfl rfl rfl ?_
   refine WO.buildSlice (l := [Value.func (.func 49) #[] #[Value.pointer (some ⟨g2, 0, none⟩), Value.pointer (some ⟨g59, 0, none⟩), Value.pointer (some ⟨g4, 0, none⟩)], Value.func (.func 50) #[] #[Value.pointer (some ⟨g2, 0, none⟩)], Value.func (.func 51) #[] #[Value.pointer (some ⟨g2, 0, none⟩), Value.pointer (some ⟨g4, 0, none⟩)]]) hS77 Tryz.underlying88 rfl (fun w => by kernel_rfl) rfl (fun g80 w79 lg80 hS79 => ?_)
   clear hS77
   have hS79 := hS79.own_of_cel (m := 3) (k := 1) rfl
   replace hS79 : St B (own (some ⟨g80, 0, none⟩) 3 3 34 1 (valsT g2 g4 g59) :: dkA gd D :: cel g59 [str (encR sx.rs)] 9 :: cel g4 [Value.pointer (some ⟨gx, 0, none⟩)] 47 :: cel g2 [Value.pointer (some ⟨g, 0, none⟩)] 27 :: cel g [Value.pointer (some ⟨gd, 0, none⟩), Value.slice a m2 c, hv, Value.bool bg, Value.int .i64 (la : Int), Value.int .i64 (du : Int)] 49 :: cel gx [Value.int .i64 (sx.first : Int), Value.slice pa ((sx.rs.take kk).length) pc, Value.int .i64 ((encR (sx.rs.take kk)).length : Int), Value.bool sx.dirty] 63 :: own pa ((sx.rs.take kk).length) pc 3 1 (pis (sx.rs.take kk)) :: L) w79 := hS79
   refine WO.val (run_len rfl Tryz.underlying88 rfl) rfl rfl rfl ?_
   refine WO.mv rfl rfl ?_
   refine WO.nil (NX.go (WP.block ?_))
   refine WP.loop (α := Nat × Dk × Nat × Nat) (fun x => match x with | ⟨i, Dq, nq, tq⟩ => [(79, Value.slice (some ⟨g80, 0, none⟩) 3 3), (80, Value.int .i64 (3 : Int)), (81, Value.int .i64 (i : Int))]) (fun x w => match x with | ⟨i, Dq, nq, tq⟩ => (i ≤ 3 ∧ OkD Dq nq tq ∧ nq ≤ n + i ∧ tq ≤ t + 100000000 * i ∧ runD (stepsT ((encR sx.rs).take (encR (sx.rs.take kk)).length) (nameW sx.first)) D = runD ((stepsT ((encR sx.rs).take (encR (sx.rs.take kk)).length) (nameW sx.first)).drop i) Dq) ∧ St B (own (some ⟨g80, 0, none⟩) 3 3 34 1 (valsT g2 g4 g59) :: dkA gd Dq :: cel g59 [str (encR sx.rs)] 9 :: cel g4 [Value.pointer (some ⟨gx, 0, none⟩)] 47 :: cel g2 [Value.pointer (some ⟨g, 0, none⟩)] 27 :: cel g [Value.pointer (some ⟨gd, 0, none⟩), Value.slice a m2 c, hv, Value.bool bg, Value.int .i64 (la : Int), Value.int .i64 (du : Int)] 49 :: cel gx [Value.int .i64 (sx.first : Int), Value.slice pa ((sx.rs.take kk).length) pc, Value.int .i64 ((encR (sx.rs.take kk)).length : Int), Value.bool sx.dirty] 63 :: own pa ((sx.rs.take kk).length) pc 3 1 (pis (sx.rs.take kk)) :: L) w) (fun x => match x with | ⟨i, Dq, nq, tq⟩ => 3 - i) (0, D, n, t) ⟨⟨Nat.zero_le _, hk, Nat.le_refl _, Nat.le_refl _, rfl⟩, hS79⟩ (Sub.cons rfl (Sub.cons rfl (Sub.consE rfl (by first | rfl | first | rfl | (congr 1; omega) | (simp; done) | (simp; omega)) (Sub.nil _)))) ?_
   rintro ⟨i, Dq, nq, tq⟩ w81 ⟨⟨hi, hkq, hnq, htq, hp⟩, hS81⟩
   clear hS79
   refine WP.seq (WP.region rfl ?_)
   refine WO.val (run_lss rfl rfl) rfl rfl rfl ?_
   refine WO.nil (NX.go (WP.seq ?_))
   refine WP.condP rfl (fun g82 => ?_) (fun g82 => ?_)
   ·
    refine WP.skip (NX.go (WP.seq (WP.block (WP.seq ?_))))
    obtain ⟨fv, hv0⟩ : ∃ fv, (valsT g2 g4 g59)[i]? = some fv := ⟨_, List.getElem?_eq_getElem (by show i < 3; omega)⟩
    refine WP.region rfl ?_
    refine WO.val (run_indexAddr (q := adr (some ⟨g80, 0, none⟩) i) Tryz.underlying88 Ty.sz34 rfl rfl (by omega) (by omega) ((hS81.own_rd_i 0 rfl).2.1 (by omega)) (by simp)) rfl rfl rfl ?_
    refine WO.val (run_load Ty.ag34 rfl ((hS81.own_rd_i 0 rfl).cell hv0)) rfl rfl rfl ?_
    refine WO.asg rfl rfl ?_
    refine WO.nil (NX.go (WP.seq (WP.region rfl ?_)))
    refine WO.mv rfl rfl ?_
    obtain ⟨f, hf, F, us, cs, hfv, hF, hD, hok⟩ := callT (s := encR sx.rs) (sz := (encR (sx.rs.take kk)).length) hkq (by omega) (by omega) (by omega) hsz hf0 hv0 (hS81.permT [1, 4, 4, 3, 2, 1, 0, 0] (L' := dkA gd Dq :: cel g [Value.pointer (some ⟨gd, 0, none⟩), Value.slice a m2 c, hv, Value.bool bg, Value.int .i64 (la : Int), Value.int .i64 (du : Int)] 49 :: cel gx [Value.int .i64 (sx.first : Int), Value.slice pa ((sx.rs.take kk).length) pc, Value.int .i64 ((encR (sx.rs.take kk)).length : Int), Value.bool sx.dirty] 63 :: cel g2 [Value.pointer (some ⟨g, 0, none⟩)] 27 :: cel g4 [Value.pointer (some ⟨gx, 0, none⟩)] 47 :: cel g59 [str (encR sx.rs)] 9 :: own (some ⟨g80, 0, none⟩) 3 3 34 1 (valsT g2 g4 g59) :: own pa ((sx.rs.take kk).length) pc 3 1 (pis (sx.rs.take kk)) :: L) rfl)
    subst hfv
    refine WO.callV (us := us) (cs := cs) rfl rfl hF rfl hD (fun v83 w82 pv83 => ?_)
    obtain ⟨rfl, hS82⟩ := pv83
    clear hS81
    refine WO.asg rfl rfl ?_
    refine WO.nil (NX.go (WP.seq (WP.region rfl ?_)))
    refine WO.mv rfl rfl ?_
    refine WO.val (run_neq rfl rfl) rfl rfl rfl ?_
    refine WO.nil (NX.go ?_)
    refine WP.condP rfl (fun g88 => ?_) (fun g88 => ?_)
    ·
     refine WP.seq (WP.region rfl ?_)
     refine WO.mv rfl rfl ?_
     refine WO.asg rfl rfl ?_
     refine WO.nil (NX.go (WP.ret (NX.blkRet (NX.thenRet (NX.thenRet (NX.blkRet (NX.thenRet ?_)))))))
     refine NX.done (l := [.tmp 6]) rfl rfl ?_
     have e0 : runD (stepsT ((encR sx.rs).take (encR (sx.rs.take kk)).length) (nameW sx.first)) D = f Dq := by rw [hp, runD_step hf, if_neg g88]
     rw [e0]
     exact ⟨rfl, (hS82.permT [3, 3, 3, 3, 1, 1, 1, 0] (L' := cel g2 [Value.pointer (some ⟨g, 0, none⟩)] 27 :: cel g4 [Value.pointer (some ⟨gx, 0, none⟩)] 47 :: cel g59 [str (encR sx.rs)] 9 :: own (some ⟨g80, 0, none⟩) 3 3 34 1 (valsT g2 g4 g59) :: cel g [Value.pointer (some ⟨gd, 0, none⟩), Value.slice a m2 c, hv, Value.bool bg, Value.int .i64 (la : Int), Value.int .i64 (du : Int)] 49 :: cel gx [Value.int .i64 (sx.first : Int), Value.slice pa ((sx.rs.take kk).length) pc, Value.int .i64 ((encR (sx.rs.take kk)).length : Int), Value.bool sx.dirty] 63 :: own pa ((sx.rs.take kk).length) pc 3 1 (pis (sx.rs.take kk)) :: dkA gd ((f Dq).1) :: L) rfl).drop.drop.drop.drop⟩
    ·
     refine WP.skip (NX.blk (NX.go (WP.region rfl ?_)))
     refine WO.val (run_add rfl rfl (IntWalk.i64_in _ (by omega))) rfl rfl rfl ?_
     refine WO.mv rfl rfl ?_
     refine WO.nil ?_
     exact NX.again (i + 1, (f Dq).1, nq + 1, tq + 100000000) ⟨⟨by omega, hok.mono (Nat.le_refl _) (by omega), by omega, by omega, by rw [hp, runD_step hf, if_pos (Decidable.of_not_not g88)]⟩, (hS82.permT [6, 0, 4, 3, 2, 0, 0, 0] (L' := own (some ⟨g80, 0, none⟩) 3 3 34 1 (valsT g2 g4 g59) :: dkA gd ((f Dq).1) :: cel g59 [str (encR sx.rs)] 9 :: cel g4 [Value.pointer (some ⟨gx, 0, none⟩)] 47 :: cel g2 [Value.pointer (some ⟨g, 0, none⟩)] 27 :: cel g [Value.pointer (some ⟨gd, 0, none⟩), Value.slice a m2 c, hv, Value.bool bg, Value.int .i64 (la : Int), Value.int .i64 (du : Int)] 49 :: cel gx [Value.int .i64 (sx.first : Int), Value.slice pa ((sx.rs.take kk).length) pc, Value.int .i64 ((encR (sx.rs.take kk)).length : Int), Value.bool sx.dirty] 63 :: own pa ((sx.rs.take kk).length) pc 3 1 (pis (sx.rs.take kk)) :: L) rfl)⟩ (by show 3 - (i + 1) < 3 - i; omega) (Sub.cons rfl (Sub.cons rfl (Sub.consE rfl (by congr 1) (Sub.nil _))))
   ·
    refine WP.exit (NX.thenExit (NX.thenExit ?_))
    refine NX.blkExit ?_
    refine NX.go (WP.seq (WP.region rfl ?_))
    refine WO.asg rfl rfl ?_
    refine WO.nil (NX.go (WP.ret ?_))
    refine NX.done (l := [.tmp 6]) rfl rfl ?_
    have hin : i = 3 := by omega
    subst hin
    have e0 : runD (stepsT ((encR sx.rs).take (encR (sx.rs.take kk)).length) (nameW sx.first)) D = (Dq, 0) := by rw [hp]; rfl
    rw [e0]
    exact ⟨rfl, (hS81.permT [0, 1, 1, 1, 1, 1, 1, 0] (L' := own (some ⟨g80, 0, none⟩) 3 3 34 1 (valsT g2 g4 g59) :: cel g59 [str (encR sx.rs)] 9 :: cel g4 [Value.pointer (some ⟨gx, 0, none⟩)] 47 :: cel g2 [Value.pointer (some ⟨g, 0, none⟩)] 27 :: cel g [Value.pointer (some ⟨gd, 0, none⟩), Value.slice a m2 c, hv, Value.bool bg, Value.int .i64 (la : Int), Value.int .i64 (du : Int)] 49 :: cel gx [Value.int .i64 (sx.first : Int), Value.slice pa ((sx.rs.take kk).length) pc, Value.int .i64 ((encR (sx.rs.take kk)).length : Int), Value.bool sx.dirty] 63 :: own pa ((sx.rs.take kk).length) pc 3 1 (pis (sx.rs.take kk)) :: dkA gd Dq :: L) rfl).drop.drop.drop.drop⟩
end Go.Proofs.YtiggkfaonnnjoaaGreatDoor.SL

/- The log as plain data: it is cut behind a number. -/
namespace Go.Proofs.YtiggkfaonnnjoaaGreatDoor.SL
open Go.RowKit
set_option linter.unusedVariables false
set_option linter.unusedSimpArgs false
def cutS (x : Sg) (kk : Nat) : Sg := ⟨x.first, x.rs.take kk, x.dirty⟩
def FileW (D : Dk) (x : Sg) (e : List UInt8 × Nat) : Prop := (fileAt D.f e.2).1 = encR x.rs ∧ (x.dirty = false → (fileAt D.f e.2).2 = (encR x.rs).length)
theorem cont_chain {l : List Sg} {i : Nat} {x y : Sg} (hc : Cont 1 l) (hx : l[i]? = some x) (hy : l[i + 1]? = some y) : y.first = endS x + 1 := by
  obtain ⟨h1, h2, _⟩ := cont_pos hc hx
  obtain ⟨h3, _, _⟩ := cont_pos hc hy
  have h4 : 1 ≤ x.rs.length := List.length_pos_iff.2 h2
  rw [List.take_add_one, hx] at h3
  have h5 : recsL (l.take i ++ (some x).toList) = recsL (l.take i) ++ x.rs := by rw [recsL_append]; congr 1; exact recsL_one x
  rw [h5, List.length_append] at h3
  unfold endS; omega
theorem GW.raw {l : List Sg} {D : Dk} {n t U du : Nat} (hu : Up D) (hroom : D.room = 1048576) (hdk : OkD D n t) (hc : Cont 1 l) (hfew : ∀ x ∈ l, x.rs.length ≤ 16) (hor : ∀ x ∈ l, OkR x.rs) (hsm : (recsL l).length ≤ 99999998) (hll : l.length ≤ 1000000) (hnms : D.nm.map (·.1) = nmsW l)
    (hfile : ∀ (i : Nat) (x : Sg), l[i]? = some x → ∃ e : List UInt8 × Nat, D.nm[i]? = some e ∧ FileW D x e) (hused : usedN D.f D.nm ≤ U) : GW ⟨l, false, true, (recsL l).length, du⟩ D n t U (recsL l) := by
  have hp : ∀ x ∈ l, 1 ≤ x.first ∧ x.first + x.rs.length ≤ 1 + (recsL l).length ∧ 1 ≤ x.rs.length ∧ x.rs ≠ [] := fun x hx => by
    obtain ⟨i, hi⟩ := List.getElem?_of_mem hx
    obtain ⟨h1, h2, h3⟩ := cont_pos hc hi
    exact ⟨by omega, h3, List.length_pos_iff.2 h2, h2⟩
  refine ⟨⟨hu, hroom, ⟨fun x hx => ?_, fun x hx => (hp x hx).2.2.2, hor, hll, by show (recsL l).length ≤ _; omega, fun q => Bool.noConfusion q⟩, hdk, hfew, fun x hx => ?_, fun i x y hx hy => cont_chain hc hx hy, hnms, hfile, hused, fun hne => ?_, hsm, fun q => Bool.noConfusion q⟩, hc, rfl, rfl⟩
  · have := hp x hx; show x.first + x.rs.length ≤ _; omega
  · have := hp x hx; exact ⟨this.1, by unfold endS; show x.first + x.rs.length - 1 ≤ (recsL l).length; omega⟩
  · show endL l = (recsL l).length
    unfold endL
    cases hq : l.getLast? with
    | none => exact absurd (List.getLast?_eq_none_iff.1 hq) hne
    | some q => have := cont_end hc hq; show endS q = _; omega
theorem GW.loose {lg : Lg} {D : Dk} {n t U : Nat} {rs : List (List UInt8)} (h : GW lg D n t U rs) : GW ⟨lg.l, false, true, (recsL lg.l).length, 0⟩ D n t U (recsL lg.l) :=
  GW.raw h.w.up h.w.room h.w.dk h.c h.w.few h.w.ok.r (by rw [h.r, ← h.la]; exact h.w.small) h.w.ok.n h.w.nms h.w.file h.w.used
/-- The files' names, without the last one. -/
theorem nm_pop {l : List Sg} {x : Sg} {D : Dk} {n t U m du : Nat} {b : Bool} {rs : List (List UInt8)} (h : GW ⟨l ++ [x], false, b, m, du⟩ D n t U rs) :
    ∃ (r : Nm) (e : List UInt8 × Nat), D.nm = r ++ [e] ∧ e.1 = nameW x.first ∧ r.map (·.1) = nmsW l ∧ findN (nameW x.first) D.nm = some e.2 ∧ FileW D x e ∧ (∀ q ∈ r, ¬ q.1 = nameW x.first ∧ strLt q.1 (nameW x.first) = true ∧ ¬ q.1 = [] ∧ ¬ q.1 = [116] ∧ q.2 < D.f.length) ∧ e.2 < D.f.length ∧ x.first ≤ 99999998 ∧
      (∀ (i : Nat) (y : Sg), l[i]? = some y → ∃ q, r[i]? = some q ∧ FileW D y q) ∧ usedN D.f r + (encR x.rs).length ≤ U := by
  have hw := h.w
  have hx : (l ++ [x])[l.length]? = some x := by rw [List.getElem?_append_right (Nat.le_refl _), Nat.sub_self]; rfl
  obtain ⟨e, he, hfi, hf1, hf2⟩ := hw.find (i := l.length) hx
  have hlen := hw.len
  have hlen : D.nm.length = l.length + 1 := by rw [hlen]; show (l ++ [x]).length = _; rw [List.length_append]; rfl
  have hne : D.nm ≠ [] := fun h0 => by rw [h0] at hlen; simp at hlen
  have hr : D.nm = D.nm.dropLast ++ [e] := by
    have h4 := List.dropLast_concat_getLast hne
    have h3 : D.nm.getLast? = some e := by rw [List.getLast?_eq_getElem?, show D.nm.length - 1 = l.length by omega]; exact he
    rw [List.getLast?_eq_some_getLast hne] at h3
    rw [Option.some.inj h3] at h4; exact h4.symm
  have hnm := hw.name (i := l.length) hx he
  have hrn : D.nm.dropLast.map (·.1) = nmsW l := by
    have h5 := hw.nms
    rw [hr, List.map_append] at h5
    have h6 : nmsW (l ++ [x]) = nmsW l ++ [nameW x.first] := by unfold nmsW; rw [List.map_append]; rfl
    have h5 : D.nm.dropLast.map (·.1) ++ [e.1] = nmsW l ++ [nameW x.first] := h5.trans h6
    exact (List.append_inj' h5 rfl).1
  have hxs := (hw.first_le (x := x) (List.mem_of_getElem? hx)).2
  have hsm := hw.small
  have hxsm : x.first ≤ 99999998 := Nat.le_trans hxs hsm
  have hst := hw.dk.w.good.s
  unfold SortedN at hst
  rw [hr, List.pairwise_append] at hst
  refine ⟨D.nm.dropLast, e, hr, hnm, hrn, hfi, ⟨hf1, hf2⟩, fun q hq => ?_, (hw.dk.w.good.f e (List.mem_of_getElem? he)).2, hxsm, fun i y hy => ?_, ?_⟩
  · have hlt := hst.2.2 q hq e (List.mem_singleton_self _)
    rw [hnm] at hlt
    have hqm : q ∈ D.nm := List.dropLast_subset _ hq
    refine ⟨fun h0 => (by rw [h0, lt_irr] at hlt; exact Bool.noConfusion hlt), hlt, fileF_ne (hw.dk.w.good.f q hqm).1, fun h0 => ?_, (hw.dk.w.good.f q hqm).2⟩
    obtain ⟨y, _, hy⟩ := hw.mem hqm
    rw [h0] at hy
    have := congrArg List.length hy
    rw [nameW_length] at this; cases this
  · have hyl : i < l.length := (List.getElem?_eq_some_iff.1 hy).1
    obtain ⟨q, hq, h1⟩ := hw.file i y (by show (l ++ [x])[i]? = _; rw [List.getElem?_append_left hyl]; exact hy)
    refine ⟨q, ?_, h1⟩
    rw [hr, List.getElem?_append_left (by rw [List.length_dropLast]; omega)] at hq; exact hq
  · have hu := hw.used
    have h7 : usedN D.f D.nm = usedN D.f D.nm.dropLast + (encR x.rs).length := by
      have h8 : usedN D.f (D.nm.dropLast ++ [e]) = usedN D.f D.nm.dropLast + (fileAt D.f e.2).1.length := by
        unfold usedN; rw [List.map_append, List.sum_append]; simp
      rw [← hr, hf1] at h8; exact h8
    omega
theorem GW.sub {l : List Sg} {x : Sg} {D : Dk} {n t U m du : Nat} {b : Bool} {rs : List (List UInt8)} (h : GW ⟨l ++ [x], false, b, m, du⟩ D n t U rs) : Cont 1 l ∧ (recsL l).length + x.rs.length = m ∧ x.first = 1 + (recsL l).length ∧ (∀ z ∈ l, z ∈ l ++ [x]) ∧ l.length ≤ 1000000 ∧ m ≤ 99999998 ∧ 1 ≤ x.rs.length := by
  have hc : Cont 1 (l ++ [x]) := h.c
  have hc2 := Cont.append.1 hc
  have hr : recsL (l ++ [x]) = rs := h.r
  rw [recsL_append, recsL_one] at hr
  have hla : m = rs.length := h.la
  have hn : (l ++ [x]).length ≤ 1000000 := h.w.ok.n
  rw [List.length_append] at hn
  refine ⟨hc2.1, by rw [hla, ← hr, List.length_append], hc2.2.1, fun z hz => List.mem_append_left _ hz, by omega, h.w.small, List.length_pos_iff.2 hc2.2.2.1⟩
/-- The last segment is removed. -/
theorem GW.pop {l : List Sg} {x : Sg} {D : Dk} {n t U m du : Nat} {b : Bool} {rs : List (List UInt8)} (h : GW ⟨l ++ [x], false, b, m, du⟩ D n t U rs) :
    ∃ D', removeD D (nameW x.first) = (D', 0) ∧ GW ⟨l, false, true, (recsL l).length, 0⟩ D' (n + 1) t U (recsL l) := by
  obtain ⟨r, e, h1, h2, h3, h4, h5, h6, h7, hx, h8, h9⟩ := nm_pop h
  obtain ⟨s1, s2, s3, s4, s5, s6, _⟩ := h.sub
  have hw := h.w
  have hrm : removeD D (nameW x.first) = (changeD D ⟨nameW x.first, [], 0⟩, 0) := by unfold removeD; rw [hw.up.on]; unfold remove1; rw [h4]
  have hk := hw.dk.remove (k := nameW x.first)
  rw [hrm] at hk
  have hnm : (changeD D ⟨nameW x.first, [], 0⟩).nm = r := by
    show applyN D.nm ⟨nameW x.first, [], 0⟩ = r
    unfold applyN
    rw [if_pos rfl, h1]
    show (r ++ [e]).filter _ = r
    rw [List.filter_append, List.filter_eq_self.2 fun q hq => decide_eq_true ⟨(h6 q hq).1, (h6 q hq).2.2.1⟩]
    have : [e].filter (fun e => decide (¬ e.1 = nameW x.first ∧ ¬ e.1 = [])) = [] := by rw [List.filter_cons, if_neg (by simp [h2])]; rfl
    rw [this, List.append_nil]
  refine ⟨_, hrm, GW.raw ⟨hw.up.left, hw.up.dead⟩ hw.room hk s1 (fun z hz => hw.few z (s4 z hz)) (fun z hz => hw.ok.r z (s4 z hz)) (by omega) s5 (by rw [hnm]; exact h3) (fun i y hy => ?_) ?_⟩
  · rw [hnm]; exact h8 i y hy
  · rw [hnm]; show usedN D.f r ≤ U; omega
theorem insN_front {x : List UInt8 × Nat} {l : Nm} (h : ∀ e ∈ l, strLt e.1 x.1 = false) : insN x l = x :: l := by
  cases l with
  | nil => rfl
  | cons y l => unfold insN; rw [if_neg (by rw [h y (List.mem_cons_self ..)]; exact Bool.noConfusion)]
/-- The last segment is written anew, up to a number. -/
theorem GW.shorten {l : List Sg} {x : Sg} {D : Dk} {n t U m du kk : Nat} {b : Bool} {rs : List (List UInt8)} (h : GW ⟨l ++ [x], false, b, m, du⟩ D n t U rs) (hk0 : 1 ≤ kk) (hk1 : kk < x.rs.length) (hU : U + U ≤ 1048576) (hll : l.length < 60) :
    readD D (nameW x.first) = (encR x.rs, 0) ∧ ¬ (readD D [116]).2 = 0 ∧ (encR (x.rs.take kk)).length ≤ (encR x.rs).length ∧
    ∃ D', runD (stepsT ((encR x.rs).take (encR (x.rs.take kk)).length) (nameW x.first)) D = (D', 0) ∧ GW ⟨l ++ [cutS x kk], false, true, (recsL (l ++ [cutS x kk])).length, 0⟩ D' (n + 2) (t + U) U (recsL (l ++ [cutS x kk])) := by
  obtain ⟨r, e, h1, h2, h3, h4, h5, h6, h7, hx, h8, h9⟩ := nm_pop h
  obtain ⟨s1, s2, s3, s4, s5, s6, _⟩ := h.sub
  have hw := h.w
  have hpre : x.rs.take kk ++ x.rs.drop kk = x.rs := List.take_append_drop ..
  have henc : encR x.rs = encR (x.rs.take kk) ++ encR (x.rs.drop kk) := by rw [← encR_append, hpre]
  have hlen : (encR (x.rs.take kk)).length ≤ (encR x.rs).length := encR_take_pre x.rs kk
  have htk : (encR x.rs).take (encR (x.rs.take kk)).length = encR (x.rs.take kk) := by rw [henc, List.take_left]
  obtain ⟨s, hs⟩ : ∃ s, encR (x.rs.take kk) = s := ⟨_, rfl⟩
  rw [htk, hs]
  rw [hs] at hlen
  have hno : findN [116] D.nm = none := findN_no fun q hq => by
    rw [h1] at hq
    rcases List.mem_append.1 hq with hq | hq
    · exact (h6 q hq).2.2.2.1
    · rw [List.mem_singleton.1 hq, h2]; intro h0; have := congrArg List.length h0; rw [nameW_length] at this; cases this
  have hdead : D.dead = false := hw.up.dead
  have hnl : D.nm.length = l.length + 1 := by
    have := hw.len; rw [this]; show (l ++ [x]).length = _; rw [List.length_append]; rfl
  have hap := SL.app_new (s := s) hw.up (show fileF [116] = true by decide) hno (by omega) (by rw [hw.room]; have := hw.used; omega)
  obtain ⟨N, hN⟩ : ∃ N, D.f.length = N := ⟨_, rfl⟩
  rw [hN] at hap
  have hlt : ∀ q ∈ D.nm, strLt q.1 [116] = false := fun q hq => by
    have hq2 : ∃ z, q.1 = 119 :: z := by
      rw [h1] at hq
      rcases List.mem_append.1 hq with hq | hq
      · have hm : q.1 ∈ nmsW l := by rw [← h3]; exact List.mem_map_of_mem hq
        unfold nmsW at hm
        obtain ⟨y, _, hy⟩ := List.mem_map.1 hm
        exact ⟨digs 8 y.first, by rw [← hy]; rfl⟩
      · rw [List.mem_singleton.1 hq, h2]; exact ⟨digs 8 x.first, rfl⟩
    obtain ⟨z, hz⟩ := hq2
    rw [hz, strLt_iff]
    refine decide_eq_false fun h0 => ?_
    cases h0 with
    | rel h0 => exact absurd h0 (by decide)
  have hap1 : applyN D.nm ⟨[], [116], N⟩ = ([116], N) :: D.nm := by
    unfold applyN
    rw [if_neg (show ¬ ([116] : List UInt8) = [] from fun h0 => by cases h0)]
    show insN ([116], N) (keepN ⟨[], [116], N⟩ D.nm) = _
    rw [keepN_all fun q hq => ⟨fileF_ne (hw.dk.w.good.f q hq).1, fun h0 => findN_none' hno q hq h0⟩]
    exact insN_front hlt
  obtain ⟨D1, hD1⟩ : ∃ D1, (appendD D [116] s).1 = D1 := ⟨_, rfl⟩
  have hkd1 := hw.dk.append (k := [116]) (s := s)
  rw [hap] at hD1 hkd1
  have hD1 : (⟨D.room, D.f ++ [(s, 0)], ([116], N) :: D.nm, D.last, D.ch ++ [⟨[], [116], N⟩], D.dead, D.left⟩ : Dk) = D1 := by rw [← hap1]; exact hD1
  have ha : appendD D [116] s = (D1, 0) := by rw [hap, ← hD1, hap1]
  have hkd1 : OkD D1 (n + 1) (t + s.length) := by rw [← hD1, ← hap1]; exact hkd1
  have hu1 : Up D1 := by rw [← hD1]; exact ⟨hw.up.left, hw.up.dead⟩
  have hf1 : findN [116] D1.nm = some N := by rw [← hD1]; show findN [116] (([116], N) :: D.nm) = _; unfold findN; rw [if_pos rfl]
  have hfa : fileAt D1.f N = (s, 0) := by
    rw [← hD1]; show fileAt (D.f ++ [(s, 0)]) N = _
    unfold fileAt; rw [List.getD_eq_getElem?_getD, List.getElem?_append_right (by omega), hN, Nat.sub_self]; rfl
  have hsy : syncD D1 [116] = ({ D1 with f := D1.f.set N (s, s.length) }, 0) := by unfold syncD; rw [hu1.on]; unfold sync1; rw [hf1]; show ({ D1 with f := D1.f.set N ((fileAt D1.f N).1, (fileAt D1.f N).1.length) }, (0 : Int)) = _; rw [hfa]
  have hkd2 := hkd1.sync (k := [116])
  rw [hsy] at hkd2
  have hfs : D1.f.set N (s, s.length) = D.f ++ [(s, s.length)] := by rw [← hD1]; show (D.f ++ [(s, 0)]).set N _ = _; rw [List.set_append_right _ _ (by omega), hN, Nat.sub_self]; rfl
  rw [hfs] at hsy hkd2
  obtain ⟨D2, hD2⟩ : ∃ D2, ({ D1 with f := D.f ++ [(s, s.length)] } : Dk) = D2 := ⟨_, rfl⟩
  rw [hD2] at hsy hkd2
  have hu2 : Up D2 := by rw [← hD2]; exact ⟨hu1.left, hu1.dead⟩
  have hn2 : D2.nm = ([116], N) :: D.nm := by rw [← hD2, ← hD1]
  have hf2 : D2.f = D.f ++ [(s, s.length)] := by rw [← hD2]
  have hr2 : D2.room = 1048576 := by rw [← hD2, ← hD1]; exact hw.room
  have hrn : renameD D2 [116] (nameW x.first) = (changeD D2 ⟨[116], nameW x.first, N⟩, 0) := by
    unfold renameD; rw [hu2.on]; unfold rename1
    have : findN [116] D2.nm = some N := by rw [hn2]; unfold findN; rw [if_pos rfl]
    rw [this]
    show (if fileF (nameW x.first) = false then _ else _) = _
    rw [if_neg (by rw [nameW_file]; exact Bool.noConfusion)]
  have hkd3 := hkd2.rename (k := [116]) (u := nameW x.first)
  rw [hrn] at hkd3
  have hne : ¬ nameW x.first = [] := fileF_ne (nameW_file _)
  have hnm3 : (changeD D2 ⟨[116], nameW x.first, N⟩).nm = r ++ [(nameW x.first, N)] := by
    show applyN D2.nm ⟨[116], nameW x.first, N⟩ = _
    unfold applyN
    rw [if_neg (show ¬ nameW x.first = [] from hne), hn2, h1]
    have : keepN ⟨[116], nameW x.first, N⟩ (([116], N) :: (r ++ [e])) = r := by
      show (([116], N) :: (r ++ [e])).filter (fun e => decide (¬ e.1 = [116] ∧ ¬ e.1 = nameW x.first)) = r
      rw [List.filter_cons, if_neg (by simp), List.filter_append, List.filter_eq_self.2 fun q hq => decide_eq_true ⟨(h6 q hq).2.2.2.1, (h6 q hq).1⟩]
      have : [e].filter (fun e => decide (¬ e.1 = [116] ∧ ¬ e.1 = nameW x.first)) = [] := by rw [List.filter_cons, if_neg (by simp [h2])]; rfl
      rw [this, List.append_nil]
    rw [this]
    exact insN_end fun q hq => (h6 q hq).2.1
  have hf3 : (changeD D2 ⟨[116], nameW x.first, N⟩).f = D.f ++ [(s, s.length)] := hf2
  have hlr : (recsL (l ++ [cutS x kk])).length = (recsL l).length + kk := by
    rw [recsL_append, recsL_one, List.length_append]; show _ + (x.rs.take kk).length = _; rw [List.length_take]; omega
  refine ⟨?_, ?_, hlen, changeD D2 ⟨[116], nameW x.first, N⟩, ?_, GW.raw ⟨hu2.left, hu2.dead⟩ hr2 (hkd3.mono (Nat.le_refl _) (by omega)) ?_ ?_ ?_ (by omega) (by rw [List.length_append]; show l.length + 1 ≤ _; omega) ?_ ?_ ?_⟩
  · unfold readD; rw [if_neg (by rw [hdead]; exact Bool.noConfusion), h4]; show ((fileAt D.f e.2).1, (0 : Int)) = _; rw [h5.1]
  · unfold readD; rw [if_neg (by rw [hdead]; exact Bool.noConfusion), hno]; show ¬ (12 : Int) = 0; decide
  · show (if (appendD D [116] s).2 = 0 then runD [fun D => syncD D [116], fun D => renameD D [116] (nameW x.first)] (appendD D [116] s).1 else appendD D [116] s) = _
    rw [ha, if_pos rfl]
    show (if (syncD D1 [116]).2 = 0 then runD [fun D => renameD D [116] (nameW x.first)] (syncD D1 [116]).1 else syncD D1 [116]) = _
    rw [hsy, if_pos rfl]
    show (if (renameD D2 [116] (nameW x.first)).2 = 0 then ((renameD D2 [116] (nameW x.first)).1, (0 : Int)) else renameD D2 [116] (nameW x.first)) = _
    rw [hrn, if_pos rfl]
  · refine Cont.append.2 ⟨s1, s3, fun h0 => ?_, trivial⟩
    have h0 : x.rs.take kk = [] := h0
    have := congrArg List.length h0
    rw [List.length_take, List.length_nil] at this; omega
  · intro z hz
    rcases List.mem_append.1 hz with hz | hz
    · exact hw.few z (s4 z hz)
    · rw [List.mem_singleton.1 hz]; have := hw.few x (List.mem_append_right _ (List.mem_singleton_self _)); show (x.rs.take kk).length ≤ 16; rw [List.length_take]; omega
  · intro z hz
    rcases List.mem_append.1 hz with hz | hz
    · exact hw.ok.r z (s4 z hz)
    · rw [List.mem_singleton.1 hz]; exact fun q hq => hw.ok.r x (List.mem_append_right _ (List.mem_singleton_self _)) q (List.mem_of_mem_take hq)
  · rw [hnm3, List.map_append, h3]; unfold nmsW; rw [List.map_append]; rfl
  · intro i y hy
    rw [hnm3]
    have hrl : r.length = l.length := by have := congrArg List.length h3; unfold nmsW at this; rwa [List.length_map, List.length_map] at this
    rcases get_snoc hy with hy | ⟨hi, hy⟩
    · obtain ⟨q, hq, hq1, hq2⟩ := h8 i y hy
      have hqm := List.mem_of_getElem? hq
      have hq3 : fileAt (D.f ++ [(s, s.length)]) q.2 = fileAt D.f q.2 := by
        unfold fileAt; rw [List.getD_eq_getElem?_getD, List.getD_eq_getElem?_getD, List.getElem?_append_left ((h6 q hqm).2.2.2.2)]
      refine ⟨q, by rw [List.getElem?_append_left (List.getElem?_eq_some_iff.1 hq).1]; exact hq, ?_⟩
      unfold FileW; rw [hf3, hq3]; exact ⟨hq1, hq2⟩
    · refine ⟨(nameW x.first, N), by rw [hi, ← hrl, List.getElem?_append_right (Nat.le_refl _), Nat.sub_self]; rfl, ?_⟩
      have hq3 : fileAt (D.f ++ [(s, s.length)]) N = (s, s.length) := by
        unfold fileAt; rw [List.getD_eq_getElem?_getD, List.getElem?_append_right (by omega), hN, Nat.sub_self]; rfl
      unfold FileW; rw [hf3, hq3, hy]
      exact ⟨hs.symm, fun _ => by show s.length = (encR (x.rs.take kk)).length; rw [hs]⟩
  · rw [hnm3, hf3]
    have e1 : usedN (D.f ++ [(s, s.length)]) (r ++ [(nameW x.first, N)]) = usedN D.f r + s.length := by
      have e2 : usedN (D.f ++ [(s, s.length)]) (r ++ [(nameW x.first, N)]) = usedN (D.f ++ [(s, s.length)]) r + (fileAt (D.f ++ [(s, s.length)]) N).1.length := by
        unfold usedN; rw [List.map_append, List.sum_append]; simp
      rw [e2, used_grow fun q hq => (h6 q hq).2.2.2.2]
      have hq3 : fileAt (D.f ++ [(s, s.length)]) N = (s, s.length) := by
        unfold fileAt; rw [List.getD_eq_getElem?_getD, List.getElem?_append_right (by omega), hN, Nat.sub_self]; rfl
      rw [hq3]
    rw [e1]; omega
/-- Its names are made to last. -/
theorem GW.stand {l : List Sg} {D : Dk} {n t U m du : Nat} {b : Bool} {rs : List (List UInt8)} (h : GW ⟨l, false, b, m, du⟩ D n t U rs) (hcl : ∀ x ∈ l, x.dirty = false) : ∃ D', syncNamesD D = (D', 0) ∧ GW ⟨l, false, false, m, m⟩ D' n t U rs ∧ Still ⟨l, false, false, m, m⟩ := by
  have hw := h.w
  have hs : syncNamesD D = ({ D with last := D.nm, ch := [] }, 0) := by unfold syncNamesD; rw [hw.up.on]; rfl
  have hk := hw.dk.syncNames
  rw [hs] at hk
  exact ⟨_, hs, ⟨⟨⟨hw.up.left, hw.up.dead⟩, hw.room, ⟨hw.ok.b, hw.ok.ne, hw.ok.r, hw.ok.n, hw.ok.la, fun q => Bool.noConfusion q⟩, hk, hw.few, hw.fst, hw.chain, hw.nms, hw.file, hw.used, hw.last, hw.small, fun _ => ⟨rfl, rfl⟩⟩, h.c, h.r, h.la⟩, ⟨rfl, hcl⟩⟩
end Go.Proofs.YtiggkfaonnnjoaaGreatDoor.SL

/- The log: it is cut behind a number. -/
namespace Go.Proofs.YtiggkfaonnnjoaaGreatDoor.SL
open Go.RowKit Go.Proofs.YtiggkfaonnnjoaaGreatDoor
open Go.Proofs.YtiggkfaonnnjoaaGreatDoorW.PrintLast (rtab opsOf)
set_option linter.unusedVariables false
set_option linter.unusedSimpArgs false

/-- The first cell of each segment of a row. -/
theorem sg_look {B w : World} {L : List HP} {gs : List Nat} {l : List Sg} (h : St B (sqA sgA gs l :: L) w) {i g : Nat} {x : Sg} (hg : gs[i]? = some g) (hx : l[i]? = some x) : World.cell? w ⟨g, 0, none⟩ = some (.int .i64 (x.first : Int)) := by
  obtain ⟨q, hq, h1⟩ := sqA_pick hx h
  rw [hg] at hq; cases hq
  obtain ⟨p, h2⟩ := h1.sg_open
  exact (h2.cel_at 0 rfl 0).trans rfl
theorem lcut_spec_t13 : rtab .any (opsOf Tryz.f9 13) = (true, [([], []), ([], []), ([1], [1]), ([2], [2]), ([3], [3]), ([], []), ([5], [5]), ([6], [6]), ([7], [7]), ([8], [8]), ([9], [9]), ([4, 10], [4, 10]), ([11], [11]), ([], []), ([0, 12, 13], [0, 12, 13]), ([14, 14, 0, 1, 2, 3, 4, 5, 6, 7, 8, 9, 10, 11, 12, 13, 14], [14])]) := by kernel_rfl
theorem lcut_spec_t6 : rtab .any (opsOf Tryz.f9 6) = (true, [([], []), ([0], [0]), ([1], [1]), ([2], [2]), ([3], [3]), ([4], [4]), ([5], [5]), ([6], [6]), ([7, 6], [6, 7]), ([8, 6], [6, 8]), ([9, 6], [6, 9]), ([6], [6]), ([11, 6], [6, 11]), ([12, 6], [6, 12]), ([13, 6], [6, 13]), ([14, 6], [6, 14]), ([15, 6], [6, 15]), ([10, 16, 6], [6, 10, 16]), ([17, 6], [6, 17]), ([18, 6], [6, 18]), ([19, 6], [6, 19]), ([20, 6], [6, 20]), ([6], [6]), ([21, 22, 6], [6, 21, 22]), ([6, 23], [6, 23])]) := by kernel_rfl
theorem lcut_spec_t8 : rtab .any (opsOf Tryz.f9 8) = (true, [([], []), ([0], [0]), ([1], [1]), ([2], [2]), ([], []), ([4], [4]), ([5], [5]), ([6], [6]), ([], []), ([7, 8], [7, 8]), ([9], [9]), ([10], [10]), ([11], [11]), ([12], [12]), ([13], [13]), ([3, 14, 14], [3, 14]), ([15, 15, 0, 1, 2, 3, 4, 5, 6, 7, 8, 9, 10, 11, 12, 13, 14, 15], [15])]) := by kernel_rfl
theorem lcut_spec {B w : World} {L : List HP} {g gd n t U : Nat} {lg : Lg} {D : Dk} {rs : List (List UInt8)} (at_ : Nat) (hgw : GW lg D n t U rs) (hst : Still lg) (hat : at_ ≤ lg.last) (hU : U + U ≤ 1048576) (hll : lg.l.length < 60) (hn : n ≤ 100000) (ht : t ≤ 10000000) (hS : St B (lgA g gd lg :: dkA gd D :: L) w) : Does Tryz.prog 9 [Value.pointer (some ⟨g, 0, none⟩), Value.int .i64 (at_ : Int)] w (fun v w1 => v = .int .i64 0 ∧ ∃ lg2 D2, lg2.last = at_ ∧ lg2.l.length ≤ lg.l.length ∧ GW lg2 D2 (n + lg.l.length + 2) (t + U) U (rs.take at_) ∧ Still lg2 ∧ St B (lgA g gd lg2 :: dkA gd D2 :: L) w1) := by
 have hla9 := hgw.w.small
 refine enter (n := 114) Tryz.func9 rfl rfl [Value.pointer (some ⟨g, 0, none⟩), Value.int .i64 (at_ : Int)] rfl ?_
 refine WP.seq (WP.region rfl ?_)
 refine WO.asg rfl rfl ?_
 refine WO.nil (NX.go (WP.seq (WP.seq (WP.region rfl ?_))))
 refine WO.mv rfl rfl ?_
 refine WO.mv rfl rfl ?_
 refine WO.call rfl rfl Ty.hd28 rfl (lfirst_spec (by have := hgw.w.small; omega) hS) (fun v2 w1 pv2 => ?_)
 obtain ⟨hv, hS1⟩ := pv2
 clear hS
 rw [hgw.first] at hv
 change _ = Value.int .i64 1 at hv
 subst hv
 obtain ⟨y, hgly, hS3⟩ := (hS1).lg_open
 clear hS1
 replace hS3 : St B (cel g [Value.pointer (some ⟨gd, 0, none⟩), Value.slice y.a lg.l.length y.cap, handV lg.hand y.gs, Value.bool lg.begun, Value.int .i64 (lg.last : Int), Value.int .i64 (lg.durable : Int)] 49 :: own y.a lg.l.length y.cap 47 1 (y.gs.map ptrV) :: sqA sgA y.gs lg.l :: dkA gd D :: L) w1 := hS3
 refine WO.val (run_sub rfl rfl (IntWalk.i64_in _ (by omega))) rfl rfl rfl ?_
 refine WO.val (run_lss rfl rfl) rfl rfl rfl ?_
 refine WO.mv rfl rfl ?_
 by_cases g13 : (at_ : Int) < (1 - 1)
 ·
  exfalso; omega
 ·
  refine WO.on rfl rfl (decide_eq_false g13) ?_
  refine WO.mv rfl rfl ?_
  refine WO.on rfl rfl (decide_eq_false g13) ?_
  refine WO.mv rfl rfl ?_
  refine WO.on rfl rfl (decide_eq_false g13) ?_
  refine WO.val (run_nilCheck rfl) rfl rfl rfl ?_
  refine WO.on rfl rfl (decide_eq_false g13) ?_
  refine WO.val (run_fieldAddr (q := ⟨g, 4, none⟩) (show fieldB Tryz.prog 49 4 = some 4 from by kernel_rfl) rfl rfl) rfl rfl rfl ?_
  refine WO.on rfl rfl (decide_eq_false g13) ?_
  refine WO.val (run_load Ty.ag3 rfl ((hS3.cel_at 0 rfl 4).trans rfl)) rfl rfl rfl ?_
  refine WO.on rfl rfl (decide_eq_false g13) ?_
  refine WO.val (run_gtr rfl rfl) rfl rfl rfl ?_
  refine WO.val (run_pickF rfl (decide_eq_false g13) rfl) rfl rfl rfl ?_
  refine WO.nil (NX.go ?_)
  refine WP.condP rfl (fun g20 => ?_) (fun g20 => ?_)
  ·
   exfalso; omega
  ·
   refine WP.skip (NX.go (WP.seq (WP.region rfl ?_)))
   refine WO.mv rfl rfl ?_
   refine WO.val (run_nilCheck rfl) rfl rfl rfl ?_
   refine WO.val (run_fieldAddr (q := ⟨g, 2, none⟩) (show fieldB Tryz.prog 49 2 = some 2 from by kernel_rfl) rfl rfl) rfl rfl rfl ?_
   refine WO.store (l' := [Value.pointer (some ⟨gd, 0, none⟩), Value.slice y.a lg.l.length y.cap, Value.pointer none, Value.bool lg.begun, Value.int .i64 (lg.last : Int), Value.int .i64 (lg.durable : Int)]) 0 hS3 rfl Ty.sz47 rfl rfl rfl rfl rfl (Nat.le_of_ble_eq_true rfl) rfl (fun w4 (hS4 : St B (cel g [Value.pointer (some ⟨gd, 0, none⟩), Value.slice y.a lg.l.length y.cap, Value.pointer none, Value.bool lg.begun, Value.int .i64 (lg.last : Int), Value.int .i64 (lg.durable : Int)] 49 :: own y.a lg.l.length y.cap 47 1 (y.gs.map ptrV) :: sqA sgA y.gs lg.l :: dkA gd D :: L) w4) => ?_)
   clear hS3
   refine WO.nil (NX.go (WP.seq (WP.seq (WP.region rfl ?_))))
   refine WO.mv rfl rfl ?_
   refine WO.mv rfl rfl ?_
   refine WO.val (run_nilCheck rfl) rfl rfl rfl ?_
   refine WO.val (run_fieldAddr (q := ⟨g, 4, none⟩) (show fieldB Tryz.prog 49 4 = some 4 from by kernel_rfl) rfl rfl) rfl rfl rfl ?_
   refine WO.val (run_load Ty.ag3 rfl ((hS4.cel_at 0 rfl 4).trans rfl)) rfl rfl rfl ?_
   refine WO.val (run_eql rfl rfl) rfl rfl rfl ?_
   refine WO.nil (NX.go ?_)
   refine WP.condP rfl (fun g29 => ?_) (fun g29 => ?_)
   ·
    refine WP.seq (WP.region rfl ?_)
    refine WO.asg rfl rfl ?_
    refine WO.nil (NX.go (WP.ret (NX.thenRet ?_)))
    refine NX.done (l := [.tmp 4]) rfl rfl ?_
    have hgz : GW ⟨lg.l, false, lg.begun, lg.last, lg.durable⟩ D n t U rs := ⟨⟨hgw.w.up, hgw.w.room, ⟨hgw.w.ok.b, hgw.w.ok.ne, hgw.w.ok.r, hgw.w.ok.n, hgw.w.ok.la, fun q => Bool.noConfusion q⟩, hgw.w.dk, hgw.w.few, hgw.w.fst, hgw.w.chain, hgw.w.nms, hgw.w.file, hgw.w.used, hgw.w.last, hgw.w.small, hgw.w.names⟩, hgw.c, hgw.r, hgw.la⟩
    have hrt : rs.take at_ = rs := List.take_of_length_le (by rw [← hgw.la]; omega)
    rw [hrt]
    exact ⟨rfl, ⟨lg.l, false, lg.begun, lg.last, lg.durable⟩, D, by show lg.last = at_; omega, by show lg.l.length ≤ _; omega, hgz.mono (by omega) (by omega) (Nat.le_refl _), ⟨hst.begun, hst.cl⟩, St.lg_shut (lg := ⟨lg.l, false, lg.begun, lg.last, lg.durable⟩) y hS4⟩
   ·
    refine WP.skip (NX.go (WP.seq ?_))
    refine WP.meet (α := Nat × Dk) (fun x => match x with | ⟨jf, Df⟩ => [(0, Value.pointer (some ⟨g, 0, none⟩)), (1, Value.int .i64 (at_ : Int))]) (fun x w => match x with | ⟨jf, Df⟩ => (jf ≤ lg.l.length ∧ GW ⟨lg.l.take jf, false, true, (recsL (lg.l.take jf)).length, 0⟩ Df (n + (lg.l.length - jf)) t U (recsL (lg.l.take jf)) ∧ at_ ≤ (recsL (lg.l.take jf)).length ∧ (jf = 0 ∨ ∃ xi, lg.l[jf - 1]? = some xi ∧ xi.first ≤ at_)) ∧ St B (cel g [Value.pointer (some ⟨gd, 0, none⟩), Value.slice y.a ((lg.l.take jf).length) y.cap, Value.pointer none, Value.bool lg.begun, Value.int .i64 (lg.last : Int), Value.int .i64 (lg.durable : Int)] 49 :: own y.a ((lg.l.take jf).length) y.cap 47 1 ((y.gs.take jf).map ptrV) :: sqA sgA (y.gs.take jf) (lg.l.take jf) :: dkA gd Df :: L) w) ?_ (fun K5 => ?_)
    ·
     rintro ⟨jf, Df⟩ w6 ⟨⟨hj, hq, haq, hend⟩, hS6⟩
     clear hS4
     refine NX.go (WP.seq (WP.seq ?_))
     have hS7 : St B (lgA g gd ⟨lg.l.take jf, false, lg.begun, lg.last, lg.durable⟩ :: dkA gd Df :: L) w6 := St.lg_shut (lg := ⟨lg.l.take jf, false, lg.begun, lg.last, lg.durable⟩) ⟨y.a, y.cap, y.gs.take jf⟩ hS6
     clear hS6
     have hokj : OkL ⟨lg.l.take jf, false, lg.begun, lg.last, lg.durable⟩ := ⟨hq.w.ok.b, hq.w.ok.ne, hq.w.ok.r, hq.w.ok.n, hgw.w.ok.la, fun q => Bool.noConfusion q⟩
     refine WP.region rfl ?_
     refine WO.mv rfl rfl ?_
     refine WO.call rfl rfl Ty.hd21 rfl (lend_spec (lg := ⟨lg.l.take jf, false, lg.begun, lg.last, lg.durable⟩) hokj hS7) (fun v9 w8 pv9 => ?_)
     obtain ⟨rfl, hS8⟩ := pv9
     clear hS7
     refine WO.mv rfl rfl ?_
     refine WO.val (run_gtr rfl rfl) rfl rfl rfl ?_
     refine WO.nil (NX.go ?_)
     refine WP.condP rfl (fun g92 => ?_) (fun g92 => ?_)
     ·
      refine WP.seq ?_
      obtain ⟨y2, hgl2, hS10⟩ := (hS8).lg_open
      clear hS8
      replace hS10 : St B (cel g [Value.pointer (some ⟨gd, 0, none⟩), Value.slice y2.a ((lg.l.take jf).length) y2.cap, Value.pointer none, Value.bool lg.begun, Value.int .i64 (lg.last : Int), Value.int .i64 (lg.durable : Int)] 49 :: own y2.a ((lg.l.take jf).length) y2.cap 47 1 (y2.gs.map ptrV) :: sqA sgA y2.gs (lg.l.take jf) :: dkA gd Df :: L) w8 := hS10
      have hgl2 : y2.gs.length = (lg.l.take jf).length := hgl2
      have hlj : (lg.l.take jf).length = jf := by rw [List.length_take]; omega
      have hl1 : (lg.l.take (jf - 1)).length = jf - 1 := by rw [List.length_take]; omega
      obtain ⟨xi, hx2, hxa⟩ := hend.resolve_left (fun h0 => by rw [h0] at g92; have z : ((0 : Nat) : Int) > (at_ : Int) := g92; omega)
      have hjl : jf - 1 < lg.l.length := (List.getElem?_eq_some_iff.1 hx2).1
      have hj1 : 0 < jf := by rcases Nat.eq_zero_or_pos jf with h0 | h0; (rw [h0] at g92; have z : ((0 : Nat) : Int) > (at_ : Int) := g92; omega); exact h0
      have hx1 : (lg.l.take jf)[jf - 1]? = some xi := by rw [List.getElem?_take, if_pos (by omega)]; exact hx2
      have htk : lg.l.take jf = lg.l.take (jf - 1) ++ [xi] := by have z := List.take_add_one (l := lg.l) (i := jf - 1); rw [hx2, show jf - 1 + 1 = jf by omega] at z; exact z
      have hq2 := hq
      rw [htk] at hq2
      obtain ⟨_, hxt, hxf, _, _, hxs, hx0⟩ := hq2.sub
      have hen : endL (lg.l.take jf) = endS xi := endL_get (by rw [hlj]; exact hx1)
      rw [hen] at g92
      obtain ⟨kk, hkk⟩ : ∃ kk, at_ + 1 = xi.first + kk := ⟨at_ + 1 - xi.first, by omega⟩
      have hkk1 : kk < xi.rs.length := by unfold endS at g92; omega
      obtain ⟨hrd, hno, hse, D3, hrun, hq3⟩ := hq2.shorten (kk := kk) (by omega) hkk1 hU (by omega)
      have hset : (lg.l.take jf).set (jf - 1) (cutS xi kk) = lg.l.take (jf - 1) ++ [cutS xi kk] := by rw [htk, List.set_append_right _ _ (by omega), hl1, Nat.sub_self]; rfl
      have hrr : recsL (lg.l.take (jf - 1) ++ [cutS xi kk]) = rs.take at_ := by
       have h1 : recsL (lg.l.take (jf - 1)) ++ (xi.rs ++ recsL (lg.l.drop jf)) = rs := by
        have z : recsL (lg.l.take jf ++ lg.l.drop jf) = rs := by rw [List.take_append_drop]; exact hgw.r
        rw [htk, recsL_append, recsL_append, recsL_one, List.append_assoc] at z; exact z
       rw [recsL_append, recsL_one, ← h1, List.take_append, show at_ - (recsL (lg.l.take (jf - 1))).length = kk by omega, List.take_of_length_le (l := recsL (lg.l.take (jf - 1))) (by omega), List.take_append_of_le_length (l₁ := xi.rs) (by omega)]; rfl
      have hra : (rs.take at_).length = at_ := by rw [List.length_take, ← hgw.la]; omega
      rw [hrr, hra] at hq3
      obtain ⟨D4, hsn, hq4, hst4⟩ := hq3.stand (fun z hz => by rcases List.mem_append.1 hz with hz | hz; exact hst.cl z (List.mem_of_mem_take hz); rw [List.mem_singleton.1 hz]; exact hst.cl xi (List.mem_of_getElem? hx2))
      obtain ⟨gk, hgk, hS11⟩ := sqA_pick (i := (jf - 1)) hx1 (hS10.permT [2, 0, 0, 0] (L' := sqA sgA y2.gs (lg.l.take jf) :: cel g [Value.pointer (some ⟨gd, 0, none⟩), Value.slice y2.a ((lg.l.take jf).length) y2.cap, Value.pointer none, Value.bool lg.begun, Value.int .i64 (lg.last : Int), Value.int .i64 (lg.durable : Int)] 49 :: own y2.a ((lg.l.take jf).length) y2.cap 47 1 (y2.gs.map ptrV) :: dkA gd Df :: L) rfl)
      clear hS10
      obtain ⟨pj, hS12⟩ := hS11.sg_open
      clear hS11
      replace hS12 : St B (cel gk [Value.int .i64 (xi.first : Int), Value.slice pj.1 xi.rs.length pj.2, Value.int .i64 ((encR xi.rs).length : Int), Value.bool xi.dirty] 63 :: own pj.1 xi.rs.length pj.2 3 1 (pis xi.rs) :: sqBut sgA (jf - 1) y2.gs (lg.l.take jf) :: cel g [Value.pointer (some ⟨gd, 0, none⟩), Value.slice y2.a ((lg.l.take jf).length) y2.cap, Value.pointer none, Value.bool lg.begun, Value.int .i64 (lg.last : Int), Value.int .i64 (lg.durable : Int)] 49 :: own y2.a ((lg.l.take jf).length) y2.cap 47 1 (y2.gs.map ptrV) :: dkA gd Df :: L) w8 := hS12
      have hsay : y2.a.isSome = true := by obtain ⟨qq, hqq, _⟩ := (hS12.own_rd_i 4 rfl).2.1 (by omega); rw [hqq]; rfl
      refine WD.start (fun w => (∀ jz, World.cell? w ⟨g, jz, none⟩ = [Value.pointer (some ⟨gd, 0, none⟩), Value.slice y2.a ((lg.l.take jf).length) y2.cap, Value.pointer none, Value.bool lg.begun, Value.int .i64 (lg.last : Int), Value.int .i64 (lg.durable : Int)][jz]?) ∧ Rd w y2.a ((lg.l.take jf).length) 1 (y2.gs.map ptrV)) [] (bt 16 0) Ty.mo rfl (by kernel_rfl) hS12 (fun _ h => ⟨h.cel_at 3 rfl, (h.own_rd_i 4 rfl)⟩) (fun w13 hS13 s14 => ?_)
      clear hS12
      refine WD.pure (i := 0) lcut_spec_t13 (bt 16 1) rfl rfl rfl (by kernel_rfl) (PQ.then (PQ.then PQ.body)) rfl (fun w => run_move rfl) ?_
      refine WD.pure (i := 1) lcut_spec_t13 (bt 16 3) rfl rfl rfl (by kernel_rfl) (PQ.then (PQ.then PQ.body)) rfl (fun w => run_move rfl) ?_
      refine WD.pure (i := 2) lcut_spec_t13 (bt 16 7) rfl rfl rfl (by kernel_rfl) (PQ.then (PQ.then PQ.body)) rfl (fun w => run_nilCheck rfl) ?_
      refine WD.pure (i := 3) lcut_spec_t13 (bt 16 15) rfl rfl rfl (by kernel_rfl) (PQ.then (PQ.then PQ.body)) rfl (fun w => run_fieldAddr (q := ⟨g, 1, none⟩) (show fieldB Tryz.prog 49 1 = some 1 from by kernel_rfl) rfl rfl) ?_
      refine WD.take (i := 4) lcut_spec_t13 (bt 16 31) s14 rfl rfl rfl (by kernel_rfl) (PQ.then (PQ.then PQ.body)) rfl (fun w hs => run_load Ty.ag46 rfl ((hs.1 1).trans rfl)) ?_
      refine WD.pure (i := 5) lcut_spec_t13 (bt 16 63) rfl rfl rfl (by kernel_rfl) (PQ.then (PQ.then PQ.body)) rfl (fun w => run_move rfl) ?_
      refine WD.pure (i := 6) lcut_spec_t13 (bt 16 127) rfl rfl rfl (by kernel_rfl) (PQ.then (PQ.then PQ.body)) rfl (fun w => run_nilCheck rfl) ?_
      refine WD.pure (i := 7) lcut_spec_t13 (bt 16 255) rfl rfl rfl (by kernel_rfl) (PQ.then (PQ.then PQ.body)) rfl (fun w => run_fieldAddr (q := ⟨g, 1, none⟩) (show fieldB Tryz.prog 49 1 = some 1 from by kernel_rfl) rfl rfl) ?_
      refine WD.take (i := 8) lcut_spec_t13 (bt 16 511) s14 rfl rfl rfl (by kernel_rfl) (PQ.then (PQ.then PQ.body)) rfl (fun w hs => run_load Ty.ag46 rfl ((hs.1 1).trans rfl)) ?_
      refine WD.pure (i := 9) lcut_spec_t13 (bt 16 1023) rfl rfl rfl (by kernel_rfl) (PQ.then (PQ.then PQ.body)) rfl (fun w => run_len rfl Tryz.underlying46 rfl) ?_
      refine WD.pure (i := 10) lcut_spec_t13 (bt 16 2047) rfl rfl rfl (by kernel_rfl) (PQ.then (PQ.then PQ.body)) rfl (fun w => run_sub rfl rfl (show IntKind.i64.wrap (((lg.l.take jf).length : Int) - 1) = ((jf - 1 : Nat) : Int) from by rw [IntWalk.i64_in _ (by omega)]; omega)) ?_
      refine WD.take (i := 11) lcut_spec_t13 (bt 16 4095) s14 rfl rfl rfl (by kernel_rfl) (PQ.then (PQ.then PQ.body)) rfl (fun w hs => run_indexAddr (q := adr y2.a (jf - 1)) Tryz.underlying46 Ty.sz47 rfl rfl (by omega) (by omega) ((hs.2).2.1 (by omega)) (by simp)) ?_
      refine WD.take (i := 12) lcut_spec_t13 (bt 16 8191) s14 rfl rfl rfl (by kernel_rfl) (PQ.then (PQ.then PQ.body)) rfl (fun w hs => run_load Ty.ag47 rfl ((hs.2).cell (by rw [List.getElem?_map, hgk]; rfl))) ?_
      refine WD.pure (i := 13) lcut_spec_t13 (bt 16 16383) rfl rfl rfl (by kernel_rfl) (PQ.then (PQ.then PQ.body)) rfl (fun w => run_move rfl) ?_
      refine WD.one (i := 14) lcut_spec_t13 (bt 16 32767) rfl (by kernel_rfl) ?_
      have hS15 := hS13.permT [3, 0, 0, 2, 0, 0] (L' := cel g [Value.pointer (some ⟨gd, 0, none⟩), Value.slice y2.a ((lg.l.take jf).length) y2.cap, Value.pointer none, Value.bool lg.begun, Value.int .i64 (lg.last : Int), Value.int .i64 (lg.durable : Int)] 49 :: cel gk [Value.int .i64 (xi.first : Int), Value.slice pj.1 xi.rs.length pj.2, Value.int .i64 ((encR xi.rs).length : Int), Value.bool xi.dirty] 63 :: own pj.1 xi.rs.length pj.2 3 1 (pis xi.rs) :: dkA gd Df :: sqBut sgA (jf - 1) y2.gs (lg.l.take jf) :: own y2.a ((lg.l.take jf).length) y2.cap 47 1 (y2.gs.map ptrV) :: L) rfl
      clear hS13
      refine WO.call rfl rfl Ty.hd30 rfl (lshort_spec (kk := kk) (at_ := at_) hq.w.dk (by omega) (by omega) (by omega) hkk1 hkk (by omega) hse hrd hno (by have := hq.w.few xi (List.mem_of_getElem? hx1); omega) hS15) (fun v17 w16 pv17 => ?_)
      obtain ⟨hv, hS16⟩ := pv17
      clear hS15
      rw [hrun] at hv
      change _ = Value.int .i64 0 at hv
      subst hv
      rw [hrun] at hS16
      refine WO.nil ?_
      have s18 : (∀ jz, World.cell? w16 ⟨g, jz, none⟩ = [Value.pointer (some ⟨gd, 0, none⟩), Value.slice y2.a ((lg.l.take jf).length) y2.cap, Value.pointer none, Value.bool lg.begun, Value.int .i64 (lg.last : Int), Value.int .i64 (lg.durable : Int)][jz]?) ∧ Rd w16 y2.a ((lg.l.take jf).length) 1 (y2.gs.map ptrV) := ⟨hS16.cel_at 0 rfl, (hS16.own_rd_i 5 rfl)⟩
      refine NX.held s18 ?_
      refine WD.pure (i := 15) lcut_spec_t13 (bt 16 65535) rfl rfl rfl (by kernel_rfl) (PQ.then (PQ.then PQ.body)) rfl (fun w => run_assign rfl) ?_
      refine WD.done lcut_spec_t13 (by kernel_rfl) ?_
      refine NX.go (WP.seq (WP.region rfl ?_))
      refine WO.mv rfl rfl ?_
      refine WO.val (run_neq rfl rfl) rfl rfl rfl ?_
      refine WO.nil (NX.go ?_)
      refine WP.condF rfl (by decide) ?_
      refine WP.skip (NX.go (WP.seq ?_))
      have hS19 := sqA_back hgk (St.sg_shut (x := (cutS xi kk)) (pj.1, pj.2) (hS16.permT [1, 1, 2, 0, 0, 0] (L' := cel gk [Value.int .i64 (xi.first : Int), Value.slice pj.1 ((xi.rs.take kk).length) pj.2, Value.int .i64 ((encR (xi.rs.take kk)).length : Int), Value.bool xi.dirty] 63 :: own pj.1 ((xi.rs.take kk).length) pj.2 3 1 (pis (xi.rs.take kk)) :: sqBut sgA (jf - 1) y2.gs (lg.l.take jf) :: cel g [Value.pointer (some ⟨gd, 0, none⟩), Value.slice y2.a ((lg.l.take jf).length) y2.cap, Value.pointer none, Value.bool lg.begun, Value.int .i64 (lg.last : Int), Value.int .i64 (lg.durable : Int)] 49 :: dkA gd D3 :: own y2.a ((lg.l.take jf).length) y2.cap 47 1 (y2.gs.map ptrV) :: L) rfl))
      clear hS16
      replace hS19 : St B (sqA sgA y2.gs ((lg.l.take jf).set (jf - 1) (cutS xi kk)) :: cel g [Value.pointer (some ⟨gd, 0, none⟩), Value.slice y2.a ((lg.l.take jf).length) y2.cap, Value.pointer none, Value.bool lg.begun, Value.int .i64 (lg.last : Int), Value.int .i64 (lg.durable : Int)] 49 :: dkA gd D3 :: own y2.a ((lg.l.take jf).length) y2.cap 47 1 (y2.gs.map ptrV) :: L) w16 := hS19
      refine WP.region rfl ?_
      refine WO.mv rfl rfl ?_
      refine WO.mv rfl rfl ?_
      have hS20 := hS19.permT [1, 1, 0, 0] (L' := cel g [Value.pointer (some ⟨gd, 0, none⟩), Value.slice y2.a ((lg.l.take jf).length) y2.cap, Value.pointer none, Value.bool lg.begun, Value.int .i64 (lg.last : Int), Value.int .i64 (lg.durable : Int)] 49 :: dkA gd D3 :: sqA sgA y2.gs ((lg.l.take jf).set (jf - 1) (cutS xi kk)) :: own y2.a ((lg.l.take jf).length) y2.cap 47 1 (y2.gs.map ptrV) :: L) rfl
      clear hS19
      refine WO.call rfl rfl Ty.hd31 rfl (lstands_spec (at_ := at_) hq3.w.dk hS20) (fun v22 w21 pv22 => ?_)
      obtain ⟨hv, hS21⟩ := pv22
      clear hS20
      rw [hsn] at hv
      change _ = Value.int .i64 0 at hv
      subst hv
      replace hS21 := (hS21.resolve_right (fun h => h.1 (by rw [hsn]))).2
      rw [hsn] at hS21
      refine WO.asg rfl rfl ?_
      refine WO.nil (NX.go (WP.ret ?_))
      refine NX.done (l := [.tmp 4]) rfl rfl ?_
      have z := (hS21.permT [0, 2, 1, 0] (L' := cel g [Value.pointer (some ⟨gd, 0, none⟩), Value.slice y2.a ((lg.l.take jf).length) y2.cap, Value.pointer none, Value.bool false, Value.int .i64 (at_ : Int), Value.int .i64 (at_ : Int)] 49 :: own y2.a ((lg.l.take jf).length) y2.cap 47 1 (y2.gs.map ptrV) :: sqA sgA y2.gs ((lg.l.take jf).set (jf - 1) (cutS xi kk)) :: dkA gd D4 :: L) rfl)
      rw [show (lg.l.take jf).length = ((lg.l.take jf).set (jf - 1) (cutS xi kk)).length from (List.length_set ..).symm, hset] at z
      exact ⟨rfl, ⟨lg.l.take (jf - 1) ++ [cutS xi kk], false, false, at_, at_⟩, D4, rfl, by show (lg.l.take (jf - 1) ++ [cutS xi kk]).length ≤ _; rw [List.length_append, hl1]; show jf - 1 + 1 ≤ _; omega, hq4.mono (by omega) (by omega) (Nat.le_refl _), hst4, St.lg_shut (lg := ⟨lg.l.take (jf - 1) ++ [cutS xi kk], false, false, at_, at_⟩) ⟨y2.a, y2.cap, y2.gs⟩ z⟩
     ·
      refine WP.skip (NX.go (WP.seq ?_))
      obtain ⟨y2, hgl2, hS23⟩ := (hS8).lg_open
      clear hS8
      replace hS23 : St B (cel g [Value.pointer (some ⟨gd, 0, none⟩), Value.slice y2.a ((lg.l.take jf).length) y2.cap, Value.pointer none, Value.bool lg.begun, Value.int .i64 (lg.last : Int), Value.int .i64 (lg.durable : Int)] 49 :: own y2.a ((lg.l.take jf).length) y2.cap 47 1 (y2.gs.map ptrV) :: sqA sgA y2.gs (lg.l.take jf) :: dkA gd Df :: L) w8 := hS23
      have hgl2 : y2.gs.length = (lg.l.take jf).length := hgl2
      have hlj : (lg.l.take jf).length = jf := by rw [List.length_take]; omega
      have h92 : ¬ ((endL (lg.l.take jf) : Nat) : Int) > (at_ : Int) := g92
      have hrr : recsL (lg.l.take jf) = rs.take at_ := by
       have h1 : recsL (lg.l.take jf) ++ recsL (lg.l.drop jf) = rs := by rw [← recsL_append, List.take_append_drop]; exact hgw.r
       have h2 : (recsL (lg.l.take jf)).length = at_ := by
        by_cases h0 : lg.l.take jf = []
        · rw [h0] at haq ⊢; show 0 = at_; have z : at_ ≤ 0 := haq; omega
        · have h3 := hq.w.last h0; have h4 : endL (lg.l.take jf) = (recsL (lg.l.take jf)).length := h3; omega
       rw [← h1, ← h2, List.take_left]
      have hra : (rs.take at_).length = at_ := by rw [List.length_take, ← hgw.la]; omega
      rw [hrr, hra] at hq
      obtain ⟨D4, hsn, hq4, hst4⟩ := hq.stand (fun z hz => hst.cl z (List.mem_of_mem_take hz))
      refine WP.region rfl ?_
      refine WO.mv rfl rfl ?_
      refine WO.mv rfl rfl ?_
      have hS24 := hS23.permT [0, 2, 0, 0] (L' := cel g [Value.pointer (some ⟨gd, 0, none⟩), Value.slice y2.a ((lg.l.take jf).length) y2.cap, Value.pointer none, Value.bool lg.begun, Value.int .i64 (lg.last : Int), Value.int .i64 (lg.durable : Int)] 49 :: dkA gd Df :: own y2.a ((lg.l.take jf).length) y2.cap 47 1 (y2.gs.map ptrV) :: sqA sgA y2.gs (lg.l.take jf) :: L) rfl
      clear hS23
      refine WO.call rfl rfl Ty.hd31 rfl (lstands_spec (at_ := at_) hq.w.dk hS24) (fun v26 w25 pv26 => ?_)
      obtain ⟨hv, hS25⟩ := pv26
      clear hS24
      rw [hsn] at hv
      change _ = Value.int .i64 0 at hv
      subst hv
      replace hS25 := (hS25.resolve_right (fun h => h.1 (by rw [hsn]))).2
      rw [hsn] at hS25
      refine WO.asg rfl rfl ?_
      refine WO.nil (NX.go (WP.ret ?_))
      refine NX.done (l := [.tmp 4]) rfl rfl ?_
      exact ⟨rfl, ⟨lg.l.take jf, false, false, at_, at_⟩, D4, rfl, by show (lg.l.take jf).length ≤ _; omega, hq4.mono (by omega) (by omega) (Nat.le_refl _), hst4, St.lg_shut (lg := ⟨lg.l.take jf, false, false, at_, at_⟩) ⟨y2.a, y2.cap, y2.gs⟩ (hS25.permT [0, 1, 1, 0] (L' := cel g [Value.pointer (some ⟨gd, 0, none⟩), Value.slice y2.a ((lg.l.take jf).length) y2.cap, Value.pointer none, Value.bool false, Value.int .i64 (at_ : Int), Value.int .i64 (at_ : Int)] 49 :: own y2.a ((lg.l.take jf).length) y2.cap 47 1 (y2.gs.map ptrV) :: sqA sgA y2.gs (lg.l.take jf) :: dkA gd D4 :: L) rfl)⟩
    ·
     refine WP.block ?_
     have htl : lg.l.take lg.l.length = lg.l := List.take_length
     have htg : y.gs.take lg.l.length = y.gs := by rw [← hgly]; exact List.take_length
     refine WP.loop (α := Nat × Dk) (fun x => match x with | ⟨j, Dq⟩ => [(0, Value.pointer (some ⟨g, 0, none⟩)), (1, Value.int .i64 (at_ : Int))]) (fun x w => match x with | ⟨j, Dq⟩ => (j ≤ lg.l.length ∧ GW ⟨lg.l.take j, false, true, (recsL (lg.l.take j)).length, 0⟩ Dq (n + (lg.l.length - j)) t U (recsL (lg.l.take j)) ∧ at_ ≤ (recsL (lg.l.take j)).length) ∧ St B (cel g [Value.pointer (some ⟨gd, 0, none⟩), Value.slice y.a ((lg.l.take j).length) y.cap, Value.pointer none, Value.bool lg.begun, Value.int .i64 (lg.last : Int), Value.int .i64 (lg.durable : Int)] 49 :: own y.a ((lg.l.take j).length) y.cap 47 1 ((y.gs.take j).map ptrV) :: sqA sgA (y.gs.take j) (lg.l.take j) :: dkA gd Dq :: L) w) (fun x => match x with | ⟨j, Dq⟩ => j) (lg.l.length, D) ⟨⟨Nat.le_refl _, by rw [htl, Nat.sub_self]; exact hgw.loose, by rw [htl, hgw.r, ← hgw.la]; omega⟩, by rw [htl, htg]; exact hS4⟩ (Sub.cons rfl (Sub.cons rfl (Sub.nil _))) ?_
     rintro ⟨j, Dq⟩ w27 ⟨⟨hj, hq, haq⟩, hS27⟩
     clear hS4
     refine WP.seq (WP.seq ?_)
     have hlj : (lg.l.take j).length = j := by rw [List.length_take]; omega
     have hl1 : (lg.l.take (j - 1)).length = j - 1 := by rw [List.length_take]; omega
     have hgj : (y.gs.take j).length = j := (sqA_len ((hS27.permT [2, 0, 0, 0] (L' := sqA sgA (y.gs.take j) (lg.l.take j) :: cel g [Value.pointer (some ⟨gd, 0, none⟩), Value.slice y.a ((lg.l.take j).length) y.cap, Value.pointer none, Value.bool lg.begun, Value.int .i64 (lg.last : Int), Value.int .i64 (lg.durable : Int)] 49 :: own y.a ((lg.l.take j).length) y.cap 47 1 ((y.gs.take j).map ptrV) :: dkA gd Dq :: L) rfl))).trans hlj
     obtain ⟨gi, xi, hgi⟩ : ∃ (gi : Nat) (xi : Sg), 0 < j → (y.gs.take j)[j - 1]? = some gi ∧ (lg.l.take j)[j - 1]? = some xi ∧ lg.l[j - 1]? = some xi := by
      rcases Nat.eq_zero_or_pos j with h0 | h0
      · exact ⟨0, ⟨0, [], false⟩, fun h => absurd h (by omega)⟩
      · exact ⟨(y.gs.take j)[j - 1]'(by omega), (lg.l.take j)[j - 1]'(by omega), fun _ => ⟨List.getElem?_eq_getElem (by omega), List.getElem?_eq_getElem (by omega), by have z := List.getElem?_eq_getElem (l := lg.l.take j) (i := j - 1) (by omega); rw [List.getElem?_take, if_pos (by omega)] at z; exact z⟩⟩
     refine WD.start (fun w => (∀ jz, World.cell? w ⟨g, jz, none⟩ = [Value.pointer (some ⟨gd, 0, none⟩), Value.slice y.a ((lg.l.take j).length) y.cap, Value.pointer none, Value.bool lg.begun, Value.int .i64 (lg.last : Int), Value.int .i64 (lg.durable : Int)][jz]?) ∧ Rd w y.a ((lg.l.take j).length) 1 ((y.gs.take j).map ptrV) ∧ (∀ (gq : Nat) (xq : Sg), (y.gs.take j)[j - 1]? = some gq → (lg.l.take j)[j - 1]? = some xq → World.cell? w ⟨gq, 0, none⟩ = some (.int .i64 (xq.first : Int)))) [] (bt 25 0) Ty.mo rfl (by kernel_rfl) hS27 (fun _ h => ⟨h.cel_at 0 rfl, (h.own_rd_i 1 rfl), fun gq xq hg hx => sg_look (St.permT h [2] rfl) hg hx⟩) (fun w28 hS28 s29 => ?_)
     clear hS27
     refine WD.pure (i := 0) lcut_spec_t6 (bt 25 1) rfl rfl rfl (by kernel_rfl) (PQ.then (PQ.then (PQ.then (PQ.blk (PQ.then PQ.body))))) rfl (fun w => run_move rfl) ?_
     refine WD.pure (i := 1) lcut_spec_t6 (bt 25 3) rfl rfl rfl (by kernel_rfl) (PQ.then (PQ.then (PQ.then (PQ.blk (PQ.then PQ.body))))) rfl (fun w => run_nilCheck rfl) ?_
     refine WD.pure (i := 2) lcut_spec_t6 (bt 25 7) rfl rfl rfl (by kernel_rfl) (PQ.then (PQ.then (PQ.then (PQ.blk (PQ.then PQ.body))))) rfl (fun w => run_fieldAddr (q := ⟨g, 1, none⟩) (show fieldB Tryz.prog 49 1 = some 1 from by kernel_rfl) rfl rfl) ?_
     refine WD.take (i := 3) lcut_spec_t6 (bt 25 15) s29 rfl rfl rfl (by kernel_rfl) (PQ.then (PQ.then (PQ.then (PQ.blk (PQ.then PQ.body))))) rfl (fun w hs => run_load Ty.ag46 rfl ((hs.1 1).trans rfl)) ?_
     refine WD.pure (i := 4) lcut_spec_t6 (bt 25 31) rfl rfl rfl (by kernel_rfl) (PQ.then (PQ.then (PQ.then (PQ.blk (PQ.then PQ.body))))) rfl (fun w => run_len rfl Tryz.underlying46 rfl) ?_
     refine WD.pure (i := 5) lcut_spec_t6 (bt 25 63) rfl rfl rfl (by kernel_rfl) (PQ.then (PQ.then (PQ.then (PQ.blk (PQ.then PQ.body))))) rfl (fun w => run_gtr rfl rfl) ?_
     refine WD.pure (i := 6) lcut_spec_t6 (bt 25 127) rfl rfl rfl (by kernel_rfl) (PQ.then (PQ.then (PQ.then (PQ.blk (PQ.then PQ.body))))) rfl (fun w => run_move rfl) ?_
     by_cases g36 : 0 < (((lg.l.take j).length : Nat) : Int)
     ·
      refine WD.pureOn (i := 7) lcut_spec_t6 (bt 25 255) rfl rfl rfl (decide_eq_true g36) (by kernel_rfl) (PQ.then (PQ.then (PQ.then (PQ.blk (PQ.then PQ.body))))) rfl (fun w => run_move rfl) ?_
      refine WD.pureOn (i := 8) lcut_spec_t6 (bt 25 511) rfl rfl rfl (decide_eq_true g36) (by kernel_rfl) (PQ.then (PQ.then (PQ.then (PQ.blk (PQ.then PQ.body))))) rfl (fun w => run_nilCheck rfl) ?_
      refine WD.pureOn (i := 9) lcut_spec_t6 (bt 25 1023) rfl rfl rfl (decide_eq_true g36) (by kernel_rfl) (PQ.then (PQ.then (PQ.then (PQ.blk (PQ.then PQ.body))))) rfl (fun w => run_fieldAddr (q := ⟨g, 1, none⟩) (show fieldB Tryz.prog 49 1 = some 1 from by kernel_rfl) rfl rfl) ?_
      refine WD.takeOn (i := 10) lcut_spec_t6 (bt 25 2047) s29 rfl rfl rfl (decide_eq_true g36) (by kernel_rfl) (PQ.then (PQ.then (PQ.then (PQ.blk (PQ.then PQ.body))))) rfl (fun w hs => run_load Ty.ag46 rfl ((hs.1 1).trans rfl)) ?_
      refine WD.pureOn (i := 11) lcut_spec_t6 (bt 25 4095) rfl rfl rfl (decide_eq_true g36) (by kernel_rfl) (PQ.then (PQ.then (PQ.then (PQ.blk (PQ.then PQ.body))))) rfl (fun w => run_move rfl) ?_
      refine WD.pureOn (i := 12) lcut_spec_t6 (bt 25 8191) rfl rfl rfl (decide_eq_true g36) (by kernel_rfl) (PQ.then (PQ.then (PQ.then (PQ.blk (PQ.then PQ.body))))) rfl (fun w => run_nilCheck rfl) ?_
      refine WD.pureOn (i := 13) lcut_spec_t6 (bt 25 16383) rfl rfl rfl (decide_eq_true g36) (by kernel_rfl) (PQ.then (PQ.then (PQ.then (PQ.blk (PQ.then PQ.body))))) rfl (fun w => run_fieldAddr (q := ⟨g, 1, none⟩) (show fieldB Tryz.prog 49 1 = some 1 from by kernel_rfl) rfl rfl) ?_
      refine WD.takeOn (i := 14) lcut_spec_t6 (bt 25 32767) s29 rfl rfl rfl (decide_eq_true g36) (by kernel_rfl) (PQ.then (PQ.then (PQ.then (PQ.blk (PQ.then PQ.body))))) rfl (fun w hs => run_load Ty.ag46 rfl ((hs.1 1).trans rfl)) ?_
      refine WD.pureOn (i := 15) lcut_spec_t6 (bt 25 65535) rfl rfl rfl (decide_eq_true g36) (by kernel_rfl) (PQ.then (PQ.then (PQ.then (PQ.blk (PQ.then PQ.body))))) rfl (fun w => run_len rfl Tryz.underlying46 rfl) ?_
      refine WD.pureOn (i := 16) lcut_spec_t6 (bt 25 131071) rfl rfl rfl (decide_eq_true g36) (by kernel_rfl) (PQ.then (PQ.then (PQ.then (PQ.blk (PQ.then PQ.body))))) rfl (fun w => run_sub rfl rfl (show IntKind.i64.wrap (((lg.l.take j).length : Int) - 1) = (((lg.l.take (j - 1)).length : Nat) : Int) from by rw [IntWalk.i64_in _ (by omega)]; omega)) ?_
      have hsay : y.a.isSome = true := by obtain ⟨qq, hqq, _⟩ := (hS28.own_rd_i 1 rfl).2.1 (by omega); rw [hqq]; rfl
      refine WD.takeOn (i := 17) lcut_spec_t6 (bt 25 262143) s29 rfl rfl rfl (decide_eq_true g36) (by kernel_rfl) (PQ.then (PQ.then (PQ.then (PQ.blk (PQ.then PQ.body))))) rfl (fun w hs => run_indexAddr (q := adr y.a ((lg.l.take (j - 1)).length)) Tryz.underlying46 Ty.sz47 rfl rfl (by omega) (by omega) ((hs.2.1).2.1 (by omega)) (by simp)) ?_
      refine WD.takeOn (i := 18) lcut_spec_t6 (bt 25 524287) s29 rfl rfl rfl (decide_eq_true g36) (by kernel_rfl) (PQ.then (PQ.then (PQ.then (PQ.blk (PQ.then PQ.body))))) rfl (fun w hs => run_load Ty.ag47 rfl ((hs.2.1).cell (by rw [hl1, List.getElem?_map, (hgi (by omega)).1]; rfl))) ?_
      refine WD.pureOn (i := 19) lcut_spec_t6 (bt 25 1048575) rfl rfl rfl (decide_eq_true g36) (by kernel_rfl) (PQ.then (PQ.then (PQ.then (PQ.blk (PQ.then PQ.body))))) rfl (fun w => run_nilCheck rfl) ?_
      refine WD.pureOn (i := 20) lcut_spec_t6 (bt 25 2097151) rfl rfl rfl (decide_eq_true g36) (by kernel_rfl) (PQ.then (PQ.then (PQ.then (PQ.blk (PQ.then PQ.body))))) rfl (fun w => run_fieldAddr (q := ⟨gi, 0, none⟩) (show fieldB Tryz.prog 63 0 = some 0 from by kernel_rfl) rfl rfl) ?_
      refine WD.takeOn (i := 21) lcut_spec_t6 (bt 25 4194303) s29 rfl rfl rfl (decide_eq_true g36) (by kernel_rfl) (PQ.then (PQ.then (PQ.then (PQ.blk (PQ.then PQ.body))))) rfl (fun w hs => run_load Ty.ag3 rfl (hs.2.2 gi xi (hgi (by omega)).1 (hgi (by omega)).2.1)) ?_
      refine WD.pureOn (i := 22) lcut_spec_t6 (bt 25 8388607) rfl rfl rfl (decide_eq_true g36) (by kernel_rfl) (PQ.then (PQ.then (PQ.then (PQ.blk (PQ.then PQ.body))))) rfl (fun w => run_move rfl) ?_
      refine WD.pureOn (i := 23) lcut_spec_t6 (bt 25 16777215) rfl rfl rfl (decide_eq_true g36) (by kernel_rfl) (PQ.then (PQ.then (PQ.then (PQ.blk (PQ.then PQ.body))))) rfl (fun w => run_gtr rfl rfl) ?_
      refine WD.pure (i := 24) lcut_spec_t6 (bt 25 33554431) rfl rfl rfl (by kernel_rfl) (PQ.then (PQ.then (PQ.then (PQ.blk (PQ.then PQ.body))))) rfl (fun w => run_pickT rfl (decide_eq_true g36) rfl) ?_
      refine WD.done lcut_spec_t6 (by kernel_rfl) ?_
      refine NX.go ?_
      refine WP.condP rfl (fun g54 => ?_) (fun g54 => ?_)
      ·
       refine WP.skip (NX.go (WP.block (WP.seq (WP.region rfl ?_))))
       refine WO.mv rfl rfl ?_
       refine WO.val (run_nilCheck rfl) rfl rfl rfl ?_
       refine WO.val (run_fieldAddr (q := ⟨g, 1, none⟩) (show fieldB Tryz.prog 49 1 = some 1 from by kernel_rfl) rfl rfl) rfl rfl rfl ?_
       refine WO.val (run_load Ty.ag46 rfl ((hS28.cel_at 0 rfl 1).trans rfl)) rfl rfl rfl ?_
       refine WO.val (run_len rfl Tryz.underlying46 rfl) rfl rfl rfl ?_
       refine WO.val (run_sub rfl rfl (show IntKind.i64.wrap (((lg.l.take j).length : Int) - 1) = (((lg.l.take (j - 1)).length : Nat) : Int) from by rw [IntWalk.i64_in _ (by omega)]; omega)) rfl rfl rfl ?_
       refine WO.asg rfl rfl ?_
       refine WO.nil (NX.go (WP.seq (WP.seq ?_)))
       have hj1 : 0 < j := by omega
       obtain ⟨hg1, hx1, hx2⟩ := hgi hj1
       have hxm := List.mem_of_getElem? hx2
       have htk : lg.l.take j = lg.l.take (j - 1) ++ [xi] := by have z := List.take_add_one (l := lg.l) (i := j - 1); rw [hx2, show j - 1 + 1 = j by omega] at z; exact z
       have hq2 := hq
       rw [htk] at hq2
       obtain ⟨D1, hrm1, hq1⟩ := hq2.pop
       obtain ⟨_, _, hxf, _, _, hxs, _⟩ := hq2.sub
       have hrl1 : (recsL (lg.l.take (j - 1))).length ≤ 99999998 := hq1.w.small
       have hsay : y.a.isSome = true := by obtain ⟨qq, hqq, _⟩ := (hS28.own_rd_i 1 rfl).2.1 (by omega); rw [hqq]; rfl
       obtain ⟨gk, hgk, hS30⟩ := sqA_pick (i := (j - 1)) hx1 (hS28.permT [2, 0, 0, 0] (L' := sqA sgA (y.gs.take j) (lg.l.take j) :: cel g [Value.pointer (some ⟨gd, 0, none⟩), Value.slice y.a ((lg.l.take j).length) y.cap, Value.pointer none, Value.bool lg.begun, Value.int .i64 (lg.last : Int), Value.int .i64 (lg.durable : Int)] 49 :: own y.a ((lg.l.take j).length) y.cap 47 1 ((y.gs.take j).map ptrV) :: dkA gd Dq :: L) rfl)
       clear hS28
       obtain ⟨pi, hS31⟩ := hS30.sg_open
       clear hS30
       replace hS31 : St B (cel gk [Value.int .i64 (xi.first : Int), Value.slice pi.1 xi.rs.length pi.2, Value.int .i64 ((encR xi.rs).length : Int), Value.bool xi.dirty] 63 :: own pi.1 xi.rs.length pi.2 3 1 (pis xi.rs) :: sqBut sgA (j - 1) (y.gs.take j) (lg.l.take j) :: cel g [Value.pointer (some ⟨gd, 0, none⟩), Value.slice y.a ((lg.l.take j).length) y.cap, Value.pointer none, Value.bool lg.begun, Value.int .i64 (lg.last : Int), Value.int .i64 (lg.durable : Int)] 49 :: own y.a ((lg.l.take j).length) y.cap 47 1 ((y.gs.take j).map ptrV) :: dkA gd Dq :: L) w28 := hS31
       have hgg : gk = gi := Option.some.inj (hgk.symm.trans hg1)
       subst hgg
       refine WD.start (fun w => (∀ jz, World.cell? w ⟨g, jz, none⟩ = [Value.pointer (some ⟨gd, 0, none⟩), Value.slice y.a ((lg.l.take j).length) y.cap, Value.pointer none, Value.bool lg.begun, Value.int .i64 (lg.last : Int), Value.int .i64 (lg.durable : Int)][jz]?) ∧ Rd w y.a ((lg.l.take j).length) 1 ((y.gs.take j).map ptrV) ∧ (∀ jz, World.cell? w ⟨gk, jz, none⟩ = [Value.int .i64 (xi.first : Int), Value.slice pi.1 xi.rs.length pi.2, Value.int .i64 ((encR xi.rs).length : Int), Value.bool xi.dirty][jz]?)) [] (bt 17 0) Ty.mo rfl (by kernel_rfl) hS31 (fun _ h => ⟨h.cel_at 3 rfl, (h.own_rd_i 4 rfl), h.cel_at 0 rfl⟩) (fun w32 hS32 s33 => ?_)
       clear hS31
       refine WD.pure (i := 0) lcut_spec_t8 (bt 17 1) rfl rfl rfl (by kernel_rfl) (PQ.then (PQ.then (PQ.blk (PQ.then (PQ.blk (PQ.then PQ.body)))))) rfl (fun w => run_move rfl) ?_
       refine WD.pure (i := 1) lcut_spec_t8 (bt 17 3) rfl rfl rfl (by kernel_rfl) (PQ.then (PQ.then (PQ.blk (PQ.then (PQ.blk (PQ.then PQ.body)))))) rfl (fun w => run_nilCheck rfl) ?_
       refine WD.pure (i := 2) lcut_spec_t8 (bt 17 7) rfl rfl rfl (by kernel_rfl) (PQ.then (PQ.then (PQ.blk (PQ.then (PQ.blk (PQ.then PQ.body)))))) rfl (fun w => run_fieldAddr (q := ⟨g, 0, none⟩) (show fieldB Tryz.prog 49 0 = some 0 from by kernel_rfl) rfl rfl) ?_
       refine WD.take (i := 3) lcut_spec_t8 (bt 17 15) s33 rfl rfl rfl (by kernel_rfl) (PQ.then (PQ.then (PQ.blk (PQ.then (PQ.blk (PQ.then PQ.body)))))) rfl (fun w hs => run_load Ty.ag25 rfl ((hs.1 0).trans rfl)) ?_
       refine WD.pure (i := 4) lcut_spec_t8 (bt 17 31) rfl rfl rfl (by kernel_rfl) (PQ.then (PQ.then (PQ.blk (PQ.then (PQ.blk (PQ.then PQ.body)))))) rfl (fun w => run_move rfl) ?_
       refine WD.pure (i := 5) lcut_spec_t8 (bt 17 63) rfl rfl rfl (by kernel_rfl) (PQ.then (PQ.then (PQ.blk (PQ.then (PQ.blk (PQ.then PQ.body)))))) rfl (fun w => run_nilCheck rfl) ?_
       refine WD.pure (i := 6) lcut_spec_t8 (bt 17 127) rfl rfl rfl (by kernel_rfl) (PQ.then (PQ.then (PQ.blk (PQ.then (PQ.blk (PQ.then PQ.body)))))) rfl (fun w => run_fieldAddr (q := ⟨g, 1, none⟩) (show fieldB Tryz.prog 49 1 = some 1 from by kernel_rfl) rfl rfl) ?_
       refine WD.take (i := 7) lcut_spec_t8 (bt 17 255) s33 rfl rfl rfl (by kernel_rfl) (PQ.then (PQ.then (PQ.blk (PQ.then (PQ.blk (PQ.then PQ.body)))))) rfl (fun w hs => run_load Ty.ag46 rfl ((hs.1 1).trans rfl)) ?_
       refine WD.pure (i := 8) lcut_spec_t8 (bt 17 511) rfl rfl rfl (by kernel_rfl) (PQ.then (PQ.then (PQ.blk (PQ.then (PQ.blk (PQ.then PQ.body)))))) rfl (fun w => run_move rfl) ?_
       refine WD.take (i := 9) lcut_spec_t8 (bt 17 1023) s33 rfl rfl rfl (by kernel_rfl) (PQ.then (PQ.then (PQ.blk (PQ.then (PQ.blk (PQ.then PQ.body)))))) rfl (fun w hs => run_indexAddr (q := adr y.a ((lg.l.take (j - 1)).length)) Tryz.underlying46 Ty.sz47 rfl rfl (by omega) (by omega) ((hs.2.1).2.1 (by omega)) (by simp)) ?_
       refine WD.take (i := 10) lcut_spec_t8 (bt 17 2047) s33 rfl rfl rfl (by kernel_rfl) (PQ.then (PQ.then (PQ.blk (PQ.then (PQ.blk (PQ.then PQ.body)))))) rfl (fun w hs => run_load Ty.ag47 rfl ((hs.2.1).cell (by rw [hl1, List.getElem?_map, hg1]; rfl))) ?_
       refine WD.pure (i := 11) lcut_spec_t8 (bt 17 4095) rfl rfl rfl (by kernel_rfl) (PQ.then (PQ.then (PQ.blk (PQ.then (PQ.blk (PQ.then PQ.body)))))) rfl (fun w => run_nilCheck rfl) ?_
       refine WD.pure (i := 12) lcut_spec_t8 (bt 17 8191) rfl rfl rfl (by kernel_rfl) (PQ.then (PQ.then (PQ.blk (PQ.then (PQ.blk (PQ.then PQ.body)))))) rfl (fun w => run_fieldAddr (q := ⟨gk, 0, none⟩) (show fieldB Tryz.prog 63 0 = some 0 from by kernel_rfl) rfl rfl) ?_
       refine WD.take (i := 13) lcut_spec_t8 (bt 17 16383) s33 rfl rfl rfl (by kernel_rfl) (PQ.then (PQ.then (PQ.blk (PQ.then (PQ.blk (PQ.then PQ.body)))))) rfl (fun w hs => run_load Ty.ag3 rfl ((hs.2.2 0).trans rfl)) ?_
       refine WD.one (i := 14) lcut_spec_t8 (bt 17 32767) rfl (by kernel_rfl) ?_
       refine WO.call rfl rfl Ty.hd25 rfl (wname_spec xi.first (by omega) hS32) (fun v35 w34 pv35 => ?_)
       obtain ⟨rfl, hS34⟩ := pv35
       clear hS32
       refine WO.nil ?_
       have s36 : (∀ jz, World.cell? w34 ⟨g, jz, none⟩ = [Value.pointer (some ⟨gd, 0, none⟩), Value.slice y.a ((lg.l.take j).length) y.cap, Value.pointer none, Value.bool lg.begun, Value.int .i64 (lg.last : Int), Value.int .i64 (lg.durable : Int)][jz]?) ∧ Rd w34 y.a ((lg.l.take j).length) 1 ((y.gs.take j).map ptrV) ∧ (∀ jz, World.cell? w34 ⟨gk, jz, none⟩ = [Value.int .i64 (xi.first : Int), Value.slice pi.1 xi.rs.length pi.2, Value.int .i64 ((encR xi.rs).length : Int), Value.bool xi.dirty][jz]?) := ⟨hS34.cel_at 3 rfl, (hS34.own_rd_i 4 rfl), hS34.cel_at 0 rfl⟩
       refine NX.held s36 ?_
       refine WD.one (i := 15) lcut_spec_t8 (bt 17 65535) rfl (by kernel_rfl) ?_
       have hS37 := hS34.permT [5, 0, 0, 0, 0, 0] (L' := dkA gd Dq :: cel gk [Value.int .i64 (xi.first : Int), Value.slice pi.1 xi.rs.length pi.2, Value.int .i64 ((encR xi.rs).length : Int), Value.bool xi.dirty] 63 :: own pi.1 xi.rs.length pi.2 3 1 (pis xi.rs) :: sqBut sgA (j - 1) (y.gs.take j) (lg.l.take j) :: cel g [Value.pointer (some ⟨gd, 0, none⟩), Value.slice y.a ((lg.l.take j).length) y.cap, Value.pointer none, Value.bool lg.begun, Value.int .i64 (lg.last : Int), Value.int .i64 (lg.durable : Int)] 49 :: own y.a ((lg.l.take j).length) y.cap 47 1 ((y.gs.take j).map ptrV) :: L) rfl
       clear hS34
       refine WO.call rfl rfl Ty.hd29 rfl (dremove_spec hq.w.dk.w hq.w.dk.b (by omega) (nameW xi.first) hS37) (fun v39 w38 pv39 => ?_)
       obtain ⟨hv, hS38⟩ := pv39
       clear hS37
       rw [hrm1] at hv
       change _ = Value.int .i64 0 at hv
       subst hv
       rw [hrm1] at hS38
       refine WO.nil ?_
       have s40 : (∀ jz, World.cell? w38 ⟨g, jz, none⟩ = [Value.pointer (some ⟨gd, 0, none⟩), Value.slice y.a ((lg.l.take j).length) y.cap, Value.pointer none, Value.bool lg.begun, Value.int .i64 (lg.last : Int), Value.int .i64 (lg.durable : Int)][jz]?) ∧ Rd w38 y.a ((lg.l.take j).length) 1 ((y.gs.take j).map ptrV) ∧ (∀ jz, World.cell? w38 ⟨gk, jz, none⟩ = [Value.int .i64 (xi.first : Int), Value.slice pi.1 xi.rs.length pi.2, Value.int .i64 ((encR xi.rs).length : Int), Value.bool xi.dirty][jz]?) := ⟨hS38.cel_at 4 rfl, (hS38.own_rd_i 5 rfl), hS38.cel_at 1 rfl⟩
       refine NX.held s40 ?_
       refine WD.pure (i := 16) lcut_spec_t8 (bt 17 131071) rfl rfl rfl (by kernel_rfl) (PQ.then (PQ.then (PQ.blk (PQ.then (PQ.blk (PQ.then PQ.body)))))) rfl (fun w => run_assign rfl) ?_
       refine WD.done lcut_spec_t8 (by kernel_rfl) ?_
       refine NX.go (WP.seq (WP.region rfl ?_))
       refine WO.mv rfl rfl ?_
       refine WO.val (run_neq rfl rfl) rfl rfl rfl ?_
       refine WO.nil (NX.go ?_)
       refine WP.condF rfl (by decide) ?_
       refine WP.skip (NX.go ?_)
       have hcy := hS38.own_le_i 5 rfl
       refine WP.region rfl ?_
       refine WO.mv rfl rfl ?_
       refine WO.mv rfl rfl ?_
       refine WO.val (run_nilCheck rfl) rfl rfl rfl ?_
       refine WO.val (run_fieldAddr (q := ⟨g, 1, none⟩) (show fieldB Tryz.prog 49 1 = some 1 from by kernel_rfl) rfl rfl) rfl rfl rfl ?_
       refine WO.val (run_load Ty.ag46 rfl ((hS38.cel_at 4 rfl 1).trans rfl)) rfl rfl rfl ?_
       refine WO.mv rfl rfl ?_
       refine WO.val (run_sliceTo (j := (lg.l.take (j - 1)).length) Tryz.underlying46 Ty.sz47 rfl ⟨_, rfl⟩ (by omega)) rfl rfl rfl ?_
       refine WO.val (run_nilCheck rfl) rfl rfl rfl ?_
       refine WO.val (run_fieldAddr (q := ⟨g, 1, none⟩) (show fieldB Tryz.prog 49 1 = some 1 from by kernel_rfl) rfl rfl) rfl rfl rfl ?_
       refine WO.store (l' := [Value.pointer (some ⟨gd, 0, none⟩), Value.slice y.a ((lg.l.take (j - 1)).length) y.cap, Value.pointer none, Value.bool lg.begun, Value.int .i64 (lg.last : Int), Value.int .i64 (lg.durable : Int)]) 4 hS38 rfl Ty.sz46 rfl rfl rfl rfl rfl (Nat.le_of_ble_eq_true rfl) rfl (fun w41 (hS41 : St B (dkA gd D1 :: cel gk [Value.int .i64 (xi.first : Int), Value.slice pi.1 xi.rs.length pi.2, Value.int .i64 ((encR xi.rs).length : Int), Value.bool xi.dirty] 63 :: own pi.1 xi.rs.length pi.2 3 1 (pis xi.rs) :: sqBut sgA (j - 1) (y.gs.take j) (lg.l.take j) :: cel g [Value.pointer (some ⟨gd, 0, none⟩), Value.slice y.a ((lg.l.take (j - 1)).length) y.cap, Value.pointer none, Value.bool lg.begun, Value.int .i64 (lg.last : Int), Value.int .i64 (lg.durable : Int)] 49 :: own y.a ((lg.l.take j).length) y.cap 47 1 ((y.gs.take j).map ptrV) :: L) w41) => ?_)
       clear hS38
       refine WO.nil (NX.blk ?_)
       have hS42 := sqA_same hx1 hgk (St.sg_shut (x := xi) (pi.1, pi.2) (hS41.permT [1, 1, 1, 0, 0, 0] (L' := cel gk [Value.int .i64 (xi.first : Int), Value.slice pi.1 xi.rs.length pi.2, Value.int .i64 ((encR xi.rs).length : Int), Value.bool xi.dirty] 63 :: own pi.1 xi.rs.length pi.2 3 1 (pis xi.rs) :: sqBut sgA (j - 1) (y.gs.take j) (lg.l.take j) :: dkA gd D1 :: cel g [Value.pointer (some ⟨gd, 0, none⟩), Value.slice y.a ((lg.l.take (j - 1)).length) y.cap, Value.pointer none, Value.bool lg.begun, Value.int .i64 (lg.last : Int), Value.int .i64 (lg.durable : Int)] 49 :: own y.a ((lg.l.take j).length) y.cap 47 1 ((y.gs.take j).map ptrV) :: L) rfl))
       clear hS41
       replace hS42 : St B (sqA sgA (y.gs.take j) (lg.l.take j) :: dkA gd D1 :: cel g [Value.pointer (some ⟨gd, 0, none⟩), Value.slice y.a ((lg.l.take (j - 1)).length) y.cap, Value.pointer none, Value.bool lg.begun, Value.int .i64 (lg.last : Int), Value.int .i64 (lg.durable : Int)] 49 :: own y.a ((lg.l.take j).length) y.cap 47 1 ((y.gs.take j).map ptrV) :: L) w41 := hS42
       have hS43 := sqA_take (k := j - 1) (hS42.permT [0, 2, 1, 0] (L' := sqA sgA (y.gs.take j) (lg.l.take j) :: own y.a ((lg.l.take j).length) y.cap 47 1 ((y.gs.take j).map ptrV) :: cel g [Value.pointer (some ⟨gd, 0, none⟩), Value.slice y.a ((lg.l.take (j - 1)).length) y.cap, Value.pointer none, Value.bool lg.begun, Value.int .i64 (lg.last : Int), Value.int .i64 (lg.durable : Int)] 49 :: dkA gd D1 :: L) rfl)
       rw [List.take_take, List.take_take, Nat.min_eq_left (Nat.sub_le j 1)] at hS43
       have hS44 := hS43.own_take_i 1 rfl (m := (lg.l.take (j - 1)).length) (by omega) (l' := ((y.gs.take (j - 1)).map ptrV)) (by rw [Nat.mul_one, hl1, ← List.map_take, List.take_take, Nat.min_eq_left (Nat.sub_le j 1)]) rfl
       exact NX.again (j - 1, D1) ⟨⟨by omega, by rw [show n + (lg.l.length - (j - 1)) = n + (lg.l.length - j) + 1 by omega]; exact hq1, by omega⟩, hS44.permT [2, 1, 0, 0] (L' := cel g [Value.pointer (some ⟨gd, 0, none⟩), Value.slice y.a ((lg.l.take (j - 1)).length) y.cap, Value.pointer none, Value.bool lg.begun, Value.int .i64 (lg.last : Int), Value.int .i64 (lg.durable : Int)] 49 :: own y.a ((lg.l.take (j - 1)).length) y.cap 47 1 ((y.gs.take (j - 1)).map ptrV) :: sqA sgA (y.gs.take (j - 1)) (lg.l.take (j - 1)) :: dkA gd D1 :: L) rfl⟩ (by show j - 1 < j; omega) (Sub.cons rfl (Sub.cons rfl (Sub.nil _)))
      ·
       refine WP.exit (NX.thenExit (NX.thenExit ?_))
       refine NX.blkExit ?_
       exact K5 (j, Dq) _ _ ⟨⟨hj, hq, haq, .inr ⟨xi, (hgi (by omega)).2.2, by omega⟩⟩, hS28⟩ (Sub.cons rfl (Sub.cons rfl (Sub.nil _)))
     ·
      refine WD.off (i := 7) lcut_spec_t6 (bt 25 255) rfl rfl rfl (decide_eq_false g36) (by kernel_rfl) (PQ.then (PQ.then (PQ.then (PQ.blk (PQ.then PQ.body))))) rfl ?_
      refine WD.off (i := 8) lcut_spec_t6 (bt 25 511) rfl rfl rfl (decide_eq_false g36) (by kernel_rfl) (PQ.then (PQ.then (PQ.then (PQ.blk (PQ.then PQ.body))))) rfl ?_
      refine WD.off (i := 9) lcut_spec_t6 (bt 25 1023) rfl rfl rfl (decide_eq_false g36) (by kernel_rfl) (PQ.then (PQ.then (PQ.then (PQ.blk (PQ.then PQ.body))))) rfl ?_
      refine WD.off (i := 10) lcut_spec_t6 (bt 25 2047) rfl rfl rfl (decide_eq_false g36) (by kernel_rfl) (PQ.then (PQ.then (PQ.then (PQ.blk (PQ.then PQ.body))))) rfl ?_
      refine WD.off (i := 11) lcut_spec_t6 (bt 25 4095) rfl rfl rfl (decide_eq_false g36) (by kernel_rfl) (PQ.then (PQ.then (PQ.then (PQ.blk (PQ.then PQ.body))))) rfl ?_
      refine WD.off (i := 12) lcut_spec_t6 (bt 25 8191) rfl rfl rfl (decide_eq_false g36) (by kernel_rfl) (PQ.then (PQ.then (PQ.then (PQ.blk (PQ.then PQ.body))))) rfl ?_
      refine WD.off (i := 13) lcut_spec_t6 (bt 25 16383) rfl rfl rfl (decide_eq_false g36) (by kernel_rfl) (PQ.then (PQ.then (PQ.then (PQ.blk (PQ.then PQ.body))))) rfl ?_
      refine WD.off (i := 14) lcut_spec_t6 (bt 25 32767) rfl rfl rfl (decide_eq_false g36) (by kernel_rfl) (PQ.then (PQ.then (PQ.then (PQ.blk (PQ.then PQ.body))))) rfl ?_
      refine WD.off (i := 15) lcut_spec_t6 (bt 25 65535) rfl rfl rfl (decide_eq_false g36) (by kernel_rfl) (PQ.then (PQ.then (PQ.then (PQ.blk (PQ.then PQ.body))))) rfl ?_
      refine WD.off (i := 16) lcut_spec_t6 (bt 25 131071) rfl rfl rfl (decide_eq_false g36) (by kernel_rfl) (PQ.then (PQ.then (PQ.then (PQ.blk (PQ.then PQ.body))))) rfl ?_
      refine WD.off (i := 17) lcut_spec_t6 (bt 25 262143) rfl rfl rfl (decide_eq_false g36) (by kernel_rfl) (PQ.then (PQ.then (PQ.then (PQ.blk (PQ.then PQ.body))))) rfl ?_
      refine WD.off (i := 18) lcut_spec_t6 (bt 25 524287) rfl rfl rfl (decide_eq_false g36) (by kernel_rfl) (PQ.then (PQ.then (PQ.then (PQ.blk (PQ.then PQ.body))))) rfl ?_
      refine WD.off (i := 19) lcut_spec_t6 (bt 25 1048575) rfl rfl rfl (decide_eq_false g36) (by kernel_rfl) (PQ.then (PQ.then (PQ.then (PQ.blk (PQ.then PQ.body))))) rfl ?_
      refine WD.off (i := 20) lcut_spec_t6 (bt 25 2097151) rfl rfl rfl (decide_eq_false g36) (by kernel_rfl) (PQ.then (PQ.then (PQ.then (PQ.blk (PQ.then PQ.body))))) rfl ?_
      refine WD.off (i := 21) lcut_spec_t6 (bt 25 4194303) rfl rfl rfl (decide_eq_false g36) (by kernel_rfl) (PQ.then (PQ.then (PQ.then (PQ.blk (PQ.then PQ.body))))) rfl ?_
      refine WD.off (i := 22) lcut_spec_t6 (bt 25 8388607) rfl rfl rfl (decide_eq_false g36) (by kernel_rfl) (PQ.then (PQ.then (PQ.then (PQ.blk (PQ.then PQ.body))))) rfl ?_
      refine WD.off (i := 23) lcut_spec_t6 (bt 25 16777215) rfl rfl rfl (decide_eq_false g36) (by kernel_rfl) (PQ.then (PQ.then (PQ.then (PQ.blk (PQ.then PQ.body))))) rfl ?_
      refine WD.pure (i := 24) lcut_spec_t6 (bt 25 33554431) rfl rfl rfl (by kernel_rfl) (PQ.then (PQ.then (PQ.then (PQ.blk (PQ.then PQ.body))))) rfl (fun w => run_pickF rfl (decide_eq_false g36) rfl) ?_
      refine WD.done lcut_spec_t6 (by kernel_rfl) ?_
      refine NX.go ?_
      refine WP.condF rfl rfl ?_
      refine WP.exit (NX.thenExit (NX.thenExit ?_))
      refine NX.blkExit ?_
      exact K5 (j, Dq) _ _ ⟨⟨hj, hq, haq, .inl (by omega)⟩, hS28⟩ (Sub.cons rfl (Sub.cons rfl (Sub.nil _)))
end Go.Proofs.YtiggkfaonnnjoaaGreatDoor.SL
