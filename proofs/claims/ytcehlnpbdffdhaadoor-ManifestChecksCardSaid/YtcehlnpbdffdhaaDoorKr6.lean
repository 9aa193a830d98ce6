/- A reader over bytes: the reference. -/
import Derived.Test.YtcehlnpbdffdhaaDoorKr5
import Derived.Test.YtcehlnpbdffdhaaDoorMan
namespace Go.Proofs.YtcehlnpbdffdhaaDoor.SL
open Go.RowKit Go.Proofs.YtcehlnpbdffdhaaDoor
open Go.Proofs.YtcehlnpbdffdhaaDoorW.PrintLast (rtab opsOf)
set_option linter.unusedVariables false
set_option linter.unusedSimpArgs false
theorem inNum_spec {B w : World} {L : List HP} (g : Nat) (x : List UInt8 × Int) (hx : x.1.length ≤ 140737488355328) (hS : St B (cel g [str x.1, Value.int .i64 x.2] 92 :: L) w) : Does Tryd.prog 52 [Value.pointer (some ⟨g, 0, none⟩)] w (fun v w1 => v = Value.int .u64 ((inNum x).1 : Int) ∧ St B (cel g [str ((inNum x).2.1), Value.int .i64 ((inNum x).2.2)] 92 :: L) w1) := by
 refine enter (n := 34) Tryd.func52 rfl rfl [Value.pointer (some ⟨g, 0, none⟩)] rfl ?_
 refine WP.seq ?_
 refine WP.region rfl ?_
 refine WO.val (run_assign rfl) rfl rfl rfl ?_
 refine WO.nil ?_
 refine NX.go ?_
 refine WP.seq ?_
 refine WP.seq ?_
 refine WP.region rfl ?_
 refine WO.val (run_move rfl) rfl rfl rfl ?_
 refine WO.val (run_nilCheck rfl) rfl rfl rfl ?_
 refine WO.val (run_fieldAddr (q := ⟨g, 1, none⟩) (show fieldB Tryd.prog 92 1 = some 1 from by kernel_rfl) rfl rfl) rfl rfl rfl ?_
 refine WO.val (run_load Ty.ag28 rfl ((hS.cel_at 0 rfl 1).trans rfl)) rfl rfl rfl ?_
 refine WO.val (run_neq rfl rfl) rfl rfl rfl ?_
 refine WO.nil ?_
 refine NX.go ?_
 refine WP.condP rfl (fun g10 => ?_) (fun g10 => ?_)
 ·
  refine WP.seq ?_
  refine WP.region rfl ?_
  refine WO.val (run_assign rfl) rfl rfl rfl ?_
  refine WO.nil ?_
  refine NX.go ?_
  refine WP.ret ?_
  refine NX.thenRet ?_
  refine NX.done (l := [.tmp 2]) rfl rfl ?_
  exact ⟨by rw [inNum, if_neg g10]; rfl, by rw [inNum, if_neg g10]; exact hS⟩
 ·
  refine WP.skip ?_
  refine NX.go ?_
  refine WP.seq ?_
  have hle := getNum_le x.1
  refine WP.region rfl ?_
  refine WO.val (run_move rfl) rfl rfl rfl ?_
  refine WO.val (run_nilCheck rfl) rfl rfl rfl ?_
  refine WO.val (run_fieldAddr (q := ⟨g, 0, none⟩) (show fieldB Tryd.prog 92 0 = some 0 from by kernel_rfl) rfl rfl) rfl rfl rfl ?_
  refine WO.val (run_load Ty.ag9 rfl ((hS.cel_at 0 rfl 0).trans rfl)) rfl rfl rfl ?_
  refine WO.call rfl rfl Ty.hd91 rfl (rgetNum_spec x.1 hx hS) (fun v2 w1 pv2 => ?_)
  obtain ⟨rfl, hS1⟩ := pv2
  clear hS
  refine WO.val (run_move rfl) rfl rfl rfl ?_
  refine WO.val (run_extract rfl rfl) rfl rfl rfl ?_
  refine WO.val (run_extract rfl rfl) rfl rfl rfl ?_
  refine WO.val (run_extract rfl rfl) rfl rfl rfl ?_
  refine WO.val (run_assign rfl) rfl rfl rfl ?_
  refine WO.val (run_assign rfl) rfl rfl rfl ?_
  refine WO.val (run_assign rfl) rfl rfl rfl ?_
  refine WO.nil ?_
  refine NX.go ?_
  refine WP.seq ?_
  refine WP.region rfl ?_
  refine WO.val (run_move rfl) rfl rfl rfl ?_
  refine WO.val (run_move rfl) rfl rfl rfl ?_
  refine WO.val (run_nilCheck rfl) rfl rfl rfl ?_
  refine WO.val (run_fieldAddr (q := ⟨g, 1, none⟩) (show fieldB Tryd.prog 92 1 = some 1 from by kernel_rfl) rfl rfl) rfl rfl rfl ?_
  refine WO.store (l' := [str x.1, Value.int .i64 ((getNum x.1).2.2)]) 0 hS1 rfl Ty.sz28 rfl rfl rfl rfl rfl (Nat.le_of_ble_eq_true rfl) rfl (fun w3 (hS3 : St B (cel g [str x.1, Value.int .i64 ((getNum x.1).2.2)] 92 :: L) w3) => ?_)
  clear hS1
  refine WO.nil ?_
  refine NX.go ?_
  refine WP.seq ?_
  refine WP.region rfl ?_
  refine WO.val (run_move rfl) rfl rfl rfl ?_
  refine WO.val (run_move rfl) rfl rfl rfl ?_
  refine WO.val (run_nilCheck rfl) rfl rfl rfl ?_
  refine WO.val (run_fieldAddr (q := ⟨g, 0, none⟩) (show fieldB Tryd.prog 92 0 = some 0 from by kernel_rfl) rfl rfl) rfl rfl rfl ?_
  refine WO.val (run_load Ty.ag9 rfl ((hS3.cel_at 0 rfl 0).trans rfl)) rfl rfl rfl ?_
  refine WO.val (run_move rfl) rfl rfl rfl ?_
  refine WO.val (run_sliceS (i := (getNum x.1).2.1) (j := x.1.length) Tryd.underlying9 rfl ⟨_, rfl⟩ rfl (by omega) (Nat.le_refl _) (by rw [List.take_length])) rfl rfl rfl ?_
  refine WO.val (run_nilCheck rfl) rfl rfl rfl ?_
  refine WO.val (run_fieldAddr (q := ⟨g, 0, none⟩) (show fieldB Tryd.prog 92 0 = some 0 from by kernel_rfl) rfl rfl) rfl rfl rfl ?_
  refine WO.store (l' := [str (x.1.drop ((getNum x.1).2.1)), Value.int .i64 ((getNum x.1).2.2)]) 0 hS3 rfl Ty.sz9 rfl rfl rfl rfl rfl (Nat.le_of_ble_eq_true rfl) rfl (fun w4 (hS4 : St B (cel g [str (x.1.drop ((getNum x.1).2.1)), Value.int .i64 ((getNum x.1).2.2)] 92 :: L) w4) => ?_)
  clear hS3
  refine WO.nil ?_
  refine NX.go ?_
  refine WP.seq ?_
  refine WP.region rfl ?_
  refine WO.val (run_move rfl) rfl rfl rfl ?_
  refine WO.val (run_assign rfl) rfl rfl rfl ?_
  refine WO.nil ?_
  refine NX.go ?_
  refine WP.ret ?_
  refine NX.done (l := [.tmp 2]) rfl rfl ?_
  exact ⟨by rw [inNum, if_pos (Decidable.of_not_not g10)]; rfl, by rw [inNum, if_pos (Decidable.of_not_not g10)]; exact hS4⟩
theorem inSig_spec {B w : World} {L : List HP} (g : Nat) (x : List UInt8 × Int) (hx : x.1.length ≤ 140737488355328) (hS : St B (cel g [str x.1, Value.int .i64 x.2] 92 :: L) w) : Does Tryd.prog 53 [Value.pointer (some ⟨g, 0, none⟩)] w (fun v w1 => v = Value.int .i64 ((inSig x).1) ∧ St B (cel g [str ((inSig x).2.1), Value.int .i64 ((inSig x).2.2)] 92 :: L) w1) := by
 refine enter (n := 34) Tryd.func53 rfl rfl [Value.pointer (some ⟨g, 0, none⟩)] rfl ?_
 refine WP.seq ?_
 refine WP.region rfl ?_
 refine WO.val (run_assign rfl) rfl rfl rfl ?_
 refine WO.nil ?_
 refine NX.go ?_
 refine WP.seq ?_
 refine WP.seq ?_
 refine WP.region rfl ?_
 refine WO.val (run_move rfl) rfl rfl rfl ?_
 refine WO.val (run_nilCheck rfl) rfl rfl rfl ?_
 refine WO.val (run_fieldAddr (q := ⟨g, 1, none⟩) (show fieldB Tryd.prog 92 1 = some 1 from by kernel_rfl) rfl rfl) rfl rfl rfl ?_
 refine WO.val (run_load Ty.ag28 rfl ((hS.cel_at 0 rfl 1).trans rfl)) rfl rfl rfl ?_
 refine WO.val (run_neq rfl rfl) rfl rfl rfl ?_
 refine WO.nil ?_
 refine NX.go ?_
 refine WP.condP rfl (fun g10 => ?_) (fun g10 => ?_)
 ·
  refine WP.seq ?_
  refine WP.region rfl ?_
  refine WO.val (run_assign rfl) rfl rfl rfl ?_
  refine WO.nil ?_
  refine NX.go ?_
  refine WP.ret ?_
  refine NX.thenRet ?_
  refine NX.done (l := [.tmp 2]) rfl rfl ?_
  exact ⟨by rw [inSig, if_neg g10]; rfl, by rw [inSig, if_neg g10]; exact hS⟩
 ·
  refine WP.skip ?_
  refine NX.go ?_
  refine WP.seq ?_
  have hle := getNum_le x.1
  refine WP.region rfl ?_
  refine WO.val (run_move rfl) rfl rfl rfl ?_
  refine WO.val (run_nilCheck rfl) rfl rfl rfl ?_
  refine WO.val (run_fieldAddr (q := ⟨g, 0, none⟩) (show fieldB Tryd.prog 92 0 = some 0 from by kernel_rfl) rfl rfl) rfl rfl rfl ?_
  refine WO.val (run_load Ty.ag9 rfl ((hS.cel_at 0 rfl 0).trans rfl)) rfl rfl rfl ?_
  refine WO.call rfl rfl Ty.hd92 rfl (rgetSigned_spec x.1 hx hS) (fun v2 w1 pv2 => ?_)
  obtain ⟨rfl, hS1⟩ := pv2
  clear hS
  refine WO.val (run_move rfl) rfl rfl rfl ?_
  refine WO.val (run_extract rfl rfl) rfl rfl rfl ?_
  refine WO.val (run_extract rfl rfl) rfl rfl rfl ?_
  refine WO.val (run_extract rfl rfl) rfl rfl rfl ?_
  refine WO.val (run_assign rfl) rfl rfl rfl ?_
  refine WO.val (run_assign rfl) rfl rfl rfl ?_
  refine WO.val (run_assign rfl) rfl rfl rfl ?_
  refine WO.nil ?_
  refine NX.go ?_
  refine WP.seq ?_
  refine WP.region rfl ?_
  refine WO.val (run_move rfl) rfl rfl rfl ?_
  refine WO.val (run_move rfl) rfl rfl rfl ?_
  refine WO.val (run_nilCheck rfl) rfl rfl rfl ?_
  refine WO.val (run_fieldAddr (q := ⟨g, 1, none⟩) (show fieldB Tryd.prog 92 1 = some 1 from by kernel_rfl) rfl rfl) rfl rfl rfl ?_
  refine WO.store (l' := [str x.1, Value.int .i64 ((getNum x.1).2.2)]) 0 hS1 rfl Ty.sz28 rfl rfl rfl rfl rfl (Nat.le_of_ble_eq_true rfl) rfl (fun w3 (hS3 : St B (cel g [str x.1, Value.int .i64 ((getNum x.1).2.2)] 92 :: L) w3) => ?_)
  clear hS1
  refine WO.nil ?_
  refine NX.go ?_
  refine WP.seq ?_
  refine WP.region rfl ?_
  refine WO.val (run_move rfl) rfl rfl rfl ?_
  refine WO.val (run_move rfl) rfl rfl rfl ?_
  refine WO.val (run_nilCheck rfl) rfl rfl rfl ?_
  refine WO.val (run_fieldAddr (q := ⟨g, 0, none⟩) (show fieldB Tryd.prog 92 0 = some 0 from by kernel_rfl) rfl rfl) rfl rfl rfl ?_
  refine WO.val (run_load Ty.ag9 rfl ((hS3.cel_at 0 rfl 0).trans rfl)) rfl rfl rfl ?_
  refine WO.val (run_move rfl) rfl rfl rfl ?_
  refine WO.val (run_sliceS (i := (getNum x.1).2.1) (j := x.1.length) Tryd.underlying9 rfl ⟨_, rfl⟩ rfl (by omega) (Nat.le_refl _) (by rw [List.take_length])) rfl rfl rfl ?_
  refine WO.val (run_nilCheck rfl) rfl rfl rfl ?_
  refine WO.val (run_fieldAddr (q := ⟨g, 0, none⟩) (show fieldB Tryd.prog 92 0 = some 0 from by kernel_rfl) rfl rfl) rfl rfl rfl ?_
  refine WO.store (l' := [str (x.1.drop ((getNum x.1).2.1)), Value.int .i64 ((getNum x.1).2.2)]) 0 hS3 rfl Ty.sz9 rfl rfl rfl rfl rfl (Nat.le_of_ble_eq_true rfl) rfl (fun w4 (hS4 : St B (cel g [str (x.1.drop ((getNum x.1).2.1)), Value.int .i64 ((getNum x.1).2.2)] 92 :: L) w4) => ?_)
  clear hS3
  refine WO.nil ?_
  refine NX.go ?_
  refine WP.seq ?_
  refine WP.region rfl ?_
  refine WO.val (run_move rfl) rfl rfl rfl ?_
  refine WO.val (run_assign rfl) rfl rfl rfl ?_
  refine WO.nil ?_
  refine NX.go ?_
  refine WP.ret ?_
  refine NX.done (l := [.tmp 2]) rfl rfl ?_
  exact ⟨by rw [inSig, if_pos (Decidable.of_not_not g10)]; rfl, by rw [inSig, if_pos (Decidable.of_not_not g10)]; exact hS4⟩
theorem inText_spec {B w : World} {L : List HP} (g : Nat) (x : List UInt8 × Int) (m : Int) (hm : m ≤ 9223372036854775807) (hx : x.1.length ≤ 140737488355328) (hS : St B (cel g [str x.1, Value.int .i64 x.2] 92 :: L) w) : Does Tryd.prog 55 [Value.pointer (some ⟨g, 0, none⟩), Value.int .i64 m] w (fun v w1 => v = str ((inText x m).1) ∧ St B (cel g [str ((inText x m).2.1), Value.int .i64 ((inText x m).2.2)] 92 :: L) w1) := by
 refine enter (n := 37) Tryd.func55 rfl rfl [Value.pointer (some ⟨g, 0, none⟩), Value.int .i64 m] rfl ?_
 refine WP.seq ?_
 refine WP.region rfl ?_
 refine WO.val (run_assign rfl) rfl rfl rfl ?_
 refine WO.nil ?_
 refine NX.go ?_
 refine WP.seq ?_
 refine WP.seq ?_
 refine WP.region rfl ?_
 refine WO.val (run_move rfl) rfl rfl rfl ?_
 refine WO.val (run_nilCheck rfl) rfl rfl rfl ?_
 refine WO.val (run_fieldAddr (q := ⟨g, 1, none⟩) (show fieldB Tryd.prog 92 1 = some 1 from by kernel_rfl) rfl rfl) rfl rfl rfl ?_
 refine WO.val (run_load Ty.ag28 rfl ((hS.cel_at 0 rfl 1).trans rfl)) rfl rfl rfl ?_
 refine WO.val (run_neq rfl rfl) rfl rfl rfl ?_
 refine WO.nil ?_
 refine NX.go ?_
 refine WP.condP rfl (fun g12 => ?_) (fun g12 => ?_)
 ·
  refine WP.seq ?_
  refine WP.region rfl ?_
  refine WO.val (run_assign rfl) rfl rfl rfl ?_
  refine WO.nil ?_
  refine NX.go ?_
  refine WP.ret ?_
  refine NX.thenRet ?_
  refine NX.done (l := [.tmp 4]) rfl rfl ?_
  exact ⟨by rw [inText, if_neg g12]; rfl, by rw [inText, if_neg g12]; exact hS⟩
 ·
  refine WP.skip ?_
  refine NX.go ?_
  refine WP.seq ?_
  have hle := getText_le x.1 m
  refine WP.region rfl ?_
  refine WO.val (run_move rfl) rfl rfl rfl ?_
  refine WO.val (run_nilCheck rfl) rfl rfl rfl ?_
  refine WO.val (run_fieldAddr (q := ⟨g, 0, none⟩) (show fieldB Tryd.prog 92 0 = some 0 from by kernel_rfl) rfl rfl) rfl rfl rfl ?_
  refine WO.val (run_load Ty.ag9 rfl ((hS.cel_at 0 rfl 0).trans rfl)) rfl rfl rfl ?_
  refine WO.val (run_move rfl) rfl rfl rfl ?_
  refine WO.call rfl rfl Ty.hd90 rfl (rgetText_spec x.1 m hx hm hS) (fun v2 w1 pv2 => ?_)
  obtain ⟨rfl, hS1⟩ := pv2
  clear hS
  refine WO.val (run_move rfl) rfl rfl rfl ?_
  refine WO.val (run_extract rfl rfl) rfl rfl rfl ?_
  refine WO.val (run_extract rfl rfl) rfl rfl rfl ?_
  refine WO.val (run_extract rfl rfl) rfl rfl rfl ?_
  refine WO.val (run_assign rfl) rfl rfl rfl ?_
  refine WO.val (run_assign rfl) rfl rfl rfl ?_
  refine WO.val (run_assign rfl) rfl rfl rfl ?_
  refine WO.nil ?_
  refine NX.go ?_
  refine WP.seq ?_
  refine WP.region rfl ?_
  refine WO.val (run_move rfl) rfl rfl rfl ?_
  refine WO.val (run_move rfl) rfl rfl rfl ?_
  refine WO.val (run_nilCheck rfl) rfl rfl rfl ?_
  refine WO.val (run_fieldAddr (q := ⟨g, 1, none⟩) (show fieldB Tryd.prog 92 1 = some 1 from by kernel_rfl) rfl rfl) rfl rfl rfl ?_
  refine WO.store (l' := [str x.1, Value.int .i64 ((getText x.1 m).2.2)]) 0 hS1 rfl Ty.sz28 rfl rfl rfl rfl rfl (Nat.le_of_ble_eq_true rfl) rfl (fun w3 (hS3 : St B (cel g [str x.1, Value.int .i64 ((getText x.1 m).2.2)] 92 :: L) w3) => ?_)
  clear hS1
  refine WO.nil ?_
  refine NX.go ?_
  refine WP.seq ?_
  refine WP.region rfl ?_
  refine WO.val (run_move rfl) rfl rfl rfl ?_
  refine WO.val (run_move rfl) rfl rfl rfl ?_
  refine WO.val (run_nilCheck rfl) rfl rfl rfl ?_
  refine WO.val (run_fieldAddr (q := ⟨g, 0, none⟩) (show fieldB Tryd.prog 92 0 = some 0 from by kernel_rfl) rfl rfl) rfl rfl rfl ?_
  refine WO.val (run_load Ty.ag9 rfl ((hS3.cel_at 0 rfl 0).trans rfl)) rfl rfl rfl ?_
  refine WO.val (run_move rfl) rfl rfl rfl ?_
  refine WO.val (run_sliceS (i := (getText x.1 m).2.1) (j := x.1.length) Tryd.underlying9 rfl ⟨_, rfl⟩ rfl (by omega) (Nat.le_refl _) (by rw [List.take_length])) rfl rfl rfl ?_
  refine WO.val (run_nilCheck rfl) rfl rfl rfl ?_
  refine WO.val (run_fieldAddr (q := ⟨g, 0, none⟩) (show fieldB Tryd.prog 92 0 = some 0 from by kernel_rfl) rfl rfl) rfl rfl rfl ?_
  refine WO.store (l' := [str (x.1.drop ((getText x.1 m).2.1)), Value.int .i64 ((getText x.1 m).2.2)]) 0 hS3 rfl Ty.sz9 rfl rfl rfl rfl rfl (Nat.le_of_ble_eq_true rfl) rfl (fun w4 (hS4 : St B (cel g [str (x.1.drop ((getText x.1 m).2.1)), Value.int .i64 ((getText x.1 m).2.2)] 92 :: L) w4) => ?_)
  clear hS3
  refine WO.nil ?_
  refine NX.go ?_
  refine WP.seq ?_
  refine WP.region rfl ?_
  refine WO.val (run_move rfl) rfl rfl rfl ?_
  refine WO.val (run_assign rfl) rfl rfl rfl ?_
  refine WO.nil ?_
  refine NX.go ?_
  refine WP.ret ?_
  refine NX.done (l := [.tmp 4]) rfl rfl ?_
  exact ⟨by rw [inText, if_pos (Decidable.of_not_not g12)]; rfl, by rw [inText, if_pos (Decidable.of_not_not g12)]; exact hS4⟩
theorem inMust_spec {B w : World} {L : List HP} (g : Nat) (x : List UInt8 × Int) (c : Bool) (e : Int) (hS : St B (cel g [str x.1, Value.int .i64 x.2] 92 :: L) w) : Does Tryd.prog 54 [Value.pointer (some ⟨g, 0, none⟩), Value.bool c, Value.int .i64 e] w (fun v w1 => v = .tuple #[] ∧ St B (cel g [str ((must x c e).1), Value.int .i64 ((must x c e).2)] 92 :: L) w1) := by
 refine enter (n := 19) Tryd.func54 rfl rfl [Value.pointer (some ⟨g, 0, none⟩), Value.bool c, Value.int .i64 e] rfl ?_
 refine WP.seq ?_
 refine WP.region rfl ?_
 refine WO.val (run_move rfl) rfl rfl rfl ?_
 refine WO.val (run_nilCheck rfl) rfl rfl rfl ?_
 refine WO.val (run_fieldAddr (q := ⟨g, 1, none⟩) (show fieldB Tryd.prog 92 1 = some 1 from by kernel_rfl) rfl rfl) rfl rfl rfl ?_
 refine WO.val (run_load Ty.ag28 rfl ((hS.cel_at 0 rfl 1).trans rfl)) rfl rfl rfl ?_
 refine WO.val (run_eql rfl rfl) rfl rfl rfl ?_
 refine WO.val (run_move rfl) rfl rfl rfl ?_
 by_cases g11 : x.2 = 0
 ·
  refine WO.on rfl rfl (decide_eq_true g11) ?_
  refine WO.val (run_move rfl) rfl rfl rfl ?_
  refine WO.on rfl rfl (decide_eq_true g11) ?_
  refine WO.val (run_not rfl rfl) rfl rfl rfl ?_
  refine WO.val (run_pickT rfl (decide_eq_true g11) rfl) rfl rfl rfl ?_
  refine WO.nil ?_
  refine NX.go ?_
  refine WP.condB rfl (fun g14 => ?_) (fun g14 => ?_)
  ·
   refine WP.region rfl ?_
   refine WO.val (run_move rfl) rfl rfl rfl ?_
   refine WO.val (run_move rfl) rfl rfl rfl ?_
   refine WO.val (run_nilCheck rfl) rfl rfl rfl ?_
   refine WO.val (run_fieldAddr (q := ⟨g, 1, none⟩) (show fieldB Tryd.prog 92 1 = some 1 from by kernel_rfl) rfl rfl) rfl rfl rfl ?_
   refine WO.store (l' := [str x.1, Value.int .i64 e]) 0 hS rfl Ty.sz28 rfl rfl rfl rfl rfl (Nat.le_of_ble_eq_true rfl) rfl (fun w1 (hS1 : St B (cel g [str x.1, Value.int .i64 e] 92 :: L) w1) => ?_)
   clear hS
   refine WO.nil ?_
   refine NX.ended (l := []) rfl rfl ?_
   exact ⟨rfl, by rw [must, if_pos ⟨g11, by simpa using g14⟩]; exact hS1⟩
  ·
   refine WP.skip ?_
   refine NX.ended (l := []) rfl rfl ?_
   exact ⟨rfl, by rw [must, if_neg (fun h => absurd h.2 (by simpa using g14))]; exact hS⟩
 ·
  refine WO.off rfl rfl (decide_eq_false g11) rfl ?_
  refine WO.off rfl rfl (decide_eq_false g11) rfl ?_
  refine WO.val (run_pickF rfl (decide_eq_false g11) rfl) rfl rfl rfl ?_
  refine WO.nil ?_
  refine NX.go ?_
  refine WP.condF rfl rfl ?_
  refine WP.skip ?_
  refine NX.ended (l := []) rfl rfl ?_
  exact ⟨rfl, by rw [must, if_neg (fun h => g11 h.1)]; exact hS⟩
end Go.Proofs.YtcehlnpbdffdhaaDoor.SL
