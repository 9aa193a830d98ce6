/- Check sums in four bytes. -/
import Derived.Test.YtcehlnpbdffdhaaDoorKu3
namespace Go.Proofs.YtcehlnpbdffdhaaDoor.SL
open Go.RowKit Go.Proofs.YtcehlnpbdffdhaaDoor
open Go.Proofs.YtcehlnpbdffdhaaDoorW.PrintLast (rtab opsOf)
set_option linter.unusedVariables false
set_option linter.unusedSimpArgs false
theorem sumBytes_spec {B w : World} {L : List HP} (c : Nat) (hc : c < 4294967296) (hS : St B L w) : Does Tryd.prog 78 [Value.int .u32 (c : Int)] w (fun v w1 => v = str (bytes4 c) ∧ St B L w1) := by
 refine enter (n := 16) Tryd.func78 rfl rfl [Value.int .u32 (c : Int)] rfl ?_
 refine WP.seq ?_
 refine WP.region rfl ?_
 refine WO.val (run_assign rfl) rfl rfl rfl ?_
 refine WO.nil ?_
 refine NX.go ?_
 refine WP.seq ?_
 refine WP.region rfl ?_
 refine WO.val (run_move rfl) rfl rfl rfl ?_
 refine WO.val (run_shr rfl rfl (by omega) (shr_lit (m := 16777216) rfl (by decide))) rfl rfl rfl ?_
 refine WO.val (run_convI Tryd.underlying5 (by kernel_rfl) rfl (show IntKind.u8.wrap ((c : Int) / 16777216) = ((UInt8.ofNat (c / 16777216)).toNat : Int) by rw [IntKind.wrap_u8, u8_ofNat] <;> omega)) rfl rfl rfl ?_
 refine WO.val (run_move rfl) rfl rfl rfl ?_
 refine WO.val (run_shr rfl rfl (by omega) (shr_lit (m := 65536) rfl (by decide))) rfl rfl rfl ?_
 refine WO.val (run_convI Tryd.underlying5 (by kernel_rfl) rfl (show IntKind.u8.wrap ((c : Int) / 65536) = ((UInt8.ofNat (c / 65536)).toNat : Int) by rw [IntKind.wrap_u8, u8_ofNat] <;> omega)) rfl rfl rfl ?_
 refine WO.val (run_move rfl) rfl rfl rfl ?_
 refine WO.val (run_shr rfl rfl (by omega) (shr_lit (m := 256) rfl (by decide))) rfl rfl rfl ?_
 refine WO.val (run_convI Tryd.underlying5 (by kernel_rfl) rfl (show IntKind.u8.wrap ((c : Int) / 256) = ((UInt8.ofNat (c / 256)).toNat : Int) by rw [IntKind.wrap_u8, u8_ofNat] <;> omega)) rfl rfl rfl ?_
 refine WO.val (run_move rfl) rfl rfl rfl ?_
 refine WO.val (run_convI Tryd.underlying5 (by kernel_rfl) rfl (show IntKind.u8.wrap (c : Int) = ((UInt8.ofNat c).toNat : Int) by rw [IntKind.wrap_u8, u8_ofNat] <;> omega)) rfl rfl rfl ?_
 refine WO.buildSlice (l := [Value.int .u8 ((UInt8.ofNat (c / 16777216)).toNat : Int), Value.int .u8 ((UInt8.ofNat (c / 65536)).toNat : Int), Value.int .u8 ((UInt8.ofNat (c / 256)).toNat : Int), Value.int .u8 ((UInt8.ofNat c).toNat : Int)]) hS Tryd.underlying52 rfl (fun w => by kernel_rfl) rfl (fun g2 w1 lg2 hS1 => ?_)
 clear hS
 have hS1 := hS1.own_of_cel (m := 4) (k := 1) rfl
 refine WO.val (run_bytesToStr Tryd.underlying52 Tryd.underlying5 Tryd.underlying9 rfl (show Rd w1 (some ⟨g2, 0, none⟩) 4 1 (List.map (fun b : UInt8 => Value.int .u8 (b.toNat : Int)) (bytes4 c)) from hS1.own_rd_i 0 rfl)) rfl rfl rfl ?_
 refine WO.val (run_assign rfl) rfl rfl rfl ?_
 refine WO.nil ?_
 refine NX.go ?_
 refine WP.ret ?_
 refine NX.done (l := [.tmp 2]) rfl rfl ?_
 exact ⟨rfl, hS1.drop⟩
theorem rsumBytes_spec {B w : World} {L : List HP} (c : Nat) (hc : c < 4294967296) (hS : St B L w) : Does Tryd.prog 84 [Value.int .u32 (c : Int)] w (fun v w1 => v = str (bytes4 c) ∧ St B L w1) := by
 refine enter (n := 16) Tryd.func84 rfl rfl [Value.int .u32 (c : Int)] rfl ?_
 refine WP.seq ?_
 refine WP.region rfl ?_
 refine WO.val (run_assign rfl) rfl rfl rfl ?_
 refine WO.nil ?_
 refine NX.go ?_
 refine WP.seq ?_
 refine WP.region rfl ?_
 refine WO.val (run_move rfl) rfl rfl rfl ?_
 refine WO.val (run_quo rfl rfl (by omega) (quo_u32 (by omega))) rfl rfl rfl ?_
 refine WO.val (run_convI Tryd.underlying5 (by kernel_rfl) rfl (show IntKind.u8.wrap ((c : Int) / 16777216) = ((UInt8.ofNat (c / 16777216)).toNat : Int) by rw [IntKind.wrap_u8, u8_ofNat] <;> omega)) rfl rfl rfl ?_
 refine WO.val (run_move rfl) rfl rfl rfl ?_
 refine WO.val (run_quo rfl rfl (by omega) (quo_u32 (by omega))) rfl rfl rfl ?_
 refine WO.val (run_convI Tryd.underlying5 (by kernel_rfl) rfl (show IntKind.u8.wrap ((c : Int) / 65536) = ((UInt8.ofNat (c / 65536)).toNat : Int) by rw [IntKind.wrap_u8, u8_ofNat] <;> omega)) rfl rfl rfl ?_
 refine WO.val (run_move rfl) rfl rfl rfl ?_
 refine WO.val (run_quo rfl rfl (by omega) (quo_u32 (by omega))) rfl rfl rfl ?_
 refine WO.val (run_convI Tryd.underlying5 (by kernel_rfl) rfl (show IntKind.u8.wrap ((c : Int) / 256) = ((UInt8.ofNat (c / 256)).toNat : Int) by rw [IntKind.wrap_u8, u8_ofNat] <;> omega)) rfl rfl rfl ?_
 refine WO.val (run_move rfl) rfl rfl rfl ?_
 refine WO.val (run_convI Tryd.underlying5 (by kernel_rfl) rfl (show IntKind.u8.wrap (c : Int) = ((UInt8.ofNat c).toNat : Int) by rw [IntKind.wrap_u8, u8_ofNat] <;> omega)) rfl rfl rfl ?_
 refine WO.buildSlice (l := [Value.int .u8 ((UInt8.ofNat (c / 16777216)).toNat : Int), Value.int .u8 ((UInt8.ofNat (c / 65536)).toNat : Int), Value.int .u8 ((UInt8.ofNat (c / 256)).toNat : Int), Value.int .u8 ((UInt8.ofNat c).toNat : Int)]) hS Tryd.underlying52 rfl (fun w => by kernel_rfl) rfl (fun g2 w1 lg2 hS1 => ?_)
 clear hS
 have hS1 := hS1.own_of_cel (m := 4) (k := 1) rfl
 refine WO.val (run_bytesToStr Tryd.underlying52 Tryd.underlying5 Tryd.underlying9 rfl (show Rd w1 (some ⟨g2, 0, none⟩) 4 1 (List.map (fun b : UInt8 => Value.int .u8 (b.toNat : Int)) (bytes4 c)) from hS1.own_rd_i 0 rfl)) rfl rfl rfl ?_
 refine WO.val (run_assign rfl) rfl rfl rfl ?_
 refine WO.nil ?_
 refine NX.go ?_
 refine WP.ret ?_
 refine NX.done (l := [.tmp 2]) rfl rfl ?_
 exact ⟨rfl, hS1.drop⟩
end Go.Proofs.YtcehlnpbdffdhaaDoor.SL
