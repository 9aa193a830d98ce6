/- Check sums: more, of. -/
import Derived.Test.YtcehlnpbdffdhaaDoorKu
namespace Go.Proofs.YtcehlnpbdffdhaaDoor.SL
open Go.RowKit Go.Proofs.YtcehlnpbdffdhaaDoor
open Go.Proofs.YtcehlnpbdffdhaaDoorW.PrintLast (rtab opsOf)
set_option linter.unusedVariables false
set_option linter.unusedSimpArgs false

theorem compl_more {c i : Nat} {s : List UInt8} (h : s.length ≤ i) (hc : c < 4294967296) : IntKind.u32.wrap ((BitVec.ofInt IntKind.u32.bits (if IntKind.u32.signed then -1 else IntKind.u32.max) ^^^ BitVec.ofInt IntKind.u32.bits ((sumGo (4294967295 - c) (s.take i) : Nat) : Int)).toNat : Int) = ((moreF c s : Nat) : Int) := by
  rw [List.take_of_length_le h]; exact compl32 (sumGo_lt (by omega))
theorem rng32 {n : Nat} (h : n < 4294967296) : 0 ≤ (n : Int) ∧ (n : Int) ≤ 4294967295 := by omega
theorem more_spec {B w : World} {L : List HP} (c : Nat) (hc : c < 4294967296) (s : List UInt8) (hs : s.length ≤ 9223372036854775000) (hS : St B L w) : Does Tryd.prog 104 [Value.int .u32 (c : Int), str s] w (fun v w1 => v = .int .u32 ((moreF c s : Nat) : Int) ∧ St B L w1) := by
 refine enter (n := 29) Tryd.func104 rfl rfl [Value.int .u32 (c : Int), str s] rfl ?_
 refine WP.seq ?_
 refine WP.region rfl ?_
 refine WO.val (run_assign rfl) rfl rfl rfl ?_
 refine WO.nil ?_
 refine NX.go ?_
 refine WP.seq ?_
 refine WP.region rfl ?_
 refine WO.val (run_build (v := Value.agg #[Value.int .u32 0, Value.int .u32 2197175160]) rfl (fun w => by kernel_rfl)) rfl rfl rfl ?_
 refine WO.alloc (l := [Value.int .u32 0, Value.int .u32 0]) hS Ty.zr162 rfl rfl (fun g2 w1 lg2 hS1 => ?_)
 clear hS
 refine WO.store (l' := [Value.int .u32 0, Value.int .u32 2197175160]) 0 hS1 rfl Ty.sz162 rfl rfl rfl rfl rfl (Nat.le_of_ble_eq_true rfl) rfl (fun w3 (hS3 : St B (cel g2 [Value.int .u32 0, Value.int .u32 2197175160] 162 :: L) w3) => ?_)
 clear hS1
 refine WO.nil ?_
 refine NX.go ?_
 refine WP.seq ?_
 refine WP.region rfl ?_
 refine WO.val (run_move rfl) rfl rfl rfl ?_
 refine WO.val (run_compl rfl (compl32 hc)) rfl rfl rfl ?_
 refine WO.val (run_assign rfl) rfl rfl rfl ?_
 refine WO.nil ?_
 refine NX.go ?_
 refine WP.seq ?_
 refine WP.seq ?_
 refine WP.region rfl ?_
 refine WO.val (run_move rfl) rfl rfl rfl ?_
 refine WO.val (run_lenS rfl Tryd.underlying9 rfl) rfl rfl rfl ?_
 refine WO.val (run_move rfl) rfl rfl rfl ?_
 refine WO.nil ?_
 refine NX.go ?_
 refine WP.block ?_
 refine WP.loop (α := Nat) (fun x => match x with | i => [(0, Value.int .u32 (((sumGo (4294967295 - c) (s.take i)) : Nat) : Int)), (1, str s), (5, Value.pointer (some ⟨g2, 0, none⟩)), (11, Value.int .i64 (s.length : Int)), (12, Value.int .i64 (i : Int))]) (fun x w => match x with | i => (i ≤ s.length) ∧ St B (cel g2 [Value.int .u32 0, Value.int .u32 2197175160] 162 :: L) w) (fun x => match x with | i => s.length - i) 0 ⟨Nat.zero_le _, hS3⟩ (Sub.consE rfl (by first | rfl | first | rfl | (congr 1; omega) | (simp; done) | (simp; omega)) (Sub.cons rfl (Sub.cons rfl (Sub.cons rfl (Sub.consE rfl (by first | rfl | first | rfl | (congr 1; omega) | (simp; done) | (simp; omega)) (Sub.nil _)))))) ?_
 rintro i w4 ⟨hi, hS4⟩
 clear hS3
 have hsg : (sumGo (4294967295 - c) (s.take i)) < 4294967296 := sumGo_lt (by omega)
 refine WP.seq ?_
 refine WP.region rfl ?_
 refine WO.val (run_lss rfl rfl) rfl rfl rfl ?_
 refine WO.nil ?_
 refine NX.go ?_
 refine WP.seq ?_
 refine WP.condP rfl (fun g13 => ?_) (fun g13 => ?_)
 ·
  refine WP.skip ?_
  refine NX.go ?_
  refine WP.seq ?_
  refine WP.block ?_
  refine WP.seq ?_
  refine WP.region rfl ?_
  refine WO.val (run_move rfl) rfl rfl rfl ?_
  refine WO.val (run_assign rfl) rfl rfl rfl ?_
  refine WO.nil ?_
  refine NX.go ?_
  refine WP.seq ?_
  obtain ⟨b, hb⟩ : ∃ b, s[i]? = some b := ⟨_, List.getElem?_eq_getElem (by omega)⟩
  refine WP.region rfl ?_
  refine WO.val (run_move rfl) rfl rfl rfl ?_
  refine WO.val (run_move rfl) rfl rfl rfl ?_
  refine WO.val (run_move rfl) rfl rfl rfl ?_
  refine WO.val (run_indexS Tryd.underlying9 rfl rfl (by omega) (by rw [Int.toNat_natCast]; exact hb)) rfl rfl rfl ?_
  have hbl := UInt8.toNat_lt b
  refine WO.val (run_convI Tryd.underlying125 (by kernel_rfl) rfl (IntWalk.u32_in _ (by omega))) rfl rfl rfl ?_
  refine WO.val (run_xor rfl rfl (xor_byte hsg b)) rfl rfl rfl ?_
  refine WO.val (run_assign rfl) rfl rfl rfl ?_
  refine WO.nil ?_
  refine NX.go ?_
  refine WP.seq ?_
  refine WP.region rfl ?_
  refine WO.val (run_move rfl) rfl rfl rfl ?_
  refine WO.nil ?_
  refine NX.go ?_
  refine WP.block ?_
  refine WP.loop (α := Nat) (fun x => match x with | k => [(0, Value.int .u32 ((stepsF k ((sumGo (4294967295 - c) (s.take i)) ^^^ b.toNat) : Nat) : Int)), (1, str s), (5, Value.pointer (some ⟨g2, 0, none⟩)), (6, Value.int .i64 (i : Int)), (11, Value.int .i64 (s.length : Int)), (12, Value.int .i64 (i : Int)), (21, Value.int .i64 (k : Int))]) (fun x w => match x with | k => (k ≤ 8) ∧ St B (cel g2 [Value.int .u32 0, Value.int .u32 2197175160] 162 :: L) w) (fun x => match x with | k => 8 - k) 0 ⟨Nat.zero_le _, hS4⟩ (Sub.consE rfl (by first | rfl | first | rfl | (congr 1; omega) | (simp; done) | (simp; omega)) (Sub.cons rfl (Sub.cons rfl (Sub.cons rfl (Sub.cons rfl (Sub.cons rfl (Sub.consE rfl (by first | rfl | first | rfl | (congr 1; omega) | (simp; done) | (simp; omega)) (Sub.nil _)))))))) ?_
  rintro k w5 ⟨hk, hS5⟩
  clear hS4
  have hst : stepsF k ((sumGo (4294967295 - c) (s.take i)) ^^^ b.toNat) < 4294967296 := stepsF_lt (xb_lt hsg b) k
  refine WP.seq ?_
  refine WP.region rfl ?_
  refine WO.val (run_lss rfl rfl) rfl rfl rfl ?_
  refine WO.nil ?_
  refine NX.go ?_
  refine WP.seq ?_
  refine WP.condP rfl (fun g22 => ?_) (fun g22 => ?_)
  ·
   refine WP.skip ?_
   refine NX.go ?_
   refine WP.seq ?_
   refine WP.block ?_
   refine WP.region rfl ?_
   refine WO.val (run_move rfl) rfl rfl rfl ?_
   refine WO.call rfl rfl Ty.hd118 rfl (step_spec (stepsF k ((sumGo (4294967295 - c) (s.take i)) ^^^ b.toNat)) hst hS5) (fun v7 w6 pv7 => ?_)
   obtain ⟨rfl, hS6⟩ := pv7
   clear hS5
   refine WO.val (run_assign rfl) rfl rfl rfl ?_
   refine WO.nil ?_
   refine NX.blk ?_
   refine NX.go ?_
   refine WP.region rfl ?_
   refine WO.val (run_add rfl rfl (IntWalk.i64_in _ (by omega))) rfl rfl rfl ?_
   refine WO.val (run_move rfl) rfl rfl rfl ?_
   refine WO.nil ?_
   exact NX.again (k + 1) ⟨by omega, hS6⟩ (by show 8 - (k + 1) < 8 - k; omega) (Sub.consE rfl rfl (Sub.cons rfl (Sub.cons rfl (Sub.cons rfl (Sub.cons rfl (Sub.cons rfl (Sub.consE rfl (by congr 1) (Sub.nil _))))))))
  ·
   refine WP.exit ?_
   refine NX.thenExit ?_
   refine NX.thenExit ?_
   refine NX.blkExit ?_
   refine NX.blk ?_
   refine NX.go ?_
   refine WP.region rfl ?_
   refine WO.val (run_add rfl rfl (IntWalk.i64_in _ (by omega))) rfl rfl rfl ?_
   refine WO.val (run_move rfl) rfl rfl rfl ?_
   refine WO.nil ?_
   exact NX.again (i + 1) ⟨by omega, hS5⟩ (by show s.length - (i + 1) < s.length - i; omega) (Sub.consE rfl (by rw [List.take_add_one, hb, Option.toList_some, sumGo_snoc, byteF, show k = 8 by omega]) (Sub.cons rfl (Sub.cons rfl (Sub.cons rfl (Sub.consE rfl (by congr 1) (Sub.nil _))))))
 ·
  refine WP.exit ?_
  refine NX.thenExit ?_
  refine NX.thenExit ?_
  refine NX.blkExit ?_
  refine NX.go ?_
  refine WP.seq ?_
  refine WP.region rfl ?_
  refine WO.val (run_move rfl) rfl rfl rfl ?_
  refine WO.val (run_compl rfl (compl_more (by omega) hc)) rfl rfl rfl ?_
  refine WO.val (run_assign rfl) rfl rfl rfl ?_
  refine WO.nil ?_
  refine NX.go ?_
  refine WP.ret ?_
  refine NX.done (l := [.tmp 4]) rfl rfl ?_
  exact ⟨rfl, hS4.drop⟩
theorem sumOf_spec {B w : World} {L : List HP} (s : List UInt8) (hs : s.length ≤ 9223372036854775000) (hS : St B L w) : Does Tryd.prog 79 [str s] w (fun v w1 => v = .int .u32 ((moreF 0 s : Nat) : Int) ∧ St B L w1) := by
 refine enter (n := 5) Tryd.func79 rfl rfl [str s] rfl ?_
 refine WP.seq ?_
 refine WP.region rfl ?_
 refine WO.val (run_assign rfl) rfl rfl rfl ?_
 refine WO.nil ?_
 refine NX.go ?_
 refine WP.seq ?_
 refine WP.region rfl ?_
 refine WO.val (run_move rfl) rfl rfl rfl ?_
 refine WO.call rfl rfl Ty.hd104 rfl (more_spec 0 (by decide) s hs hS) (fun v2 w1 pv2 => ?_)
 obtain ⟨rfl, hS1⟩ := pv2
 clear hS
 refine WO.val (run_assign rfl) rfl rfl rfl ?_
 refine WO.nil ?_
 refine NX.go ?_
 refine WP.ret ?_
 refine NX.done (l := [.tmp 2]) rfl rfl ?_
 exact ⟨rfl, hS1⟩
end Go.Proofs.YtcehlnpbdffdhaaDoor.SL
