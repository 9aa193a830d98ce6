/- Check sums: the reference. -/
import Derived.Test.YtcehlnpbdffdhaaDoorKu2
namespace Go.Proofs.YtcehlnpbdffdhaaDoor.SL
open Go.RowKit Go.Proofs.YtcehlnpbdffdhaaDoor
open Go.Proofs.YtcehlnpbdffdhaaDoorW.PrintLast (rtab opsOf)
set_option linter.unusedVariables false
set_option linter.unusedSimpArgs false

theorem quo_u32 {a b : Int} (h : 0 ≤ a ∧ a ≤ 4294967295 ∧ 0 < b) : IntKind.u32.wrap (a.tdiv b) = a / b := by
  rw [Int.tdiv_eq_ediv_of_nonneg h.1]
  have h1 : 0 ≤ a / b := Int.ediv_nonneg h.1 (by omega)
  have h2 : a / b ≤ a := Int.ediv_le_self _ h.1
  exact IntWalk.u32_in _ (by omega)
theorem xor_odd {c : Nat} (h : c < 4294967296) (e : (c : Int) % 2 = 1) : bits .xor .u32 ((c : Int) / 2) 2197175160 = ((stepF c : Nat) : Int) := by
  have := xor_step h
  rw [if_pos (by omega)] at this; exact this
theorem half_even {c : Nat} (e : ¬ (c : Int) % 2 = 1) : (c : Int) / 2 = ((stepF c : Nat) : Int) := by
  unfold stepF; rw [if_neg (by omega)]; omega
theorem sub_more {c i : Nat} {s : List UInt8} (h : s.length ≤ i) (hc : c < 4294967296) : IntKind.u32.wrap (4294967295 - ((sumGo (4294967295 - c) (s.take i) : Nat) : Int)) = ((moreF c s : Nat) : Int) := by
  have h2 : sumGo (4294967295 - c) s < 4294967296 := sumGo_lt (by omega)
  rw [List.take_of_length_le h, IntWalk.u32_in _ (by omega)]; unfold moreF; omega
theorem rmore_spec {B w : World} {L : List HP} (c : Nat) (hc : c < 4294967296) (s : List UInt8) (hs : s.length ≤ 9223372036854775000) (hS : St B L w) : Does Tryd.prog 107 [Value.int .u32 (c : Int), str s] w (fun v w1 => v = .int .u32 ((moreF c s : Nat) : Int) ∧ St B L w1) := by
 refine enter (n := 36) Tryd.func107 rfl rfl [Value.int .u32 (c : Int), str s] rfl ?_
 refine WP.seq ?_
 refine WP.region rfl ?_
 refine WO.val (run_assign rfl) rfl rfl rfl ?_
 refine WO.nil ?_
 refine NX.go ?_
 refine WP.seq ?_
 refine WP.region rfl ?_
 refine WO.val (run_move rfl) rfl rfl rfl ?_
 refine WO.val (run_sub rfl rfl (show IntKind.u32.wrap (4294967295 - (c : Int)) = ((4294967295 - c : Nat) : Int) by rw [IntWalk.u32_in _ (by omega)]; omega)) rfl rfl rfl ?_
 refine WO.val (run_assign rfl) rfl rfl rfl ?_
 refine WO.nil ?_
 refine NX.go ?_
 refine WP.seq ?_
 refine WP.seq ?_
 refine WP.region rfl ?_
 refine WO.val (run_assign rfl) rfl rfl rfl ?_
 refine WO.nil ?_
 refine NX.go ?_
 refine WP.block ?_
 refine WP.loop (α := Nat) (fun x => match x with | i => [(0, Value.int .u32 (((sumGo (4294967295 - c) (s.take i)) : Nat) : Int)), (1, str s), (5, Value.int .i64 (i : Int))]) (fun x w => match x with | i => (i ≤ s.length) ∧ St B (L) w) (fun x => match x with | i => s.length - i) 0 ⟨Nat.zero_le _, hS⟩ (Sub.consE rfl (by first | rfl | first | rfl | (congr 1; omega) | (simp; done) | (simp; omega)) (Sub.cons rfl (Sub.consE rfl (by first | rfl | first | rfl | (congr 1; omega) | (simp; done) | (simp; omega)) (Sub.nil _)))) ?_
 rintro i w1 ⟨hi, hS1⟩
 clear hS
 have hsg : (sumGo (4294967295 - c) (s.take i)) < 4294967296 := sumGo_lt (by omega)
 refine WP.seq ?_
 refine WP.seq ?_
 refine WP.region rfl ?_
 refine WO.val (run_move rfl) rfl rfl rfl ?_
 refine WO.val (run_move rfl) rfl rfl rfl ?_
 refine WO.val (run_lenS rfl Tryd.underlying9 rfl) rfl rfl rfl ?_
 refine WO.val (run_lss rfl rfl) rfl rfl rfl ?_
 refine WO.nil ?_
 refine NX.go ?_
 refine WP.condP rfl (fun g13 => ?_) (fun g13 => ?_)
 ·
  refine WP.skip ?_
  refine NX.go ?_
  refine WP.seq ?_
  refine WP.block ?_
  refine WP.seq ?_
  obtain ⟨b, hb⟩ : ∃ b, s[i]? = some b := ⟨_, List.getElem?_eq_getElem (by omega)⟩
  have hbl := UInt8.toNat_lt b
  refine WP.region rfl ?_
  refine WO.val (run_move rfl) rfl rfl rfl ?_
  refine WO.val (run_move rfl) rfl rfl rfl ?_
  refine WO.val (run_move rfl) rfl rfl rfl ?_
  refine WO.val (run_indexS Tryd.underlying9 rfl rfl (by omega) (by rw [Int.toNat_natCast]; exact hb)) rfl rfl rfl ?_
  refine WO.val (run_convI Tryd.underlying125 (by kernel_rfl) rfl (IntWalk.u32_in _ (by omega))) rfl rfl rfl ?_
  refine WO.val (run_xor rfl rfl (xor_byte hsg b)) rfl rfl rfl ?_
  refine WO.val (run_assign rfl) rfl rfl rfl ?_
  refine WO.nil ?_
  refine NX.go ?_
  refine WP.seq ?_
  refine WP.region rfl ?_
  refine WO.val (run_assign rfl) rfl rfl rfl ?_
  refine WO.nil ?_
  refine NX.go ?_
  refine WP.block ?_
  refine WP.loop (α := Nat) (fun x => match x with | k => [(0, Value.int .u32 ((stepsF k ((sumGo (4294967295 - c) (s.take i)) ^^^ b.toNat) : Nat) : Int)), (1, str s), (5, Value.int .i64 (i : Int)), (6, Value.int .i64 (k : Int))]) (fun x w => match x with | k => (k ≤ 8) ∧ St B (L) w) (fun x => match x with | k => 8 - k) 0 ⟨Nat.zero_le _, hS1⟩ (Sub.consE rfl (by first | rfl | first | rfl | (congr 1; omega) | (simp; done) | (simp; omega)) (Sub.cons rfl (Sub.cons rfl (Sub.consE rfl (by first | rfl | first | rfl | (congr 1; omega) | (simp; done) | (simp; omega)) (Sub.nil _))))) ?_
  rintro k w2 ⟨hk, hS2⟩
  clear hS1
  have hst : stepsF k ((sumGo (4294967295 - c) (s.take i)) ^^^ b.toNat) < 4294967296 := stepsF_lt (xb_lt hsg b) k
  refine WP.seq ?_
  refine WP.seq ?_
  refine WP.region rfl ?_
  refine WO.val (run_move rfl) rfl rfl rfl ?_
  refine WO.val (run_lss rfl rfl) rfl rfl rfl ?_
  refine WO.nil ?_
  refine NX.go ?_
  refine WP.condP rfl (fun g23 => ?_) (fun g23 => ?_)
  ·
   refine WP.skip ?_
   refine NX.go ?_
   refine WP.seq ?_
   refine WP.block ?_
   refine WP.seq ?_
   refine WP.region rfl ?_
   refine WO.val (run_move rfl) rfl rfl rfl ?_
   refine WO.val (run_rem rfl rfl (by omega) (IntWalk.rem_in _ _ (by omega))) rfl rfl rfl ?_
   refine WO.val (run_assign rfl) rfl rfl rfl ?_
   refine WO.nil ?_
   refine NX.go ?_
   refine WP.seq ?_
   refine WP.region rfl ?_
   refine WO.val (run_move rfl) rfl rfl rfl ?_
   refine WO.val (run_quo rfl rfl (by omega) (quo_u32 (by omega))) rfl rfl rfl ?_
   refine WO.val (run_assign rfl) rfl rfl rfl ?_
   refine WO.nil ?_
   refine NX.go ?_
   refine WP.seq ?_
   refine WP.region rfl ?_
   refine WO.val (run_move rfl) rfl rfl rfl ?_
   refine WO.val (run_eql rfl rfl) rfl rfl rfl ?_
   refine WO.nil ?_
   refine NX.go ?_
   refine WP.meet (α := Unit) (fun x => match x with | _ => [(0, Value.int .u32 ((stepF (stepsF k ((sumGo (4294967295 - c) (s.take i)) ^^^ b.toNat)) : Nat) : Int)), (1, str s), (5, Value.int .i64 (i : Int)), (6, Value.int .i64 (k : Int))]) (fun x w => match x with | _ => St B (L) w) ?_ (fun K3 => ?_)
   ·
    rintro _ w4 hS4
    clear hS2
    refine NX.blk ?_
    refine NX.go ?_
    refine WP.region rfl ?_
    refine WO.val (run_move rfl) rfl rfl rfl ?_
    refine WO.val (run_add rfl rfl (IntWalk.i64_in _ (by omega))) rfl rfl rfl ?_
    refine WO.val (run_assign rfl) rfl rfl rfl ?_
    refine WO.nil ?_
    exact NX.again (k + 1) ⟨by omega, hS4⟩ (by show 8 - (k + 1) < 8 - k; omega) (Sub.consE rfl rfl (Sub.cons rfl (Sub.cons rfl (Sub.consE rfl (by congr 1) (Sub.nil _)))))
   ·
    refine WP.condP rfl (fun g31 => ?_) (fun g31 => ?_)
    ·
     refine WP.region rfl ?_
     refine WO.val (run_move rfl) rfl rfl rfl ?_
     refine WO.val (run_xor rfl rfl (xor_odd hst g31)) rfl rfl rfl ?_
     refine WO.val (run_assign rfl) rfl rfl rfl ?_
     refine WO.nil ?_
     exact K3 () _ _ hS2 (Sub.consE rfl rfl (Sub.cons rfl (Sub.cons rfl (Sub.cons rfl (Sub.nil _)))))
    ·
     refine WP.skip ?_
     exact K3 () _ _ hS2 (Sub.consE rfl (by rw [half_even g31]) (Sub.cons rfl (Sub.cons rfl (Sub.cons rfl (Sub.nil _)))))
  ·
   refine WP.exit ?_
   refine NX.thenExit ?_
   refine NX.thenExit ?_
   refine NX.blkExit ?_
   refine NX.blk ?_
   refine NX.go ?_
   refine WP.region rfl ?_
   refine WO.val (run_move rfl) rfl rfl rfl ?_
   refine WO.val (run_add rfl rfl (IntWalk.i64_in _ (by omega))) rfl rfl rfl ?_
   refine WO.val (run_assign rfl) rfl rfl rfl ?_
   refine WO.nil ?_
   exact NX.again (i + 1) ⟨by omega, hS2⟩ (by show s.length - (i + 1) < s.length - i; omega) (Sub.consE rfl (by rw [List.take_add_one, hb, Option.toList_some, sumGo_snoc, byteF, show k = 8 by omega]) (Sub.cons rfl (Sub.consE rfl (by congr 1) (Sub.nil _))))
 ·
  refine WP.exit ?_
  refine NX.thenExit ?_
  refine NX.thenExit ?_
  refine NX.blkExit ?_
  refine NX.go ?_
  refine WP.seq ?_
  refine WP.region rfl ?_
  refine WO.val (run_move rfl) rfl rfl rfl ?_
  refine WO.val (run_sub rfl rfl (sub_more (by omega) hc)) rfl rfl rfl ?_
  refine WO.val (run_assign rfl) rfl rfl rfl ?_
  refine WO.nil ?_
  refine NX.go ?_
  refine WP.ret ?_
  refine NX.done (l := [.tmp 4]) rfl rfl ?_
  exact ⟨rfl, hS1⟩
theorem rsumOf_spec {B w : World} {L : List HP} (s : List UInt8) (hs : s.length ≤ 9223372036854775000) (hS : St B L w) : Does Tryd.prog 85 [str s] w (fun v w1 => v = .int .u32 ((moreF 0 s : Nat) : Int) ∧ St B L w1) := by
 refine enter (n := 5) Tryd.func85 rfl rfl [str s] rfl ?_
 refine WP.seq ?_
 refine WP.region rfl ?_
 refine WO.val (run_assign rfl) rfl rfl rfl ?_
 refine WO.nil ?_
 refine NX.go ?_
 refine WP.seq ?_
 refine WP.region rfl ?_
 refine WO.val (run_move rfl) rfl rfl rfl ?_
 refine WO.call rfl rfl Ty.hd107 rfl (rmore_spec 0 (by decide) s hs hS) (fun v2 w1 pv2 => ?_)
 obtain ⟨rfl, hS1⟩ := pv2
 clear hS
 refine WO.val (run_assign rfl) rfl rfl rfl ?_
 refine WO.nil ?_
 refine NX.go ?_
 refine WP.ret ?_
 refine NX.done (l := [.tmp 2]) rfl rfl ?_
 exact ⟨rfl, hS1⟩
end Go.Proofs.YtcehlnpbdffdhaaDoor.SL
