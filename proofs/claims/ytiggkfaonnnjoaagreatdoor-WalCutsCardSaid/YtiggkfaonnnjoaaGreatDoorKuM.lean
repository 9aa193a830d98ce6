import Derived.Test.YtiggkfaonnnjoaaGreatDoorKdM
import Derived.Laws.BitsAllLaws
/- Check sums. -/
namespace Go.Proofs.YtiggkfaonnnjoaaGreatDoor.SL
open Go.RowKit Go.Proofs.YtiggkfaonnnjoaaGreatDoor
open Go.Proofs.YtiggkfaonnnjoaaGreatDoorW.PrintLast (rtab opsOf)
set_option linter.unusedVariables false
set_option linter.unusedSimpArgs false

def stepF (c : Nat) : Nat := if c % 2 = 1 then (c / 2) ^^^ 2197175160 else c / 2
theorem stepF_lt {c : Nat} (h : c < 4294967296) : stepF c < 4294967296 := by
  unfold stepF; split
  · exact Nat.xor_lt_two_pow (n := 32) (by omega) (by decide)
  · omega
def stepsF : Nat → Nat → Nat
  | 0, c => c
  | k + 1, c => stepF (stepsF k c)
theorem stepsF_lt {c : Nat} (h : c < 4294967296) : ∀ k, stepsF k c < 4294967296
  | 0 => h
  | k + 1 => stepF_lt (stepsF_lt h k)
def byteF (c : Nat) (b : UInt8) : Nat := stepsF 8 (c ^^^ b.toNat)
theorem xb_lt {c : Nat} (h : c < 4294967296) (b : UInt8) : c ^^^ b.toNat < 4294967296 := Nat.xor_lt_two_pow (n := 32) (by omega) (by have := UInt8.toNat_lt b; omega)
def sumGo (c : Nat) (s : List UInt8) : Nat := s.foldl byteF c
theorem sumGo_lt : ∀ {s : List UInt8} {c : Nat}, c < 4294967296 → sumGo c s < 4294967296
  | [], _, h => h
  | b :: s, c, h => sumGo_lt (s := s) (stepsF_lt (xb_lt h b) 8)
theorem sumGo_snoc (c : Nat) (s : List UInt8) (b : UInt8) : sumGo c (s ++ [b]) = byteF (sumGo c s) b := by unfold sumGo; rw [List.foldl_append]; rfl
def moreF (c : Nat) (s : List UInt8) : Nat := 4294967295 - sumGo (4294967295 - c) s
theorem moreF_lt (c : Nat) (s : List UInt8) : moreF c s < 4294967296 := by unfold moreF; omega
def bytes4 (c : Nat) : List UInt8 := [UInt8.ofNat (c / 16777216), UInt8.ofNat (c / 65536), UInt8.ofNat (c / 256), UInt8.ofNat c]
theorem and1 {c : Nat} (h : c < 4294967296) : bits .and .u32 (c : Int) 1 = ((c % 2 : Nat) : Int) := by
  have := u32_and_nat c 1 h (by decide)
  rw [Nat.and_one_is_mod] at this; exact this
theorem xor_step {c : Nat} (h : c < 4294967296) : bits .xor .u32 ((c : Int) / 2) (if c % 2 = 1 then 2197175160 else 0) = ((stepF c : Nat) : Int) := by
  unfold stepF
  split
  · exact u32_xor_nat (c / 2) 2197175160 (by omega) (by decide)
  · have := u32_xor_nat (c / 2) 0 (by omega) (by decide)
    rw [Nat.xor_zero] at this; exact this
theorem xor_byte {c : Nat} (h : c < 4294967296) (b : UInt8) : bits .xor .u32 (c : Int) (b.toNat : Int) = ((c ^^^ b.toNat : Nat) : Int) := u32_xor_nat c b.toNat h (by have := UInt8.toNat_lt b; omega)
theorem compl32 {c : Nat} (h : c < 4294967296) : IntKind.u32.wrap ((BitVec.ofInt IntKind.u32.bits (if IntKind.u32.signed then -1 else IntKind.u32.max) ^^^ BitVec.ofInt IntKind.u32.bits (c : Int)).toNat : Int) = ((4294967295 - c : Nat) : Int) := by
  have e : (BitVec.ofInt IntKind.u32.bits (if IntKind.u32.signed then -1 else IntKind.u32.max) ^^^ BitVec.ofInt IntKind.u32.bits (c : Int)).toNat = 4294967295 - c := by
    show (BitVec.ofInt 32 4294967295 ^^^ BitVec.ofInt 32 (c : Int)).toNat = _
    have h1 : BitVec.ofInt 32 4294967295 = BitVec.allOnes 32 := by decide
    rw [h1, BitVec.allOnes_xor, BitVec.toNat_not]
    simp [BitVec.toNat_ofInt]
    omega
  rw [e, IntWalk.u32_in _ (by omega)]
theorem mask_at (c : Nat) : [Value.int .u32 0, Value.int .u32 2197175160][c % 2]? = some (Value.int .u32 (if c % 2 = 1 then 2197175160 else 0)) := by
  rcases Nat.mod_two_eq_zero_or_one c with h | h <;> rw [h] <;> rfl
theorem step_spec {B w : World} {L : List HP} {g : Nat} (c : Nat) (hc : c < 4294967296) (hS : St B (cel g [Value.int .u32 0, Value.int .u32 2197175160] 104 :: L) w) : Does Tryz.prog 66 [Value.pointer (some ⟨g, 0, none⟩), Value.int .u32 (c : Int)] w (fun v w1 => v = .int .u32 ((stepF c : Nat) : Int) ∧ St B (cel g [Value.int .u32 0, Value.int .u32 2197175160] 104 :: L) w1) := by
 refine enter (n := 14) Tryz.func66 rfl rfl [Value.pointer (some ⟨g, 0, none⟩), Value.int .u32 (c : Int)] rfl ?_
 refine WP.seq (WP.region rfl ?_)
 refine WO.asg rfl rfl ?_
 refine WO.nil (NX.go (WP.seq (WP.region rfl ?_)))
 refine WO.mv rfl rfl ?_
 refine WO.val (run_shr rfl rfl (by omega) (shr_lit (m := 2) rfl (by decide))) rfl rfl rfl ?_
 refine WO.mv rfl rfl ?_
 refine WO.mv rfl rfl ?_
 refine WO.val (run_and rfl rfl (and1 hc)) rfl rfl rfl ?_
 refine WO.val (run_nilCheck rfl) rfl rfl rfl ?_
 refine WO.val (run_indexAddrA (q := ⟨g, (c % 2), none⟩) Tryz.underlying104 Ty.sz83 rfl rfl (by omega) (by omega) (by simp)) rfl rfl rfl ?_
 refine WO.val (run_load Ty.ag83 rfl ((hS.cel_at 0 rfl _).trans (mask_at c))) rfl rfl rfl ?_
 refine WO.val (run_xor rfl rfl (xor_step hc)) rfl rfl rfl ?_
 refine WO.asg rfl rfl ?_
 refine WO.nil (NX.go (WP.ret ?_))
 refine NX.done (l := [.tmp 4]) rfl rfl ?_
 exact ⟨rfl, hS⟩
end Go.Proofs.YtiggkfaonnnjoaaGreatDoor.SL

/- Check sums: more, of. -/
namespace Go.Proofs.YtiggkfaonnnjoaaGreatDoor.SL
open Go.RowKit Go.Proofs.YtiggkfaonnnjoaaGreatDoor
open Go.Proofs.YtiggkfaonnnjoaaGreatDoorW.PrintLast (rtab opsOf)
set_option linter.unusedVariables false
set_option linter.unusedSimpArgs false

theorem compl_more {c i : Nat} {s : List UInt8} (h : s.length ≤ i) (hc : c < 4294967296) : IntKind.u32.wrap ((BitVec.ofInt IntKind.u32.bits (if IntKind.u32.signed then -1 else IntKind.u32.max) ^^^ BitVec.ofInt IntKind.u32.bits ((sumGo (4294967295 - c) (s.take i) : Nat) : Int)).toNat : Int) = ((moreF c s : Nat) : Int) := by
  rw [List.take_of_length_le h]; exact compl32 (sumGo_lt (by omega))
theorem rng32 {n : Nat} (h : n < 4294967296) : 0 ≤ (n : Int) ∧ (n : Int) ≤ 4294967295 := by omega
theorem more_spec {B w : World} {L : List HP} (c : Nat) (hc : c < 4294967296) (s : List UInt8) (hs : s.length ≤ 9223372036854775000) (hS : St B L w) : Does Tryz.prog 59 [Value.int .u32 (c : Int), str s] w (fun v w1 => v = .int .u32 ((moreF c s : Nat) : Int) ∧ St B L w1) := by
 refine enter (n := 29) Tryz.func59 rfl rfl [Value.int .u32 (c : Int), str s] rfl ?_
 refine WP.seq (WP.region rfl ?_)
 refine WO.asg rfl rfl ?_
 refine WO.nil (NX.go (WP.seq (WP.region rfl ?_)))
 refine WO.val (run_build (v := Value.agg #[Value.int .u32 0, Value.int .u32 2197175160]) rfl (fun w => by kernel_rfl)) rfl rfl rfl ?_
 refine WO.alloc (l := [Value.int .u32 0, Value.int .u32 0]) hS Ty.zr104 rfl rfl (fun g2 w1 lg2 hS1 => ?_)
 clear hS
 refine WO.store (l' := [Value.int .u32 0, Value.int .u32 2197175160]) 0 hS1 rfl Ty.sz104 rfl rfl rfl rfl rfl (Nat.le_of_ble_eq_true rfl) rfl (fun w3 (hS3 : St B (cel g2 [Value.int .u32 0, Value.int .u32 2197175160] 104 :: L) w3) => ?_)
 clear hS1
 refine WO.nil (NX.go (WP.seq (WP.region rfl ?_)))
 refine WO.mv rfl rfl ?_
 refine WO.val (run_compl rfl (compl32 hc)) rfl rfl rfl ?_
 refine WO.asg rfl rfl ?_
 refine WO.nil (NX.go (WP.seq (WP.seq (WP.region rfl ?_))))
 refine WO.mv rfl rfl ?_
 refine WO.val (run_lenS rfl Tryz.underlying9 rfl) rfl rfl rfl ?_
 refine WO.mv rfl rfl ?_
 refine WO.nil (NX.go (WP.block ?_))
 refine WP.loop (α := Nat) (fun x => match x with | i => [(0, Value.int .u32 (((sumGo (4294967295 - c) (s.take i)) : Nat) : Int)), (1, str s), (5, Value.pointer (some ⟨g2, 0, none⟩)), (11, Value.int .i64 (s.length : Int)), (12, Value.int .i64 (i : Int))]) (fun x w => match x with | i => (i ≤ s.length) ∧ St B (cel g2 [Value.int .u32 0, Value.int .u32 2197175160] 104 :: L) w) (fun x => match x with | i => s.length - i) 0 ⟨Nat.zero_le _, hS3⟩ (Sub.consE rfl (by first | rfl | first | rfl | (congr 1; omega) | (simp; done) | (simp; omega)) (Sub.cons rfl (Sub.cons rfl (Sub.cons rfl (Sub.consE rfl (by first | rfl | first | rfl | (congr 1; omega) | (simp; done) | (simp; omega)) (Sub.nil _)))))) ?_
 rintro i w4 ⟨hi, hS4⟩
 clear hS3
 have hsg : (sumGo (4294967295 - c) (s.take i)) < 4294967296 := sumGo_lt (by omega)
 refine WP.seq (WP.region rfl ?_)
 refine WO.val (run_lss rfl rfl) rfl rfl rfl ?_
 refine WO.nil (NX.go (WP.seq ?_))
 refine WP.condP rfl (fun g13 => ?_) (fun g13 => ?_)
 ·
  refine WP.skip (NX.go (WP.seq (WP.block (WP.seq (WP.region rfl ?_)))))
  refine WO.mv rfl rfl ?_
  refine WO.asg rfl rfl ?_
  refine WO.nil (NX.go (WP.seq ?_))
  obtain ⟨b, hb⟩ : ∃ b, s[i]? = some b := ⟨_, List.getElem?_eq_getElem (by omega)⟩
  refine WP.region rfl ?_
  refine WO.mv rfl rfl ?_
  refine WO.mv rfl rfl ?_
  refine WO.mv rfl rfl ?_
  refine WO.val (run_indexS Tryz.underlying9 rfl rfl (by omega) (by rw [Int.toNat_natCast]; exact hb)) rfl rfl rfl ?_
  have hbl := UInt8.toNat_lt b
  refine WO.val (run_convI Tryz.underlying83 (by kernel_rfl) rfl (IntWalk.u32_in _ (by omega))) rfl rfl rfl ?_
  refine WO.val (run_xor rfl rfl (xor_byte hsg b)) rfl rfl rfl ?_
  refine WO.asg rfl rfl ?_
  refine WO.nil (NX.go (WP.seq (WP.region rfl ?_)))
  refine WO.mv rfl rfl ?_
  refine WO.nil (NX.go (WP.block ?_))
  refine WP.loop (α := Nat) (fun x => match x with | k => [(0, Value.int .u32 ((stepsF k ((sumGo (4294967295 - c) (s.take i)) ^^^ b.toNat) : Nat) : Int)), (1, str s), (5, Value.pointer (some ⟨g2, 0, none⟩)), (6, Value.int .i64 (i : Int)), (11, Value.int .i64 (s.length : Int)), (12, Value.int .i64 (i : Int)), (21, Value.int .i64 (k : Int))]) (fun x w => match x with | k => (k ≤ 8) ∧ St B (cel g2 [Value.int .u32 0, Value.int .u32 2197175160] 104 :: L) w) (fun x => match x with | k => 8 - k) 0 ⟨Nat.zero_le _, hS4⟩ (Sub.consE rfl (by first | rfl | first | rfl | (congr 1; omega) | (simp; done) | (simp; omega)) (Sub.cons rfl (Sub.cons rfl (Sub.cons rfl (Sub.cons rfl (Sub.cons rfl (Sub.consE rfl (by first | rfl | first | rfl | (congr 1; omega) | (simp; done) | (simp; omega)) (Sub.nil _)))))))) ?_
  rintro k w5 ⟨hk, hS5⟩
  clear hS4
  have hst : stepsF k ((sumGo (4294967295 - c) (s.take i)) ^^^ b.toNat) < 4294967296 := stepsF_lt (xb_lt hsg b) k
  refine WP.seq (WP.region rfl ?_)
  refine WO.val (run_lss rfl rfl) rfl rfl rfl ?_
  refine WO.nil (NX.go (WP.seq ?_))
  refine WP.condP rfl (fun g22 => ?_) (fun g22 => ?_)
  ·
   refine WP.skip (NX.go (WP.seq (WP.block (WP.region rfl ?_))))
   refine WO.mv rfl rfl ?_
   refine WO.call rfl rfl Ty.hd66 rfl (step_spec (stepsF k ((sumGo (4294967295 - c) (s.take i)) ^^^ b.toNat)) hst hS5) (fun v7 w6 pv7 => ?_)
   obtain ⟨rfl, hS6⟩ := pv7
   clear hS5
   refine WO.asg rfl rfl ?_
   refine WO.nil (NX.blk (NX.go (WP.region rfl ?_)))
   refine WO.val (run_add rfl rfl (IntWalk.i64_in _ (by omega))) rfl rfl rfl ?_
   refine WO.mv rfl rfl ?_
   refine WO.nil ?_
   exact NX.again (k + 1) ⟨by omega, hS6⟩ (by show 8 - (k + 1) < 8 - k; omega) (Sub.consE rfl rfl (Sub.cons rfl (Sub.cons rfl (Sub.cons rfl (Sub.cons rfl (Sub.cons rfl (Sub.consE rfl (by congr 1) (Sub.nil _))))))))
  ·
   refine WP.exit (NX.thenExit (NX.thenExit ?_))
   refine NX.blkExit ?_
   refine NX.blk (NX.go (WP.region rfl ?_))
   refine WO.val (run_add rfl rfl (IntWalk.i64_in _ (by omega))) rfl rfl rfl ?_
   refine WO.mv rfl rfl ?_
   refine WO.nil ?_
   exact NX.again (i + 1) ⟨by omega, hS5⟩ (by show s.length - (i + 1) < s.length - i; omega) (Sub.consE rfl (by rw [List.take_add_one, hb, Option.toList_some, sumGo_snoc, byteF, show k = 8 by omega]) (Sub.cons rfl (Sub.cons rfl (Sub.cons rfl (Sub.consE rfl (by congr 1) (Sub.nil _))))))
 ·
  refine WP.exit (NX.thenExit (NX.thenExit ?_))
  refine NX.blkExit ?_
  refine NX.go (WP.seq (WP.region rfl ?_))
  refine WO.mv rfl rfl ?_
  refine WO.val (run_compl rfl (compl_more (by omega) hc)) rfl rfl rfl ?_
  refine WO.asg rfl rfl ?_
  refine WO.nil (NX.go (WP.ret ?_))
  refine NX.done (l := [.tmp 4]) rfl rfl ?_
  exact ⟨rfl, hS4.drop⟩
theorem sumOf_spec {B w : World} {L : List HP} (s : List UInt8) (hs : s.length ≤ 9223372036854775000) (hS : St B L w) : Does Tryz.prog 41 [str s] w (fun v w1 => v = .int .u32 ((moreF 0 s : Nat) : Int) ∧ St B L w1) := by
 refine enter (n := 5) Tryz.func41 rfl rfl [str s] rfl ?_
 refine WP.seq (WP.region rfl ?_)
 refine WO.asg rfl rfl ?_
 refine WO.nil (NX.go (WP.seq (WP.region rfl ?_)))
 refine WO.mv rfl rfl ?_
 refine WO.call rfl rfl Ty.hd59 rfl (more_spec 0 (by decide) s hs hS) (fun v2 w1 pv2 => ?_)
 obtain ⟨rfl, hS1⟩ := pv2
 clear hS
 refine WO.asg rfl rfl ?_
 refine WO.nil (NX.go (WP.ret ?_))
 refine NX.done (l := [.tmp 2]) rfl rfl ?_
 exact ⟨rfl, hS1⟩
end Go.Proofs.YtiggkfaonnnjoaaGreatDoor.SL

/- Check sums: the reference. -/
namespace Go.Proofs.YtiggkfaonnnjoaaGreatDoor.SL
open Go.RowKit Go.Proofs.YtiggkfaonnnjoaaGreatDoor
open Go.Proofs.YtiggkfaonnnjoaaGreatDoorW.PrintLast (rtab opsOf)
set_option linter.unusedVariables false
set_option linter.unusedSimpArgs false

theorem quo_u32 {a b : Int} (h : 0 ≤ a ∧ a ≤ 4294967295 ∧ 0 < b) : IntKind.u32.wrap (a.tdiv b) = a / b := by
  rw [Int.tdiv_eq_ediv_of_nonneg h.1]
  have h1 : 0 ≤ a / b := Int.ediv_nonneg h.1 (by omega)
  have h2 : a / b ≤ a := Int.ediv_le_self _ h.1
  exact IntWalk.u32_in _ (by omega)
theorem xor_odd {c : Nat} (h : c < 4294967296) (e : (c : Int) % 2 = 1) : bits .xor .u32 ((c : Int) / 2) 2197175160 = ((stepF c : Nat) : Int) := by
  have := xor_step h
  rw [if_pos (by omega)] at this; exact this
theorem half_even {c : Nat} (e : ¬ (c : Int) % 2 = 1) : (c : Int) / 2 = ((stepF c : Nat) : Int) := by
  unfold stepF; rw [if_neg (by omega)]; omega
theorem sub_more {c i : Nat} {s : List UInt8} (h : s.length ≤ i) (hc : c < 4294967296) : IntKind.u32.wrap (4294967295 - ((sumGo (4294967295 - c) (s.take i) : Nat) : Int)) = ((moreF c s : Nat) : Int) := by
  have h2 : sumGo (4294967295 - c) s < 4294967296 := sumGo_lt (by omega)
  rw [List.take_of_length_le h, IntWalk.u32_in _ (by omega)]; unfold moreF; omega
end Go.Proofs.YtiggkfaonnnjoaaGreatDoor.SL

/- Check sums in four bytes. -/
namespace Go.Proofs.YtiggkfaonnnjoaaGreatDoor.SL
open Go.RowKit Go.Proofs.YtiggkfaonnnjoaaGreatDoor
open Go.Proofs.YtiggkfaonnnjoaaGreatDoorW.PrintLast (rtab opsOf)
set_option linter.unusedVariables false
set_option linter.unusedSimpArgs false
theorem sumBytes_spec {B w : World} {L : List HP} (c : Nat) (hc : c < 4294967296) (hS : St B L w) : Does Tryz.prog 40 [Value.int .u32 (c : Int)] w (fun v w1 => v = str (bytes4 c) ∧ St B L w1) := by
 refine enter (n := 16) Tryz.func40 rfl rfl [Value.int .u32 (c : Int)] rfl ?_
 refine WP.seq (WP.region rfl ?_)
 refine WO.asg rfl rfl ?_
 refine WO.nil (NX.go (WP.seq (WP.region rfl ?_)))
 refine WO.mv rfl rfl ?_
 refine WO.val (run_shr rfl rfl (by omega) (shr_lit (m := 16777216) rfl (by decide))) rfl rfl rfl ?_
 refine WO.val (run_convI Tryz.underlying5 (by kernel_rfl) rfl (show IntKind.u8.wrap ((c : Int) / 16777216) = ((UInt8.ofNat (c / 16777216)).toNat : Int) by rw [IntKind.wrap_u8, u8_ofNat] <;> omega)) rfl rfl rfl ?_
 refine WO.mv rfl rfl ?_
 refine WO.val (run_shr rfl rfl (by omega) (shr_lit (m := 65536) rfl (by decide))) rfl rfl rfl ?_
 refine WO.val (run_convI Tryz.underlying5 (by kernel_rfl) rfl (show IntKind.u8.wrap ((c : Int) / 65536) = ((UInt8.ofNat (c / 65536)).toNat : Int) by rw [IntKind.wrap_u8, u8_ofNat] <;> omega)) rfl rfl rfl ?_
 refine WO.mv rfl rfl ?_
 refine WO.val (run_shr rfl rfl (by omega) (shr_lit (m := 256) rfl (by decide))) rfl rfl rfl ?_
 refine WO.val (run_convI Tryz.underlying5 (by kernel_rfl) rfl (show IntKind.u8.wrap ((c : Int) / 256) = ((UInt8.ofNat (c / 256)).toNat : Int) by rw [IntKind.wrap_u8, u8_ofNat] <;> omega)) rfl rfl rfl ?_
 refine WO.mv rfl rfl ?_
 refine WO.val (run_convI Tryz.underlying5 (by kernel_rfl) rfl (show IntKind.u8.wrap (c : Int) = ((UInt8.ofNat c).toNat : Int) by rw [IntKind.wrap_u8, u8_ofNat] <;> omega)) rfl rfl rfl ?_
 refine WO.buildSlice (l := [Value.int .u8 ((UInt8.ofNat (c / 16777216)).toNat : Int), Value.int .u8 ((UInt8.ofNat (c / 65536)).toNat : Int), Value.int .u8 ((UInt8.ofNat (c / 256)).toNat : Int), Value.int .u8 ((UInt8.ofNat c).toNat : Int)]) hS Tryz.underlying33 rfl (fun w => by kernel_rfl) rfl (fun g2 w1 lg2 hS1 => ?_)
 clear hS
 have hS1 := hS1.own_of_cel (m := 4) (k := 1) rfl
 refine WO.val (run_bytesToStr Tryz.underlying33 Tryz.underlying5 Tryz.underlying9 rfl (show Rd w1 (some ⟨g2, 0, none⟩) 4 1 (List.map (fun b : UInt8 => Value.int .u8 (b.toNat : Int)) (bytes4 c)) from hS1.own_rd_i 0 rfl)) rfl rfl rfl ?_
 refine WO.asg rfl rfl ?_
 refine WO.nil (NX.go (WP.ret ?_))
 refine NX.done (l := [.tmp 2]) rfl rfl ?_
 exact ⟨rfl, hS1.drop⟩
end Go.Proofs.YtiggkfaonnnjoaaGreatDoor.SL
