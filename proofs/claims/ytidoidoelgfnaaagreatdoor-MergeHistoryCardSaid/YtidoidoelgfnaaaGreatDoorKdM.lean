import Derived.Test.YtidoidoelgfnaaaGreatDoorTy
import Derived.Laws.BitsAllLaws
/- Numbers and texts as bytes. -/
namespace Go.Proofs.YtidoidoelgfnaaaGreatDoor.SL
open Go.RowKit Go.Proofs.YtidoidoelgfnaaaGreatDoor
open Go.Proofs.YtidoidoelgfnaaaGreatDoorW.PrintLast (rtab opsOf)
set_option linter.unusedVariables false
set_option linter.unusedSimpArgs false

/-- A number's bytes, the highest first, no nought ahead. -/
def beB : Nat → List UInt8
  | 0 => []
  | n + 1 => beB ((n + 1) / 256) ++ [UInt8.ofNat ((n + 1) % 256)]
decreasing_by omega
theorem beB_pos {n : Nat} (h : 0 < n) : beB n = beB (n / 256) ++ [UInt8.ofNat (n % 256)] := by
  obtain ⟨m, rfl⟩ : ∃ m, n = m + 1 := ⟨n - 1, by omega⟩
  rw [beB]
theorem beB_zero : beB 0 = [] := by rw [beB]
theorem beB_len : ∀ (k n : Nat), n < 256 ^ k → (beB n).length ≤ k
  | 0, n, h => by
    have : n = 0 := by simpa using h
    subst this; rw [beB_zero]; simp
  | k + 1, n, h => by
    rcases Nat.eq_zero_or_pos n with e | e
    · subst e; rw [beB_zero]; simp
    · rw [beB_pos e, List.length_append, List.length_singleton]
      have := beB_len k (n / 256) (Nat.div_lt_of_lt_mul (by rw [Nat.pow_succ] at h; omega))
      omega
/-- A number's text. -/
def numB (n : Nat) : List UInt8 := UInt8.ofNat (beB n).length :: beB n
theorem num_done {n m : Nat} {acc : List UInt8} (h1 : beB n = beB m ++ acc) (g : ¬ (0 : Int) < (m : Int)) : one [str (UInt8.ofNat acc.length :: acc)] = str (numB n) := by
  have : m = 0 := by omega
  subst this
  rw [beB_zero, List.nil_append] at h1
  unfold numB; rw [h1]; rfl
def arr9 (acc : List UInt8) : List Value := List.replicate (9 - acc.length) (Value.int .u8 0) ++ acc.map fun b => Value.int .u8 b.toNat
theorem arr9_len {acc : List UInt8} (h : acc.length ≤ 9) : (arr9 acc).length = 9 := by simp [arr9]; omega
theorem arr9_set {acc : List UInt8} (h : acc.length < 9) (b : UInt8) : (arr9 acc).set (8 - acc.length) (Value.int .u8 b.toNat) = arr9 (b :: acc) := by
  unfold arr9
  have e : 9 - acc.length = (8 - acc.length) + 1 := by omega
  rw [e, List.replicate_succ', List.append_assoc, List.set_append_right _ _ (by simp)]
  simp
theorem arr9_text {acc : List UInt8} (h : acc.length ≤ 8) : ((arr9 (UInt8.ofNat acc.length :: acc)).drop (8 - acc.length)).take ((9 - (8 - acc.length)) * 1) = (UInt8.ofNat acc.length :: acc).map fun b => Value.int .u8 b.toNat := by
  have e : 9 - (UInt8.ofNat acc.length :: acc).length = 8 - acc.length := by simp
  unfold arr9
  rw [e, List.drop_append, List.drop_eq_nil_of_le (by simp), List.length_replicate, Nat.sub_self, List.drop_zero, List.nil_append]
  exact List.take_of_length_le (by simp; omega)
theorem u8_ofNat (n : Nat) : ((UInt8.ofNat n).toNat : Int) = (n : Int) % 256 := by
  rw [UInt8.toNat_ofNat']; omega
theorem step_lt {m a : Nat} (h : m < 256 ^ (8 - a)) (hm : 0 < m) : m / 256 < 256 ^ (8 - (a + 1)) := by
  rcases Nat.lt_or_ge a 8 with e | e
  · have e2 : 8 - a = (8 - (a + 1)) + 1 := by omega
    rw [e2, Nat.pow_succ] at h
    exact Nat.div_lt_of_lt_mul (by omega)
  · have : 8 - a = 0 := by omega
    rw [this] at h; omega
theorem num_spec (n : Nat) (hn : n < 18446744073709551616) {B w : World} {L : List HP} (hS : St B L w) : Does Tryz.prog 98 [Value.int .u64 (n : Int)] w (fun v w1 => v = str (numB n) ∧ St B L w1) := by
 refine enter (n := 25) Tryz.func98 rfl rfl [Value.int .u64 (n : Int)] rfl ?_
 refine WP.seq (WP.region rfl ?_)
 refine WO.asg rfl rfl ?_
 refine WO.nil (NX.go (WP.seq (WP.region rfl ?_)))
 refine WO.alloc (l := [Value.int .u8 0, Value.int .u8 0, Value.int .u8 0, Value.int .u8 0, Value.int .u8 0, Value.int .u8 0, Value.int .u8 0, Value.int .u8 0, Value.int .u8 0]) hS Ty.zr188 rfl rfl (fun g2 w1 lg2 hS1 => ?_)
 clear hS
 refine WO.nil (NX.go (WP.seq (WP.region rfl ?_)))
 refine WO.asg rfl rfl ?_
 refine WO.nil (NX.go (WP.seq (WP.block ?_)))
 refine WP.loop (α := Nat × List UInt8) (fun x => match x with | ⟨m, acc⟩ => [(0, Value.int .u64 ((m : Nat) : Int)), (3, Value.pointer (some ⟨g2, 0, none⟩)), (4, Value.int .i64 (9 - (acc.length : Int)))]) (fun x w => match x with | ⟨m, acc⟩ => (beB n = beB m ++ acc ∧ m < 256 ^ (8 - acc.length) ∧ acc.length ≤ 8) ∧ St B (cel g2 (arr9 acc) 188 :: L) w) (fun x => match x with | ⟨m, acc⟩ => m) (n, []) ⟨⟨by simp, by simpa using hn, by simp⟩, hS1⟩ (Sub.consE rfl (by first | rfl | first | rfl | (congr 1; omega) | (simp; done) | (simp; omega)) (Sub.cons rfl (Sub.consE rfl (by simp) (Sub.nil _)))) ?_
 rintro ⟨m, acc⟩ w3 ⟨⟨h1, h2, h3⟩, hS3⟩
 clear hS1
 have hlen := arr9_len (acc := acc) (by omega)
 refine WP.seq (WP.seq (WP.region rfl ?_))
 refine WO.mv rfl rfl ?_
 refine WO.V (run_gtr rfl rfl) ?_
 refine WO.nil (NX.go ?_)
 refine WP.condP rfl (fun g6 => ?_) (fun g6 => ?_)
 ·
  have h4 : acc.length < 8 := (by rcases Nat.lt_or_ge acc.length 8 with e | e; exact e; have : 8 - acc.length = 0 := (by omega); rw [this] at h2; omega)
  refine WP.skip (NX.go (WP.seq (WP.block (WP.seq (WP.region rfl ?_)))))
  refine WO.mv rfl rfl ?_
  refine WO.V (run_sub rfl rfl (IntWalk.i64_in _ (by omega))) ?_
  refine WO.asg rfl rfl ?_
  refine WO.nil (NX.go (WP.region rfl ?_))
  refine WO.mv rfl rfl ?_
  refine WO.mv rfl rfl ?_
  refine WO.V (run_convI Tryz.underlying5 (by kernel_rfl) rfl (IntKind.wrap_u8 _)) ?_
  refine WO.V (run_indexAddrA (q := ⟨g2, 8 - acc.length, none⟩) Tryz.underlying188 Ty.sz5 rfl rfl (by omega) (by omega) (by congr 1; omega)) ?_
  have u8m : ((UInt8.ofNat (m % 256)).toNat : Int) = (m : Int) % 256 := by rw [u8_ofNat]; omega
  refine WO.storeAt 0 hS3 rfl Ty.sz5 rfl rfl rfl rfl (by omega) (fun w4 hS4 => ?_)
  replace hS4 : St B (cel g2 (arr9 (UInt8.ofNat (m % 256) :: acc)) 188 :: L) w4 := (by rw [← u8m, arr9_set (by omega)] at hS4; exact hS4)
  clear hS3
  refine WO.nil (NX.blk (NX.go (WP.region rfl ?_)))
  refine WO.mv rfl rfl ?_
  refine WO.V (run_shr rfl rfl (by omega) (shr_lit (m := 256) rfl (by decide))) ?_
  refine WO.asg rfl rfl ?_
  refine WO.nil ?_
  exact NX.again (m / 256, UInt8.ofNat (m % 256) :: acc) ⟨⟨by rw [h1, beB_pos (by omega)]; simp, step_lt h2 (by omega), by simp; omega⟩, hS4⟩ (by show m / 256 < m; omega) (Sub.consE rfl (by simp) (Sub.cons rfl (Sub.consE rfl (by congr 1; simp; omega) (Sub.nil _))))
 ·
  refine WP.exit (NX.thenExit (NX.thenExit ?_))
  refine NX.blkExit ?_
  refine NX.go (WP.seq (WP.region rfl ?_))
  refine WO.mv rfl rfl ?_
  refine WO.V (run_sub rfl rfl (IntWalk.i64_in _ (by omega))) ?_
  refine WO.asg rfl rfl ?_
  refine WO.nil (NX.go (WP.seq (WP.region rfl ?_)))
  refine WO.mv rfl rfl ?_
  refine WO.mv rfl rfl ?_
  refine WO.V (run_sub rfl rfl (IntWalk.i64_in _ (by omega))) ?_
  refine WO.V (run_convI Tryz.underlying5 (by kernel_rfl) rfl (IntKind.wrap_u8 _)) ?_
  refine WO.V (run_indexAddrA (q := ⟨g2, 8 - acc.length, none⟩) Tryz.underlying188 Ty.sz5 rfl rfl (by omega) (by omega) (by congr 1; omega)) ?_
  have u8l : ((UInt8.ofNat acc.length).toNat : Int) = (8 - (9 - (acc.length : Int) - 1)) % 256 := by rw [u8_ofNat]; omega
  refine WO.storeAt 0 hS3 rfl Ty.sz5 rfl rfl rfl rfl (by omega) (fun w5 hS5 => ?_)
  replace hS5 : St B (cel g2 (arr9 (UInt8.ofNat acc.length :: acc)) 188 :: L) w5 := (by rw [← u8l, arr9_set (by omega)] at hS5; exact hS5)
  clear hS3
  refine WO.nil (NX.go (WP.seq (WP.region rfl ?_)))
  refine WO.V (run_moveAs (v := Value.int .i64 ((8 - acc.length : Nat) : Int)) rfl (by congr 1; omega)) ?_
  refine WO.V (run_sliceA1 (i := 8 - acc.length) (j := 9) (8 - acc.length) Tryz.underlying188 Ty.sz5 rfl ⟨_, rfl⟩ rfl (by omega) (by omega) (by omega) (by simp)) ?_
  refine WO.V (run_bytesToStr Tryz.underlying160 Tryz.underlying5 Tryz.underlying9 rfl (hS5.cel_rd 0 rfl (o := 8 - acc.length) (m := 9 - (8 - acc.length)) (k := 1) (arr9_text h3) (by rw [arr9_len (by simp; omega)]; omega))) ?_
  refine WO.asg rfl rfl ?_
  refine WO.nil (NX.go (WP.ret ?_))
  refine NX.done (l := [.tmp 2]) rfl rfl ?_
  exact ⟨by rw [num_done h1 g6], hS5.drop⟩
end Go.Proofs.YtidoidoelgfnaaaGreatDoor.SL

/- Texts and numbers as bytes. -/
namespace Go.Proofs.YtidoidoelgfnaaaGreatDoor.SL
open Go.RowKit Go.Proofs.YtidoidoelgfnaaaGreatDoor
open Go.Proofs.YtidoidoelgfnaaaGreatDoorW.PrintLast (rtab opsOf)
set_option linter.unusedVariables false
set_option linter.unusedSimpArgs false

theorem numB_len {n : Nat} (h : n < 18446744073709551616) : (numB n).length ≤ 9 := by
  have := beB_len 8 n (by simpa using h)
  unfold numB; simp; omega
def textB (s : List UInt8) : List UInt8 := numB s.length ++ s
/-- The number that bytes are, the highest first. -/
def beN (l : List UInt8) : Nat := l.foldl (fun n b => n * 256 + b.toNat) 0
theorem beN_snoc (l : List UInt8) (b : UInt8) : beN (l ++ [b]) = beN l * 256 + b.toNat := by unfold beN; rw [List.foldl_append]; rfl
theorem text_spec {B w : World} {L : List HP} (s : List UInt8) (hs : s.length ≤ 9223372036854775000) (hS : St B L w) : Does Tryz.prog 99 [str s] w (fun v w1 => v = str (textB s) ∧ St B L w1) := by
 refine enter (n := 9) Tryz.func99 rfl rfl [str s] rfl ?_
 refine WP.seq (WP.region rfl ?_)
 refine WO.asg rfl rfl ?_
 refine WO.nil (NX.go (WP.seq (WP.region rfl ?_)))
 refine WO.mv rfl rfl ?_
 refine WO.V (run_lenS rfl Tryz.underlying9 rfl) ?_
 refine WO.V (run_convI Tryz.underlying81 (by kernel_rfl) rfl (IntWalk.u64_in _ (by omega))) ?_
 refine WO.call rfl rfl Ty.hd98 rfl (num_spec s.length (by omega) hS) (fun v2 w1 pv2 => ?_)
 obtain ⟨rfl, hS1⟩ := pv2
 clear hS
 refine WO.mv rfl rfl ?_
 refine WO.V (run_cat rfl rfl (by have := numB_len (show s.length < 18446744073709551616 by omega); omega)) ?_
 refine WO.asg rfl rfl ?_
 refine WO.nil (NX.go (WP.ret ?_))
 refine NX.done (l := [.tmp 2]) rfl rfl ?_
 exact ⟨rfl, hS1⟩

end Go.Proofs.YtidoidoelgfnaaaGreatDoor.SL
