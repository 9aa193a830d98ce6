import Derived.Test.YtiggkfaonnnjoaaGreatDoorTy
import Derived.Laws.BitsAllLaws
/- Numbers and texts as bytes. -/
namespace Go.Proofs.YtiggkfaonnnjoaaGreatDoor.SL
open Go.RowKit Go.Proofs.YtiggkfaonnnjoaaGreatDoor
open Go.Proofs.YtiggkfaonnnjoaaGreatDoorW.PrintLast (rtab opsOf)
set_option linter.unusedVariables false
set_option linter.unusedSimpArgs false

/-- A number's bytes, the highest first, no nought ahead. -/
def beB : Nat → List UInt8
  | 0 => []
  | n + 1 => beB ((n + 1) / 256) ++ [UInt8.ofNat ((n + 1) % 256)]
decreasing_by omega
theorem beB_pos {n : Nat} (h : 0 < n) : beB n = beB (n / 256) ++ [UInt8.ofNat (n % 256)] := by
  obtain ⟨m, rfl⟩ : ∃ m, n = m + 1 := ⟨n - 1, by omega⟩
  rw [beB]
theorem beB_zero : beB 0 = [] := by rw [beB]
theorem beB_len : ∀ (k n : Nat), n < 256 ^ k → (beB n).length ≤ k
  | 0, n, h => by
    have : n = 0 := by simpa using h
    subst this; rw [beB_zero]; simp
  | k + 1, n, h => by
    rcases Nat.eq_zero_or_pos n with e | e
    · subst e; rw [beB_zero]; simp
    · rw [beB_pos e, List.length_append, List.length_singleton]
      have := beB_len k (n / 256) (Nat.div_lt_of_lt_mul (by rw [Nat.pow_succ] at h; omega))
      omega
/-- A number's text. -/
def numB (n : Nat) : List UInt8 := UInt8.ofNat (beB n).length :: beB n
theorem num_done {n m : Nat} {acc : List UInt8} (h1 : beB n = beB m ++ acc) (g : ¬ (0 : Int) < (m : Int)) : one [str (UInt8.ofNat acc.length :: acc)] = str (numB n) := by
  have : m = 0 := by omega
  subst this
  rw [beB_zero, List.nil_append] at h1
  unfold numB; rw [h1]; rfl
def arr9 (acc : List UInt8) : List Value := List.replicate (9 - acc.length) (Value.int .u8 0) ++ acc.map fun b => Value.int .u8 b.toNat
theorem arr9_len {acc : List UInt8} (h : acc.length ≤ 9) : (arr9 acc).length = 9 := by simp [arr9]; omega
theorem arr9_set {acc : List UInt8} (h : acc.length < 9) (b : UInt8) : (arr9 acc).set (8 - acc.length) (Value.int .u8 b.toNat) = arr9 (b :: acc) := by
  unfold arr9
  have e : 9 - acc.length = (8 - acc.length) + 1 := by omega
  rw [e, List.replicate_succ', List.append_assoc, List.set_append_right _ _ (by simp)]
  simp
theorem arr9_text {acc : List UInt8} (h : acc.length ≤ 8) : ((arr9 (UInt8.ofNat acc.length :: acc)).drop (8 - acc.length)).take ((9 - (8 - acc.length)) * 1) = (UInt8.ofNat acc.length :: acc).map fun b => Value.int .u8 b.toNat := by
  have e : 9 - (UInt8.ofNat acc.length :: acc).length = 8 - acc.length := by simp
  unfold arr9
  rw [e, List.drop_append, List.drop_eq_nil_of_le (by simp), List.length_replicate, Nat.sub_self, List.drop_zero, List.nil_append]
  exact List.take_of_length_le (by simp; omega)
theorem u8_ofNat (n : Nat) : ((UInt8.ofNat n).toNat : Int) = (n : Int) % 256 := by
  rw [UInt8.toNat_ofNat']; omega
theorem step_lt {m a : Nat} (h : m < 256 ^ (8 - a)) (hm : 0 < m) : m / 256 < 256 ^ (8 - (a + 1)) := by
  rcases Nat.lt_or_ge a 8 with e | e
  · have e2 : 8 - a = (8 - (a + 1)) + 1 := by omega
    rw [e2, Nat.pow_succ] at h
    exact Nat.div_lt_of_lt_mul (by omega)
  · have : 8 - a = 0 := by omega
    rw [this] at h; omega
theorem num_spec (n : Nat) (hn : n < 18446744073709551616) {B w : World} {L : List HP} (hS : St B L w) : Does Tryz.prog 58 [Value.int .u64 (n : Int)] w (fun v w1 => v = str (numB n) ∧ St B L w1) := by
 refine enter (n := 25) Tryz.func58 rfl rfl [Value.int .u64 (n : Int)] rfl ?_
 refine WP.seq (WP.region rfl ?_)
 refine WO.asg rfl rfl ?_
 refine WO.nil (NX.go (WP.seq (WP.region rfl ?_)))
 refine WO.alloc (l := [Value.int .u8 0, Value.int .u8 0, Value.int .u8 0, Value.int .u8 0, Value.int .u8 0, Value.int .u8 0, Value.int .u8 0, Value.int .u8 0, Value.int .u8 0]) hS Ty.zr102 rfl rfl (fun g2 w1 lg2 hS1 => ?_)
 clear hS
 refine WO.nil (NX.go (WP.seq (WP.region rfl ?_)))
 refine WO.asg rfl rfl ?_
 refine WO.nil (NX.go (WP.seq (WP.block ?_)))
 refine WP.loop (α := Nat × List UInt8) (fun x => match x with | ⟨m, acc⟩ => [(0, Value.int .u64 ((m : Nat) : Int)), (3, Value.pointer (some ⟨g2, 0, none⟩)), (4, Value.int .i64 (9 - (acc.length : Int)))]) (fun x w => match x with | ⟨m, acc⟩ => (beB n = beB m ++ acc ∧ m < 256 ^ (8 - acc.length) ∧ acc.length ≤ 8) ∧ St B (cel g2 (arr9 acc) 102 :: L) w) (fun x => match x with | ⟨m, acc⟩ => m) (n, []) ⟨⟨by simp, by simpa using hn, by simp⟩, hS1⟩ (Sub.consE rfl (by first | rfl | first | rfl | (congr 1; omega) | (simp; done) | (simp; omega)) (Sub.cons rfl (Sub.consE rfl (by simp) (Sub.nil _)))) ?_
 rintro ⟨m, acc⟩ w3 ⟨⟨h1, h2, h3⟩, hS3⟩
 clear hS1
 have hlen := arr9_len (acc := acc) (by omega)
 refine WP.seq (WP.seq (WP.region rfl ?_))
 refine WO.mv rfl rfl ?_
 refine WO.val (run_gtr rfl rfl) rfl rfl rfl ?_
 refine WO.nil (NX.go ?_)
 refine WP.condP rfl (fun g6 => ?_) (fun g6 => ?_)
 ·
  have h4 : acc.length < 8 := (by rcases Nat.lt_or_ge acc.length 8 with e | e; exact e; have : 8 - acc.length = 0 := (by omega); rw [this] at h2; omega)
  refine WP.skip (NX.go (WP.seq (WP.block (WP.seq (WP.region rfl ?_)))))
  refine WO.mv rfl rfl ?_
  refine WO.val (run_sub rfl rfl (IntWalk.i64_in _ (by omega))) rfl rfl rfl ?_
  refine WO.asg rfl rfl ?_
  refine WO.nil (NX.go (WP.region rfl ?_))
  refine WO.mv rfl rfl ?_
  refine WO.mv rfl rfl ?_
  refine WO.val (run_convI Tryz.underlying5 (by kernel_rfl) rfl (IntKind.wrap_u8 _)) rfl rfl rfl ?_
  refine WO.val (run_indexAddrA (q := ⟨g2, 8 - acc.length, none⟩) Tryz.underlying102 Ty.sz5 rfl rfl (by omega) (by omega) (by congr 1; omega)) rfl rfl rfl ?_
  have u8m : ((UInt8.ofNat (m % 256)).toNat : Int) = (m : Int) % 256 := by rw [u8_ofNat]; omega
  refine WO.storeAt 0 hS3 rfl Ty.sz5 rfl rfl rfl rfl (by omega) (fun w4 hS4 => ?_)
  replace hS4 : St B (cel g2 (arr9 (UInt8.ofNat (m % 256) :: acc)) 102 :: L) w4 := (by rw [← u8m, arr9_set (by omega)] at hS4; exact hS4)
  clear hS3
  refine WO.nil (NX.blk (NX.go (WP.region rfl ?_)))
  refine WO.mv rfl rfl ?_
  refine WO.val (run_shr rfl rfl (by omega) (shr_lit (m := 256) rfl (by decide))) rfl rfl rfl ?_
  refine WO.asg rfl rfl ?_
  refine WO.nil ?_
  exact NX.again (m / 256, UInt8.ofNat (m % 256) :: acc) ⟨⟨by rw [h1, beB_pos (by omega)]; simp, step_lt h2 (by omega), by simp; omega⟩, hS4⟩ (by show m / 256 < m; omega) (Sub.consE rfl (by simp) (Sub.cons rfl (Sub.consE rfl (by congr 1; simp; omega) (Sub.nil _))))
 ·
  refine WP.exit (NX.thenExit (NX.thenExit ?_))
  refine NX.blkExit ?_
  refine NX.go (WP.seq (WP.region rfl ?_))
  refine WO.mv rfl rfl ?_
  refine WO.val (run_sub rfl rfl (IntWalk.i64_in _ (by omega))) rfl rfl rfl ?_
  refine WO.asg rfl rfl ?_
  refine WO.nil (NX.go (WP.seq (WP.region rfl ?_)))
  refine WO.mv rfl rfl ?_
  refine WO.mv rfl rfl ?_
  refine WO.val (run_sub rfl rfl (IntWalk.i64_in _ (by omega))) rfl rfl rfl ?_
  refine WO.val (run_convI Tryz.underlying5 (by kernel_rfl) rfl (IntKind.wrap_u8 _)) rfl rfl rfl ?_
  refine WO.val (run_indexAddrA (q := ⟨g2, 8 - acc.length, none⟩) Tryz.underlying102 Ty.sz5 rfl rfl (by omega) (by omega) (by congr 1; omega)) rfl rfl rfl ?_
  have u8l : ((UInt8.ofNat acc.length).toNat : Int) = (8 - (9 - (acc.length : Int) - 1)) % 256 := by rw [u8_ofNat]; omega
  refine WO.storeAt 0 hS3 rfl Ty.sz5 rfl rfl rfl rfl (by omega) (fun w5 hS5 => ?_)
  replace hS5 : St B (cel g2 (arr9 (UInt8.ofNat acc.length :: acc)) 102 :: L) w5 := (by rw [← u8l, arr9_set (by omega)] at hS5; exact hS5)
  clear hS3
  refine WO.nil (NX.go (WP.seq (WP.region rfl ?_)))
  refine WO.val (run_moveAs (v := Value.int .i64 ((8 - acc.length : Nat) : Int)) rfl (by congr 1; omega)) rfl rfl rfl ?_
  refine WO.val (run_sliceA1 (i := 8 - acc.length) (j := 9) (8 - acc.length) Tryz.underlying102 Ty.sz5 rfl ⟨_, rfl⟩ rfl (by omega) (by omega) (by omega) (by simp)) rfl rfl rfl ?_
  refine WO.val (run_bytesToStr Tryz.underlying33 Tryz.underlying5 Tryz.underlying9 rfl (hS5.cel_rd 0 rfl (o := 8 - acc.length) (m := 9 - (8 - acc.length)) (k := 1) (arr9_text h3) (by rw [arr9_len (by simp; omega)]; omega))) rfl rfl rfl ?_
  refine WO.asg rfl rfl ?_
  refine WO.nil (NX.go (WP.ret ?_))
  refine NX.done (l := [.tmp 2]) rfl rfl ?_
  exact ⟨by rw [num_done h1 g6], hS5.drop⟩
end Go.Proofs.YtiggkfaonnnjoaaGreatDoor.SL

/- Texts and numbers as bytes. -/
namespace Go.Proofs.YtiggkfaonnnjoaaGreatDoor.SL
open Go.RowKit Go.Proofs.YtiggkfaonnnjoaaGreatDoor
open Go.Proofs.YtiggkfaonnnjoaaGreatDoorW.PrintLast (rtab opsOf)
set_option linter.unusedVariables false
set_option linter.unusedSimpArgs false

theorem numB_len {n : Nat} (h : n < 18446744073709551616) : (numB n).length ≤ 9 := by
  have := beB_len 8 n (by simpa using h)
  unfold numB; simp; omega
def textB (s : List UInt8) : List UInt8 := numB s.length ++ s
/-- The number that bytes are, the highest first. -/
def beN (l : List UInt8) : Nat := l.foldl (fun n b => n * 256 + b.toNat) 0
theorem beN_snoc (l : List UInt8) (b : UInt8) : beN (l ++ [b]) = beN l * 256 + b.toNat := by unfold beN; rw [List.foldl_append]; rfl
theorem beN_lt : ∀ (k : Nat) (l : List UInt8), l.length ≤ k → beN l < 256 ^ k
  | 0, l, h => by have : l = [] := List.length_eq_zero_iff.1 (by omega); subst this; decide
  | k + 1, l, h => by
    rcases List.eq_nil_or_concat l with e | ⟨z, c, e⟩
    · subst e; exact Nat.pos_of_ne_zero (by simp)
    · rw [e, List.concat_eq_append, beN_snoc, Nat.pow_succ]
      have := beN_lt k z (by rw [e, List.concat_eq_append, List.length_append] at h; simpa using h)
      have := UInt8.toNat_lt c
      omega
def getNum (s : List UInt8) : Nat × Nat × Int := match s with
  | [] => (0, 0, 1)
  | c :: rest => if 8 < c.toNat then (0, 0, 2) else if rest.length < c.toNat then (0, 0, 1) else if 0 < c.toNat ∧ rest.head? = some 0 then (0, 0, 3) else (beN (rest.take c.toNat), 1 + c.toNat, 0)
theorem or_be {n : Nat} {b : UInt8} (h : n < 72057594037927936) : bits .or .u64 ((n * 256 : Nat) : Int) (b.toNat : Int) = ((n * 256 + b.toNat : Nat) : Int) := by
  have hb := UInt8.toNat_lt b
  rw [u64_or_nat _ _ (by omega) (by omega)]
  congr 1
  have := Nat.two_pow_add_eq_or_of_lt (i := 8) (b := b.toNat) (by simpa using hb) n
  rw [Nat.mul_comm]; exact this.symm
theorem text_spec {B w : World} {L : List HP} (s : List UInt8) (hs : s.length ≤ 9223372036854775000) (hS : St B L w) : Does Tryz.prog 39 [str s] w (fun v w1 => v = str (textB s) ∧ St B L w1) := by
 refine enter (n := 9) Tryz.func39 rfl rfl [str s] rfl ?_
 refine WP.seq (WP.region rfl ?_)
 refine WO.asg rfl rfl ?_
 refine WO.nil (NX.go (WP.seq (WP.region rfl ?_)))
 refine WO.mv rfl rfl ?_
 refine WO.val (run_lenS rfl Tryz.underlying9 rfl) rfl rfl rfl ?_
 refine WO.val (run_convI Tryz.underlying24 (by kernel_rfl) rfl (IntWalk.u64_in _ (by omega))) rfl rfl rfl ?_
 refine WO.call rfl rfl Ty.hd58 rfl (num_spec s.length (by omega) hS) (fun v2 w1 pv2 => ?_)
 obtain ⟨rfl, hS1⟩ := pv2
 clear hS
 refine WO.mv rfl rfl ?_
 refine WO.val (run_cat rfl rfl (by have := numB_len (show s.length < 18446744073709551616 by omega); omega)) rfl rfl rfl ?_
 refine WO.asg rfl rfl ?_
 refine WO.nil (NX.go (WP.ret ?_))
 refine NX.done (l := [.tmp 2]) rfl rfl ?_
 exact ⟨rfl, hS1⟩

theorem u8z (d : UInt8) : (d.toNat : Int) = 0 ↔ d = 0 := by
  constructor
  · intro h; exact UInt8.toNat_inj.1 (show d.toNat = (0 : UInt8).toNat by simpa using h)
  · rintro rfl; rfl
theorem shl8 {n : Nat} (h : n < 72057594037927936) : IntKind.u64.wrap ((n : Int) * 2 ^ (min (8 : Int).toNat IntKind.u64.bits)) = ((n * 256 : Nat) : Int) := by
  rw [show (min (8 : Int).toNat IntKind.u64.bits) = 8 by decide, IntWalk.u64_in _ (by omega)]
  omega
theorem getNum_spec_t3 : rtab .any (opsOf Tryz.f65 3) = (true, [([], []), ([0], [0]), ([1], [1]), ([], []), ([3], [3]), ([2, 0, 1, 2], [2]), ([4, 5, 0, 1, 2, 3, 4, 5], [4])]) := by kernel_rfl
theorem getNum_spec {B w : World} {L : List HP} (s : List UInt8) (hs : s.length ≤ 140737488355328) (hS : St B L w) : Does Tryz.prog 65 [str s] w (fun v w1 => v = .tuple #[.int .u64 ((getNum s).1 : Int), .int .i64 ((getNum s).2.1 : Int), .int .i64 (getNum s).2.2] ∧ St B L w1) := by
 refine enter (n := 51) Tryz.func65 rfl rfl [str s] rfl ?_
 refine WP.seq (WP.region rfl ?_)
 refine WO.asg rfl rfl ?_
 refine WO.asg rfl rfl ?_
 refine WO.asg rfl rfl ?_
 refine WO.nil (NX.go (WP.seq (WP.seq (WP.region rfl ?_))))
 refine WO.mv rfl rfl ?_
 refine WO.val (run_eqlS rfl rfl) rfl rfl rfl ?_
 refine WO.nil (NX.go ?_)
 refine WP.condP rfl (fun g11 => ?_) (fun g11 => ?_)
 ·
  refine WP.seq (WP.region rfl ?_)
  refine WO.asg rfl rfl ?_
  refine WO.asg rfl rfl ?_
  refine WO.asg rfl rfl ?_
  refine WO.nil (NX.go (WP.ret (NX.thenRet ?_)))
  refine NX.done (l := [.tmp 2, .tmp 3, .tmp 4]) rfl rfl ?_
  exact ⟨by rw [show s = [] from g11]; rfl, hS⟩
 ·
  obtain ⟨c, rest, hs0⟩ : ∃ c rest, s = c :: rest := by cases s with | nil => exact absurd rfl g11 | cons c r => exact ⟨c, r, rfl⟩
  have hcl := UInt8.toNat_lt c
  refine WP.skip (NX.go (WP.seq ?_))
  refine WD.start (fun w => True) [] (bt 7 0) Ty.mo rfl (by kernel_rfl) hS (fun _ h => trivial) (fun w1 hS1 s2 => ?_)
  clear hS
  refine WD.pure (i := 0) getNum_spec_t3 (bt 7 1) rfl rfl rfl (by kernel_rfl) (PQ.then PQ.body) rfl (fun w => run_move rfl) ?_
  refine WD.pure (i := 1) getNum_spec_t3 (bt 7 3) rfl rfl rfl (by kernel_rfl) (PQ.then PQ.body) rfl (fun w => run_indexS Tryz.underlying9 rfl rfl (by omega) (by rw [hs0]; rfl)) ?_
  refine WD.pure (i := 2) getNum_spec_t3 (bt 7 7) rfl rfl rfl (by kernel_rfl) (PQ.then PQ.body) rfl (fun w => run_convI Tryz.underlying3 (by kernel_rfl) rfl (IntWalk.i64_in _ (by omega))) ?_
  refine WD.pure (i := 3) getNum_spec_t3 (bt 7 15) rfl rfl rfl (by kernel_rfl) (PQ.then PQ.body) rfl (fun w => run_move rfl) ?_
  refine WD.pure (i := 4) getNum_spec_t3 (bt 7 31) rfl rfl rfl (by kernel_rfl) (PQ.then PQ.body) rfl (fun w => run_sliceS (i := 1) (j := s.length) Tryz.underlying9 rfl ⟨_, rfl⟩ rfl (by rw [hs0]; simp) (Nat.le_refl _) (show (s.take s.length).drop 1 = rest by rw [List.take_length, hs0]; rfl)) ?_
  refine WD.pure (i := 5) getNum_spec_t3 (bt 7 63) rfl rfl rfl (by kernel_rfl) (PQ.then PQ.body) rfl (fun w => run_assign rfl) ?_
  refine WD.pure (i := 6) getNum_spec_t3 (bt 7 127) rfl rfl rfl (by kernel_rfl) (PQ.then PQ.body) rfl (fun w => run_assign rfl) ?_
  refine WD.done getNum_spec_t3 (by kernel_rfl) ?_
  refine NX.go (WP.seq ?_)
  refine WP.meet (α := Unit) (fun x => match x with | _ => [(5, Value.int .i64 (c.toNat : Int)), (6, str rest)]) (fun x w => match x with | _ => (¬ 8 < c.toNat ∧ ¬ rest.length < c.toNat ∧ ¬ (0 < c.toNat ∧ rest.head? = some 0)) ∧ St B (L) w) ?_ (fun K3 => ?_)
  ·
   rintro _ w4 ⟨⟨h8, hl8, hz8⟩, hS4⟩
   clear hS1
   refine NX.go (WP.seq (WP.region rfl ?_))
   refine WO.asg rfl rfl ?_
   refine WO.nil (NX.go (WP.seq (WP.seq ?_)))
   have htl : (rest.take c.toNat).length = c.toNat := by rw [List.length_take]; omega
   refine WP.region rfl ?_
   refine WO.mv rfl rfl ?_
   refine WO.mv rfl rfl ?_
   refine WO.val (run_sliceS (i := 0) (j := c.toNat) Tryz.underlying9 rfl rfl ⟨_, rfl⟩ (Nat.zero_le _) (by omega) (List.drop_zero)) rfl rfl rfl ?_
   refine WO.strToBytes Tryz.underlying33 Tryz.underlying5 Tryz.underlying9 rfl hS4 rfl (fun a6 c7 w5 hS5 => ?_)
   clear hS4
   refine WO.val (run_len rfl Tryz.underlying33 rfl) rfl rfl rfl ?_
   refine WO.mv rfl rfl ?_
   refine WO.nil (NX.go (WP.block ?_))
   refine WP.loop (α := Nat) (fun x => match x with | k => [(5, Value.int .i64 (c.toNat : Int)), (7, Value.int .u64 ((beN (rest.take k) : Nat) : Int)), (36, Value.slice a6 ((rest.take c.toNat).length) c7), (37, Value.int .i64 (((rest.take c.toNat).length : Nat) : Int)), (38, Value.int .i64 (k : Int))]) (fun x w => match x with | k => (k ≤ c.toNat) ∧ St B (own a6 ((rest.take c.toNat).length) c7 5 1 ((rest.take c.toNat).map fun b => Value.int .u8 b.toNat) :: L) w) (fun x => match x with | k => c.toNat - k) 0 ⟨Nat.zero_le _, hS5⟩ (Sub.cons rfl (Sub.consE rfl (by first | rfl | first | rfl | (congr 1; omega) | (simp; done) | (simp; omega)) (Sub.cons rfl (Sub.cons rfl (Sub.consE rfl (by first | rfl | first | rfl | (congr 1; omega) | (simp; done) | (simp; omega)) (Sub.nil _)))))) ?_
   rintro k w8 ⟨hk, hS8⟩
   clear hS5
   refine WP.seq (WP.region rfl ?_)
   refine WO.val (run_lss rfl rfl) rfl rfl rfl ?_
   refine WO.nil (NX.go (WP.seq ?_))
   refine WP.condP rfl (fun g39 => ?_) (fun g39 => ?_)
   ·
    refine WP.skip (NX.go (WP.seq (WP.block (WP.seq ?_))))
    obtain ⟨b, hb⟩ : ∃ b, rest[k]? = some b := ⟨_, List.getElem?_eq_getElem (by omega)⟩
    have hbl := UInt8.toNat_lt b
    have hnl := beN_lt 7 (rest.take k) (by rw [List.length_take]; omega)
    refine WP.region rfl ?_
    refine WO.val (run_indexAddr (q := adr a6 k) Tryz.underlying33 Ty.sz5 rfl rfl (by omega) (by omega) ((hS8.own_rd_i 0 rfl).2.1 (by omega)) (by simp)) rfl rfl rfl ?_
    refine WO.val (run_load Ty.ag5 rfl ((hS8.own_rd_i 0 rfl).cell (by rw [List.getElem?_map, List.getElem?_take_of_lt (by omega), hb]; rfl))) rfl rfl rfl ?_
    refine WO.asg rfl rfl ?_
    refine WO.nil (NX.go (WP.region rfl ?_))
    refine WO.mv rfl rfl ?_
    refine WO.val (run_shl rfl rfl (by omega) (shl8 (by omega))) rfl rfl rfl ?_
    refine WO.mv rfl rfl ?_
    refine WO.val (run_convI Tryz.underlying24 (by kernel_rfl) rfl (IntWalk.u64_in _ (by omega))) rfl rfl rfl ?_
    refine WO.val (run_or rfl rfl (or_be (by omega))) rfl rfl rfl ?_
    refine WO.asg rfl rfl ?_
    refine WO.nil (NX.blk (NX.go (WP.region rfl ?_)))
    refine WO.val (run_add rfl rfl (IntWalk.i64_in _ (by omega))) rfl rfl rfl ?_
    refine WO.mv rfl rfl ?_
    refine WO.nil ?_
    exact NX.again (k + 1) ⟨by omega, hS8⟩ (by show c.toNat - (k + 1) < c.toNat - k; omega) (Sub.cons rfl (Sub.consE rfl (by rw [List.take_add_one, hb, Option.toList_some, beN_snoc]) (Sub.cons rfl (Sub.cons rfl (Sub.consE rfl (by congr 1) (Sub.nil _))))))
   ·
    refine WP.exit (NX.thenExit (NX.thenExit ?_))
    refine NX.blkExit ?_
    refine NX.go (WP.seq (WP.region rfl ?_))
    refine WO.mv rfl rfl ?_
    refine WO.mv rfl rfl ?_
    refine WO.val (run_add rfl rfl (IntWalk.i64_in _ (by omega))) rfl rfl rfl ?_
    refine WO.asg rfl rfl ?_
    refine WO.asg rfl rfl ?_
    refine WO.asg rfl rfl ?_
    refine WO.nil (NX.go (WP.ret ?_))
    refine NX.done (l := [.tmp 2, .tmp 3, .tmp 4]) rfl rfl ?_
    exact ⟨by rw [hs0, getNum, if_neg h8, if_neg hl8, if_neg hz8, show beN (rest.take k) = beN (rest.take c.toNat) by rw [show k = c.toNat by omega]]; simp; rfl, hS8.drop⟩
  ·
   refine WP.block (WP.seq (WP.region rfl ?_))
   refine WO.mv rfl rfl ?_
   refine WO.val (run_gtr rfl rfl) rfl rfl rfl ?_
   refine WO.asg rfl rfl ?_
   refine WO.nil (NX.go ?_)
   refine WP.condP rfl (fun g17 => ?_) (fun g17 => ?_)
   ·
    refine WP.seq (WP.region rfl ?_)
    refine WO.asg rfl rfl ?_
    refine WO.asg rfl rfl ?_
    refine WO.asg rfl rfl ?_
    refine WO.nil (NX.go (WP.ret (NX.blkRet (NX.thenRet ?_))))
    refine NX.done (l := [.tmp 2, .tmp 3, .tmp 4]) rfl rfl ?_
    exact ⟨by rw [hs0, getNum, if_pos (by omega)]; rfl, hS1⟩
   ·
    refine WP.seq (WP.region rfl ?_)
    refine WO.mv rfl rfl ?_
    refine WO.val (run_lenS rfl Tryz.underlying9 rfl) rfl rfl rfl ?_
    refine WO.mv rfl rfl ?_
    refine WO.val (run_lss rfl rfl) rfl rfl rfl ?_
    refine WO.asg rfl rfl ?_
    refine WO.nil (NX.go ?_)
    refine WP.condP rfl (fun g20 => ?_) (fun g20 => ?_)
    ·
     refine WP.seq (WP.region rfl ?_)
     refine WO.asg rfl rfl ?_
     refine WO.asg rfl rfl ?_
     refine WO.asg rfl rfl ?_
     refine WO.nil (NX.go (WP.ret (NX.blkRet (NX.thenRet ?_))))
     refine NX.done (l := [.tmp 2, .tmp 3, .tmp 4]) rfl rfl ?_
     exact ⟨by rw [hs0, getNum, if_neg (by omega), if_pos (by omega)]; rfl, hS1⟩
    ·
     refine WP.seq (WP.region rfl ?_)
     refine WO.mv rfl rfl ?_
     refine WO.val (run_gtr rfl rfl) rfl rfl rfl ?_
     refine WO.mv rfl rfl ?_
     by_cases g28 : 0 < (c.toNat : Int)
     ·
      refine WO.on rfl rfl (decide_eq_true g28) ?_
      refine WO.mv rfl rfl ?_
      refine WO.on rfl rfl (decide_eq_true g28) ?_
      obtain ⟨d, hd0⟩ : ∃ d, rest.head? = some d := by cases rest with | nil => (exfalso; simp at g20 <;> omega) | cons d r => exact ⟨d, rfl⟩
      refine WO.val (run_indexS Tryz.underlying9 rfl rfl (by omega) ((List.head?_eq_getElem? (l := rest)).symm.trans hd0)) rfl rfl rfl ?_
      refine WO.on rfl rfl (decide_eq_true g28) ?_
      refine WO.val (run_eql rfl rfl) rfl rfl rfl ?_
      refine WO.val (run_pickT rfl (decide_eq_true g28) rfl) rfl rfl rfl ?_
      refine WO.asg rfl rfl ?_
      refine WO.nil (NX.go ?_)
      refine WP.condP rfl (fun g25 => ?_) (fun g25 => ?_)
      ·
       refine WP.seq (WP.region rfl ?_)
       refine WO.asg rfl rfl ?_
       refine WO.asg rfl rfl ?_
       refine WO.asg rfl rfl ?_
       refine WO.nil (NX.go (WP.ret (NX.blkRet (NX.thenRet ?_))))
       refine NX.done (l := [.tmp 2, .tmp 3, .tmp 4]) rfl rfl ?_
       exact ⟨by rw [hs0, getNum, if_neg (by omega), if_neg (by omega), if_pos ⟨by omega, by rw [hd0]; exact congrArg some ((u8z d).1 g25)⟩]; rfl, hS1⟩
      ·
       refine WP.skip (NX.blk ?_)
       exact K3 () _ _ ⟨⟨by omega, by omega, fun h => by rw [hd0] at h; exact g25 ((u8z d).2 (Option.some.inj h.2))⟩, hS1⟩ (Sub.cons rfl (Sub.cons rfl (Sub.nil _)))
     ·
      refine WO.off rfl rfl (decide_eq_false g28) rfl ?_
      refine WO.off rfl rfl (decide_eq_false g28) rfl ?_
      refine WO.off rfl rfl (decide_eq_false g28) rfl ?_
      refine WO.val (run_pickF rfl (decide_eq_false g28) rfl) rfl rfl rfl ?_
      refine WO.asg rfl rfl ?_
      refine WO.nil (NX.go ?_)
      refine WP.condF rfl rfl ?_
      refine WP.skip (NX.blk ?_)
      exact K3 () _ _ ⟨⟨by omega, by omega, fun h => absurd h.1 (by omega)⟩, hS1⟩ (Sub.cons rfl (Sub.cons rfl (Sub.nil _)))
end Go.Proofs.YtiggkfaonnnjoaaGreatDoor.SL

/- Texts at the front of bytes. -/
namespace Go.Proofs.YtiggkfaonnnjoaaGreatDoor.SL
open Go.RowKit Go.Proofs.YtiggkfaonnnjoaaGreatDoor
open Go.Proofs.YtiggkfaonnnjoaaGreatDoorW.PrintLast (rtab opsOf)
set_option linter.unusedVariables false
set_option linter.unusedSimpArgs false

def getText (s : List UInt8) (most : Int) : List UInt8 × Nat × Int :=
  if ¬ (getNum s).2.2 = 0 then ([], 0, (getNum s).2.2) else if most < 0 ∨ most < ((getNum s).1 : Int) then ([], 0, 8) else if s.length - (getNum s).2.1 < (getNum s).1 then ([], 0, 1) else ((s.drop (getNum s).2.1).take (getNum s).1, (getNum s).2.1 + (getNum s).1, 0)
theorem getNum_ok {s : List UInt8} (h : (getNum s).2.2 = 0) : (getNum s).2.1 ≤ s.length ∧ (getNum s).1 < 18446744073709551616 := by
  cases s with
  | nil => simp [getNum] at h
  | cons c rest =>
    simp only [getNum] at h ⊢
    split
    · rename_i h1; rw [if_pos h1] at h; cases h
    · rename_i h1; rw [if_neg h1] at h
      split
      · rename_i h2; rw [if_pos h2] at h; cases h
      · rename_i h2; rw [if_neg h2] at h
        split
        · rename_i h3; rw [if_pos h3] at h; cases h
        · refine ⟨by simp; omega, ?_⟩
          have := beN_lt 8 (rest.take c.toNat) (by rw [List.length_take]; omega)
          exact this
theorem getText_spec {B w : World} {L : List HP} (s : List UInt8) (most : Int) (hs : s.length ≤ 140737488355328) (hm : most ≤ 9223372036854775807) (hS : St B L w) : Does Tryz.prog 57 [str s, Value.int .i64 most] w (fun v w1 => v = .tuple #[str (getText s most).1, .int .i64 ((getText s most).2.1 : Int), .int .i64 (getText s most).2.2] ∧ St B L w1) := by
 refine enter (n := 47) Tryz.func57 rfl rfl [str s, Value.int .i64 most] rfl ?_
 refine WP.seq (WP.region rfl ?_)
 refine WO.asg rfl rfl ?_
 refine WO.asg rfl rfl ?_
 refine WO.asg rfl rfl ?_
 refine WO.nil (NX.go (WP.seq (WP.region rfl ?_)))
 refine WO.mv rfl rfl ?_
 refine WO.call rfl rfl Ty.hd65 rfl (getNum_spec s hs hS) (fun v2 w1 pv2 => ?_)
 obtain ⟨rfl, hS1⟩ := pv2
 clear hS
 refine WO.mv rfl rfl ?_
 refine WO.val (run_extract rfl rfl) rfl rfl rfl ?_
 refine WO.val (run_extract rfl rfl) rfl rfl rfl ?_
 refine WO.val (run_extract rfl rfl) rfl rfl rfl ?_
 refine WO.asg rfl rfl ?_
 refine WO.asg rfl rfl ?_
 refine WO.asg rfl rfl ?_
 refine WO.nil (NX.go (WP.seq (WP.block (WP.seq (WP.region rfl ?_)))))
 refine WO.mv rfl rfl ?_
 refine WO.val (run_neq rfl rfl) rfl rfl rfl ?_
 refine WO.asg rfl rfl ?_
 refine WO.nil (NX.go ?_)
 refine WP.condP rfl (fun g17 => ?_) (fun g17 => ?_)
 ·
  refine WP.seq (WP.region rfl ?_)
  refine WO.mv rfl rfl ?_
  refine WO.asg rfl rfl ?_
  refine WO.asg rfl rfl ?_
  refine WO.asg rfl rfl ?_
  refine WO.nil (NX.go (WP.ret (NX.blkRet (NX.thenRet ?_))))
  refine NX.done (l := [.tmp 4, .tmp 5, .tmp 6]) rfl rfl ?_
  exact ⟨by rw [getText, if_pos g17]; rfl, hS1⟩
 ·
  have hok := getNum_ok (s := s) (Decidable.of_not_not g17)
  refine WP.seq (WP.region rfl ?_)
  refine WO.mv rfl rfl ?_
  refine WO.val (run_lss rfl rfl) rfl rfl rfl ?_
  refine WO.mv rfl rfl ?_
  by_cases g24 : most < 0
  ·
   refine WO.off rfl rfl (decide_eq_true g24) rfl ?_
   refine WO.off rfl rfl (decide_eq_true g24) rfl ?_
   refine WO.off rfl rfl (decide_eq_true g24) rfl ?_
   refine WO.off rfl rfl (decide_eq_true g24) rfl ?_
   refine WO.val (run_pickT rfl (decide_eq_true g24) rfl) rfl rfl rfl ?_
   refine WO.asg rfl rfl ?_
   refine WO.nil (NX.go ?_)
   refine WP.condT rfl rfl ?_
   refine WP.seq (WP.region rfl ?_)
   refine WO.asg rfl rfl ?_
   refine WO.asg rfl rfl ?_
   refine WO.asg rfl rfl ?_
   refine WO.nil (NX.go (WP.ret (NX.blkRet (NX.thenRet ?_))))
   refine NX.done (l := [.tmp 4, .tmp 5, .tmp 6]) rfl rfl ?_
   exact ⟨by rw [getText, if_neg (fun h => g17 h), if_pos (by omega)]; rfl, hS1⟩
  ·
   refine WO.on rfl rfl (decide_eq_false g24) ?_
   refine WO.mv rfl rfl ?_
   refine WO.on rfl rfl (decide_eq_false g24) ?_
   refine WO.mv rfl rfl ?_
   refine WO.on rfl rfl (decide_eq_false g24) ?_
   refine WO.val (run_convI Tryz.underlying24 (by kernel_rfl) rfl (IntWalk.u64_in _ (by omega))) rfl rfl rfl ?_
   refine WO.on rfl rfl (decide_eq_false g24) ?_
   refine WO.val (run_gtr rfl rfl) rfl rfl rfl ?_
   refine WO.val (run_pickF rfl (decide_eq_false g24) rfl) rfl rfl rfl ?_
   refine WO.asg rfl rfl ?_
   refine WO.nil (NX.go ?_)
   refine WP.condP rfl (fun g21 => ?_) (fun g21 => ?_)
   ·
    refine WP.seq (WP.region rfl ?_)
    refine WO.asg rfl rfl ?_
    refine WO.asg rfl rfl ?_
    refine WO.asg rfl rfl ?_
    refine WO.nil (NX.go (WP.ret (NX.blkRet (NX.thenRet ?_))))
    refine NX.done (l := [.tmp 4, .tmp 5, .tmp 6]) rfl rfl ?_
    exact ⟨by rw [getText, if_neg (fun h => g17 h), if_pos (by omega)]; rfl, hS1⟩
   ·
    refine WP.seq (WP.region rfl ?_)
    refine WO.mv rfl rfl ?_
    refine WO.mv rfl rfl ?_
    refine WO.val (run_lenS rfl Tryz.underlying9 rfl) rfl rfl rfl ?_
    refine WO.mv rfl rfl ?_
    refine WO.val (run_sub rfl rfl (IntWalk.i64_in _ (by omega))) rfl rfl rfl ?_
    refine WO.val (run_convI Tryz.underlying24 (by kernel_rfl) rfl (IntWalk.u64_in _ (by omega))) rfl rfl rfl ?_
    refine WO.val (run_gtr rfl rfl) rfl rfl rfl ?_
    refine WO.asg rfl rfl ?_
    refine WO.nil (NX.go ?_)
    refine WP.condP rfl (fun g30 => ?_) (fun g30 => ?_)
    ·
     refine WP.seq (WP.region rfl ?_)
     refine WO.asg rfl rfl ?_
     refine WO.asg rfl rfl ?_
     refine WO.asg rfl rfl ?_
     refine WO.nil (NX.go (WP.ret (NX.blkRet (NX.thenRet ?_))))
     refine NX.done (l := [.tmp 4, .tmp 5, .tmp 6]) rfl rfl ?_
     exact ⟨by rw [getText, if_neg (fun h => g17 h), if_neg (by omega), if_pos (by omega)]; rfl, hS1⟩
    ·
     refine WP.skip (NX.blk (NX.go (WP.seq (WP.region rfl ?_))))
     refine WO.mv rfl rfl ?_
     refine WO.mv rfl rfl ?_
     refine WO.val (run_convI Tryz.underlying3 (by kernel_rfl) rfl (IntWalk.i64_in _ (by omega))) rfl rfl rfl ?_
     refine WO.val (run_add rfl rfl (IntWalk.i64_in _ (by omega))) rfl rfl rfl ?_
     refine WO.asg rfl rfl ?_
     refine WO.nil (NX.go (WP.seq (WP.region rfl ?_)))
     refine WO.mv rfl rfl ?_
     refine WO.mv rfl rfl ?_
     refine WO.mv rfl rfl ?_
     refine WO.val (run_sliceS (i := (getNum s).2.1) (j := ((getNum s).2.1 + (getNum s).1)) Tryz.underlying9 rfl ⟨_, rfl⟩ ⟨_, rfl⟩ (by omega) (by omega) rfl) rfl rfl rfl ?_
     refine WO.mv rfl rfl ?_
     refine WO.asg rfl rfl ?_
     refine WO.asg rfl rfl ?_
     refine WO.asg rfl rfl ?_
     refine WO.nil (NX.go (WP.ret ?_))
     refine NX.done (l := [.tmp 4, .tmp 5, .tmp 6]) rfl rfl ?_
     exact ⟨by rw [getText, if_neg (fun h => g17 h), if_neg (by omega), if_neg (by omega), List.drop_take, Nat.add_sub_cancel_left, Int.natCast_add]; rfl, hS1⟩
end Go.Proofs.YtiggkfaonnnjoaaGreatDoor.SL

/- Signed numbers as bytes. -/
namespace Go.Proofs.YtiggkfaonnnjoaaGreatDoor.SL
open Go.RowKit Go.Proofs.YtiggkfaonnnjoaaGreatDoor
open Go.Proofs.YtiggkfaonnnjoaaGreatDoorW.PrintLast (rtab opsOf)
set_option linter.unusedVariables false
set_option linter.unusedSimpArgs false

/-- A signed number as a number: the lowest bit is the sign. -/
def zig (n : Int) : Nat := if 0 ≤ n then (2 * n).toNat else (-(2 * n) - 1).toNat
def zag (m : Nat) : Int := if m % 2 = 0 then ((m / 2 : Nat) : Int) else -((m / 2 : Nat) : Int) - 1
theorem ones_xor (b : BitVec 64) : (b ^^^ BitVec.ofInt 64 (-1)).toNat = 18446744073709551615 - b.toNat := by
  rw [show BitVec.ofInt 64 (-1) = BitVec.allOnes 64 by decide, BitVec.xor_allOnes, BitVec.toNat_not]
theorem ones_xor' (b : BitVec 64) : (b ^^^ BitVec.ofInt 64 18446744073709551615).toNat = 18446744073709551615 - b.toNat := by
  rw [show BitVec.ofInt 64 18446744073709551615 = BitVec.allOnes 64 by decide, BitVec.xor_allOnes, BitVec.toNat_not]
theorem zig_shl (n : Int) : IntKind.u64.wrap (n % 18446744073709551616 * 2 ^ (min (1 : Int).toNat IntKind.u64.bits)) = 2 * n % 18446744073709551616 := by
  rw [show (min (1 : Int).toNat IntKind.u64.bits) = 1 by decide, IntKind.wrap_u64]; omega
theorem zig_xor {n : Int} (h1 : -9223372036854775808 ≤ n) (h2 : n ≤ 9223372036854775807) : bits .xor .u64 (2 * n % 18446744073709551616) (n / 9223372036854775808 % 18446744073709551616) = (zig n : Int) := by
  unfold zig
  rcases Int.lt_or_le n 0 with h | h
  · rw [if_neg (by omega), show n / 9223372036854775808 % 18446744073709551616 = 18446744073709551615 by omega]
    show IntKind.u64.wrap ((BitVec.ofInt 64 (2 * n % 18446744073709551616) ^^^ BitVec.ofInt 64 18446744073709551615).toNat : Int) = _
    rw [ones_xor', IntKind.wrap_u64, show 2 * n % 18446744073709551616 = (((2 * n % 18446744073709551616).toNat : Nat) : Int) by omega, ofInt_u64 _ (by omega)]
    omega
  · rw [if_pos h, show n / 9223372036854775808 % 18446744073709551616 = ((0 : Nat) : Int) by omega, show 2 * n % 18446744073709551616 = (((2 * n).toNat : Nat) : Int) by omega, u64_xor_nat _ _ (by omega) (by omega), Nat.xor_zero]
theorem zig_lt {n : Int} (h1 : -9223372036854775808 ≤ n) (h2 : n ≤ 9223372036854775807) : zig n < 18446744073709551616 := by unfold zig; split <;> omega
theorem zag_xor {m : Nat} (h : m < 18446744073709551616) : bits .xor .i64 ((m / 2 : Nat) : Int) (0 - ((m % 2 : Nat) : Int)) = zag m := by
  unfold zag
  rcases Nat.mod_two_eq_zero_or_one m with e | e
  · rw [e, if_pos rfl]
    show IntKind.i64.wrap ((BitVec.ofInt 64 ((m / 2 : Nat) : Int) ^^^ BitVec.ofInt 64 0).toNat : Int) = _
    rw [show BitVec.ofInt 64 0 = 0#64 by decide, BitVec.xor_zero, ofInt_u64 _ (by omega)]
    exact IntWalk.i64_in _ (by omega)
  · rw [e, if_neg (by omega)]
    show IntKind.i64.wrap ((BitVec.ofInt 64 ((m / 2 : Nat) : Int) ^^^ BitVec.ofInt 64 (-1)).toNat : Int) = _
    rw [ones_xor, ofInt_u64 _ (by omega), IntKind.wrap_i64]
    omega
theorem andOne {m : Nat} (h : m < 18446744073709551616) : bits .and .u64 (m : Int) 1 = ((m % 2 : Nat) : Int) := by
  rw [show (1 : Int) = ((1 : Nat) : Int) from rfl, u64_and_nat _ _ h (by decide), nat_mask1]
theorem getNum_lt (s : List UInt8) : (getNum s).1 < 18446744073709551616 := by
  by_cases h : (getNum s).2.2 = 0
  · exact (getNum_ok h).2
  · cases s with
    | nil => decide
    | cons c r =>
      simp only [getNum] at h ⊢
      split
      · decide
      · split
        · decide
        · split
          · decide
          · rename_i h1 h2 h3; exact absurd (by rw [if_neg h1, if_neg h2, if_neg h3]) h
end Go.Proofs.YtiggkfaonnnjoaaGreatDoor.SL
