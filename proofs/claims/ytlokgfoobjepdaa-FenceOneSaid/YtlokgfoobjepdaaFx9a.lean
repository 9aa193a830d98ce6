/- The words of FenceOne, and its plain law. -/
import Derived.Test.YtlokgfoobjepdaaFx8
import Derived.Deep.LoopGhost
import Derived.Deep.DeepCutAuto
import Derived.Deep.CutBlock
import Derived.Deep.RegionHeld3
import Derived.Deep.QuietTactic
import Derived.BigQuiet
namespace Go.Proofs.Ytlokgfoobjepdaa.Fx
open Go.RowKit
open Go.Proofs.Ytlokgfoobjepdaa.Xb (Asd Blk below_alloc below_drew below_drewN below_step below_set)
open Go.Proofs.YtlokgfoobjepdaaW.PrintLast (start_ take_ pure_ one_ two_ last_ norm_ goes_ done_ done_of any_of one_of two_of take_ofW with_tabW rtab waitsOk opsOf i64_w i32_w)
set_option linter.unusedSimpArgs false
set_option linter.unusedVariables false
/-- A slice of acts that came in. -/
def Acts (w : World) (a : Option Addr) (len : Nat) : Prop := ∀ i, i < len → ∃ b off v0 v1 v2, a = some ⟨b, off, none⟩ ∧ w.cell? ⟨b, off + i * 3, none⟩ = some (.int .i64 v0) ∧ w.cell? ⟨b, off + i * 3 + 1, none⟩ = some (.int .i64 v1) ∧ w.cell? ⟨b, off + i * 3 + 2, none⟩ = some (.int .i64 v2)
/-- What holds of one node: its epoch, base and promise. -/
def NodeOk (k : Nat) (A B P : Int) : Prop := 1 ≤ A ∧ A ≤ k + 1 ∧ 0 ≤ B ∧ B ≤ 999 ∧ A ≤ P ∧ P ≤ A + 1
def BothOk (k : Nat) (A0 B0 P0 A1 B1 P1 : Int) : Prop := NodeOk k A0 B0 P0 ∧ NodeOk k A1 B1 P1 ∧ A0 ≤ A1 + 1 ∧ A1 ≤ A0 + 1 ∧ (A0 = A1 + 1 → lead A0 = 0) ∧ (A1 = A0 + 1 → lead A1 = 1)
def OneRel (g q k : Nat) (A0 B0 P0 A1 B1 P1 : Int) (w wr : World) : Prop := k ≤ 100 ∧ q + k = 101 ∧ BothOk k A0 B0 P0 A1 B1 P1 ∧ Blk wr g #[.int .i64 A0, .int .i64 B0, .int .i64 P0, .int .i64 A1, .int .i64 B1, .int .i64 P1] 27 ∧ Below w.heap.size w wr
theorem cut_num (x : Int) (m : Int) (h0 : 1 ≤ m) (h1 : m ≤ 1000000) : ∃ E, wrap64 ((IntKind.u64.wrap x).tmod m) = E ∧ 0 ≤ E ∧ E < m := by
  refine ⟨_, rfl, ?_⟩
  rw [wrap_u64, Int.tmod_eq_emod_of_nonneg (by omega)]
  have a := Int.emod_nonneg (x % 18446744073709551616) (b := m) (by omega)
  have b := Int.emod_lt_of_pos (x % 18446744073709551616) (b := m) (by omega)
  unfold wrap64; omega
theorem judge_old {e b p n : Int} {t : Bool} (h1 : 1 ≤ e) (h2 : e ≤ 99999998) (h3 : 0 ≤ b) (h4 : b ≤ 99999999) (h5 : e ≤ p) (h6 : p ≤ e + 1) (hn : withinB n 0 1 = true) : judgeI e b p n (p - 1) t = 3 := by
  rw [judge_eq ((rightB_iff _ _ _).2 (by omega)) hn, if_pos (by omega)]
theorem writes_one {e f b p x y : Int} (he : e = f) (h : writesB e x y 0 = true) : writesB f b p 1 = false := by
  unfold writesB at *
  subst he
  simp only [Bool.and_eq_true, beq_iff_eq] at h
  have : (lead e == 1) = false := beq_eq_false_iff_ne.2 (by omega)
  rw [this]; simp
theorem writes_pick {e b p n : Int} {r : Bool} (h : writesB e b p n = r) (w : World) :
    Calls Try.prog 14 #[.agg #[.int .i64 e, .int .i64 b, .int .i64 p], .int .i64 n] w fun en w' => en = .returned (.bool r) ∧ Below w.heap.size w w' := writes_at h w
theorem bothOk_start : BothOk 0 1 0 1 1 0 1 := by unfold BothOk NodeOk; omega
/-- Behind the act: node c may have gone on by one epoch. -/
def MidRel (c : Int) (g ga k : Nat) (A0 B0 P0 A1 B1 P1 E0 F0 Q0 E1 F1 Q1 : Int) (w wx : World) : Prop := BothOk (k + 1) E0 F0 Q0 E1 F1 Q1 ∧
  (c = 0 → (A0 ≤ E0 ∧ E0 ≤ A0 + 1 ∧ P0 ≤ Q0) ∧ Blk wx ga #[.int .i64 A0, .int .i64 B0, .int .i64 P0] 27) ∧ (c = 1 → (A1 ≤ E1 ∧ E1 ≤ A1 + 1 ∧ P1 ≤ Q1) ∧ Blk wx ga #[.int .i64 A1, .int .i64 B1, .int .i64 P1] 27) ∧
  Blk wx g #[.int .i64 E0, .int .i64 F0, .int .i64 Q0, .int .i64 E1, .int .i64 F1, .int .i64 Q1] 27 ∧ Below w.heap.size w wx
theorem mid_same {k : Nat} {A0 B0 P0 A1 B1 P1 : Int} (h : BothOk k A0 B0 P0 A1 B1 P1) : BothOk (k + 1) A0 B0 P0 A1 B1 P1 := by
  unfold BothOk NodeOk at *; omega
theorem pok_zero {e b p n l : Int} (h : pOK e b p n l = 0) : lead e ≠ n ∧ p ≤ e := by
  unfold pOK at h
  split at h
  · split at h
    · omega
    · rename_i hd
      split at h
      · omega
      · rename_i hq; exact ⟨hd, by omega⟩
  · omega
theorem mid_promote0 {k : Nat} {A0 B0 P0 A1 B1 P1 l : Int} (h : BothOk k A0 B0 P0 A1 B1 P1) (hp : pOK A0 B0 P0 0 l = 0) (l1 : 0 ≤ l) (l2 : l ≤ 999) : BothOk (k + 1) (A0 + 1) l (A0 + 1) A1 B1 P1 := by
  have := pok_zero hp
  unfold BothOk NodeOk lead at *; omega
theorem mid_promote1 {k : Nat} {A0 B0 P0 A1 B1 P1 l : Int} (h : BothOk k A0 B0 P0 A1 B1 P1) (hp : pOK A1 B1 P1 1 l = 0) (l1 : 0 ≤ l) (l2 : l ≤ 999) : BothOk (k + 1) A0 B0 P0 (A1 + 1) l (A1 + 1) := by
  have := pok_zero hp
  unfold BothOk NodeOk lead at *; omega
theorem judge_later {e b p n x : Int} (h : judgeI e b p n x true = 2) : p ≤ x ∧ x = wrap64 (e + 1) ∧ lead x ≠ n := by
  unfold judgeI at h
  split at h
  · split at h
    · omega
    · split at h
      · omega
      · split at h
        · rename_i h1 _ h3; exact ⟨by omega, h3.2.1, h3.2.2⟩
        · omega
  · omega
theorem mid_promises0 {k : Nat} {A0 B0 P0 A1 B1 P1 : Int} (h : BothOk k A0 B0 P0 A1 B1 P1) (hp : judgeI A0 B0 P0 0 A1 true = 2) : BothOk (k + 1) A0 B0 (A0 + 1) A1 B1 P1 := by
  have := judge_later hp
  unfold BothOk NodeOk at *; omega
theorem mid_promises1 {k : Nat} {A0 B0 P0 A1 B1 P1 : Int} (h : BothOk k A0 B0 P0 A1 B1 P1) (hp : judgeI A1 B1 P1 1 A0 true = 2) : BothOk (k + 1) A0 B0 P0 A1 B1 (A1 + 1) := by
  have := judge_later hp
  unfold BothOk NodeOk at *; omega
theorem mid_adopt0 {k : Nat} {A0 B0 P0 A1 B1 P1 : Int} (hk : k ≤ 100) (h : BothOk k A0 B0 P0 A1 B1 P1) (hp : judgeI A0 B0 P0 0 A1 true = 2) : BothOk (k + 1) (A0 + 1) B1 (A0 + 1) A1 B1 P1 := by
  obtain ⟨h1, h2, h3⟩ := judge_later hp
  unfold wrap64 at h2
  unfold BothOk NodeOk at *; omega
theorem mid_adopt1 {k : Nat} {A0 B0 P0 A1 B1 P1 : Int} (hk : k ≤ 100) (h : BothOk k A0 B0 P0 A1 B1 P1) (hp : judgeI A1 B1 P1 1 A0 true = 2) : BothOk (k + 1) A0 B0 P0 (A1 + 1) B0 (A1 + 1) := by
  obtain ⟨h1, h2, h3⟩ := judge_later hp
  unfold wrap64 at h2
  unfold BothOk NodeOk at *; omega
theorem keepcell {w w1 : World} (h : Below w.heap.size w w1) {a : Addr} {v : Value} (hc : w.cell? a = some v) : w1.cell? a = some v := (h.cell (World.block_lt_of_cell? w a hc)).trans hc
abbrev X0 : Array Bool := #[false, false, false, false, false, false, false, false, false, false, false, false, false, false, false, false, false]
abbrev X1 : Array Bool := #[true, false, false, false, false, false, false, false, false, false, false, false, false, false, false, false, false]
abbrev X2 : Array Bool := #[true, true, false, false, false, false, false, false, false, false, false, false, false, false, false, false, false]
abbrev X3 : Array Bool := #[true, true, true, false, false, false, false, false, false, false, false, false, false, false, false, false, false]
abbrev X4 : Array Bool := #[true, true, true, false, true, false, false, false, false, false, false, false, false, false, false, false, false]
abbrev X5 : Array Bool := #[true, true, true, false, true, true, false, false, false, false, false, false, false, false, false, false, false]
abbrev X6 : Array Bool := #[true, true, true, true, true, true, false, false, false, false, false, false, false, false, false, false, false]
abbrev X7 : Array Bool := #[true, true, true, true, true, true, true, false, false, false, false, false, false, false, false, false, false]
abbrev X8 : Array Bool := #[true, true, true, true, true, true, true, true, false, false, false, false, false, false, false, false, false]
abbrev X9 : Array Bool := #[true, true, true, true, true, true, true, true, true, false, false, false, false, false, false, false, false]
abbrev X10 : Array Bool := #[true, true, true, true, true, true, true, true, true, true, false, false, false, false, false, false, false]
abbrev X11 : Array Bool := #[true, true, true, true, true, true, true, true, true, true, true, false, false, false, false, false, false]
abbrev X12 : Array Bool := #[true, true, true, true, true, true, true, true, true, true, false, false, false, false, true, false, false]
abbrev X13 : Array Bool := #[true, true, true, true, true, true, true, true, true, true, true, true, false, false, false, false, false]
abbrev X14 : Array Bool := #[true, true, true, true, true, true, true, true, true, true, true, true, true, false, false, false, false]
abbrev X15 : Array Bool := #[true, true, true, true, true, true, true, true, true, true, true, true, true, true, false, false, false]
abbrev X16 : Array Bool := #[true, true, true, true, true, true, true, true, true, true, true, true, true, true, true, false, false]
abbrev X17 : Array Bool := #[true, true, true, true, true, true, true, true, true, true, true, true, true, true, true, true, false]
abbrev X18 : Array Bool := #[true, true, true, true, true, true, true, true, true, true, true, true, true, true, true, true, true]
abbrev X19 : Array Bool := #[true, true, true, true, true, true, true, true, true, true, true, false, false, false, true, false, false]
abbrev X20 : Array Bool := #[true, true, true, true, true, true, true, true, true, true, true, true, false, false, true, false, false]
abbrev X21 : Array Bool := #[true, true, true, true, true, true, true, true, true, true, true, true, true, false, true, false, false]
abbrev X22 : Array Bool := #[false, false, false, false, false, false, false, false, false, false, false]
abbrev X23 : Array Bool := #[true, false, false, false, false, false, false, false, false, false, false]
abbrev X24 : Array Bool := #[true, true, false, false, false, false, false, false, false, false, false]
abbrev X25 : Array Bool := #[true, true, true, false, false, false, false, false, false, false, false]
abbrev X26 : Array Bool := #[true, true, true, true, false, false, false, false, false, false, false]
abbrev X27 : Array Bool := #[true, true, true, true, true, false, false, false, false, false, false]
abbrev X28 : Array Bool := #[true, true, true, true, true, false, true, false, false, false, false]
abbrev X29 : Array Bool := #[true, true, true, true, true, true, true, false, false, false, false]
abbrev X30 : Array Bool := #[true, true, true, true, true, true, true, true, false, false, false]
abbrev X31 : Array Bool := #[true, true, true, true, true, true, true, true, true, false, false]
abbrev X32 : Array Bool := #[true, true, true, true, true, true, true, true, true, true, false]
abbrev X33 : Array Bool := #[true, true, true, true, true, true, true, true, true, true, true]
abbrev X34 : Array Bool := #[false, false, false, false, false, false, false, false, false, false, false, false, false, false, false, false, false, false, false, false, false]
abbrev X35 : Array Bool := #[true, false, false, false, false, false, false, false, false, false, false, false, false, false, false, false, false, false, false, false, false]
abbrev X36 : Array Bool := #[true, true, false, false, false, false, false, false, false, false, false, false, false, false, false, false, false, false, false, false, false]
abbrev X37 : Array Bool := #[true, true, true, false, false, false, false, false, false, false, false, false, false, false, false, false, false, false, false, false, false]
abbrev X38 : Array Bool := #[true, true, true, false, true, false, false, false, false, false, false, false, false, false, false, false, false, false, false, false, false]
abbrev X39 : Array Bool := #[true, true, true, false, true, true, false, false, false, false, false, false, false, false, false, false, false, false, false, false, false]
abbrev X40 : Array Bool := #[true, true, true, false, true, true, true, false, false, false, false, false, false, false, false, false, false, false, false, false, false]
abbrev X41 : Array Bool := #[true, true, true, true, true, true, true, false, false, false, false, false, false, false, false, false, false, false, false, false, false]
abbrev X42 : Array Bool := #[true, true, true, true, true, true, true, true, false, false, false, false, false, false, false, false, false, false, false, false, false]
abbrev X43 : Array Bool := #[true, true, true, true, true, true, true, true, true, false, false, false, false, false, false, false, false, false, false, false, false]
abbrev X44 : Array Bool := #[true, true, true, true, true, true, true, true, true, true, false, false, false, false, false, false, false, false, false, false, false]
abbrev X45 : Array Bool := #[true, true, true, true, true, true, true, true, true, true, true, false, false, false, false, false, false, false, false, false, false]
abbrev X46 : Array Bool := #[true, true, true, true, true, true, true, true, true, true, true, true, false, false, false, false, false, false, false, false, false]
abbrev X47 : Array Bool := #[true, true, true, true, true, true, true, true, true, true, true, true, true, false, false, false, false, false, false, false, false]
abbrev X48 : Array Bool := #[true, true, true, true, true, true, true, true, true, true, true, true, true, true, false, false, false, false, false, false, false]
abbrev X49 : Array Bool := #[true, true, true, true, true, true, true, true, true, true, true, true, true, true, true, false, false, false, false, false, false]
abbrev X50 : Array Bool := #[true, true, true, true, true, true, true, true, true, true, true, true, true, true, true, true, false, false, false, false, false]
abbrev X51 : Array Bool := #[true, true, true, true, true, true, true, true, true, true, true, true, true, true, true, true, true, false, false, false, false]
abbrev X52 : Array Bool := #[true, true, true, true, true, true, true, true, true, true, true, true, true, true, true, true, true, true, false, false, false]
abbrev X53 : Array Bool := #[true, true, true, true, true, true, true, true, true, true, true, true, true, true, true, true, true, true, true, false, false]
abbrev X54 : Array Bool := #[true, true, true, true, true, true, true, true, true, true, true, true, true, true, true, true, true, true, true, true, false]
abbrev X55 : Array Bool := #[true, true, true, true, true, true, true, true, true, true, true, true, true, true, true, true, true, true, true, true, true]
def one13T : Bool × List (List Nat × List Nat) := (true, [([], []), ([], []), ([0, 1], [0, 1]), ([2], [2]), ([], []), ([], []), ([5], [5]), ([6], [6]), ([7], [7]), ([8], [8]), ([3, 4, 9], [3, 4, 9]), ([10], [10]), ([11], [11]), ([11], [11]), ([], []), ([14, 12, 10, 0, 1, 2, 3, 4, 5, 6, 7, 8, 9, 10, 11, 12, 14], [12, 14]), ([13, 15, 0, 1, 2, 3, 4, 5, 6, 7, 8, 9, 10, 11, 12, 13, 14, 15], [13])])
def one13B : List Nat := [0, 0, 3, 7, 0, 0, 32, 96, 224, 480, 1023, 2047, 4095, 4095, 0, 24575, 65535]
theorem one13tab : rtab .any (opsOf Try.f5 13) = one13T := by kernel_rfl
theorem one13bits : waitsOk one13T.2 one13B = true := by kernel_rfl
def one21T : Bool × List (List Nat × List Nat) := (true, [([], []), ([], []), ([], []), ([], []), ([2, 3], [2, 3]), ([4], [4]), ([], []), ([6], [6]), ([5, 7], [5, 7]), ([0, 1, 0, 1, 2, 3, 4, 5, 6, 7, 8], [0, 1]), ([9, 8, 8, 0, 1, 2, 3, 4, 5, 6, 7, 8], [8, 9])])
def one21B : List Nat := [0, 0, 0, 0, 12, 28, 0, 64, 252, 511, 1023]
theorem one21tab : rtab .any (opsOf Try.f5 21) = one21T := by kernel_rfl
theorem one21bits : waitsOk one21T.2 one21B = true := by kernel_rfl
def one25T : Bool × List (List Nat × List Nat) := (true, [([], []), ([0], [0]), ([1], [1]), ([2], [2]), ([], []), ([4], [4]), ([5], [5]), ([6], [6]), ([3, 7], [3, 7]), ([8], [8]), ([9], [9]), ([10, 9], [9, 10]), ([11, 9], [9, 11]), ([12, 9, 9], [9, 12]), ([9, 13], [9, 13]), ([14, 13], [14]), ([15], [15]), ([16, 15], [15, 16]), ([17, 15], [15, 17]), ([18, 15, 15], [15, 18]), ([15, 19], [15, 19])])
def one25B : List Nat := [0, 1, 3, 7, 0, 16, 48, 112, 255, 511, 1023, 2047, 4095, 8191, 16383, 32767, 65535, 131071, 262143, 524287, 1048575]
theorem one25tab : rtab .any (opsOf Try.f5 25) = one25T := by kernel_rfl
theorem one25bits : waitsOk one25T.2 one25B = true := by kernel_rfl
end Go.Proofs.Ytlokgfoobjepdaa.Fx
