/- The law NetBound as a contract. -/
import Derived.Test.YtcdbnbdeinhokaaNx7
import Derived.Deep.LoopGhost
namespace Go.Proofs.Ytcdbnbdeinhokaa.Nx
open Go.RowKit
open Go.Proofs.Ytcdbnbdeinhokaa.Xb Go.Proofs.Ytcdbnbdeinhokaa.Nb
open Go.Proofs.YtcdbnbdeinhokaaW.PrintLast (i64_w i32_w)
set_option linter.unusedSimpArgs false
set_option linter.unusedVariables false
theorem take_none {base : Nat} {w : World} {g : Nat} {L : List PV} {gone : Int} (h : Net base w g L gone) (hl : L.length ≤ 64) (i : Int) (hi : i < 0 ∨ (L.length : Int) ≤ i) :
    Calls Try.prog 10 #[.pointer (some ⟨g, 0, none⟩), .int .i64 i] w fun e w' => AtNone e ∧ w = w' := by
  have H := Asd.mk h; clear h
  have HI := Asd.mk hi; clear hi
  go_enter Try.func10, Try.ntmps10
  go_wp2_with fail
  refine (at_none H.out hl i HI.out).mono ?_; rintro e w1 ⟨rfl, rfl⟩
  go_wp2
  go_ret3
  exact ⟨rfl, rfl⟩
theorem wrap_u64 (x : Int) : IntKind.u64.wrap x = x % 18446744073709551616 := by simp [IntKind.wrap, IntKind.bits, IntKind.signed]
/-- A slice of ints that came in: each element's cell. -/
def Ints (w : World) (a : Option Addr) (len : Nat) : Prop := ∀ i, i < len → ∃ b off v, a = some ⟨b, off, none⟩ ∧ w.cell? ⟨b, off + i, none⟩ = some (.int .i64 v)
theorem keepcell {w w1 : World} (h : Below w.heap.size w w1) {a : Addr} {v : Value} (hc : w.cell? a = some v) : w1.cell? a = some v := (h.cell (World.block_lt_of_cell? w a hc)).trans hc
theorem cut_num (x : Int) (m : Int) (h0 : 1 ≤ m) (h1 : m ≤ 1000000) : ∃ E, wrap64 ((IntKind.u64.wrap x).tmod m) = E ∧ 0 ≤ E ∧ E < m := by
  refine ⟨_, rfl, ?_⟩
  rw [wrap_u64, Int.tmod_eq_emod_of_nonneg (by omega)]
  have a := Int.emod_nonneg (x % 18446744073709551616) (b := m) (by omega)
  have b := Int.emod_lt_of_pos (x % 18446744073709551616) (b := m) (by omega)
  unfold wrap64; omega
/-- A Net of so many parcels, so many gone. -/
def NetN (base g m gn : Nat) (wr : World) : Prop := ∃ L, Net base wr g L (gn : Int) ∧ L.length = m
def BRel (g q k m gn : Nat) (w wr : World) : Prop := k ≤ 30 ∧ q + k = 31 ∧ m ≤ 64 ∧ gn ≤ k * 30 ∧ NetN w.heap.size g m gn wr ∧ Below w.heap.size w wr
def JRel (g q j k m gn : Nat) (n : Int) (w wr : World) : Prop := (j : Int) ≤ n ∧ q + j = 31 ∧ m ≤ 64 ∧ gn ≤ k * 30 + j ∧ NetN w.heap.size g m gn wr ∧ Below w.heap.size w wr
theorem netN_below {base g m gn : Nat} {w w1 : World} (h : NetN base g m gn w) (hb : Below w.heap.size w w1) : NetN base g m gn w1 := by
  obtain ⟨L, h, hl⟩ := h; exact ⟨L, h.below hb, hl⟩
theorem sendN_ok {base g m gn : Nat} {w : World} (h : NetN base g m gn w) (hm : m < 64) (tt : Int) (ht : tt = 0 ∨ tt = 1) :
    Calls Try.prog 9 #[.pointer (some ⟨g, 0, none⟩), .int .i64 tt, .string ⟨#[120]⟩] w fun e w' => e = .returned (.bool true) ∧ NetN base g (m + 1) gn w' ∧ NChg base w w' := by
  obtain ⟨L, h, rfl⟩ := h
  refine (send_ok h hm tt ⟨#[120]⟩ ht (by decide)).mono ?_
  rintro e w' ⟨h1, bv, h2, h3⟩
  exact ⟨h1, ⟨_, h2, by simp⟩, h3⟩
theorem sendN_full {base g m gn : Nat} {w : World} (h : NetN base g m gn w) (hm : m = 64) (hg : gn ≤ 10000) (tt : Int) (ht : tt = 0 ∨ tt = 1) :
    Calls Try.prog 9 #[.pointer (some ⟨g, 0, none⟩), .int .i64 tt, .string ⟨#[120]⟩] w fun e w' => e = .returned (.bool false) ∧ NetN base g m (gn + 1) w' ∧ NChg base w w' := by
  obtain ⟨L, h, hl⟩ := h
  refine (send_full h (hl.trans hm) tt ⟨#[120]⟩ ht).mono ?_
  rintro e w' ⟨h1, h2, h3⟩
  rw [show wrap64 ((gn : Int) + 1) = ((gn + 1 : Nat) : Int) by unfold wrap64; omega] at h2
  exact ⟨h1, ⟨_, h2, hl⟩, h3⟩
theorem lenN {base g m gn : Nat} {w : World} (h : NetN base g m gn w) (hm : m ≤ 64) :
    Calls Try.prog 11 #[.pointer (some ⟨g, 0, none⟩)] w fun e w' => e = .returned (.int .i64 (m : Int)) ∧ w = w' := by
  obtain ⟨L, h, rfl⟩ := h
  exact len_any h hm
theorem goneN {base g m gn : Nat} {w : World} (h : NetN base g m gn w) :
    Calls Try.prog 12 #[.pointer (some ⟨g, 0, none⟩)] w fun e w' => e = .returned (.int .i64 (gn : Int)) ∧ w = w' := by
  obtain ⟨L, h, rfl⟩ := h
  exact gone_any h
theorem takeN_some {base g m gn : Nat} {w : World} (h : NetN base g m gn w) (hm : m ≤ 64) (i : Nat) (hi : i < m) :
    Calls Try.prog 10 #[.pointer (some ⟨g, 0, none⟩), .int .i64 (i : Int)] w fun e w' => (∃ (t : Int) (s : ByteArray), e = .returned (.tuple #[.int .i64 t, .string s, .int .i64 0])) ∧ NetN base g (m - 1) gn w' ∧ NChg base w w' := by
  obtain ⟨L, h, rfl⟩ := h
  obtain ⟨k, hk⟩ : ∃ k, L.length = k + 1 := ⟨L.length - 1, by omega⟩
  refine (take_some h hk (by omega) i (List.getElem?_eq_getElem hi) (List.getElem?_eq_getElem (i := k) (by omega))).mono ?_
  rintro e w' ⟨h1, h2, h3⟩
  exact ⟨⟨_, _, h1⟩, ⟨_, h2, by rw [List.length_take, List.length_set]; omega⟩, h3⟩
theorem takeN_none {base g m gn : Nat} {w : World} (h : NetN base g m gn w) (hm : m ≤ 64) (i : Nat) (hi : m ≤ i) :
    Calls Try.prog 10 #[.pointer (some ⟨g, 0, none⟩), .int .i64 (i : Int)] w fun e w' => AtNone e ∧ w = w' := by
  obtain ⟨L, h, rfl⟩ := h
  exact take_none h hm _ (.inr (by omega))
set_option maxHeartbeats 4000000 in
set_option maxRecDepth 100000 in
theorem bound_core (aA : Option Addr) (len cap : Nat) (w : World) (RA : Asd (Ints w aA len)) :
    Calls Try.prog 4 #[.slice aA len cap] w fun e w' => e = .returned (.bool true) ∧ Below w.heap.size w w' := by
  go_enter Try.func4, Try.ntmps4
  go_wp2_with fail
  refine (works_any _).mono ?_; rintro en w1 ⟨rfl, hb⟩
  have B := Asd.mk hb; clear hb
  go_wp2_with fail
  refine (new_any _).mono ?_; rintro en w2 ⟨rfl, hk, hb⟩
  have h_ := below_step B.out hb
  have n_ : NetN w.heap.size w1.heap.size 0 0 w2 := ⟨[], net_new hk B.out.size, rfl⟩
  clear B hb hk
  obtain ⟨g, hg⟩ : ∃ g, g = w1.heap.size := ⟨_, rfl⟩
  rw [← hg] at n_ ⊢; clear hg
  have B := Asd.mk h_; have N := Asd.mk n_; clear h_ n_
  go_wp2_with fail
  go_loopg [4, 5, 6] 31 (fun q l_ go_ i_ wr => ∃ (m gn k : Nat), l_ = .int .i64 (m : Int) ∧ go_ = .int .i64 (gn : Int) ∧ i_ = .int .i64 (k : Int) ∧ BRel g q k m gn w wr)
  case atStart => exact ⟨0, 0, 0, rfl, rfl, rfl, by omega, by omega, by omega, by omega, N.out, B.out⟩
  case round =>
    obtain ⟨m, gn, k, rfl, rfl, rfl, r1, r2, r3, r4, r5, r6⟩ := hrel
    clear N B
    have N := Asd.mk r5; have B := Asd.mk r6; clear r5 r6
    obtain ⟨q1, hq1⟩ : ∃ q1, q1 = gk := ⟨_, rfl⟩; rw [← hq1] at r2; have HQ := Asd.mk hq1; clear hq1
    have R2 := Asd.mk r2; clear r2
    have d6 : decide ((m : Int) ≤ 64) = true := decide_eq_true (by omega)
    by_cases hl : k < len
    · by_cases hlt : k < 30
      · obtain ⟨bA, oA, vA, rfl, cA⟩ := RA.out k hl
        obtain ⟨n, hn, n1, n2⟩ := cut_num vA 30 (by omega) (by omega)
        have d3 : decide ((k : Int) < 30) = true := decide_eq_true (by omega)
        go_wp2_with fail
        go_loopg [4, 5, 7] 31 (fun q l_ go_ j_ wr2 => ∃ (m gn j : Nat), l_ = .int .i64 (m : Int) ∧ go_ = .int .i64 (gn : Int) ∧ j_ = .int .i64 (j : Int) ∧ JRel g q j k m gn n w wr2)
        case atStart => exact ⟨m, gn, 0, rfl, rfl, rfl, by omega, by omega, by omega, by omega, N.out, B.out⟩
        case round =>
          obtain ⟨m1, gn1, j, rfl, rfl, rfl, t1, t2, t3, t4, t5, t6⟩ := hrel
          clear N B
          have N := Asd.mk t5; have B := Asd.mk t6; clear t5 t6
          have T2 := Asd.mk t2; clear t2
          have cA' := keepcell B.out cA
          by_cases hj : (j : Int) < n
          · by_cases hm : m1 < 64
            · have dm : decide ((m1 : Int) < 64) = true := decide_eq_true (by omega)
              go_wp2_with fail
              refine (sendN_ok N.out hm _ (by omega)).mono ?_; rintro en w4 ⟨rfl, hn4, hc⟩
              have h_ := NChg.below B.out hc
              clear N B hc; have N := Asd.mk hn4; have B := Asd.mk h_; clear hn4 h_
              go_wp2
              go_roundg (gk - 1)
              case measure => have := T2.out; omega
              case rel => exact ⟨m1 + 1, gn1, j + 1, by go_num, rfl, by go_num, by omega, (by have := T2.out; omega), by omega, by omega, N.out, B.out⟩
            · have dm : decide ((m1 : Int) < 64) = false := decide_eq_false (by omega)
              go_wp2_with fail
              refine (sendN_full N.out (by omega) (by omega) _ (by omega)).mono ?_; rintro en w4 ⟨rfl, hn4, hc⟩
              have h_ := NChg.below B.out hc
              clear N B hc; have N := Asd.mk hn4; have B := Asd.mk h_; clear hn4 h_
              go_wp2
              go_roundg (gk - 1)
              case measure => have := T2.out; omega
              case rel => exact ⟨m1, gn1 + 1, j + 1, rfl, by go_num, by go_num, by omega, (by have := T2.out; omega), by omega, by omega, N.out, B.out⟩
          · go_wp2_with fail
            refine (lenN N.out (by omega)).mono ?_; rintro en w_ ⟨rfl, rfl⟩
            go_wp2_with fail
            refine (goneN N.out).mono ?_; rintro en w_ ⟨rfl, rfl⟩
            go_wp2_with fail
            by_cases ht : k < m1
            · refine (takeN_some N.out (by omega) k ht).mono ?_; rintro en w4 ⟨⟨tq, sq, rfl⟩, hn4, hc⟩
              have h_ := NChg.below B.out hc
              clear N B hc; have N := Asd.mk hn4; have B := Asd.mk h_; clear hn4 h_
              go_wp2
              go_roundg (q1 - 1)
              case measure => have := R2.out; have := HQ.out; omega
              case rel => exact ⟨m1 - 1, gn1, k + 1, by go_num, rfl, by go_num, by omega, (by have := R2.out; omega), by omega, by omega, N.out, B.out⟩
            · refine (takeN_none N.out (by omega) k (by omega)).mono ?_; rintro en w_ ⟨rfl, rfl⟩
              go_wp2
              go_roundg (q1 - 1)
              case measure => have := R2.out; have := HQ.out; omega
              case rel => exact ⟨m1, gn1, k + 1, rfl, rfl, by go_num, by omega, (by have := R2.out; omega), by omega, by omega, N.out, B.out⟩
      · go_wp2_with fail
        refine (lenN N.out (by omega)).mono ?_; rintro en w_ ⟨rfl, rfl⟩
        go_wp2
        go_ret
        exact ⟨rfl, B.out⟩
    · go_wp2_with fail
      refine (lenN N.out (by omega)).mono ?_; rintro en w_ ⟨rfl, rfl⟩
      go_wp2
      go_ret
      exact ⟨rfl, B.out⟩
end Go.Proofs.Ytcdbnbdeinhokaa.Nx
