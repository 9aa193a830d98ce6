/- Contracts of the reference's functions of fence. -/
import Derived.Test.YtlokgfoobjepdaaFx3
namespace Go.Proofs.Ytlokgfoobjepdaa.Fx
open Go.RowKit
set_option linter.unusedSimpArgs false
set_option maxHeartbeats 400000 in
theorem is_any (n : Int) (w : World) :
    Calls Try.prog 26 #[.int .i64 n] w fun en w' => en = .returned (.bool (withinB n 0 1)) ∧ w = w' := by
  go_enter Try.func26, Try.ntmps26
  go_wp2
  all_goals
    go_ret
    exact ⟨ret_bool (by rw [Bool.eq_iff_iff]; simp [withinB]; omega), rfl⟩
set_option maxHeartbeats 400000 in
theorem leader_ref (e : Int) (w : World) :
    Calls Try.prog 13 #[.int .i64 e] w fun en w' => en = .returned (.int .i64 (lead e)) ∧ w = w' := by
  go_enter Try.func13, Try.ntmps13
  go_wp2
  · have h : (e.tmod 2 == 0) = true := by assumption
    go_ret
    exact ⟨ret_int (by have := Int.emod_eq_zero_of_dvd (Int.dvd_of_tmod_eq_zero (beq_iff_eq.1 h)); unfold lead; omega), rfl⟩
  · have h : (e.tmod 2 == 0) = false := by assumption
    go_ret
    refine ⟨ret_int ?_, rfl⟩
    have h2 : ¬ e % 2 = 0 := fun hh => (beq_eq_false_iff_ne.1 h) (Int.tmod_eq_zero_of_dvd (Int.dvd_of_emod_eq_zero hh))
    unfold lead; omega
set_option maxHeartbeats 400000 in
theorem right_ref (e b p : Int) (w : World) :
    Calls Try.prog 11 #[.agg #[.int .i64 e, .int .i64 b, .int .i64 p]] w fun en w' => en = .returned (.bool (rightB e b p)) ∧ Below w.heap.size w w' := by
  go_enter Try.func11, Try.ntmps11
  go_wp2
  all_goals
    go_ret
    exact ⟨ret_bool (by rw [Bool.eq_iff_iff]; simp [rightB]; (try unfold wrap64); intros; omega), (Below.refl _ _).alloc (Nat.le_refl _) _⟩
set_option maxHeartbeats 400000 in
theorem writes_ref (e b p n : Int) (w : World) :
    Calls Try.prog 15 #[.agg #[.int .i64 e, .int .i64 b, .int .i64 p], .int .i64 n] w fun en w' => en = .returned (.bool (writesB e b p n)) ∧ Below w.heap.size w w' := by
  go_enter Try.func15, Try.ntmps15
  go_wp2_with (first
    | (go_at_call 11; refine (right_ref _ _ _ _).mono ?_; rintro en w1 ⟨rfl, hb⟩; obtain ⟨hc, hf⟩ := bcell hb; have hz : w.heap.size < w1.heap.size := (by have := hb.size; simp at this; omega))
    | (go_at_call 26; refine (is_any _ _).mono ?_; rintro en w2 ⟨rfl, rfl⟩)
    | (go_at_call 13; refine (leader_ref _ _).mono ?_; rintro en w2 ⟨rfl, rfl⟩))
  all_goals
    go_ret
    refine ⟨ret_bool (by simp [writesB, *]), ?_⟩
    repeat (first | exact Below.refl _ _ | (refine Below.setCell ?_ (by first | omega | (simp; done) | (simp; omega)) _) | (refine Below.alloc ?_ (by first | omega | (simp; done) | (simp; omega)) _) | (refine Below.trans ?_ (hb.mono (by first | omega | (simp; done) | (simp; omega)))))
set_option maxHeartbeats 400000 in
theorem judge_ref (e b p n x : Int) (t : Bool) (w : World) :
    Calls Try.prog 17 #[.agg #[.int .i64 e, .int .i64 b, .int .i64 p], .int .i64 n, .int .i64 x, .bool t] w fun en w' => en = .returned (.int .i64 (judgeI e b p n x t)) ∧ Below w.heap.size w w' := by
  cases t
  all_goals
    go_enter Try.func17, Try.ntmps17
    go_wp2_with (first
      | (go_at_call 11; refine (right_ref _ _ _ _).mono ?_; rintro en w1 ⟨rfl, hb⟩; obtain ⟨hc, hf⟩ := bcell hb; have hz : w.heap.size < w1.heap.size := (by have := hb.size; simp at this; omega))
      | (go_at_call 26; refine (is_any _ _).mono ?_; rintro en w2 ⟨rfl, rfl⟩)
      | (go_at_call 13; refine (leader_ref _ _).mono ?_; rintro en w2 ⟨rfl, rfl⟩))
    all_goals
      go_ret
      refine ⟨ret_int (by unfold judgeI; simp_all <;> omega), ?_⟩
      repeat (first | exact Below.refl _ _ | (refine Below.setCell ?_ (by first | omega | (simp; done) | (simp; omega)) _) | (refine Below.alloc ?_ (by first | omega | (simp; done) | (simp; omega)) _) | (refine Below.trans ?_ (hb.mono (by first | omega | (simp; done) | (simp; omega)))))
theorem prom_mk {e b p n l x y z : Int} (h : pOK e b p n l = x) (h1 : y = if x = 0 then wrap64 (e + 1) else 0) (h2 : z = if x = 0 then l else 0) : Prom e b p n l (.returned (.tuple #[.agg #[.int .i64 y, .int .i64 z, .int .i64 y], .int .i64 x])) := by
  unfold Prom pE pB; rw [h, h1, h2]
theorem pok_r {e b p n l : Int} (h : ¬ rightB e b p = true) : pOK e b p n l = 2 := by unfold pOK; rw [if_neg (fun c => h c.1)]
theorem pok_n {e b p n l : Int} (h : ¬ withinB n 0 1 = true) : pOK e b p n l = 2 := by unfold pOK; rw [if_neg (fun c => h c.2.1)]
theorem pok_l {e b p n l : Int} (h : l < 0 ∨ 99999999 < l) : pOK e b p n l = 2 := by
  unfold pOK; rw [if_neg]
  rintro ⟨_, _, h2⟩
  have := (withinB_iff _ _ _).1 h2; omega
theorem pok_in {e b p n l : Int} (h : rightB e b p = true) (hn : withinB n 0 1 = true) (hl : 0 ≤ l ∧ l ≤ 99999999) : pOK e b p n l = if lead e = n then 17 else if p > e ∨ e = 99999998 then 7 else 0 := by
  unfold pOK; rw [if_pos ⟨h, hn, (withinB_iff _ _ _).2 hl⟩]
theorem pok_17 {e b p n l : Int} (h : rightB e b p = true) (hn : withinB n 0 1 = true) (hl : 0 ≤ l ∧ l ≤ 99999999) (hd : (lead e == n) = true) : pOK e b p n l = 17 := by
  rw [pok_in h hn hl, if_pos (beq_iff_eq.1 hd)]
theorem pok_7 {e b p n l : Int} (h : rightB e b p = true) (hn : withinB n 0 1 = true) (hl : 0 ≤ l ∧ l ≤ 99999999) (hd : (lead e == n) = false) (hp : ¬ p = e ∨ (e == 99999998) = true) : pOK e b p n l = 7 := by
  have := (rightB_iff _ _ _).1 h
  rw [pok_in h hn hl, if_neg (beq_eq_false_iff_ne.1 hd), if_pos]
  rcases hp with hp | hp
  · left; omega
  · right; exact beq_iff_eq.1 hp
theorem pok_0 {e b p n l : Int} (h : rightB e b p = true) (hn : withinB n 0 1 = true) (hl : 0 ≤ l ∧ l ≤ 99999999) (hd : (lead e == n) = false) (hp : p = e) (hq : (e == 99999998) = false) : pOK e b p n l = 0 := by
  have := beq_eq_false_iff_ne.1 hq
  rw [pok_in h hn hl, if_neg (beq_eq_false_iff_ne.1 hd), if_neg (by omega)]
set_option maxHeartbeats 1000000 in
theorem promote_ref (e b p n l : Int) (w : World) :
    Calls Try.prog 12 #[.agg #[.int .i64 e, .int .i64 b, .int .i64 p], .int .i64 n, .int .i64 l] w fun en w' => Prom e b p n l en ∧ Below w.heap.size w w' := by
  go_enter Try.func12, Try.ntmps12
  go_wp2_with (first
    | (go_at_call 11; refine (right_ref _ _ _ _).mono ?_; rintro en w1 ⟨rfl, hb⟩; obtain ⟨hc, hf⟩ := bcell hb; have hz : w.heap.size + 1 < w1.heap.size := (by have := hb.size; simp at this; omega))
    | (go_at_call 26; refine (is_any _ _).mono ?_; rintro en w2 ⟨rfl, rfl⟩)
    | (go_at_call 13; refine (leader_ref _ _).mono ?_; rintro en w2 ⟨rfl, rfl⟩))
  · refine bodyPost_ret (v := .tuple #[.agg #[.int .i64 0, .int .i64 0, .int .i64 0], .int .i64 2]) (by simp [results, Try.results12, go_sem, hc, hz]) rfl ⟨prom_mk (pok_l (by assumption)) (by rfl) (by rfl), ?_⟩
    repeat (first | exact Below.refl _ _ | (refine Below.setCell ?_ (by first | omega | (simp; done) | (simp; omega)) _) | (refine Below.alloc ?_ (by first | omega | (simp; done) | (simp; omega)) _) | (refine Below.trans ?_ (hb.mono (by first | omega | (simp; done) | (simp; omega)))))
  · refine bodyPost_ret (v := .tuple #[.agg #[.int .i64 0, .int .i64 0, .int .i64 0], .int .i64 17]) (by simp [results, Try.results12, go_sem, hc, hz]) rfl ⟨prom_mk (pok_17 (by assumption) (by assumption) (by assumption) (by assumption)) (by rfl) (by rfl), ?_⟩
    repeat (first | exact Below.refl _ _ | (refine Below.setCell ?_ (by first | omega | (simp; done) | (simp; omega)) _) | (refine Below.alloc ?_ (by first | omega | (simp; done) | (simp; omega)) _) | (refine Below.trans ?_ (hb.mono (by first | omega | (simp; done) | (simp; omega)))))
  · refine bodyPost_ret (v := .tuple #[.agg #[.int .i64 0, .int .i64 0, .int .i64 0], .int .i64 7]) (by simp [results, Try.results12, go_sem, hc, hz]) rfl ⟨prom_mk (pok_7 (by assumption) (by assumption) (by assumption) (by assumption) (.inr (by assumption))) (by rfl) (by rfl), ?_⟩
    repeat (first | exact Below.refl _ _ | (refine Below.setCell ?_ (by first | omega | (simp; done) | (simp; omega)) _) | (refine Below.alloc ?_ (by first | omega | (simp; done) | (simp; omega)) _) | (refine Below.trans ?_ (hb.mono (by first | omega | (simp; done) | (simp; omega)))))
  · refine bodyPost_ret (v := .tuple #[.agg #[.int .i64 (wrap64 (e + 1)), .int .i64 l, .int .i64 (wrap64 (e + 1))], .int .i64 0]) (by simp [results, Try.results12, go_sem, hc, hz]) rfl ⟨prom_mk (pok_0 (by assumption) (by assumption) (by assumption) (by assumption) (by assumption) (by assumption)) (by rfl) (by rfl), ?_⟩
    repeat (first | exact Below.refl _ _ | (refine Below.setCell ?_ (by first | omega | (simp; done) | (simp; omega)) _) | (refine Below.alloc ?_ (by first | omega | (simp; done) | (simp; omega)) _) | (refine Below.trans ?_ (hb.mono (by first | omega | (simp; done) | (simp; omega)))))
  · refine bodyPost_ret (v := .tuple #[.agg #[.int .i64 0, .int .i64 0, .int .i64 0], .int .i64 7]) (by simp [results, Try.results12, go_sem, hc, hz]) rfl ⟨prom_mk (pok_7 (by assumption) (by assumption) (by assumption) (by assumption) (.inl (by assumption))) (by rfl) (by rfl), ?_⟩
    repeat (first | exact Below.refl _ _ | (refine Below.setCell ?_ (by first | omega | (simp; done) | (simp; omega)) _) | (refine Below.alloc ?_ (by first | omega | (simp; done) | (simp; omega)) _) | (refine Below.trans ?_ (hb.mono (by first | omega | (simp; done) | (simp; omega)))))
  · refine bodyPost_ret (v := .tuple #[.agg #[.int .i64 0, .int .i64 0, .int .i64 0], .int .i64 2]) (by simp [results, Try.results12, go_sem, hc, hz]) rfl ⟨prom_mk (pok_l (.inl (by assumption))) (by rfl) (by rfl), ?_⟩
    repeat (first | exact Below.refl _ _ | (refine Below.setCell ?_ (by first | omega | (simp; done) | (simp; omega)) _) | (refine Below.alloc ?_ (by first | omega | (simp; done) | (simp; omega)) _) | (refine Below.trans ?_ (hb.mono (by first | omega | (simp; done) | (simp; omega)))))
  · refine bodyPost_ret (v := .tuple #[.agg #[.int .i64 0, .int .i64 0, .int .i64 0], .int .i64 2]) (by simp [results, Try.results12, go_sem, hc, hz]) rfl ⟨prom_mk (pok_n (by assumption)) (by rfl) (by rfl), ?_⟩
    repeat (first | exact Below.refl _ _ | (refine Below.setCell ?_ (by first | omega | (simp; done) | (simp; omega)) _) | (refine Below.alloc ?_ (by first | omega | (simp; done) | (simp; omega)) _) | (refine Below.trans ?_ (hb.mono (by first | omega | (simp; done) | (simp; omega)))))
  · refine bodyPost_ret (v := .tuple #[.agg #[.int .i64 0, .int .i64 0, .int .i64 0], .int .i64 2]) (by simp [results, Try.results12, go_sem, hc, hz]) rfl ⟨prom_mk (pok_r (by assumption)) (by rfl) (by rfl), ?_⟩
    repeat (first | exact Below.refl _ _ | (refine Below.setCell ?_ (by first | omega | (simp; done) | (simp; omega)) _) | (refine Below.alloc ?_ (by first | omega | (simp; done) | (simp; omega)) _) | (refine Below.trans ?_ (hb.mono (by first | omega | (simp; done) | (simp; omega)))))
end Go.Proofs.Ytlokgfoobjepdaa.Fx
