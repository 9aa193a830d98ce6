/- Contracts of the functions of fence: who writes, what is to be done with a message. -/
import Derived.Test.YtlokgfoobjepdaaFx2
namespace Go.Proofs.Ytlokgfoobjepdaa.Fx
open Go.RowKit
set_option linter.unusedSimpArgs false
def writesB (e b p n : Int) : Bool := rightB e b p && (withinB n 0 1 && (lead e == n && p == e))
set_option maxHeartbeats 400000 in
theorem writes_any (e b p n : Int) (w : World) :
    Calls Try.prog 14 #[.agg #[.int .i64 e, .int .i64 b, .int .i64 p], .int .i64 n] w fun en w' => en = .returned (.bool (writesB e b p n)) ∧ Below w.heap.size w w' := by
  go_enter Try.func14, Try.ntmps14
  go_wp2_with (first
    | (go_at_call 23; refine (right_any _ _ _ _).mono ?_; rintro en w1 ⟨rfl, hb⟩; obtain ⟨hc, hf⟩ := bcell hb; have hz : w.heap.size < w1.heap.size := (by have := hb.size; simp at this; omega))
    | (go_at_call 24; refine (within_any _ _ _ _).mono ?_; rintro en w2 ⟨rfl, rfl⟩)
    | (go_at_call 8; refine (leader_any _ _).mono ?_; rintro en w2 ⟨rfl, rfl⟩))
  all_goals
    go_ret
    refine ⟨ret_bool (by simp [writesB, *]), ?_⟩
    repeat (first | exact Below.refl _ _ | (refine Below.setCell ?_ (by first | omega | (simp; done) | (simp; omega)) _) | (refine Below.alloc ?_ (by first | omega | (simp; done) | (simp; omega)) _) | (refine Below.trans ?_ (hb.mono (by first | omega | (simp; done) | (simp; omega)))))
def judgeI (e b p n x : Int) (t : Bool) : Int := if rightB e b p = true ∧ withinB n 0 1 = true then (if x < p then 3 else if x = e then 1 else if t = true ∧ x = wrap64 (e + 1) ∧ lead x ≠ n then 2 else 0) else 0
set_option maxHeartbeats 400000 in
theorem judge_any (e b p n x : Int) (t : Bool) (w : World) :
    Calls Try.prog 16 #[.agg #[.int .i64 e, .int .i64 b, .int .i64 p], .int .i64 n, .int .i64 x, .bool t] w fun en w' => en = .returned (.int .i64 (judgeI e b p n x t)) ∧ Below w.heap.size w w' := by
  cases t
  all_goals
    go_enter Try.func16, Try.ntmps16
    go_wp2_with (first
      | (go_at_call 23; refine (right_any _ _ _ _).mono ?_; rintro en w1 ⟨rfl, hb⟩; obtain ⟨hc, hf⟩ := bcell hb; have hz : w.heap.size < w1.heap.size := (by have := hb.size; simp at this; omega))
      | (go_at_call 24; refine (within_any _ _ _ _).mono ?_; rintro en w2 ⟨rfl, rfl⟩)
      | (go_at_call 8; refine (leader_any _ _).mono ?_; rintro en w2 ⟨rfl, rfl⟩))
    all_goals
      go_ret
      refine ⟨ret_int (by unfold judgeI; simp_all <;> omega), ?_⟩
      repeat (first | exact Below.refl _ _ | (refine Below.setCell ?_ (by first | omega | (simp; done) | (simp; omega)) _) | (refine Below.alloc ?_ (by first | omega | (simp; done) | (simp; omega)) _) | (refine Below.trans ?_ (hb.mono (by first | omega | (simp; done) | (simp; omega)))))
def Agg3 (a b c : Int) (en : Ending) : Prop := en = .returned (.agg #[.int .i64 a, .int .i64 b, .int .i64 c])
set_option maxHeartbeats 400000 in
theorem promises_any (e b p : Int) (w : World) :
    Calls Try.prog 19 #[.agg #[.int .i64 e, .int .i64 b, .int .i64 p]] w fun en w' => Agg3 e b (wrap64 (e + 1)) en ∧ Below w.heap.size w w' := by
  go_enter Try.func19, Try.ntmps19
  go_wp2
  refine bodyPost_ret (v := .agg #[.int .i64 e, .int .i64 b, .int .i64 (wrap64 (e + 1))]) (by simp [results, Try.results19, go_sem]) rfl ⟨rfl, ?_⟩
  repeat (first | exact Below.refl _ _ | (refine Below.setCell ?_ (by simp; try omega) _) | (refine Below.alloc ?_ (by simp; try omega) _))
set_option maxHeartbeats 400000 in
theorem promises_ref (e b p : Int) (w : World) :
    Calls Try.prog 20 #[.agg #[.int .i64 e, .int .i64 b, .int .i64 p]] w fun en w' => Agg3 e b (wrap64 (e + 1)) en ∧ Below w.heap.size w w' := by
  go_enter Try.func20, Try.ntmps20
  go_wp2
  refine bodyPost_ret (v := .agg #[.int .i64 e, .int .i64 b, .int .i64 (wrap64 (e + 1))]) (by simp [results, Try.results20, go_sem]) rfl ⟨rfl, ?_⟩
  repeat (first | exact Below.refl _ _ | (refine Below.setCell ?_ (by simp; try omega) _) | (refine Below.alloc ?_ (by simp; try omega) _))
set_option maxHeartbeats 400000 in
theorem to_any (e b p : Int) (w : World) :
    Calls Try.prog 10 #[.agg #[.int .i64 e, .int .i64 b, .int .i64 p]] w fun en w' => Agg3 e b p en ∧ Below w.heap.size w w' := by
  go_enter Try.func10, Try.ntmps10
  go_wp2
  refine bodyPost_ret (v := .agg #[.int .i64 e, .int .i64 b, .int .i64 p]) (by simp [results, Try.results10, go_sem]) rfl ⟨rfl, ?_⟩
  repeat (first | exact Below.refl _ _ | (refine Below.setCell ?_ (by simp; try omega) _) | (refine Below.alloc ?_ (by simp; try omega) _))
set_option maxHeartbeats 400000 in
theorem from_any (e b p : Int) (w : World) :
    Calls Try.prog 18 #[.agg #[.int .i64 e, .int .i64 b, .int .i64 p]] w fun en w' => Agg3 e b p en ∧ Below w.heap.size w w' := by
  go_enter Try.func18, Try.ntmps18
  go_wp2
  refine bodyPost_ret (v := .agg #[.int .i64 e, .int .i64 b, .int .i64 p]) (by simp [results, Try.results18, go_sem]) rfl ⟨rfl, ?_⟩
  repeat (first | exact Below.refl _ _ | (refine Below.setCell ?_ (by simp; try omega) _) | (refine Below.alloc ?_ (by simp; try omega) _))
set_option maxHeartbeats 400000 in
theorem adopt_ref (e b p n : Int) (w : World) :
    Calls Try.prog 22 #[.agg #[.int .i64 e, .int .i64 b, .int .i64 p], .int .i64 n] w fun en w' => Agg3 (wrap64 (e + 1)) n (wrap64 (e + 1)) en ∧ Below w.heap.size w w' := by
  go_enter Try.func22, Try.ntmps22
  go_wp2
  refine bodyPost_ret (v := .agg #[.int .i64 (wrap64 (e + 1)), .int .i64 n, .int .i64 (wrap64 (e + 1))]) (by simp [results, Try.results22, go_sem]) rfl ⟨rfl, ?_⟩
  repeat (first | exact Below.refl _ _ | (refine Below.setCell ?_ (by simp; try omega) _) | (refine Below.alloc ?_ (by simp; try omega) _))
set_option maxHeartbeats 400000 in
theorem adopt_any (e b p n : Int) (w : World) :
    Calls Try.prog 21 #[.agg #[.int .i64 e, .int .i64 b, .int .i64 p], .int .i64 n] w fun en w' => Agg3 (wrap64 (e + 1)) n (wrap64 (e + 1)) en ∧ Below w.heap.size w w' := by
  go_enter Try.func21, Try.ntmps21
  go_wp2_with fail
  refine (begun_any _ _ _ _ _).mono ?_; rintro en w1 ⟨rfl, hb⟩; obtain ⟨hc, hf⟩ := bcell hb; have hz : w.heap.size + 1 < w1.heap.size := (by have := hb.size; simp at this; omega)
  go_wp2
  refine bodyPost_ret (v := .agg #[.int .i64 (wrap64 (e + 1)), .int .i64 n, .int .i64 (wrap64 (e + 1))]) (by simp [results, Try.results21, go_sem, hc, hz]) rfl ⟨rfl, ?_⟩
  repeat (first | exact Below.refl _ _ | (refine Below.setCell ?_ (by first | omega | (simp; done) | (simp; omega)) _) | (refine Below.alloc ?_ (by first | omega | (simp; done) | (simp; omega)) _) | (refine Below.trans ?_ (hb.mono (by first | omega | (simp; done) | (simp; omega)))))
end Go.Proofs.Ytlokgfoobjepdaa.Fx
