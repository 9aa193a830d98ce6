/- Contracts of the greater functions of fence. -/
import Derived.Test.YtlokgfoobjepdaaFx1
namespace Go.Proofs.Ytlokgfoobjepdaa.Fx
open Go.RowKit
set_option linter.unusedSimpArgs false

theorem bcell {W w1 : World} (hb : Below W.heap.size W w1) : (∀ b o, b < W.heap.size → w1.cell? ⟨b, o, none⟩ = W.cell? ⟨b, o, none⟩) ∧ (∀ b o, b < W.heap.size → w1.frozen? ⟨b, o, none⟩ = W.frozen? ⟨b, o, none⟩) :=
  ⟨fun b o h => hb.cell (p := ⟨b, o, none⟩) h, fun b o h => hb.frozen (p := ⟨b, o, none⟩) h⟩
theorem right_yes (e b p : Int) (w : World) (h : rightB e b p = true) :
    Calls Try.prog 23 #[.agg #[.int .i64 e, .int .i64 b, .int .i64 p]] w fun en w' => en = .returned (.bool true) ∧ Below w.heap.size w w' := h ▸ right_any e b p w
theorem right_no (e b p : Int) (w : World) (h : rightB e b p = false) :
    Calls Try.prog 23 #[.agg #[.int .i64 e, .int .i64 b, .int .i64 p]] w fun en w' => en = .returned (.bool false) ∧ Below w.heap.size w w' := h ▸ right_any e b p w
theorem rightB_iff (e b p : Int) : rightB e b p = true ↔ (1 ≤ e ∧ e ≤ 99999998) ∧ (0 ≤ b ∧ b ≤ 99999999) ∧ (e ≤ p ∧ p ≤ e + 1) := by simp [rightB]
theorem withinB_iff (n lo hi : Int) : withinB n lo hi = true ↔ lo ≤ n ∧ n ≤ hi := by simp [withinB]

set_option maxHeartbeats 400000 in
theorem begun_any (e b p n : Int) (w : World) :
    Calls Try.prog 25 #[.agg #[.int .i64 e, .int .i64 b, .int .i64 p], .int .i64 n] w fun en w' => en = .returned (.agg #[.int .i64 (wrap64 (e + 1)), .int .i64 n, .int .i64 (wrap64 (e + 1))]) ∧ Below w.heap.size w w' := by
  go_enter Try.func25, Try.ntmps25
  go_wp2
  refine bodyPost_ret (v := .agg #[.int .i64 (wrap64 (e + 1)), .int .i64 n, .int .i64 (wrap64 (e + 1))]) (by simp [results, Try.results25, go_sem]) rfl ⟨rfl, ?_⟩
  repeat (first | exact Below.refl _ _ | (refine Below.setCell ?_ (by first | omega | (simp; done) | (simp; omega)) _) | (refine Below.alloc ?_ (by first | omega | (simp; done) | (simp; omega)) _))

def pOK (e b p n l : Int) : Int := if rightB e b p = true ∧ withinB n 0 1 = true ∧ withinB l 0 99999999 = true then (if lead e = n then 17 else if p > e ∨ e = 99999998 then 7 else 0) else 2
def pE (e b p n l : Int) : Int := if pOK e b p n l = 0 then wrap64 (e + 1) else 0
def pB (e b p n l : Int) : Int := if pOK e b p n l = 0 then l else 0
def Prom (e b p n l : Int) (en : Ending) : Prop := en = .returned (.tuple #[.agg #[.int .i64 (pE e b p n l), .int .i64 (pB e b p n l), .int .i64 (pE e b p n l)], .int .i64 (pOK e b p n l)])
theorem prom_bad {e b p n l x : Int} (h : pOK e b p n l = x) (hx : x ≠ 0) : Prom e b p n l (.returned (.tuple #[.agg #[.int .i64 0, .int .i64 0, .int .i64 0], .int .i64 x])) := by
  unfold Prom pE pB; rw [h, if_neg hx, if_neg hx]
theorem prom_ok {e b p n l : Int} (h : pOK e b p n l = 0) : Prom e b p n l (.returned (.tuple #[.agg #[.int .i64 (wrap64 (e + 1)), .int .i64 l, .int .i64 (wrap64 (e + 1))], .int .i64 0])) := by
  unfold Prom pE pB; rw [h, if_pos rfl, if_pos rfl]

set_option maxHeartbeats 400000 in
theorem promote_any (e b p n l : Int) (w : World) :
    Calls Try.prog 9 #[.agg #[.int .i64 e, .int .i64 b, .int .i64 p], .int .i64 n, .int .i64 l] w fun en w' => Prom e b p n l en ∧ Below w.heap.size w w' := by
  cases h : rightB e b p
  · have H := Lib.hid h
    have HF := Lib.hid (show pOK e b p n l = 2 by simp [pOK, h]); clear h
    go_enter Try.func9, Try.ntmps9
    go_wp2_with fail
    refine (right_no _ _ _ _ H.out).mono ?_; rintro en w1 ⟨rfl, hb⟩
    obtain ⟨hc, hf⟩ := bcell hb
    have hz : w.heap.size + 1 < w1.heap.size := by have := hb.size; simp at this; omega
    go_wp2
    refine bodyPost_ret (v := .tuple #[.agg #[.int .i64 0, .int .i64 0, .int .i64 0], .int .i64 2]) (by simp [results, Try.results9, go_sem, hc, hz]) rfl ⟨prom_bad HF.out (by decide), ?_⟩
    repeat (first | exact Below.refl _ _ | (refine Below.setCell ?_ (by first | omega | (simp; done) | (simp; omega)) _) | (refine Below.alloc ?_ (by first | omega | (simp; done) | (simp; omega)) _) | (refine Below.trans ?_ (hb.mono (by first | omega | (simp; done) | (simp; omega)))))
  · have H := Lib.hid h
    obtain ⟨⟨he1, he2⟩, ⟨hb1, hb2⟩, hp1, hp2⟩ := (rightB_iff e b p).1 h
    cases hn : withinB n 0 1
    · have HN := Lib.hid hn
      have HF := Lib.hid (show pOK e b p n l = 2 by simp [pOK, h, hn]); clear h hn
      go_enter Try.func9, Try.ntmps9
      go_wp2_with fail
      refine (right_yes _ _ _ _ H.out).mono ?_; rintro en w1 ⟨rfl, hb⟩
      obtain ⟨hc, hf⟩ := bcell hb
      have hz : w.heap.size + 1 < w1.heap.size := by have := hb.size; simp at this; omega
      go_wp2_with fail
      refine (within_no _ _ _ _ HN.out).mono ?_; rintro en w2 ⟨rfl, rfl⟩
      go_wp2
      refine bodyPost_ret (v := .tuple #[.agg #[.int .i64 0, .int .i64 0, .int .i64 0], .int .i64 2]) (by simp [results, Try.results9, go_sem, hc, hz]) rfl ⟨prom_bad HF.out (by decide), ?_⟩
      repeat (first | exact Below.refl _ _ | (refine Below.setCell ?_ (by first | omega | (simp; done) | (simp; omega)) _) | (refine Below.alloc ?_ (by first | omega | (simp; done) | (simp; omega)) _) | (refine Below.trans ?_ (hb.mono (by first | omega | (simp; done) | (simp; omega)))))
    · have HN := Lib.hid hn
      cases hl : withinB l 0 99999999
      · have HL := Lib.hid hl
        have HF := Lib.hid (show pOK e b p n l = 2 by simp [pOK, h, hn, hl]); clear h hn hl
        go_enter Try.func9, Try.ntmps9
        go_wp2_with fail
        refine (right_yes _ _ _ _ H.out).mono ?_; rintro en w1 ⟨rfl, hb⟩
        obtain ⟨hc, hf⟩ := bcell hb
        have hz : w.heap.size + 1 < w1.heap.size := by have := hb.size; simp at this; omega
        go_wp2_with fail
        refine (within_yes _ _ _ _ HN.out).mono ?_; rintro en w2 ⟨rfl, rfl⟩
        go_wp2_with fail
        refine (within_no _ _ _ _ HL.out).mono ?_; rintro en w2 ⟨rfl, rfl⟩
        go_wp2
        refine bodyPost_ret (v := .tuple #[.agg #[.int .i64 0, .int .i64 0, .int .i64 0], .int .i64 2]) (by simp [results, Try.results9, go_sem, hc, hz]) rfl ⟨prom_bad HF.out (by decide), ?_⟩
        repeat (first | exact Below.refl _ _ | (refine Below.setCell ?_ (by first | omega | (simp; done) | (simp; omega)) _) | (refine Below.alloc ?_ (by first | omega | (simp; done) | (simp; omega)) _) | (refine Below.trans ?_ (hb.mono (by first | omega | (simp; done) | (simp; omega)))))
      · have HL := Lib.hid hl
        have hp : Hid (pOK e b p n l = if lead e = n then 17 else if p > e ∨ e = 99999998 then 7 else 0) := Lib.hid (by simp [pOK, h, hn, hl])
        clear h hn hl
        by_cases hd : lead e = n
        · have HF := Lib.hid (show pOK e b p n l = 17 by rw [hp.out, if_pos hd])
          have HD : ((lead e : Int) == n) = true := beq_iff_eq.2 hd
          clear hd hp
          go_enter Try.func9, Try.ntmps9
          go_wp2_with fail
          refine (right_yes _ _ _ _ H.out).mono ?_; rintro en w1 ⟨rfl, hb⟩
          obtain ⟨hc, hf⟩ := bcell hb
          have hz : w.heap.size + 1 < w1.heap.size := by have := hb.size; simp at this; omega
          go_wp2_with fail
          refine (within_yes _ _ _ _ HN.out).mono ?_; rintro en w2 ⟨rfl, rfl⟩
          go_wp2_with fail
          refine (within_yes _ _ _ _ HL.out).mono ?_; rintro en w2 ⟨rfl, rfl⟩
          go_wp2_with fail
          refine (leader_any _ _).mono ?_; rintro en w2 ⟨rfl, rfl⟩
          go_wp2
          refine bodyPost_ret (v := .tuple #[.agg #[.int .i64 0, .int .i64 0, .int .i64 0], .int .i64 17]) (by simp [results, Try.results9, go_sem, hc, hz]) rfl ⟨prom_bad HF.out (by decide), ?_⟩
          repeat (first | exact Below.refl _ _ | (refine Below.setCell ?_ (by first | omega | (simp; done) | (simp; omega)) _) | (refine Below.alloc ?_ (by first | omega | (simp; done) | (simp; omega)) _) | (refine Below.trans ?_ (hb.mono (by first | omega | (simp; done) | (simp; omega)))))
        · have HD : ((lead e : Int) == n) = false := beq_eq_false_iff_ne.2 hd
          by_cases hg : p > e ∨ e = 99999998
          · have HF := Lib.hid (show pOK e b p n l = 7 by rw [hp.out, if_neg hd, if_pos hg])
            clear hd hp
            rcases Int.lt_or_le e p with hq | hq
            all_goals
              try have hq2 : (e == 99999998) = true := by simp; omega
              clear hg
              go_enter Try.func9, Try.ntmps9
              go_wp2_with fail
              refine (right_yes _ _ _ _ H.out).mono ?_; rintro en w1 ⟨rfl, hb⟩
              obtain ⟨hc, hf⟩ := bcell hb
              have hz : w.heap.size + 1 < w1.heap.size := by have := hb.size; simp at this; omega
              go_wp2_with fail
              refine (within_yes _ _ _ _ HN.out).mono ?_; rintro en w2 ⟨rfl, rfl⟩
              go_wp2_with fail
              refine (within_yes _ _ _ _ HL.out).mono ?_; rintro en w2 ⟨rfl, rfl⟩
              go_wp2_with fail
              refine (leader_any _ _).mono ?_; rintro en w2 ⟨rfl, rfl⟩
              go_wp2
              refine bodyPost_ret (v := .tuple #[.agg #[.int .i64 0, .int .i64 0, .int .i64 0], .int .i64 7]) (by simp [results, Try.results9, go_sem, hc, hz]) rfl ⟨prom_bad HF.out (by decide), ?_⟩
              repeat (first | exact Below.refl _ _ | (refine Below.setCell ?_ (by first | omega | (simp; done) | (simp; omega)) _) | (refine Below.alloc ?_ (by first | omega | (simp; done) | (simp; omega)) _) | (refine Below.trans ?_ (hb.mono (by first | omega | (simp; done) | (simp; omega)))))
          · have HF := Lib.hid (show pOK e b p n l = 0 by rw [hp.out, if_neg hd, if_neg hg])
            clear hd hp
            have hq : p ≤ e := by omega
            have hq2 : (e == 99999998) = false := by simp; omega
            clear hg
            go_enter Try.func9, Try.ntmps9
            go_wp2_with fail
            refine (right_yes _ _ _ _ H.out).mono ?_; rintro en w1 ⟨rfl, hb⟩
            obtain ⟨hc, hf⟩ := bcell hb
            have hz : w.heap.size + 1 < w1.heap.size := by have := hb.size; simp at this; omega
            go_wp2_with fail
            refine (within_yes _ _ _ _ HN.out).mono ?_; rintro en w2 ⟨rfl, rfl⟩
            go_wp2_with fail
            refine (within_yes _ _ _ _ HL.out).mono ?_; rintro en w2 ⟨rfl, rfl⟩
            go_wp2_with fail
            refine (leader_any _ _).mono ?_; rintro en w2 ⟨rfl, rfl⟩
            go_wp2_with fail
            refine (begun_any _ _ _ _ _).mono ?_; rintro en w3 ⟨rfl, hb2⟩
            obtain ⟨hc2, hf2⟩ := bcell hb2
            have hz2 : w.heap.size + 1 < w3.heap.size := by have := hb2.size; omega
            go_wp2
            refine bodyPost_ret (v := .tuple #[.agg #[.int .i64 (wrap64 (e + 1)), .int .i64 l, .int .i64 (wrap64 (e + 1))], .int .i64 0]) (by simp [results, Try.results9, go_sem, hc, hz, hc2, hz2]) rfl ⟨prom_ok HF.out, ?_⟩
            repeat (first | exact Below.refl _ _ | (refine Below.setCell ?_ (by first | omega | (simp; done) | (simp; omega)) _) | (refine Below.alloc ?_ (by first | omega | (simp; done) | (simp; omega)) _) | (refine Below.trans ?_ (hb.mono (by first | omega | (simp; done) | (simp; omega)))) | (refine Below.trans ?_ (hb2.mono (by first | omega | (simp; done) | (simp; omega)))))
end Go.Proofs.Ytlokgfoobjepdaa.Fx
