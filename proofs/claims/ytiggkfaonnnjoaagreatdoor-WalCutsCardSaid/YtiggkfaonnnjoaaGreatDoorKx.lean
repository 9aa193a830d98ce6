/- Names of files, by the library's Trim. -/
import Derived.Test.YtiggkfaonnnjoaaGreatDoorKt
import Derived.Test.YtiggkfaonnnjoaaGreatDoorNmf
namespace Go.Proofs.YtiggkfaonnnjoaaGreatDoor.SL
open Go.RowKit Go.Proofs.YtiggkfaonnnjoaaGreatDoor
open Go.Proofs.YtiggkfaonnnjoaaGreatDoorW.PrintLast (rtab opsOf)
set_option linter.unusedVariables false
set_option linter.unusedSimpArgs false
def signsF : List UInt8 := [97, 98, 99, 100, 101, 102, 103, 104, 105, 106, 107, 108, 109, 110, 111, 112, 113, 114, 115, 116, 117, 118, 119, 120, 121, 122, 48, 49, 50, 51, 52, 53, 54, 55, 56, 57, 46, 45]
theorem dropWhile_nil {p : UInt8 → Bool} : ∀ {l : List UInt8}, l.dropWhile p = [] ↔ ∀ b ∈ l, p b = true
  | [] => by simp
  | b :: l => by
    by_cases h : p b = true
    · rw [List.dropWhile_cons_of_pos h, dropWhile_nil]; simp [h]
    · rw [List.dropWhile_cons_of_neg h]; simp [h]
theorem trimA_nil {s cs : List UInt8} : trimA s cs = [] ↔ ∀ b ∈ s, cs.contains b = true := by
  have hR : trimR s cs = [] ↔ ∀ b ∈ s, cs.contains b = true := by
    unfold trimR; rw [List.reverse_eq_nil_iff, dropWhile_nil]; simp
  unfold trimA
  constructor
  · intro h
    rw [← hR]
    rcases List.eq_nil_or_concat (trimR s cs) with e | ⟨z, c, e⟩
    · exact e
    · have hc : cs.contains c = true := by
        unfold trimL at h
        rw [e, List.concat_eq_append, dropWhile_nil] at h
        exact h c (by simp)
      exfalso
      have h2 : (s.reverse.dropWhile (cs.contains ·)) = c :: z.reverse := by
        have := congrArg List.reverse e
        unfold trimR at this
        rw [List.reverse_reverse, List.concat_eq_append, List.reverse_append] at this
        exact this
      have h3 := List.head?_dropWhile_not (cs.contains ·) s.reverse
      rw [h2] at h3
      simp only [List.head?_cons] at h3
      rw [hc] at h3; cases h3
  · intro h; rw [hR.2 h]; rfl
theorem signs_file : ∀ b : UInt8, signsF.contains b = true ↔ fileB b := by
  intro b
  have key : ∀ n : Fin 256, signsF.contains (UInt8.ofNat n.val) = decide (97 ≤ n.val ∧ n.val ≤ 122 ∨ 48 ≤ n.val ∧ n.val ≤ 57 ∨ n.val = 46 ∨ n.val = 45) := by decide +kernel
  have h := key ⟨b.toNat, UInt8.toNat_lt b⟩
  simp only [UInt8.ofNat_toNat] at h
  rw [h, decide_eq_true_iff]; rfl
theorem file_trim (s : List UInt8) : (trimA s signsF = []) ↔ ∀ b ∈ s, fileB b := by
  rw [trimA_nil]
  exact ⟨fun h b hb => (signs_file b).1 (h b hb), fun h b hb => (signs_file b).2 (h b hb)⟩
theorem signsF_ascii : Ascii signsF := by
  intro j b h
  have hm := List.mem_of_getElem? h
  have : ∀ b ∈ signsF, b.toNat < 128 := by decide
  exact this b hm
theorem dright_spec {B w : World} {L : List HP} (s : List UInt8) (hs : s.length ≤ 9223372036854775807) (hS : St B L w) : Does Tryz.prog 43 [str s] w (fun v w1 => v = .bool (fileF s) ∧ St B L w1) := by
 refine enter (n := 15) Tryz.func43 rfl rfl [str s] rfl ?_
 refine WP.seq (WP.region rfl ?_)
 refine WO.asg rfl rfl ?_
 refine WO.nil (NX.go (WP.seq (WP.region rfl ?_)))
 refine WO.mv rfl rfl ?_
 refine WO.val (run_neqS rfl rfl) rfl rfl rfl ?_
 refine WO.mv rfl rfl ?_
 by_cases g5 : ¬ s = []
 ·
  refine WO.on rfl rfl (decide_eq_true g5) ?_
  refine WO.mv rfl rfl ?_
  refine WO.on rfl rfl (decide_eq_true g5) ?_
  refine WO.val (run_lenS rfl Tryz.underlying9 rfl) rfl rfl rfl ?_
  refine WO.on rfl rfl (decide_eq_true g5) ?_
  refine WO.val (run_leq rfl rfl) rfl rfl rfl ?_
  refine WO.val (run_pickT rfl (decide_eq_true g5) rfl) rfl rfl rfl ?_
  refine WO.mv rfl rfl ?_
  by_cases g10 : (s.length : Int) ≤ 32
  ·
   refine WO.on rfl rfl (decide_eq_true g10) ?_
   refine WO.mv rfl rfl ?_
   refine WO.on rfl rfl (decide_eq_true g10) ?_
   refine WO.call rfl rfl Ty.hd60 rfl (trim_spec (cs := signsF) s hs (by decide) (by decide) signsF_ascii hS) (fun v2 w1 pv2 => ?_)
   obtain ⟨rfl, hS1⟩ := pv2
   clear hS
   refine WO.on rfl rfl (decide_eq_true g10) ?_
   refine WO.val (run_eqlS rfl rfl) rfl rfl rfl ?_
   refine WO.val (run_pickT rfl (decide_eq_true g10) rfl) rfl rfl rfl ?_
   refine WO.asg rfl rfl ?_
   refine WO.nil (NX.go (WP.ret ?_))
   refine NX.done (l := [.tmp 2]) rfl rfl ?_
   exact ⟨congrArg Value.bool (decide_eq_decide.2 ((file_trim s).trans ⟨fun h => ⟨g5, by omega, h⟩, fun h => h.2.2⟩)), hS1⟩
  ·
   refine WO.off rfl rfl (decide_eq_false g10) rfl ?_
   refine WO.off rfl rfl (decide_eq_false g10) rfl ?_
   refine WO.off rfl rfl (decide_eq_false g10) rfl ?_
   refine WO.val (run_pickF rfl (decide_eq_false g10) rfl) rfl rfl rfl ?_
   refine WO.asg rfl rfl ?_
   refine WO.nil (NX.go (WP.ret ?_))
   refine NX.done (l := [.tmp 2]) rfl rfl ?_
   exact ⟨congrArg Value.bool (decide_eq_false (fun h => absurd h.2.1 (by omega))).symm, hS⟩
 ·
  refine WO.off rfl rfl (decide_eq_false g5) rfl ?_
  refine WO.off rfl rfl (decide_eq_false g5) rfl ?_
  refine WO.off rfl rfl (decide_eq_false g5) rfl ?_
  refine WO.val (run_pickF rfl (decide_eq_false g5) rfl) rfl rfl rfl ?_
  refine WO.mv rfl rfl ?_
  refine WO.off rfl rfl rfl rfl ?_
  refine WO.off rfl rfl rfl rfl ?_
  refine WO.off rfl rfl rfl rfl ?_
  refine WO.val (run_pickF rfl rfl rfl) rfl rfl rfl ?_
  refine WO.asg rfl rfl ?_
  refine WO.nil (NX.go (WP.ret ?_))
  refine NX.done (l := [.tmp 2]) rfl rfl ?_
  exact ⟨congrArg Value.bool (decide_eq_false (fun h => absurd h.1 (by simpa using g5))).symm, hS⟩
end Go.Proofs.YtiggkfaonnnjoaaGreatDoor.SL
