/- Names and values of labels. -/
import Derived.Test.YtogidmceomlkeaaGreatDoorKt
import Derived.Test.YtogidmceomlkeaaGreatDoorSl9
namespace Go.Proofs.YtogidmceomlkeaaGreatDoor.SL
open Go.RowKit Go.Proofs.YtogidmceomlkeaaGreatDoor
open Go.Proofs.YtogidmceomlkeaaGreatDoorW.PrintLast (rtab opsOf)
set_option linter.unusedVariables false
set_option linter.unusedSimpArgs false

def nameB (b : UInt8) : Prop := 97 ≤ b.toNat ∧ b.toNat ≤ 122 ∨ b.toNat = 95
instance (b : UInt8) : Decidable (nameB b) := by unfold nameB; infer_instance
def valB (b : UInt8) : Prop := 32 ≤ b.toNat ∧ b.toNat ≤ 126
instance (b : UInt8) : Decidable (valB b) := by unfold valB; infer_instance
def nameF (s : List UInt8) : Bool := decide (s ≠ [] ∧ s.length ≤ 32 ∧ ∀ b ∈ s, nameB b)
def valueF (s : List UInt8) : Bool := decide (s ≠ [] ∧ s.length ≤ 64 ∧ ∀ b ∈ s, valB b)
def signsL : List UInt8 := [97, 98, 99, 100, 101, 102, 103, 104, 105, 106, 107, 108, 109, 110, 111, 112, 113, 114, 115, 116, 117, 118, 119, 120, 121, 122, 95]
theorem dropWhile_nil {p : UInt8 → Bool} : ∀ {l : List UInt8}, l.dropWhile p = [] ↔ ∀ b ∈ l, p b = true
  | [] => by simp
  | b :: l => by
    by_cases h : p b = true
    · rw [List.dropWhile_cons_of_pos h, dropWhile_nil]; simp [h]
    · rw [List.dropWhile_cons_of_neg h]; simp [h]
theorem trimA_nil {s cs : List UInt8} : trimA s cs = [] ↔ ∀ b ∈ s, cs.contains b = true := by
  have hR : trimR s cs = [] ↔ ∀ b ∈ s, cs.contains b = true := by
    unfold trimR; rw [List.reverse_eq_nil_iff, dropWhile_nil]; simp
  unfold trimA
  constructor
  · intro h
    rw [← hR]
    rcases List.eq_nil_or_concat (trimR s cs) with e | ⟨z, c, e⟩
    · exact e
    · have hc : cs.contains c = true := by
        unfold trimL at h
        rw [e, List.concat_eq_append, dropWhile_nil] at h
        exact h c (by simp)
      exfalso
      have h2 : (s.reverse.dropWhile (cs.contains ·)) = c :: z.reverse := by
        have := congrArg List.reverse e
        unfold trimR at this
        rw [List.reverse_reverse, List.concat_eq_append, List.reverse_append] at this
        exact this
      have h3 := List.head?_dropWhile_not (cs.contains ·) s.reverse
      rw [h2] at h3
      simp only [List.head?_cons] at h3
      rw [hc] at h3; cases h3
  · intro h; rw [hR.2 h]; rfl
theorem signs_name : ∀ b : UInt8, signsL.contains b = true ↔ nameB b := by
  intro b
  have key : ∀ n : Fin 256, signsL.contains (UInt8.ofNat n.val) = decide (97 ≤ n.val ∧ n.val ≤ 122 ∨ n.val = 95) := by decide +kernel
  have h := key ⟨b.toNat, UInt8.toNat_lt b⟩
  simp only [UInt8.ofNat_toNat] at h
  rw [h, decide_eq_true_iff]; rfl
theorem name_trim (s : List UInt8) : (trimA s signsL = []) ↔ ∀ b ∈ s, nameB b := by
  rw [trimA_nil]
  exact ⟨fun h b hb => (signs_name b).1 (h b hb), fun h b hb => (signs_name b).2 (h b hb)⟩
theorem signs_ascii : Ascii signsL := by
  intro j b h
  have hm := List.mem_of_getElem? h
  have : ∀ b ∈ signsL, b.toNat < 128 := by decide
  exact this b hm
theorem lname_spec {B w : World} {L : List HP} (s : List UInt8) (hs : s.length ≤ 9223372036854775807) (hS : St B L w) : Does Tryz.prog 68 [str s] w (fun v w1 => v = .bool (nameF s) ∧ St B L w1) := by
 refine enter (n := 15) Tryz.func68 rfl rfl [str s] rfl ?_
 refine WP.seq ?_
 refine WP.region rfl ?_
 refine WO.val (run_assign rfl) rfl rfl rfl ?_
 refine WO.nil ?_
 refine NX.go ?_
 refine WP.seq ?_
 refine WP.region rfl ?_
 refine WO.val (run_move rfl) rfl rfl rfl ?_
 refine WO.val (run_neqS rfl rfl) rfl rfl rfl ?_
 refine WO.val (run_move rfl) rfl rfl rfl ?_
 by_cases g5 : ¬ s = []
 ·
  refine WO.on rfl rfl (decide_eq_true g5) ?_
  refine WO.val (run_move rfl) rfl rfl rfl ?_
  refine WO.on rfl rfl (decide_eq_true g5) ?_
  refine WO.val (run_lenS rfl Tryz.underlying9 rfl) rfl rfl rfl ?_
  refine WO.on rfl rfl (decide_eq_true g5) ?_
  refine WO.val (run_leq rfl rfl) rfl rfl rfl ?_
  refine WO.val (run_pickT rfl (decide_eq_true g5) rfl) rfl rfl rfl ?_
  refine WO.val (run_move rfl) rfl rfl rfl ?_
  by_cases g10 : (s.length : Int) ≤ 32
  ·
   refine WO.on rfl rfl (decide_eq_true g10) ?_
   refine WO.val (run_move rfl) rfl rfl rfl ?_
   refine WO.on rfl rfl (decide_eq_true g10) ?_
   refine WO.call rfl rfl Ty.hd84 rfl (trim_spec (cs := signsL) s hs (by decide) (by decide) signs_ascii hS) (fun v2 w1 pv2 => ?_)
   obtain ⟨rfl, hS1⟩ := pv2
   clear hS
   refine WO.on rfl rfl (decide_eq_true g10) ?_
   refine WO.val (run_eqlS rfl rfl) rfl rfl rfl ?_
   refine WO.val (run_pickT rfl (decide_eq_true g10) rfl) rfl rfl rfl ?_
   refine WO.val (run_assign rfl) rfl rfl rfl ?_
   refine WO.nil ?_
   refine NX.go ?_
   refine WP.ret ?_
   refine NX.done (l := [.tmp 2]) rfl rfl ?_
   exact ⟨congrArg Value.bool (decide_eq_decide.2 ((name_trim s).trans ⟨fun h => ⟨g5, by omega, h⟩, fun h => h.2.2⟩)), hS1⟩
  ·
   refine WO.off rfl rfl (decide_eq_false g10) rfl ?_
   refine WO.off rfl rfl (decide_eq_false g10) rfl ?_
   refine WO.off rfl rfl (decide_eq_false g10) rfl ?_
   refine WO.val (run_pickF rfl (decide_eq_false g10) rfl) rfl rfl rfl ?_
   refine WO.val (run_assign rfl) rfl rfl rfl ?_
   refine WO.nil ?_
   refine NX.go ?_
   refine WP.ret ?_
   refine NX.done (l := [.tmp 2]) rfl rfl ?_
   exact ⟨congrArg Value.bool (decide_eq_false (fun h => absurd h.2.1 (by omega))).symm, hS⟩
 ·
  refine WO.off rfl rfl (decide_eq_false g5) rfl ?_
  refine WO.off rfl rfl (decide_eq_false g5) rfl ?_
  refine WO.off rfl rfl (decide_eq_false g5) rfl ?_
  refine WO.val (run_pickF rfl (decide_eq_false g5) rfl) rfl rfl rfl ?_
  refine WO.val (run_move rfl) rfl rfl rfl ?_
  refine WO.off rfl rfl rfl rfl ?_
  refine WO.off rfl rfl rfl rfl ?_
  refine WO.off rfl rfl rfl rfl ?_
  refine WO.val (run_pickF rfl rfl rfl) rfl rfl rfl ?_
  refine WO.val (run_assign rfl) rfl rfl rfl ?_
  refine WO.nil ?_
  refine NX.go ?_
  refine WP.ret ?_
  refine NX.done (l := [.tmp 2]) rfl rfl ?_
  exact ⟨congrArg Value.bool (decide_eq_false (fun h => absurd h.1 (by simpa using g5))).symm, hS⟩

theorem val_next {s : List UInt8} {p : Nat} {b : UInt8} (h : ∀ j b, j < p → s[j]? = some b → valB b) (hb : s[p]? = some b) (hv : valB b) : ∀ j c, j < p + 1 → s[j]? = some c → valB c := by
  intro j c hj hc
  rcases Nat.lt_or_ge j p with k | k
  · exact h j c k hc
  · have : j = p := by omega
    subst this; rw [hb] at hc; cases hc; exact hv
theorem val_not {s : List UInt8} {p : Nat} {b : UInt8} (hb : s[p]? = some b) (hv : ¬ valB b) : valueF s = false := decide_eq_false fun h => hv (h.2.2 b (List.mem_of_getElem? hb))
theorem val_all {s : List UInt8} {p : Nat} {Q : UInt8 → Prop} (h : ∀ j b, j < p → s[j]? = some b → Q b) (hp : s.length ≤ p) : ∀ b ∈ s, Q b := by
  intro b hb
  obtain ⟨j, hj, e⟩ := List.getElem_of_mem hb
  exact h j b (by omega) (by rw [List.getElem?_eq_getElem hj, e])
theorem lvalue_spec {B w : World} {L : List HP} (s : List UInt8) (hs : s.length ≤ 9223372036854775807) (hS : St B L w) : Does Tryz.prog 69 [str s] w (fun v w1 => v = .bool (valueF s) ∧ St B L w1) := by
 refine enter (n := 23) Tryz.func69 rfl rfl [str s] rfl ?_
 refine WP.seq ?_
 refine WP.region rfl ?_
 refine WO.val (run_assign rfl) rfl rfl rfl ?_
 refine WO.nil ?_
 refine NX.go ?_
 refine WP.seq ?_
 refine WP.seq ?_
 refine WP.region rfl ?_
 refine WO.val (run_move rfl) rfl rfl rfl ?_
 refine WO.rangeS hS Tryz.underlying9 rfl rfl (fun r2 w1 hS1 => ?_)
 clear hS
 refine WO.nil ?_
 refine NX.go ?_
 refine WP.block ?_
 refine WP.loop (α := Nat) (fun x => match x with | p => [(0, str s), (6, Value.pointer (some ⟨r2, 0, none⟩))]) (fun x w => match x with | p => (p ≤ s.length ∧ ∀ j b, j < p → s[j]? = some b → valB b) ∧ St B (itS r2 s p :: L) w) (fun x => match x with | p => s.length - p) 0 ⟨⟨Nat.zero_le _, fun j b h => absurd h (by omega)⟩, hS1⟩ (Sub.cons rfl (Sub.cons rfl (Sub.nil _))) ?_
 rintro p w3 ⟨⟨hp, hok⟩, hS3⟩
 clear hS1
 refine WP.seq ?_
 refine WP.region rfl ?_
 refine WO.nextS 0 hS3 rfl rfl rfl (fun e7 => ?_) (fun b hb7 ha7 w4 hS4 => ?_) (fun b c k6 hb7 ha7 hc7 w5 hS5 => ?_)
 ·
  refine WO.val (run_extract rfl rfl) rfl rfl rfl ?_
  refine WO.nil ?_
  refine NX.go ?_
  refine WP.seq ?_
  refine WP.condF rfl rfl ?_
  refine WP.exit ?_
  refine NX.thenExit ?_
  refine NX.thenExit ?_
  refine NX.blkExit ?_
  refine NX.go ?_
  refine WP.seq ?_
  refine WP.region rfl ?_
  refine WO.val (run_move rfl) rfl rfl rfl ?_
  refine WO.val (run_neqS rfl rfl) rfl rfl rfl ?_
  refine WO.val (run_move rfl) rfl rfl rfl ?_
  by_cases g18 : ¬ s = []
  ·
   refine WO.on rfl rfl (decide_eq_true g18) ?_
   refine WO.val (run_move rfl) rfl rfl rfl ?_
   refine WO.on rfl rfl (decide_eq_true g18) ?_
   refine WO.val (run_lenS rfl Tryz.underlying9 rfl) rfl rfl rfl ?_
   refine WO.on rfl rfl (decide_eq_true g18) ?_
   refine WO.val (run_leq rfl rfl) rfl rfl rfl ?_
   refine WO.val (run_pickT rfl (decide_eq_true g18) rfl) rfl rfl rfl ?_
   refine WO.val (run_assign rfl) rfl rfl rfl ?_
   refine WO.nil ?_
   refine NX.go ?_
   refine WP.ret ?_
   refine NX.done (l := [.tmp 2]) rfl rfl ?_
   exact ⟨congrArg Value.bool (decide_eq_decide.2 ⟨fun h => ⟨g18, by omega, val_all hok e7⟩, fun h => by have := h.2.1; omega⟩), hS3.drop⟩
  ·
   refine WO.off rfl rfl (decide_eq_false g18) rfl ?_
   refine WO.off rfl rfl (decide_eq_false g18) rfl ?_
   refine WO.off rfl rfl (decide_eq_false g18) rfl ?_
   refine WO.val (run_pickF rfl (decide_eq_false g18) rfl) rfl rfl rfl ?_
   refine WO.val (run_assign rfl) rfl rfl rfl ?_
   refine WO.nil ?_
   refine NX.go ?_
   refine WP.ret ?_
   refine NX.done (l := [.tmp 2]) rfl rfl ?_
   exact ⟨congrArg Value.bool (decide_eq_false (fun h => absurd h.1 (by simpa using g18))).symm, hS3.drop⟩
 ·
  have hb8 := UInt8.toNat_lt b
  refine WO.val (run_extract rfl rfl) rfl rfl rfl ?_
  refine WO.nil ?_
  refine NX.go ?_
  refine WP.seq ?_
  refine WP.condT rfl rfl ?_
  refine WP.skip ?_
  refine NX.go ?_
  refine WP.block ?_
  refine WP.seq ?_
  refine WP.region rfl ?_
  refine WO.val (run_extract rfl rfl) rfl rfl rfl ?_
  refine WO.val (run_assign rfl) rfl rfl rfl ?_
  refine WO.nil ?_
  refine NX.go ?_
  refine WP.seq ?_
  refine WP.region rfl ?_
  refine WO.val (run_move rfl) rfl rfl rfl ?_
  refine WO.val (run_lss rfl rfl) rfl rfl rfl ?_
  refine WO.val (run_move rfl) rfl rfl rfl ?_
  by_cases g12 : (b.toNat : Int) < 32
  ·
   refine WO.off rfl rfl (decide_eq_true g12) rfl ?_
   refine WO.off rfl rfl (decide_eq_true g12) rfl ?_
   refine WO.val (run_pickT rfl (decide_eq_true g12) rfl) rfl rfl rfl ?_
   refine WO.nil ?_
   refine NX.go ?_
   refine WP.condT rfl rfl ?_
   refine WP.seq ?_
   refine WP.region rfl ?_
   refine WO.val (run_assign rfl) rfl rfl rfl ?_
   refine WO.nil ?_
   refine NX.go ?_
   refine WP.ret ?_
   refine NX.blkRet ?_
   refine NX.thenRet ?_
   refine NX.blkRet ?_
   refine NX.thenRet ?_
   refine NX.done (l := [.tmp 2]) rfl rfl ?_
   exact ⟨congrArg Value.bool (val_not hb7 (by unfold valB; omega)).symm, hS4.drop⟩
  ·
   refine WO.on rfl rfl (decide_eq_false g12) ?_
   refine WO.val (run_move rfl) rfl rfl rfl ?_
   refine WO.on rfl rfl (decide_eq_false g12) ?_
   refine WO.val (run_gtr rfl rfl) rfl rfl rfl ?_
   refine WO.val (run_pickF rfl (decide_eq_false g12) rfl) rfl rfl rfl ?_
   refine WO.nil ?_
   refine NX.go ?_
   refine WP.condP rfl (fun g15 => ?_) (fun g15 => ?_)
   ·
    refine WP.seq ?_
    refine WP.region rfl ?_
    refine WO.val (run_assign rfl) rfl rfl rfl ?_
    refine WO.nil ?_
    refine NX.go ?_
    refine WP.ret ?_
    refine NX.blkRet ?_
    refine NX.thenRet ?_
    refine NX.blkRet ?_
    refine NX.thenRet ?_
    refine NX.done (l := [.tmp 2]) rfl rfl ?_
    exact ⟨congrArg Value.bool (val_not hb7 (by unfold valB; omega)).symm, hS4.drop⟩
   ·
    refine WP.skip ?_
    refine NX.blk ?_
    exact NX.again (p + 1) ⟨⟨(List.getElem?_eq_some_iff.1 hb7).1, val_next hok hb7 ⟨by omega, by omega⟩⟩, hS4⟩ (by have := (List.getElem?_eq_some_iff.1 hb7).1; show s.length - (p + 1) < s.length - p; omega) (Sub.cons rfl (Sub.cons rfl (Sub.nil _)))
 ·
  refine WO.val (run_extract rfl rfl) rfl rfl rfl ?_
  refine WO.nil ?_
  refine NX.go ?_
  refine WP.seq ?_
  refine WP.condT rfl rfl ?_
  refine WP.skip ?_
  refine NX.go ?_
  refine WP.block ?_
  refine WP.seq ?_
  refine WP.region rfl ?_
  refine WO.val (run_extract rfl rfl) rfl rfl rfl ?_
  refine WO.val (run_assign rfl) rfl rfl rfl ?_
  refine WO.nil ?_
  refine NX.go ?_
  refine WP.seq ?_
  refine WP.region rfl ?_
  refine WO.val (run_move rfl) rfl rfl rfl ?_
  refine WO.val (run_lss rfl rfl) rfl rfl rfl ?_
  refine WO.val (run_move rfl) rfl rfl rfl ?_
  by_cases g12 : (c : Int) < 32
  ·
   refine WO.off rfl rfl (decide_eq_true g12) rfl ?_
   refine WO.off rfl rfl (decide_eq_true g12) rfl ?_
   refine WO.val (run_pickT rfl (decide_eq_true g12) rfl) rfl rfl rfl ?_
   refine WO.nil ?_
   refine NX.go ?_
   refine WP.condT rfl rfl ?_
   refine WP.seq ?_
   refine WP.region rfl ?_
   refine WO.val (run_assign rfl) rfl rfl rfl ?_
   refine WO.nil ?_
   refine NX.go ?_
   refine WP.ret ?_
   refine NX.blkRet ?_
   refine NX.thenRet ?_
   refine NX.blkRet ?_
   refine NX.thenRet ?_
   refine NX.done (l := [.tmp 2]) rfl rfl ?_
   exact ⟨congrArg Value.bool (val_not hb7 (by unfold valB; omega)).symm, hS5.drop⟩
  ·
   refine WO.on rfl rfl (decide_eq_false g12) ?_
   refine WO.val (run_move rfl) rfl rfl rfl ?_
   refine WO.on rfl rfl (decide_eq_false g12) ?_
   refine WO.val (run_gtr rfl rfl) rfl rfl rfl ?_
   refine WO.val (run_pickF rfl (decide_eq_false g12) rfl) rfl rfl rfl ?_
   refine WO.nil ?_
   refine NX.go ?_
   refine WP.condP rfl (fun g15 => ?_) (fun g15 => ?_)
   ·
    refine WP.seq ?_
    refine WP.region rfl ?_
    refine WO.val (run_assign rfl) rfl rfl rfl ?_
    refine WO.nil ?_
    refine NX.go ?_
    refine WP.ret ?_
    refine NX.blkRet ?_
    refine NX.thenRet ?_
    refine NX.blkRet ?_
    refine NX.thenRet ?_
    refine NX.done (l := [.tmp 2]) rfl rfl ?_
    exact ⟨congrArg Value.bool (val_not hb7 (by unfold valB; omega)).symm, hS5.drop⟩
   ·
    exact absurd (by omega) g15

theorem name_next {s : List UInt8} {p : Nat} {b : UInt8} (h : ∀ j b, j < p → s[j]? = some b → nameB b) (hb : s[p]? = some b) (hv : nameB b) : ∀ j c, j < p + 1 → s[j]? = some c → nameB c := by
  intro j c hj hc
  rcases Nat.lt_or_ge j p with k | k
  · exact h j c k hc
  · have : j = p := by omega
    subst this; rw [hb] at hc; cases hc; exact hv
theorem rname_spec {B w : World} {L : List HP} (s : List UInt8) (hs : s.length ≤ 9223372036854775806) (hS : St B L w) : Does Tryz.prog 51 [str s] w (fun v w1 => v = .bool (nameF s) ∧ St B L w1) := by
 refine enter (n := 34) Tryz.func51 rfl rfl [str s] rfl ?_
 refine WP.seq ?_
 refine WP.region rfl ?_
 refine WO.val (run_assign rfl) rfl rfl rfl ?_
 refine WO.nil ?_
 refine NX.go ?_
 refine WP.seq ?_
 refine WP.seq ?_
 refine WP.region rfl ?_
 refine WO.val (run_assign rfl) rfl rfl rfl ?_
 refine WO.nil ?_
 refine NX.go ?_
 refine WP.block ?_
 refine WP.loop (α := Nat) (fun x => match x with | i => [(0, str s), (3, Value.int .i64 (i : Int))]) (fun x w => match x with | i => (i ≤ s.length ∧ ∀ j b, j < i → s[j]? = some b → nameB b) ∧ St B (L) w) (fun x => match x with | i => s.length - i) 0 ⟨⟨Nat.zero_le _, fun j b h => absurd h (by omega)⟩, hS⟩ (Sub.cons rfl (Sub.consE rfl (by first | rfl | first | rfl | (congr 1; omega) | (simp; done) | (simp; omega)) (Sub.nil _))) ?_
 rintro i w1 ⟨⟨hi, hok⟩, hS1⟩
 clear hS
 refine WP.seq ?_
 refine WP.seq ?_
 refine WP.region rfl ?_
 refine WO.val (run_move rfl) rfl rfl rfl ?_
 refine WO.val (run_move rfl) rfl rfl rfl ?_
 refine WO.val (run_lenS rfl Tryz.underlying9 rfl) rfl rfl rfl ?_
 refine WO.val (run_lss rfl rfl) rfl rfl rfl ?_
 refine WO.nil ?_
 refine NX.go ?_
 refine WP.condP rfl (fun g7 => ?_) (fun g7 => ?_)
 ·
  refine WP.skip ?_
  refine NX.go ?_
  refine WP.seq ?_
  refine WP.block ?_
  refine WP.seq ?_
  refine WP.region rfl ?_
  refine WO.val (run_move rfl) rfl rfl rfl ?_
  refine WO.val (run_move rfl) rfl rfl rfl ?_
  obtain ⟨b, hb⟩ : ∃ b, s[i]? = some b := ⟨_, List.getElem?_eq_getElem (by omega)⟩
  have hb8 := UInt8.toNat_lt b
  refine WO.val (run_indexS Tryz.underlying9 rfl rfl (by omega) (by rw [Int.toNat_natCast]; exact hb)) rfl rfl rfl ?_
  refine WO.val (run_lss rfl rfl) rfl rfl rfl ?_
  refine WO.val (run_move rfl) rfl rfl rfl ?_
  by_cases g14 : (b.toNat : Int) < 97
  ·
   refine WO.off rfl rfl (decide_eq_true g14) rfl ?_
   refine WO.off rfl rfl (decide_eq_true g14) rfl ?_
   refine WO.off rfl rfl (decide_eq_true g14) rfl ?_
   refine WO.off rfl rfl (decide_eq_true g14) rfl ?_
   refine WO.val (run_pickT rfl (decide_eq_true g14) rfl) rfl rfl rfl ?_
   refine WO.val (run_move rfl) rfl rfl rfl ?_
   refine WO.on rfl rfl rfl ?_
   refine WO.val (run_move rfl) rfl rfl rfl ?_
   refine WO.on rfl rfl rfl ?_
   refine WO.val (run_move rfl) rfl rfl rfl ?_
   refine WO.on rfl rfl rfl ?_
   refine WO.val (run_indexS Tryz.underlying9 rfl rfl (by omega) (by rw [Int.toNat_natCast]; exact hb)) rfl rfl rfl ?_
   refine WO.on rfl rfl rfl ?_
   refine WO.val (run_neq rfl rfl) rfl rfl rfl ?_
   refine WO.val (run_pickT rfl rfl rfl) rfl rfl rfl ?_
   refine WO.nil ?_
   refine NX.go ?_
   refine WP.condP rfl (fun g25 => ?_) (fun g25 => ?_)
   ·
    refine WP.seq ?_
    refine WP.region rfl ?_
    refine WO.val (run_assign rfl) rfl rfl rfl ?_
    refine WO.nil ?_
    refine NX.go ?_
    refine WP.ret ?_
    refine NX.blkRet ?_
    refine NX.thenRet ?_
    refine NX.thenRet ?_
    refine NX.blkRet ?_
    refine NX.thenRet ?_
    refine NX.done (l := [.tmp 2]) rfl rfl ?_
    exact ⟨congrArg Value.bool (decide_eq_false (fun h => absurd (h.2.2 b (List.mem_of_getElem? hb)) (by unfold nameB; omega))).symm, hS1⟩
   ·
    refine WP.skip ?_
    refine NX.blk ?_
    refine NX.go ?_
    refine WP.region rfl ?_
    refine WO.val (run_move rfl) rfl rfl rfl ?_
    refine WO.val (run_add rfl rfl (IntWalk.i64_in _ (by omega))) rfl rfl rfl ?_
    refine WO.val (run_assign rfl) rfl rfl rfl ?_
    refine WO.nil ?_
    exact NX.again (i + 1) ⟨⟨by omega, name_next hok hb (by unfold nameB; omega)⟩, hS1⟩ (by show s.length - (i + 1) < s.length - i; omega) (Sub.cons rfl (Sub.consE rfl (by congr 1) (Sub.nil _)))
  ·
   refine WO.on rfl rfl (decide_eq_false g14) ?_
   refine WO.val (run_move rfl) rfl rfl rfl ?_
   refine WO.on rfl rfl (decide_eq_false g14) ?_
   refine WO.val (run_move rfl) rfl rfl rfl ?_
   refine WO.on rfl rfl (decide_eq_false g14) ?_
   refine WO.val (run_indexS Tryz.underlying9 rfl rfl (by omega) (by rw [Int.toNat_natCast]; exact hb)) rfl rfl rfl ?_
   refine WO.on rfl rfl (decide_eq_false g14) ?_
   refine WO.val (run_gtr rfl rfl) rfl rfl rfl ?_
   refine WO.val (run_pickF rfl (decide_eq_false g14) rfl) rfl rfl rfl ?_
   refine WO.val (run_move rfl) rfl rfl rfl ?_
   by_cases g20 : 122 < (b.toNat : Int)
   ·
    refine WO.on rfl rfl (decide_eq_true g20) ?_
    refine WO.val (run_move rfl) rfl rfl rfl ?_
    refine WO.on rfl rfl (decide_eq_true g20) ?_
    refine WO.val (run_move rfl) rfl rfl rfl ?_
    refine WO.on rfl rfl (decide_eq_true g20) ?_
    refine WO.val (run_indexS Tryz.underlying9 rfl rfl (by omega) (by rw [Int.toNat_natCast]; exact hb)) rfl rfl rfl ?_
    refine WO.on rfl rfl (decide_eq_true g20) ?_
    refine WO.val (run_neq rfl rfl) rfl rfl rfl ?_
    refine WO.val (run_pickT rfl (decide_eq_true g20) rfl) rfl rfl rfl ?_
    refine WO.nil ?_
    refine NX.go ?_
    refine WP.condP rfl (fun g25 => ?_) (fun g25 => ?_)
    ·
     refine WP.seq ?_
     refine WP.region rfl ?_
     refine WO.val (run_assign rfl) rfl rfl rfl ?_
     refine WO.nil ?_
     refine NX.go ?_
     refine WP.ret ?_
     refine NX.blkRet ?_
     refine NX.thenRet ?_
     refine NX.thenRet ?_
     refine NX.blkRet ?_
     refine NX.thenRet ?_
     refine NX.done (l := [.tmp 2]) rfl rfl ?_
     exact ⟨congrArg Value.bool (decide_eq_false (fun h => absurd (h.2.2 b (List.mem_of_getElem? hb)) (by unfold nameB; omega))).symm, hS1⟩
    ·
     refine WP.skip ?_
     refine NX.blk ?_
     refine NX.go ?_
     refine WP.region rfl ?_
     refine WO.val (run_move rfl) rfl rfl rfl ?_
     refine WO.val (run_add rfl rfl (IntWalk.i64_in _ (by omega))) rfl rfl rfl ?_
     refine WO.val (run_assign rfl) rfl rfl rfl ?_
     refine WO.nil ?_
     exact NX.again (i + 1) ⟨⟨by omega, name_next hok hb (by unfold nameB; omega)⟩, hS1⟩ (by show s.length - (i + 1) < s.length - i; omega) (Sub.cons rfl (Sub.consE rfl (by congr 1) (Sub.nil _)))
   ·
    refine WO.off rfl rfl (decide_eq_false g20) rfl ?_
    refine WO.off rfl rfl (decide_eq_false g20) rfl ?_
    refine WO.off rfl rfl (decide_eq_false g20) rfl ?_
    refine WO.off rfl rfl (decide_eq_false g20) rfl ?_
    refine WO.val (run_pickF rfl (decide_eq_false g20) rfl) rfl rfl rfl ?_
    refine WO.nil ?_
    refine NX.go ?_
    refine WP.condF rfl rfl ?_
    refine WP.skip ?_
    refine NX.blk ?_
    refine NX.go ?_
    refine WP.region rfl ?_
    refine WO.val (run_move rfl) rfl rfl rfl ?_
    refine WO.val (run_add rfl rfl (IntWalk.i64_in _ (by omega))) rfl rfl rfl ?_
    refine WO.val (run_assign rfl) rfl rfl rfl ?_
    refine WO.nil ?_
    exact NX.again (i + 1) ⟨⟨by omega, name_next hok hb (by unfold nameB; omega)⟩, hS1⟩ (by show s.length - (i + 1) < s.length - i; omega) (Sub.cons rfl (Sub.consE rfl (by congr 1) (Sub.nil _)))
 ·
  refine WP.exit ?_
  refine NX.thenExit ?_
  refine NX.thenExit ?_
  refine NX.blkExit ?_
  refine NX.go ?_
  refine WP.seq ?_
  refine WP.region rfl ?_
  refine WO.val (run_move rfl) rfl rfl rfl ?_
  refine WO.val (run_lenS rfl Tryz.underlying9 rfl) rfl rfl rfl ?_
  refine WO.val (run_geq rfl rfl) rfl rfl rfl ?_
  refine WO.val (run_move rfl) rfl rfl rfl ?_
  by_cases g29 : 1 ≤ (s.length : Int)
  ·
   refine WO.on rfl rfl (decide_eq_true g29) ?_
   refine WO.val (run_move rfl) rfl rfl rfl ?_
   refine WO.on rfl rfl (decide_eq_true g29) ?_
   refine WO.val (run_lenS rfl Tryz.underlying9 rfl) rfl rfl rfl ?_
   refine WO.on rfl rfl (decide_eq_true g29) ?_
   refine WO.val (run_leq rfl rfl) rfl rfl rfl ?_
   refine WO.val (run_pickT rfl (decide_eq_true g29) rfl) rfl rfl rfl ?_
   refine WO.val (run_assign rfl) rfl rfl rfl ?_
   refine WO.nil ?_
   refine NX.go ?_
   refine WP.ret ?_
   refine NX.done (l := [.tmp 2]) rfl rfl ?_
   exact ⟨congrArg Value.bool (decide_eq_decide.2 ⟨fun h => ⟨List.length_pos_iff.1 (by omega), by omega, val_all hok (by omega)⟩, fun h => by have := h.2.1; omega⟩), hS1⟩
  ·
   refine WO.off rfl rfl (decide_eq_false g29) rfl ?_
   refine WO.off rfl rfl (decide_eq_false g29) rfl ?_
   refine WO.off rfl rfl (decide_eq_false g29) rfl ?_
   refine WO.val (run_pickF rfl (decide_eq_false g29) rfl) rfl rfl rfl ?_
   refine WO.val (run_assign rfl) rfl rfl rfl ?_
   refine WO.nil ?_
   refine NX.go ?_
   refine WP.ret ?_
   refine NX.done (l := [.tmp 2]) rfl rfl ?_
   exact ⟨congrArg Value.bool (decide_eq_false (fun h => absurd (List.length_pos_iff.2 h.1) (by omega))).symm, hS1⟩
theorem rvalue_spec {B w : World} {L : List HP} (s : List UInt8) (hs : s.length ≤ 9223372036854775806) (hS : St B L w) : Does Tryz.prog 52 [str s] w (fun v w1 => v = .bool (valueF s) ∧ St B L w1) := by
 refine enter (n := 28) Tryz.func52 rfl rfl [str s] rfl ?_
 refine WP.seq ?_
 refine WP.region rfl ?_
 refine WO.val (run_assign rfl) rfl rfl rfl ?_
 refine WO.nil ?_
 refine NX.go ?_
 refine WP.seq ?_
 refine WP.seq ?_
 refine WP.region rfl ?_
 refine WO.val (run_assign rfl) rfl rfl rfl ?_
 refine WO.nil ?_
 refine NX.go ?_
 refine WP.block ?_
 refine WP.loop (α := Nat) (fun x => match x with | i => [(0, str s), (3, Value.int .i64 (i : Int))]) (fun x w => match x with | i => (i ≤ s.length ∧ ∀ j b, j < i → s[j]? = some b → valB b) ∧ St B (L) w) (fun x => match x with | i => s.length - i) 0 ⟨⟨Nat.zero_le _, fun j b h => absurd h (by omega)⟩, hS⟩ (Sub.cons rfl (Sub.consE rfl (by first | rfl | first | rfl | (congr 1; omega) | (simp; done) | (simp; omega)) (Sub.nil _))) ?_
 rintro i w1 ⟨⟨hi, hok⟩, hS1⟩
 clear hS
 refine WP.seq ?_
 refine WP.seq ?_
 refine WP.region rfl ?_
 refine WO.val (run_move rfl) rfl rfl rfl ?_
 refine WO.val (run_move rfl) rfl rfl rfl ?_
 refine WO.val (run_lenS rfl Tryz.underlying9 rfl) rfl rfl rfl ?_
 refine WO.val (run_lss rfl rfl) rfl rfl rfl ?_
 refine WO.nil ?_
 refine NX.go ?_
 refine WP.condP rfl (fun g7 => ?_) (fun g7 => ?_)
 ·
  refine WP.skip ?_
  refine NX.go ?_
  refine WP.seq ?_
  refine WP.block ?_
  refine WP.seq ?_
  refine WP.region rfl ?_
  refine WO.val (run_move rfl) rfl rfl rfl ?_
  refine WO.val (run_move rfl) rfl rfl rfl ?_
  obtain ⟨b, hb⟩ : ∃ b, s[i]? = some b := ⟨_, List.getElem?_eq_getElem (by omega)⟩
  have hb8 := UInt8.toNat_lt b
  refine WO.val (run_indexS Tryz.underlying9 rfl rfl (by omega) (by rw [Int.toNat_natCast]; exact hb)) rfl rfl rfl ?_
  refine WO.val (run_lss rfl rfl) rfl rfl rfl ?_
  refine WO.val (run_move rfl) rfl rfl rfl ?_
  by_cases g14 : (b.toNat : Int) < 32
  ·
   refine WO.off rfl rfl (decide_eq_true g14) rfl ?_
   refine WO.off rfl rfl (decide_eq_true g14) rfl ?_
   refine WO.off rfl rfl (decide_eq_true g14) rfl ?_
   refine WO.off rfl rfl (decide_eq_true g14) rfl ?_
   refine WO.val (run_pickT rfl (decide_eq_true g14) rfl) rfl rfl rfl ?_
   refine WO.nil ?_
   refine NX.go ?_
   refine WP.condT rfl rfl ?_
   refine WP.seq ?_
   refine WP.region rfl ?_
   refine WO.val (run_assign rfl) rfl rfl rfl ?_
   refine WO.nil ?_
   refine NX.go ?_
   refine WP.ret ?_
   refine NX.blkRet ?_
   refine NX.thenRet ?_
   refine NX.thenRet ?_
   refine NX.blkRet ?_
   refine NX.thenRet ?_
   refine NX.done (l := [.tmp 2]) rfl rfl ?_
   exact ⟨congrArg Value.bool (decide_eq_false (fun h => absurd (h.2.2 b (List.mem_of_getElem? hb)) (by unfold valB; omega))).symm, hS1⟩
  ·
   refine WO.on rfl rfl (decide_eq_false g14) ?_
   refine WO.val (run_move rfl) rfl rfl rfl ?_
   refine WO.on rfl rfl (decide_eq_false g14) ?_
   refine WO.val (run_move rfl) rfl rfl rfl ?_
   refine WO.on rfl rfl (decide_eq_false g14) ?_
   refine WO.val (run_indexS Tryz.underlying9 rfl rfl (by omega) (by rw [Int.toNat_natCast]; exact hb)) rfl rfl rfl ?_
   refine WO.on rfl rfl (decide_eq_false g14) ?_
   refine WO.val (run_gtr rfl rfl) rfl rfl rfl ?_
   refine WO.val (run_pickF rfl (decide_eq_false g14) rfl) rfl rfl rfl ?_
   refine WO.nil ?_
   refine NX.go ?_
   refine WP.condP rfl (fun g19 => ?_) (fun g19 => ?_)
   ·
    refine WP.seq ?_
    refine WP.region rfl ?_
    refine WO.val (run_assign rfl) rfl rfl rfl ?_
    refine WO.nil ?_
    refine NX.go ?_
    refine WP.ret ?_
    refine NX.blkRet ?_
    refine NX.thenRet ?_
    refine NX.thenRet ?_
    refine NX.blkRet ?_
    refine NX.thenRet ?_
    refine NX.done (l := [.tmp 2]) rfl rfl ?_
    exact ⟨congrArg Value.bool (decide_eq_false (fun h => absurd (h.2.2 b (List.mem_of_getElem? hb)) (by unfold valB; omega))).symm, hS1⟩
   ·
    refine WP.skip ?_
    refine NX.blk ?_
    refine NX.go ?_
    refine WP.region rfl ?_
    refine WO.val (run_move rfl) rfl rfl rfl ?_
    refine WO.val (run_add rfl rfl (IntWalk.i64_in _ (by omega))) rfl rfl rfl ?_
    refine WO.val (run_assign rfl) rfl rfl rfl ?_
    refine WO.nil ?_
    exact NX.again (i + 1) ⟨⟨by omega, val_next hok hb (by unfold valB; omega)⟩, hS1⟩ (by show s.length - (i + 1) < s.length - i; omega) (Sub.cons rfl (Sub.consE rfl (by congr 1) (Sub.nil _)))
 ·
  refine WP.exit ?_
  refine NX.thenExit ?_
  refine NX.thenExit ?_
  refine NX.blkExit ?_
  refine NX.go ?_
  refine WP.seq ?_
  refine WP.region rfl ?_
  refine WO.val (run_move rfl) rfl rfl rfl ?_
  refine WO.val (run_lenS rfl Tryz.underlying9 rfl) rfl rfl rfl ?_
  refine WO.val (run_geq rfl rfl) rfl rfl rfl ?_
  refine WO.val (run_move rfl) rfl rfl rfl ?_
  by_cases g23 : 1 ≤ (s.length : Int)
  ·
   refine WO.on rfl rfl (decide_eq_true g23) ?_
   refine WO.val (run_move rfl) rfl rfl rfl ?_
   refine WO.on rfl rfl (decide_eq_true g23) ?_
   refine WO.val (run_lenS rfl Tryz.underlying9 rfl) rfl rfl rfl ?_
   refine WO.on rfl rfl (decide_eq_true g23) ?_
   refine WO.val (run_leq rfl rfl) rfl rfl rfl ?_
   refine WO.val (run_pickT rfl (decide_eq_true g23) rfl) rfl rfl rfl ?_
   refine WO.val (run_assign rfl) rfl rfl rfl ?_
   refine WO.nil ?_
   refine NX.go ?_
   refine WP.ret ?_
   refine NX.done (l := [.tmp 2]) rfl rfl ?_
   exact ⟨congrArg Value.bool (decide_eq_decide.2 ⟨fun h => ⟨List.length_pos_iff.1 (by omega), by omega, val_all hok (by omega)⟩, fun h => by have := h.2.1; omega⟩), hS1⟩
  ·
   refine WO.off rfl rfl (decide_eq_false g23) rfl ?_
   refine WO.off rfl rfl (decide_eq_false g23) rfl ?_
   refine WO.off rfl rfl (decide_eq_false g23) rfl ?_
   refine WO.val (run_pickF rfl (decide_eq_false g23) rfl) rfl rfl rfl ?_
   refine WO.val (run_assign rfl) rfl rfl rfl ?_
   refine WO.nil ?_
   refine NX.go ?_
   refine WP.ret ?_
   refine NX.done (l := [.tmp 2]) rfl rfl ?_
   exact ⟨congrArg Value.bool (decide_eq_false (fun h => absurd (List.length_pos_iff.2 h.1) (by omega))).symm, hS1⟩
end Go.Proofs.YtogidmceomlkeaaGreatDoor.SL
