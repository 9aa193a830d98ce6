import Derived.Test.YtidoidoelgfnaaaGreatDoorKt
import Derived.Test.YtidoidoelgfnaaaGreatDoorSl9M
/- Names and values of labels. -/
namespace Go.Proofs.YtidoidoelgfnaaaGreatDoor.SL
open Go.RowKit Go.Proofs.YtidoidoelgfnaaaGreatDoor
open Go.Proofs.YtidoidoelgfnaaaGreatDoorW.PrintLast (rtab opsOf)
set_option linter.unusedVariables false
set_option linter.unusedSimpArgs false

def nameB (b : UInt8) : Prop := 97 ≤ b.toNat ∧ b.toNat ≤ 122 ∨ b.toNat = 95
instance (b : UInt8) : Decidable (nameB b) := by unfold nameB; infer_instance
def valB (b : UInt8) : Prop := 32 ≤ b.toNat ∧ b.toNat ≤ 126
instance (b : UInt8) : Decidable (valB b) := by unfold valB; infer_instance
def nameF (s : List UInt8) : Bool := decide (s ≠ [] ∧ s.length ≤ 32 ∧ ∀ b ∈ s, nameB b)
def valueF (s : List UInt8) : Bool := decide (s ≠ [] ∧ s.length ≤ 64 ∧ ∀ b ∈ s, valB b)
def signsL : List UInt8 := [97, 98, 99, 100, 101, 102, 103, 104, 105, 106, 107, 108, 109, 110, 111, 112, 113, 114, 115, 116, 117, 118, 119, 120, 121, 122, 95]
theorem dropWhile_nil {p : UInt8 → Bool} : ∀ {l : List UInt8}, l.dropWhile p = [] ↔ ∀ b ∈ l, p b = true
  | [] => by simp
  | b :: l => by
    by_cases h : p b = true
    · rw [List.dropWhile_cons_of_pos h, dropWhile_nil]; simp [h]
    · rw [List.dropWhile_cons_of_neg h]; simp [h]
theorem trimA_nil {s cs : List UInt8} : trimA s cs = [] ↔ ∀ b ∈ s, cs.contains b = true := by
  have hR : trimR s cs = [] ↔ ∀ b ∈ s, cs.contains b = true := by
    unfold trimR; rw [List.reverse_eq_nil_iff, dropWhile_nil]; simp
  unfold trimA
  constructor
  · intro h
    rw [← hR]
    rcases List.eq_nil_or_concat (trimR s cs) with e | ⟨z, c, e⟩
    · exact e
    · have hc : cs.contains c = true := by
        unfold trimL at h
        rw [e, List.concat_eq_append, dropWhile_nil] at h
        exact h c (by simp)
      exfalso
      have h2 : (s.reverse.dropWhile (cs.contains ·)) = c :: z.reverse := by
        have := congrArg List.reverse e
        unfold trimR at this
        rw [List.reverse_reverse, List.concat_eq_append, List.reverse_append] at this
        exact this
      have h3 := List.head?_dropWhile_not (cs.contains ·) s.reverse
      rw [h2] at h3
      simp only [List.head?_cons] at h3
      rw [hc] at h3; cases h3
  · intro h; rw [hR.2 h]; rfl
theorem signs_name : ∀ b : UInt8, signsL.contains b = true ↔ nameB b := by
  intro b
  have key : ∀ n : Fin 256, signsL.contains (UInt8.ofNat n.val) = decide (97 ≤ n.val ∧ n.val ≤ 122 ∨ n.val = 95) := by decide +kernel
  have h := key ⟨b.toNat, UInt8.toNat_lt b⟩
  simp only [UInt8.ofNat_toNat] at h
  rw [h, decide_eq_true_iff]; rfl
theorem name_trim (s : List UInt8) : (trimA s signsL = []) ↔ ∀ b ∈ s, nameB b := by
  rw [trimA_nil]
  exact ⟨fun h b hb => (signs_name b).1 (h b hb), fun h b hb => (signs_name b).2 (h b hb)⟩
theorem signs_ascii : Ascii signsL := by
  intro j b h
  have hm := List.mem_of_getElem? h
  have : ∀ b ∈ signsL, b.toNat < 128 := by decide
  exact this b hm
theorem lname_spec {B w : World} {L : List HP} (s : List UInt8) (hs : s.length ≤ 9223372036854775807) (hS : St B L w) : Does Tryz.prog 123 [str s] w (fun v w1 => v = .bool (nameF s) ∧ St B L w1) := by
 refine enter (n := 15) Tryz.func123 rfl rfl [str s] rfl ?_
 refine WP.seq (WP.region rfl ?_)
 refine WO.asg rfl rfl ?_
 refine WO.nil (NX.go (WP.seq (WP.region rfl ?_)))
 refine WO.mv rfl rfl ?_
 refine WO.V (run_neqS rfl rfl) ?_
 refine WO.mv rfl rfl ?_
 refine dcase (p := ¬ s = []) (fun g5 d5 => ?_) (fun g5 d5 => ?_)
 ·
  refine WO.on rfl rfl d5 ?_
  refine WO.mv rfl rfl ?_
  refine WO.on rfl rfl d5 ?_
  refine WO.V (run_lenS rfl Tryz.underlying9 rfl) ?_
  refine WO.on rfl rfl d5 ?_
  refine WO.V (run_leq rfl rfl) ?_
  refine WO.V (run_pickT rfl d5 rfl) ?_
  refine WO.mv rfl rfl ?_
  refine dcase (p := (s.length : Int) ≤ 32) (fun g10 d10 => ?_) (fun g10 d10 => ?_)
  ·
   refine WO.on rfl rfl d10 ?_
   refine WO.mv rfl rfl ?_
   refine WO.on rfl rfl d10 ?_
   refine WO.call rfl rfl Ty.hd135 rfl (trim_spec (cs := signsL) s hs (by decide) (by decide) signs_ascii hS) (fun v2 w1 pv2 => ?_)
   obtain ⟨rfl, hS1⟩ := pv2
   clear hS
   refine WO.on rfl rfl d10 ?_
   refine WO.V (run_eqlS rfl rfl) ?_
   refine WO.V (run_pickT rfl d10 rfl) ?_
   refine WO.asg rfl rfl ?_
   refine WO.nil (NX.go (WP.ret ?_))
   refine NX.done (l := [.tmp 2]) rfl rfl ?_
   exact ⟨congrArg Value.bool (decide_eq_decide.2 ((name_trim s).trans ⟨fun h => ⟨g5, by omega, h⟩, fun h => h.2.2⟩)), hS1⟩
  ·
   refine WO.off rfl rfl d10 rfl ?_
   refine WO.off rfl rfl d10 rfl ?_
   refine WO.off rfl rfl d10 rfl ?_
   refine WO.V (run_pickF rfl d10 rfl) ?_
   refine WO.asg rfl rfl ?_
   refine WO.nil (NX.go (WP.ret ?_))
   refine NX.done (l := [.tmp 2]) rfl rfl ?_
   exact ⟨congrArg Value.bool (decide_eq_false (fun h => absurd h.2.1 (by omega))).symm, hS⟩
 ·
  refine WO.off rfl rfl d5 rfl ?_
  refine WO.off rfl rfl d5 rfl ?_
  refine WO.off rfl rfl d5 rfl ?_
  refine WO.V (run_pickF rfl d5 rfl) ?_
  refine WO.mv rfl rfl ?_
  refine WO.off rfl rfl rfl rfl ?_
  refine WO.off rfl rfl rfl rfl ?_
  refine WO.off rfl rfl rfl rfl ?_
  refine WO.V (run_pickF rfl rfl rfl) ?_
  refine WO.asg rfl rfl ?_
  refine WO.nil (NX.go (WP.ret ?_))
  refine NX.done (l := [.tmp 2]) rfl rfl ?_
  exact ⟨congrArg Value.bool (decide_eq_false (fun h => absurd h.1 (by simpa using g5))).symm, hS⟩

theorem val_next {s : List UInt8} {p : Nat} {b : UInt8} (h : ∀ j b, j < p → s[j]? = some b → valB b) (hb : s[p]? = some b) (hv : valB b) : ∀ j c, j < p + 1 → s[j]? = some c → valB c := by
  intro j c hj hc
  rcases Nat.lt_or_ge j p with k | k
  · exact h j c k hc
  · have : j = p := by omega
    subst this; rw [hb] at hc; cases hc; exact hv
theorem val_not {s : List UInt8} {p : Nat} {b : UInt8} (hb : s[p]? = some b) (hv : ¬ valB b) : valueF s = false := decide_eq_false fun h => hv (h.2.2 b (List.mem_of_getElem? hb))
theorem val_all {s : List UInt8} {p : Nat} {Q : UInt8 → Prop} (h : ∀ j b, j < p → s[j]? = some b → Q b) (hp : s.length ≤ p) : ∀ b ∈ s, Q b := by
  intro b hb
  obtain ⟨j, hj, e⟩ := List.getElem_of_mem hb
  exact h j b (by omega) (by rw [List.getElem?_eq_getElem hj, e])
theorem lvalue_spec {B w : World} {L : List HP} (s : List UInt8) (hs : s.length ≤ 9223372036854775807) (hS : St B L w) : Does Tryz.prog 124 [str s] w (fun v w1 => v = .bool (valueF s) ∧ St B L w1) := by
 refine enter (n := 23) Tryz.func124 rfl rfl [str s] rfl ?_
 refine WP.seq (WP.region rfl ?_)
 refine WO.asg rfl rfl ?_
 refine WO.nil (NX.go (WP.seq (WP.seq (WP.region rfl ?_))))
 refine WO.mv rfl rfl ?_
 refine WO.rangeS hS Tryz.underlying9 rfl rfl (fun r2 w1 hS1 => ?_)
 clear hS
 refine WO.nil (NX.go (WP.block ?_))
 refine WP.loop (α := Nat) (fun x => match x with | p => [(0, str s), (6, Value.pointer (some ⟨r2, 0, none⟩))]) (fun x w => match x with | p => (p ≤ s.length ∧ ∀ j b, j < p → s[j]? = some b → valB b) ∧ St B (itS r2 s p :: L) w) (fun x => match x with | p => s.length - p) 0 ⟨⟨Nat.zero_le _, fun j b h => absurd h (by omega)⟩, hS1⟩ (Sub.cons rfl (Sub.cons rfl (Sub.nil _))) ?_
 rintro p w3 ⟨⟨hp, hok⟩, hS3⟩
 clear hS1
 refine WP.seq (WP.region rfl ?_)
 refine WO.nextS 0 hS3 rfl rfl rfl (fun e7 => ?_) (fun b hb7 ha7 w4 hS4 => ?_) (fun b c k6 hb7 ha7 hc7 w5 hS5 => ?_)
 ·
  refine WO.V (run_extract rfl rfl) ?_
  refine WO.nil (NX.go (WP.seq ?_))
  refine WP.condF rfl rfl ?_
  refine WP.exit (NX.thenExit (NX.thenExit ?_))
  refine NX.blkExit ?_
  refine NX.go (WP.seq (WP.region rfl ?_))
  refine WO.mv rfl rfl ?_
  refine WO.V (run_neqS rfl rfl) ?_
  refine WO.mv rfl rfl ?_
  refine dcase (p := ¬ s = []) (fun g18 d18 => ?_) (fun g18 d18 => ?_)
  ·
   refine WO.on rfl rfl d18 ?_
   refine WO.mv rfl rfl ?_
   refine WO.on rfl rfl d18 ?_
   refine WO.V (run_lenS rfl Tryz.underlying9 rfl) ?_
   refine WO.on rfl rfl d18 ?_
   refine WO.V (run_leq rfl rfl) ?_
   refine WO.V (run_pickT rfl d18 rfl) ?_
   refine WO.asg rfl rfl ?_
   refine WO.nil (NX.go (WP.ret ?_))
   refine NX.done (l := [.tmp 2]) rfl rfl ?_
   exact ⟨congrArg Value.bool (decide_eq_decide.2 ⟨fun h => ⟨g18, by omega, val_all hok e7⟩, fun h => by have := h.2.1; omega⟩), hS3.drop⟩
  ·
   refine WO.off rfl rfl d18 rfl ?_
   refine WO.off rfl rfl d18 rfl ?_
   refine WO.off rfl rfl d18 rfl ?_
   refine WO.V (run_pickF rfl d18 rfl) ?_
   refine WO.asg rfl rfl ?_
   refine WO.nil (NX.go (WP.ret ?_))
   refine NX.done (l := [.tmp 2]) rfl rfl ?_
   exact ⟨congrArg Value.bool (decide_eq_false (fun h => absurd h.1 (by simpa using g18))).symm, hS3.drop⟩
 ·
  have hb8 := UInt8.toNat_lt b
  refine WO.V (run_extract rfl rfl) ?_
  refine WO.nil (NX.go (WP.seq ?_))
  refine WP.condT rfl rfl ?_
  refine WP.skip (NX.go (WP.block (WP.seq (WP.region rfl ?_))))
  refine WO.V (run_extract rfl rfl) ?_
  refine WO.asg rfl rfl ?_
  refine WO.nil (NX.go (WP.seq (WP.region rfl ?_)))
  refine WO.mv rfl rfl ?_
  refine WO.V (run_lss rfl rfl) ?_
  refine WO.mv rfl rfl ?_
  refine dcase (p := (b.toNat : Int) < 32) (fun g12 d12 => ?_) (fun g12 d12 => ?_)
  ·
   refine WO.off rfl rfl d12 rfl ?_
   refine WO.off rfl rfl d12 rfl ?_
   refine WO.V (run_pickT rfl d12 rfl) ?_
   refine WO.nil (NX.go ?_)
   refine WP.condT rfl rfl ?_
   refine WP.seq (WP.region rfl ?_)
   refine WO.asg rfl rfl ?_
   refine WO.nil (NX.go (WP.ret (NX.blkRet (NX.thenRet (NX.blkRet (NX.thenRet ?_))))))
   refine NX.done (l := [.tmp 2]) rfl rfl ?_
   exact ⟨congrArg Value.bool (val_not hb7 (by unfold valB; omega)).symm, hS4.drop⟩
  ·
   refine WO.on rfl rfl d12 ?_
   refine WO.mv rfl rfl ?_
   refine WO.on rfl rfl d12 ?_
   refine WO.V (run_gtr rfl rfl) ?_
   refine WO.V (run_pickF rfl d12 rfl) ?_
   refine WO.nil (NX.go ?_)
   refine WP.condP rfl (fun g15 => ?_) (fun g15 => ?_)
   ·
    refine WP.seq (WP.region rfl ?_)
    refine WO.asg rfl rfl ?_
    refine WO.nil (NX.go (WP.ret (NX.blkRet (NX.thenRet (NX.blkRet (NX.thenRet ?_))))))
    refine NX.done (l := [.tmp 2]) rfl rfl ?_
    exact ⟨congrArg Value.bool (val_not hb7 (by unfold valB; omega)).symm, hS4.drop⟩
   ·
    refine WP.skip (NX.blk ?_)
    exact NX.again (p + 1) ⟨⟨(List.getElem?_eq_some_iff.1 hb7).1, val_next hok hb7 ⟨by omega, by omega⟩⟩, hS4⟩ (by have := (List.getElem?_eq_some_iff.1 hb7).1; show s.length - (p + 1) < s.length - p; omega) (Sub.cons rfl (Sub.cons rfl (Sub.nil _)))
 ·
  refine WO.V (run_extract rfl rfl) ?_
  refine WO.nil (NX.go (WP.seq ?_))
  refine WP.condT rfl rfl ?_
  refine WP.skip (NX.go (WP.block (WP.seq (WP.region rfl ?_))))
  refine WO.V (run_extract rfl rfl) ?_
  refine WO.asg rfl rfl ?_
  refine WO.nil (NX.go (WP.seq (WP.region rfl ?_)))
  refine WO.mv rfl rfl ?_
  refine WO.V (run_lss rfl rfl) ?_
  refine WO.mv rfl rfl ?_
  refine dcase (p := (c : Int) < 32) (fun g12 d12 => ?_) (fun g12 d12 => ?_)
  ·
   refine WO.off rfl rfl d12 rfl ?_
   refine WO.off rfl rfl d12 rfl ?_
   refine WO.V (run_pickT rfl d12 rfl) ?_
   refine WO.nil (NX.go ?_)
   refine WP.condT rfl rfl ?_
   refine WP.seq (WP.region rfl ?_)
   refine WO.asg rfl rfl ?_
   refine WO.nil (NX.go (WP.ret (NX.blkRet (NX.thenRet (NX.blkRet (NX.thenRet ?_))))))
   refine NX.done (l := [.tmp 2]) rfl rfl ?_
   exact ⟨congrArg Value.bool (val_not hb7 (by unfold valB; omega)).symm, hS5.drop⟩
  ·
   refine WO.on rfl rfl d12 ?_
   refine WO.mv rfl rfl ?_
   refine WO.on rfl rfl d12 ?_
   refine WO.V (run_gtr rfl rfl) ?_
   refine WO.V (run_pickF rfl d12 rfl) ?_
   refine WO.nil (NX.go ?_)
   refine WP.condP rfl (fun g15 => ?_) (fun g15 => ?_)
   ·
    refine WP.seq (WP.region rfl ?_)
    refine WO.asg rfl rfl ?_
    refine WO.nil (NX.go (WP.ret (NX.blkRet (NX.thenRet (NX.blkRet (NX.thenRet ?_))))))
    refine NX.done (l := [.tmp 2]) rfl rfl ?_
    exact ⟨congrArg Value.bool (val_not hb7 (by unfold valB; omega)).symm, hS5.drop⟩
   ·
    exact absurd (by omega) g15

theorem name_next {s : List UInt8} {p : Nat} {b : UInt8} (h : ∀ j b, j < p → s[j]? = some b → nameB b) (hb : s[p]? = some b) (hv : nameB b) : ∀ j c, j < p + 1 → s[j]? = some c → nameB c := by
  intro j c hj hc
  rcases Nat.lt_or_ge j p with k | k
  · exact h j c k hc
  · have : j = p := by omega
    subst this; rw [hb] at hc; cases hc; exact hv
theorem rname_spec {B w : World} {L : List HP} (s : List UInt8) (hs : s.length ≤ 9223372036854775806) (hS : St B L w) : Does Tryz.prog 83 [str s] w (fun v w1 => v = .bool (nameF s) ∧ St B L w1) := by
 refine enter (n := 34) Tryz.func83 rfl rfl [str s] rfl ?_
 refine WP.seq (WP.region rfl ?_)
 refine WO.asg rfl rfl ?_
 refine WO.nil (NX.go (WP.seq (WP.seq (WP.region rfl ?_))))
 refine WO.asg rfl rfl ?_
 refine WO.nil (NX.go (WP.block ?_))
 refine WP.loop (α := Nat) (fun x => match x with | i => [(0, str s), (3, Value.int .i64 (i : Int))]) (fun x w => match x with | i => (i ≤ s.length ∧ ∀ j b, j < i → s[j]? = some b → nameB b) ∧ St B (L) w) (fun x => match x with | i => s.length - i) 0 ⟨⟨Nat.zero_le _, fun j b h => absurd h (by omega)⟩, hS⟩ (Sub.cons rfl (Sub.consE rfl (by first | rfl | first | rfl | (congr 1; omega) | (simp; done) | (simp; omega)) (Sub.nil _))) ?_
 rintro i w1 ⟨⟨hi, hok⟩, hS1⟩
 clear hS
 refine WP.seq (WP.seq (WP.region rfl ?_))
 refine WO.mv rfl rfl ?_
 refine WO.mv rfl rfl ?_
 refine WO.V (run_lenS rfl Tryz.underlying9 rfl) ?_
 refine WO.V (run_lss rfl rfl) ?_
 refine WO.nil (NX.go ?_)
 refine WP.condP rfl (fun g7 => ?_) (fun g7 => ?_)
 ·
  refine WP.skip (NX.go (WP.seq (WP.block (WP.seq (WP.region rfl ?_)))))
  refine WO.mv rfl rfl ?_
  refine WO.mv rfl rfl ?_
  obtain ⟨b, hb⟩ : ∃ b, s[i]? = some b := ⟨_, List.getElem?_eq_getElem (by omega)⟩
  have hb8 := UInt8.toNat_lt b
  refine WO.V (run_indexS Tryz.underlying9 rfl rfl (by omega) (by rw [Int.toNat_natCast]; exact hb)) ?_
  refine WO.V (run_lss rfl rfl) ?_
  refine WO.mv rfl rfl ?_
  refine dcase (p := (b.toNat : Int) < 97) (fun g14 d14 => ?_) (fun g14 d14 => ?_)
  ·
   refine WO.off rfl rfl d14 rfl ?_
   refine WO.off rfl rfl d14 rfl ?_
   refine WO.off rfl rfl d14 rfl ?_
   refine WO.off rfl rfl d14 rfl ?_
   refine WO.V (run_pickT rfl d14 rfl) ?_
   refine WO.mv rfl rfl ?_
   refine WO.on rfl rfl rfl ?_
   refine WO.mv rfl rfl ?_
   refine WO.on rfl rfl rfl ?_
   refine WO.mv rfl rfl ?_
   refine WO.on rfl rfl rfl ?_
   refine WO.V (run_indexS Tryz.underlying9 rfl rfl (by omega) (by rw [Int.toNat_natCast]; exact hb)) ?_
   refine WO.on rfl rfl rfl ?_
   refine WO.V (run_neq rfl rfl) ?_
   refine WO.V (run_pickT rfl rfl rfl) ?_
   refine WO.nil (NX.go ?_)
   refine WP.condP rfl (fun g25 => ?_) (fun g25 => ?_)
   ·
    refine WP.seq (WP.region rfl ?_)
    refine WO.asg rfl rfl ?_
    refine WO.nil (NX.go (WP.ret (NX.blkRet (NX.thenRet (NX.thenRet (NX.blkRet (NX.thenRet ?_)))))))
    refine NX.done (l := [.tmp 2]) rfl rfl ?_
    exact ⟨congrArg Value.bool (decide_eq_false (fun h => absurd (h.2.2 b (List.mem_of_getElem? hb)) (by unfold nameB; omega))).symm, hS1⟩
   ·
    refine WP.skip (NX.blk (NX.go (WP.region rfl ?_)))
    refine WO.mv rfl rfl ?_
    refine WO.V (run_add rfl rfl (IntWalk.i64_in _ (by omega))) ?_
    refine WO.asg rfl rfl ?_
    refine WO.nil ?_
    exact NX.again (i + 1) ⟨⟨by omega, name_next hok hb (by unfold nameB; omega)⟩, hS1⟩ (by show s.length - (i + 1) < s.length - i; omega) (Sub.cons rfl (Sub.consE rfl (by congr 1) (Sub.nil _)))
  ·
   refine WO.on rfl rfl d14 ?_
   refine WO.mv rfl rfl ?_
   refine WO.on rfl rfl d14 ?_
   refine WO.mv rfl rfl ?_
   refine WO.on rfl rfl d14 ?_
   refine WO.V (run_indexS Tryz.underlying9 rfl rfl (by omega) (by rw [Int.toNat_natCast]; exact hb)) ?_
   refine WO.on rfl rfl d14 ?_
   refine WO.V (run_gtr rfl rfl) ?_
   refine WO.V (run_pickF rfl d14 rfl) ?_
   refine WO.mv rfl rfl ?_
   refine dcase (p := 122 < (b.toNat : Int)) (fun g20 d20 => ?_) (fun g20 d20 => ?_)
   ·
    refine WO.on rfl rfl d20 ?_
    refine WO.mv rfl rfl ?_
    refine WO.on rfl rfl d20 ?_
    refine WO.mv rfl rfl ?_
    refine WO.on rfl rfl d20 ?_
    refine WO.V (run_indexS Tryz.underlying9 rfl rfl (by omega) (by rw [Int.toNat_natCast]; exact hb)) ?_
    refine WO.on rfl rfl d20 ?_
    refine WO.V (run_neq rfl rfl) ?_
    refine WO.V (run_pickT rfl d20 rfl) ?_
    refine WO.nil (NX.go ?_)
    refine WP.condP rfl (fun g25 => ?_) (fun g25 => ?_)
    ·
     refine WP.seq (WP.region rfl ?_)
     refine WO.asg rfl rfl ?_
     refine WO.nil (NX.go (WP.ret (NX.blkRet (NX.thenRet (NX.thenRet (NX.blkRet (NX.thenRet ?_)))))))
     refine NX.done (l := [.tmp 2]) rfl rfl ?_
     exact ⟨congrArg Value.bool (decide_eq_false (fun h => absurd (h.2.2 b (List.mem_of_getElem? hb)) (by unfold nameB; omega))).symm, hS1⟩
    ·
     refine WP.skip (NX.blk (NX.go (WP.region rfl ?_)))
     refine WO.mv rfl rfl ?_
     refine WO.V (run_add rfl rfl (IntWalk.i64_in _ (by omega))) ?_
     refine WO.asg rfl rfl ?_
     refine WO.nil ?_
     exact NX.again (i + 1) ⟨⟨by omega, name_next hok hb (by unfold nameB; omega)⟩, hS1⟩ (by show s.length - (i + 1) < s.length - i; omega) (Sub.cons rfl (Sub.consE rfl (by congr 1) (Sub.nil _)))
   ·
    refine WO.off rfl rfl d20 rfl ?_
    refine WO.off rfl rfl d20 rfl ?_
    refine WO.off rfl rfl d20 rfl ?_
    refine WO.off rfl rfl d20 rfl ?_
    refine WO.V (run_pickF rfl d20 rfl) ?_
    refine WO.nil (NX.go ?_)
    refine WP.condF rfl rfl ?_
    refine WP.skip (NX.blk (NX.go (WP.region rfl ?_)))
    refine WO.mv rfl rfl ?_
    refine WO.V (run_add rfl rfl (IntWalk.i64_in _ (by omega))) ?_
    refine WO.asg rfl rfl ?_
    refine WO.nil ?_
    exact NX.again (i + 1) ⟨⟨by omega, name_next hok hb (by unfold nameB; omega)⟩, hS1⟩ (by show s.length - (i + 1) < s.length - i; omega) (Sub.cons rfl (Sub.consE rfl (by congr 1) (Sub.nil _)))
 ·
  refine WP.exit (NX.thenExit (NX.thenExit ?_))
  refine NX.blkExit ?_
  refine NX.go (WP.seq (WP.region rfl ?_))
  refine WO.mv rfl rfl ?_
  refine WO.V (run_lenS rfl Tryz.underlying9 rfl) ?_
  refine WO.V (run_geq rfl rfl) ?_
  refine WO.mv rfl rfl ?_
  refine dcase (p := 1 ≤ (s.length : Int)) (fun g29 d29 => ?_) (fun g29 d29 => ?_)
  ·
   refine WO.on rfl rfl d29 ?_
   refine WO.mv rfl rfl ?_
   refine WO.on rfl rfl d29 ?_
   refine WO.V (run_lenS rfl Tryz.underlying9 rfl) ?_
   refine WO.on rfl rfl d29 ?_
   refine WO.V (run_leq rfl rfl) ?_
   refine WO.V (run_pickT rfl d29 rfl) ?_
   refine WO.asg rfl rfl ?_
   refine WO.nil (NX.go (WP.ret ?_))
   refine NX.done (l := [.tmp 2]) rfl rfl ?_
   exact ⟨congrArg Value.bool (decide_eq_decide.2 ⟨fun h => ⟨List.length_pos_iff.1 (by omega), by omega, val_all hok (by omega)⟩, fun h => by have := h.2.1; omega⟩), hS1⟩
  ·
   refine WO.off rfl rfl d29 rfl ?_
   refine WO.off rfl rfl d29 rfl ?_
   refine WO.off rfl rfl d29 rfl ?_
   refine WO.V (run_pickF rfl d29 rfl) ?_
   refine WO.asg rfl rfl ?_
   refine WO.nil (NX.go (WP.ret ?_))
   refine NX.done (l := [.tmp 2]) rfl rfl ?_
   exact ⟨congrArg Value.bool (decide_eq_false (fun h => absurd (List.length_pos_iff.2 h.1) (by omega))).symm, hS1⟩
theorem rvalue_spec {B w : World} {L : List HP} (s : List UInt8) (hs : s.length ≤ 9223372036854775806) (hS : St B L w) : Does Tryz.prog 84 [str s] w (fun v w1 => v = .bool (valueF s) ∧ St B L w1) := by
 refine enter (n := 28) Tryz.func84 rfl rfl [str s] rfl ?_
 refine WP.seq (WP.region rfl ?_)
 refine WO.asg rfl rfl ?_
 refine WO.nil (NX.go (WP.seq (WP.seq (WP.region rfl ?_))))
 refine WO.asg rfl rfl ?_
 refine WO.nil (NX.go (WP.block ?_))
 refine WP.loop (α := Nat) (fun x => match x with | i => [(0, str s), (3, Value.int .i64 (i : Int))]) (fun x w => match x with | i => (i ≤ s.length ∧ ∀ j b, j < i → s[j]? = some b → valB b) ∧ St B (L) w) (fun x => match x with | i => s.length - i) 0 ⟨⟨Nat.zero_le _, fun j b h => absurd h (by omega)⟩, hS⟩ (Sub.cons rfl (Sub.consE rfl (by first | rfl | first | rfl | (congr 1; omega) | (simp; done) | (simp; omega)) (Sub.nil _))) ?_
 rintro i w1 ⟨⟨hi, hok⟩, hS1⟩
 clear hS
 refine WP.seq (WP.seq (WP.region rfl ?_))
 refine WO.mv rfl rfl ?_
 refine WO.mv rfl rfl ?_
 refine WO.V (run_lenS rfl Tryz.underlying9 rfl) ?_
 refine WO.V (run_lss rfl rfl) ?_
 refine WO.nil (NX.go ?_)
 refine WP.condP rfl (fun g7 => ?_) (fun g7 => ?_)
 ·
  refine WP.skip (NX.go (WP.seq (WP.block (WP.seq (WP.region rfl ?_)))))
  refine WO.mv rfl rfl ?_
  refine WO.mv rfl rfl ?_
  obtain ⟨b, hb⟩ : ∃ b, s[i]? = some b := ⟨_, List.getElem?_eq_getElem (by omega)⟩
  have hb8 := UInt8.toNat_lt b
  refine WO.V (run_indexS Tryz.underlying9 rfl rfl (by omega) (by rw [Int.toNat_natCast]; exact hb)) ?_
  refine WO.V (run_lss rfl rfl) ?_
  refine WO.mv rfl rfl ?_
  refine dcase (p := (b.toNat : Int) < 32) (fun g14 d14 => ?_) (fun g14 d14 => ?_)
  ·
   refine WO.off rfl rfl d14 rfl ?_
   refine WO.off rfl rfl d14 rfl ?_
   refine WO.off rfl rfl d14 rfl ?_
   refine WO.off rfl rfl d14 rfl ?_
   refine WO.V (run_pickT rfl d14 rfl) ?_
   refine WO.nil (NX.go ?_)
   refine WP.condT rfl rfl ?_
   refine WP.seq (WP.region rfl ?_)
   refine WO.asg rfl rfl ?_
   refine WO.nil (NX.go (WP.ret (NX.blkRet (NX.thenRet (NX.thenRet (NX.blkRet (NX.thenRet ?_)))))))
   refine NX.done (l := [.tmp 2]) rfl rfl ?_
   exact ⟨congrArg Value.bool (decide_eq_false (fun h => absurd (h.2.2 b (List.mem_of_getElem? hb)) (by unfold valB; omega))).symm, hS1⟩
  ·
   refine WO.on rfl rfl d14 ?_
   refine WO.mv rfl rfl ?_
   refine WO.on rfl rfl d14 ?_
   refine WO.mv rfl rfl ?_
   refine WO.on rfl rfl d14 ?_
   refine WO.V (run_indexS Tryz.underlying9 rfl rfl (by omega) (by rw [Int.toNat_natCast]; exact hb)) ?_
   refine WO.on rfl rfl d14 ?_
   refine WO.V (run_gtr rfl rfl) ?_
   refine WO.V (run_pickF rfl d14 rfl) ?_
   refine WO.nil (NX.go ?_)
   refine WP.condP rfl (fun g19 => ?_) (fun g19 => ?_)
   ·
    refine WP.seq (WP.region rfl ?_)
    refine WO.asg rfl rfl ?_
    refine WO.nil (NX.go (WP.ret (NX.blkRet (NX.thenRet (NX.thenRet (NX.blkRet (NX.thenRet ?_)))))))
    refine NX.done (l := [.tmp 2]) rfl rfl ?_
    exact ⟨congrArg Value.bool (decide_eq_false (fun h => absurd (h.2.2 b (List.mem_of_getElem? hb)) (by unfold valB; omega))).symm, hS1⟩
   ·
    refine WP.skip (NX.blk (NX.go (WP.region rfl ?_)))
    refine WO.mv rfl rfl ?_
    refine WO.V (run_add rfl rfl (IntWalk.i64_in _ (by omega))) ?_
    refine WO.asg rfl rfl ?_
    refine WO.nil ?_
    exact NX.again (i + 1) ⟨⟨by omega, val_next hok hb (by unfold valB; omega)⟩, hS1⟩ (by show s.length - (i + 1) < s.length - i; omega) (Sub.cons rfl (Sub.consE rfl (by congr 1) (Sub.nil _)))
 ·
  refine WP.exit (NX.thenExit (NX.thenExit ?_))
  refine NX.blkExit ?_
  refine NX.go (WP.seq (WP.region rfl ?_))
  refine WO.mv rfl rfl ?_
  refine WO.V (run_lenS rfl Tryz.underlying9 rfl) ?_
  refine WO.V (run_geq rfl rfl) ?_
  refine WO.mv rfl rfl ?_
  refine dcase (p := 1 ≤ (s.length : Int)) (fun g23 d23 => ?_) (fun g23 d23 => ?_)
  ·
   refine WO.on rfl rfl d23 ?_
   refine WO.mv rfl rfl ?_
   refine WO.on rfl rfl d23 ?_
   refine WO.V (run_lenS rfl Tryz.underlying9 rfl) ?_
   refine WO.on rfl rfl d23 ?_
   refine WO.V (run_leq rfl rfl) ?_
   refine WO.V (run_pickT rfl d23 rfl) ?_
   refine WO.asg rfl rfl ?_
   refine WO.nil (NX.go (WP.ret ?_))
   refine NX.done (l := [.tmp 2]) rfl rfl ?_
   exact ⟨congrArg Value.bool (decide_eq_decide.2 ⟨fun h => ⟨List.length_pos_iff.1 (by omega), by omega, val_all hok (by omega)⟩, fun h => by have := h.2.1; omega⟩), hS1⟩
  ·
   refine WO.off rfl rfl d23 rfl ?_
   refine WO.off rfl rfl d23 rfl ?_
   refine WO.off rfl rfl d23 rfl ?_
   refine WO.V (run_pickF rfl d23 rfl) ?_
   refine WO.asg rfl rfl ?_
   refine WO.nil (NX.go (WP.ret ?_))
   refine NX.done (l := [.tmp 2]) rfl rfl ?_
   exact ⟨congrArg Value.bool (decide_eq_false (fun h => absurd (List.length_pos_iff.2 h.1) (by omega))).symm, hS1⟩
end Go.Proofs.YtidoidoelgfnaaaGreatDoor.SL

/- Labels: what is wrong with them; a value. -/
namespace Go.Proofs.YtidoidoelgfnaaaGreatDoor.SL
open Go.RowKit Go.Proofs.YtidoidoelgfnaaaGreatDoor
open Go.Proofs.YtidoidoelgfnaaaGreatDoorW.PrintLast (rtab opsOf)
set_option linter.unusedVariables false
set_option linter.unusedSimpArgs false

/-- A pair. -/
structure Pr where
  n : List UInt8
  v : List UInt8
deriving DecidableEq
def prc (p : Pr) : List Value := [str p.n, str p.v]
theorem prc_len (p : Pr) : (prc p).length = 2 := rfl
def gtS (a b : List UInt8) : Bool := !(strLt a b || decide (a = b))
def chkGo (last : List UInt8) : List Pr → Bool
  | [] => true
  | p :: l => nameF p.n && valueF p.v && gtS p.n last && chkGo p.n l
def chk (l : List Pr) : Bool := decide (1 ≤ l.length ∧ l.length ≤ 8) && chkGo [] l
def SzP (l : List Pr) : Prop := ∀ p ∈ l, p.n.length ≤ 140737488355328 ∧ p.v.length ≤ 140737488355328
theorem drop_cons {α : Type} {l : List α} {i : Nat} {x : α} (h : l[i]? = some x) : l.drop i = x :: l.drop (i + 1) := by
  obtain ⟨hi, e⟩ := List.getElem?_eq_some_iff.1 h
  rw [← e, List.drop_eq_getElem_cons hi]
def getV (nm : List UInt8) : List Pr → List UInt8
  | [] => []
  | p :: l => if p.n = nm then p.v else getV nm l
theorem gt_nil {s : List UInt8} (h : s ≠ []) : gtS s [] = true := by
  cases s with
  | nil => exact absurd rfl h
  | cons a s => rfl
theorem nameF_ne {s : List UInt8} (h : nameF s = true) : s ≠ [] := (of_decide_eq_true h).1
theorem lcheck_spec {B w : World} {L : List HP} {X : HP} {a : Option Addr} {cap : Nat} {l : List Pr} (hX : ∀ {L : List HP} {w : World}, St B (X :: L) w → Rd w a l.length 2 (l.flatMap prc)) (hb : SzP l) (hl : l.length ≤ 4398046511104) (hS : St B (X :: L) w) : Does Tryz.prog 94 [Value.slice a l.length cap] w (fun v w1 => v = .int .i64 (if chk l = true then 0 else 16) ∧ St B (X :: L) w1) := by
 refine enter (n := 43) Tryz.func94 rfl rfl [Value.slice a l.length cap] rfl ?_
 refine WP.seq (WP.region rfl ?_)
 refine WO.asg rfl rfl ?_
 refine WO.nil (NX.go (WP.seq ?_))
 refine WP.meet (α := Bool) (fun x => match x with | ok0 => [(0, Value.slice a l.length cap), (3, Value.bool ok0)]) (fun x w => match x with | ok0 => (ok0 = decide (1 ≤ l.length ∧ l.length ≤ 8)) ∧ St B (X :: L) w) ?_ (fun K1 => ?_)
 ·
  rintro ok0 w2 ⟨hok0, hS2⟩
  clear hS
  refine NX.go (WP.seq (WP.region rfl ?_))
  refine WO.asg rfl rfl ?_
  refine WO.nil (NX.go (WP.seq (WP.seq ?_)))
  have hc0 : (ok0 && chkGo [] (l.drop 0)) = chk l := by rw [hok0]; rfl
  refine WP.region rfl ?_
  refine WO.mv rfl rfl ?_
  refine WO.V (run_len rfl Tryz.underlying65 rfl) ?_
  refine WO.mv rfl rfl ?_
  refine WO.nil (NX.go (WP.block ?_))
  refine WP.loop (α := Nat × Bool × List UInt8) (fun x => match x with | ⟨i, ok, last⟩ => [(0, Value.slice a l.length cap), (3, Value.bool ok), (4, str last), (15, Value.slice a l.length cap), (16, Value.int .i64 ((l.length : Nat) : Int)), (17, Value.int .i64 (i : Int))]) (fun x w => match x with | ⟨i, ok, last⟩ => (i ≤ l.length ∧ (ok && chkGo last (l.drop i)) = chk l) ∧ St B (X :: L) w) (fun x => match x with | ⟨i, ok, last⟩ => l.length - i) (0, ok0, []) ⟨⟨Nat.zero_le _, hc0⟩, hS2⟩ (Sub.cons rfl (Sub.consE rfl (by first | rfl | first | rfl | (congr 1; omega) | (simp; done) | (simp; omega)) (Sub.consE rfl (by first | rfl | first | rfl | (congr 1; omega) | (simp; done) | (simp; omega)) (Sub.cons rfl (Sub.cons rfl (Sub.consE rfl (by first | rfl | first | rfl | (congr 1; omega) | (simp; done) | (simp; omega)) (Sub.nil _))))))) ?_
  rintro ⟨i, ok, last⟩ w3 ⟨⟨hi, hgo⟩, hS3⟩
  clear hS2
  refine WP.seq (WP.region rfl ?_)
  refine WO.V (run_lss rfl rfl) ?_
  refine WO.nil (NX.go (WP.seq ?_))
  refine WP.condP rfl (fun g18 => ?_) (fun g18 => ?_)
  ·
   refine WP.skip (NX.go (WP.seq (WP.block (WP.seq (WP.region rfl ?_)))))
   obtain ⟨p, hp⟩ : ∃ p, l[i]? = some p := ⟨_, List.getElem?_eq_getElem (by omega)⟩
   refine WO.V (run_indexAddr (q := adr a (i * 2)) Tryz.underlying65 Ty.sz105 rfl rfl (by omega) (by omega) ((hX (hS3.focus 0 rfl)).2.1 (by omega)) rfl) ?_
   refine WO.V (run_loadAgg (vs := [str p.n, str p.v]) Ty.ag105 Ty.sz105 rfl ((hX (hS3.focus 0 rfl)).cells (by rw [flat_len prc_len]; omega) (flat_part prc_len hp)).1 ((hX (hS3.focus 0 rfl)).cells (by rw [flat_len prc_len]; omega) (flat_part prc_len hp)).2) ?_
   refine WO.alloc (l := [str [], str []]) hS3 Ty.zr105 rfl rfl (fun g5 w4 lg5 hS4 => ?_)
   clear hS3
   refine WO.store (l' := [str p.n, str p.v]) 0 hS4 rfl Ty.sz105 rfl rfl rfl rfl rfl (Nat.le_of_ble_eq_true rfl) rfl (fun w6 (hS6 : St B (cel g5 [str p.n, str p.v] 105 :: X :: L) w6) => ?_)
   clear hS4
   refine WO.nil (NX.go (WP.seq ?_))
   refine WP.meet (α := Bool) (fun x => match x with | ok2 => [(0, Value.slice a l.length cap), (3, Value.bool ok2), (4, str last), (6, Value.pointer (some ⟨g5, 0, none⟩)), (15, Value.slice a l.length cap), (16, Value.int .i64 ((l.length : Nat) : Int)), (17, Value.int .i64 (i : Int))]) (fun x w => match x with | ok2 => (ok2 = (ok && (nameF p.n && (valueF p.v && gtS p.n last)))) ∧ St B (cel g5 [str p.n, str p.v] 105 :: X :: L) w) ?_ (fun K7 => ?_)
   ·
    rintro ok2 w8 ⟨hok2, hS8⟩
    clear hS6
    refine NX.go (WP.region rfl ?_)
    refine WO.V (run_fa 0 ⟨g5, 0, none⟩ rfl rfl) ?_
    refine WO.V (run_load Ty.ag9 rfl ((hS8.cel_at 0 rfl 0).trans rfl)) ?_
    refine WO.asg rfl rfl ?_
    refine WO.nil (NX.blk (NX.go (WP.region rfl ?_)))
    refine WO.V (run_add rfl rfl (IntWalk.i64_in _ (by omega))) ?_
    refine WO.mv rfl rfl ?_
    refine WO.nil ?_
    exact NX.again (i + 1, ok2, p.n) ⟨⟨by omega, by rw [drop_cons hp] at hgo; rw [← hgo, hok2, chkGo]; simp only [Bool.and_assoc]⟩, hS8.drop⟩ (by show l.length - (i + 1) < l.length - i; omega) (Sub.cons rfl (Sub.consE rfl (by first | rfl | (congr 1; omega) | (simp; done) | (simp; omega)) (Sub.consE rfl rfl (Sub.cons rfl (Sub.cons rfl (Sub.consE rfl (by congr 1) (Sub.nil _)))))))
   ·
    refine WP.region rfl ?_
    refine WO.mv rfl rfl ?_
    refine WO.mv rfl rfl ?_
    rcases Bool.eq_false_or_eq_true ok with g22 | g22
    ·
     refine WO.on rfl rfl g22 ?_
     refine WO.V (run_fa 0 ⟨g5, 0, none⟩ rfl rfl) ?_
     refine WO.on rfl rfl g22 ?_
     refine WO.V (run_load Ty.ag9 rfl ((hS6.cel_at 0 rfl 0).trans rfl)) ?_
     refine WO.on rfl rfl g22 ?_
     refine WO.call rfl rfl Ty.hd123 rfl (lname_spec p.n (by have := hb p (List.mem_of_getElem? hp); omega) hS6) (fun v10 w9 pv10 => ?_)
     obtain ⟨rfl, hS9⟩ := pv10
     clear hS6
     refine WO.V (run_pickT rfl g22 rfl) ?_
     refine WO.mv rfl rfl ?_
     rcases Bool.eq_false_or_eq_true (nameF p.n) with g27 | g27
     ·
      refine WO.on rfl rfl g27 ?_
      refine WO.V (run_fa 1 ⟨g5, 1, none⟩ rfl rfl) ?_
      refine WO.on rfl rfl g27 ?_
      refine WO.V (run_load Ty.ag9 rfl ((hS9.cel_at 0 rfl 1).trans rfl)) ?_
      refine WO.on rfl rfl g27 ?_
      refine WO.call rfl rfl Ty.hd124 rfl (lvalue_spec p.v (by have := hb p (List.mem_of_getElem? hp); omega) hS9) (fun v12 w11 pv12 => ?_)
      obtain ⟨rfl, hS11⟩ := pv12
      clear hS9
      refine WO.V (run_pickT rfl g27 rfl) ?_
      refine WO.mv rfl rfl ?_
      rcases Bool.eq_false_or_eq_true (valueF p.v) with g32 | g32
      ·
       refine WO.on rfl rfl g32 ?_
       refine WO.V (run_fa 0 ⟨g5, 0, none⟩ rfl rfl) ?_
       refine WO.on rfl rfl g32 ?_
       refine WO.V (run_load Ty.ag9 rfl ((hS11.cel_at 0 rfl 0).trans rfl)) ?_
       refine WO.on rfl rfl g32 ?_
       refine WO.mv rfl rfl ?_
       refine WO.on rfl rfl g32 ?_
       refine WO.V (run_gtrS rfl rfl) ?_
       refine WO.V (run_pickT rfl g32 rfl) ?_
       refine WO.asg rfl rfl ?_
       refine WO.nil ?_
       exact K7 (!(strLt p.n last || decide (p.n = last))) _ _ ⟨by simp [g18, g22, g27, g32, gtS], hS11⟩ (Sub.cons rfl (Sub.consE rfl (by first | rfl | first | rfl | (congr 1; omega) | (simp; done) | (simp; omega)) (Sub.cons rfl (Sub.cons rfl (Sub.cons rfl (Sub.cons rfl (Sub.cons rfl (Sub.nil _))))))))
      ·
       refine WO.off rfl rfl g32 rfl ?_
       refine WO.off rfl rfl g32 rfl ?_
       refine WO.off rfl rfl g32 rfl ?_
       refine WO.off rfl rfl g32 rfl ?_
       refine WO.V (run_pickF rfl g32 rfl) ?_
       refine WO.asg rfl rfl ?_
       refine WO.nil ?_
       exact K7 false _ _ ⟨by simp [g18, g22, g27, g32, gtS], hS11⟩ (Sub.cons rfl (Sub.consE rfl (by first | rfl | first | rfl | (congr 1; omega) | (simp; done) | (simp; omega)) (Sub.cons rfl (Sub.cons rfl (Sub.cons rfl (Sub.cons rfl (Sub.cons rfl (Sub.nil _))))))))
     ·
      refine WO.off rfl rfl g27 rfl ?_
      refine WO.off rfl rfl g27 rfl ?_
      refine WO.off rfl rfl g27 rfl ?_
      refine WO.V (run_pickF rfl g27 rfl) ?_
      refine WO.mv rfl rfl ?_
      refine WO.off rfl rfl rfl rfl ?_
      refine WO.off rfl rfl rfl rfl ?_
      refine WO.off rfl rfl rfl rfl ?_
      refine WO.off rfl rfl rfl rfl ?_
      refine WO.V (run_pickF rfl rfl rfl) ?_
      refine WO.asg rfl rfl ?_
      refine WO.nil ?_
      exact K7 false _ _ ⟨by simp [g18, g22, g27, gtS], hS9⟩ (Sub.cons rfl (Sub.consE rfl (by first | rfl | first | rfl | (congr 1; omega) | (simp; done) | (simp; omega)) (Sub.cons rfl (Sub.cons rfl (Sub.cons rfl (Sub.cons rfl (Sub.cons rfl (Sub.nil _))))))))
    ·
     refine WO.off rfl rfl g22 rfl ?_
     refine WO.off rfl rfl g22 rfl ?_
     refine WO.off rfl rfl g22 rfl ?_
     refine WO.V (run_pickF rfl g22 rfl) ?_
     refine WO.mv rfl rfl ?_
     refine WO.off rfl rfl rfl rfl ?_
     refine WO.off rfl rfl rfl rfl ?_
     refine WO.off rfl rfl rfl rfl ?_
     refine WO.V (run_pickF rfl rfl rfl) ?_
     refine WO.mv rfl rfl ?_
     refine WO.off rfl rfl rfl rfl ?_
     refine WO.off rfl rfl rfl rfl ?_
     refine WO.off rfl rfl rfl rfl ?_
     refine WO.off rfl rfl rfl rfl ?_
     refine WO.V (run_pickF rfl rfl rfl) ?_
     refine WO.asg rfl rfl ?_
     refine WO.nil ?_
     exact K7 false _ _ ⟨by simp [g18, g22, gtS], hS6⟩ (Sub.cons rfl (Sub.consE rfl (by first | rfl | first | rfl | (congr 1; omega) | (simp; done) | (simp; omega)) (Sub.cons rfl (Sub.cons rfl (Sub.cons rfl (Sub.cons rfl (Sub.cons rfl (Sub.nil _))))))))
  ·
   refine WP.exit (NX.thenExit (NX.thenExit ?_))
   refine NX.blkExit ?_
   refine NX.go (WP.seq (WP.seq (WP.region rfl ?_)))
   refine WO.mv rfl rfl ?_
   refine WO.V (run_not rfl rfl) ?_
   refine WO.nil (NX.go ?_)
   refine WP.condB rfl (fun g42 => ?_) (fun g42 => ?_)
   ·
    refine WP.seq (WP.region rfl ?_)
    refine WO.asg rfl rfl ?_
    refine WO.nil (NX.go (WP.ret (NX.thenRet ?_)))
    refine NX.done (l := [.tmp 2]) rfl rfl ?_
    have hfin : ok = chk l := by rw [← hgo, List.drop_of_length_le (by omega)]; simp [chkGo]
    exact ⟨congrArg (Value.int .i64) (by rw [← hfin]; simp at g42; rw [g42]; rfl), hS3⟩
   ·
    refine WP.skip (NX.go (WP.seq (WP.region rfl ?_)))
    refine WO.asg rfl rfl ?_
    refine WO.nil (NX.go (WP.ret ?_))
    refine NX.done (l := [.tmp 2]) rfl rfl ?_
    have hfin : ok = chk l := by rw [← hgo, List.drop_of_length_le (by omega)]; simp [chkGo]
    exact ⟨congrArg (Value.int .i64) (by rw [← hfin]; simp at g42; rw [g42]; rfl), hS3⟩
 ·
  refine WP.region rfl ?_
  refine WO.mv rfl rfl ?_
  refine WO.V (run_len rfl Tryz.underlying65 rfl) ?_
  refine WO.V (run_geq rfl rfl) ?_
  refine WO.mv rfl rfl ?_
  refine dcase (p := 1 ≤ ((l.length : Nat) : Int)) (fun g10 d10 => ?_) (fun g10 d10 => ?_)
  ·
   refine WO.on rfl rfl d10 ?_
   refine WO.mv rfl rfl ?_
   refine WO.on rfl rfl d10 ?_
   refine WO.V (run_len rfl Tryz.underlying65 rfl) ?_
   refine WO.on rfl rfl d10 ?_
   refine WO.V (run_leq rfl rfl) ?_
   refine WO.V (run_pickT rfl d10 rfl) ?_
   refine WO.asg rfl rfl ?_
   refine WO.nil ?_
   exact K1 (decide (((l.length : Nat) : Int) ≤ 8)) _ _ ⟨decide_eq_decide.2 (by omega), hS⟩ (Sub.cons rfl (Sub.consE rfl (by first | rfl | first | rfl | (congr 1; omega) | (simp; done) | (simp; omega)) (Sub.nil _)))
  ·
   refine WO.off rfl rfl d10 rfl ?_
   refine WO.off rfl rfl d10 rfl ?_
   refine WO.off rfl rfl d10 rfl ?_
   refine WO.V (run_pickF rfl d10 rfl) ?_
   refine WO.asg rfl rfl ?_
   refine WO.nil ?_
   exact K1 false _ _ ⟨(decide_eq_false (by omega)).symm, hS⟩ (Sub.cons rfl (Sub.consE rfl (by first | rfl | first | rfl | (congr 1; omega) | (simp; done) | (simp; omega)) (Sub.nil _)))
theorem lget_spec {B w : World} {L : List HP} {X : HP} {a : Option Addr} {cap : Nat} {l : List Pr} (hX : ∀ {L : List HP} {w : World}, St B (X :: L) w → Rd w a l.length 2 (l.flatMap prc)) (hl : l.length ≤ 4398046511104) (nm : List UInt8) (hS : St B (X :: L) w) : Does Tryz.prog 91 [Value.slice a l.length cap, str nm] w (fun v w1 => v = str (getV nm l) ∧ St B (X :: L) w1) := by
 refine enter (n := 20) Tryz.func91 rfl rfl [Value.slice a l.length cap, str nm] rfl ?_
 refine WP.seq (WP.region rfl ?_)
 refine WO.asg rfl rfl ?_
 refine WO.nil (NX.go (WP.seq (WP.seq (WP.region rfl ?_))))
 refine WO.mv rfl rfl ?_
 refine WO.V (run_len rfl Tryz.underlying65 rfl) ?_
 refine WO.mv rfl rfl ?_
 refine WO.nil (NX.go (WP.block ?_))
 refine WP.loop (α := Nat) (fun x => match x with | i => [(0, Value.slice a l.length cap), (1, str nm), (7, Value.slice a l.length cap), (8, Value.int .i64 ((l.length : Nat) : Int)), (9, Value.int .i64 (i : Int))]) (fun x w => match x with | i => (i ≤ l.length ∧ getV nm (l.drop i) = getV nm l) ∧ St B (X :: L) w) (fun x => match x with | i => l.length - i) 0 ⟨⟨Nat.zero_le _, rfl⟩, hS⟩ (Sub.cons rfl (Sub.cons rfl (Sub.cons rfl (Sub.cons rfl (Sub.consE rfl (by first | rfl | first | rfl | (congr 1; omega) | (simp; done) | (simp; omega)) (Sub.nil _)))))) ?_
 rintro i w1 ⟨⟨hi, hgo⟩, hS1⟩
 clear hS
 refine WP.seq (WP.region rfl ?_)
 refine WO.V (run_lss rfl rfl) ?_
 refine WO.nil (NX.go (WP.seq ?_))
 refine WP.condP rfl (fun g10 => ?_) (fun g10 => ?_)
 ·
  refine WP.skip (NX.go (WP.seq (WP.block (WP.seq (WP.region rfl ?_)))))
  obtain ⟨p, hp⟩ : ∃ p, l[i]? = some p := ⟨_, List.getElem?_eq_getElem (by omega)⟩
  refine WO.V (run_indexAddr (q := adr a (i * 2)) Tryz.underlying65 Ty.sz105 rfl rfl (by omega) (by omega) ((hX (hS1.focus 0 rfl)).2.1 (by omega)) rfl) ?_
  refine WO.V (run_loadAgg (vs := [str p.n, str p.v]) Ty.ag105 Ty.sz105 rfl ((hX (hS1.focus 0 rfl)).cells (by rw [flat_len prc_len]; omega) (flat_part prc_len hp)).1 ((hX (hS1.focus 0 rfl)).cells (by rw [flat_len prc_len]; omega) (flat_part prc_len hp)).2) ?_
  refine WO.alloc (l := [str [], str []]) hS1 Ty.zr105 rfl rfl (fun g3 w2 lg3 hS2 => ?_)
  clear hS1
  refine WO.store (l' := [str p.n, str p.v]) 0 hS2 rfl Ty.sz105 rfl rfl rfl rfl rfl (Nat.le_of_ble_eq_true rfl) rfl (fun w4 (hS4 : St B (cel g3 [str p.n, str p.v] 105 :: X :: L) w4) => ?_)
  clear hS2
  refine WO.nil (NX.go (WP.seq (WP.region rfl ?_)))
  refine WO.V (run_fa 0 ⟨g3, 0, none⟩ rfl rfl) ?_
  refine WO.V (run_load Ty.ag9 rfl ((hS4.cel_at 0 rfl 0).trans rfl)) ?_
  refine WO.mv rfl rfl ?_
  refine WO.V (run_eqlS rfl rfl) ?_
  refine WO.nil (NX.go ?_)
  refine WP.condP rfl (fun g16 => ?_) (fun g16 => ?_)
  ·
   refine WP.seq (WP.region rfl ?_)
   refine WO.V (run_fa 1 ⟨g3, 1, none⟩ rfl rfl) ?_
   refine WO.V (run_load Ty.ag9 rfl ((hS4.cel_at 0 rfl 1).trans rfl)) ?_
   refine WO.asg rfl rfl ?_
   refine WO.nil (NX.go (WP.ret (NX.blkRet (NX.thenRet (NX.thenRet (NX.blkRet (NX.thenRet ?_)))))))
   refine NX.done (l := [.tmp 4]) rfl rfl ?_
   refine ⟨congrArg str ?_, hS4.drop⟩
   rw [drop_cons hp] at hgo
   rw [← hgo, getV, if_pos (by assumption)]
  ·
   refine WP.skip (NX.blk (NX.go (WP.region rfl ?_)))
   refine WO.V (run_add rfl rfl (IntWalk.i64_in _ (by omega))) ?_
   refine WO.mv rfl rfl ?_
   refine WO.nil ?_
   exact NX.again (i + 1) ⟨⟨by omega, by rw [drop_cons hp] at hgo; rw [← hgo, getV, if_neg (by assumption)]⟩, hS4.drop⟩ (by show l.length - (i + 1) < l.length - i; omega) (Sub.cons rfl (Sub.cons rfl (Sub.cons rfl (Sub.cons rfl (Sub.consE rfl (by congr 1) (Sub.nil _))))))
 ·
  refine WP.exit (NX.thenExit (NX.thenExit ?_))
  refine NX.blkExit ?_
  refine NX.go (WP.seq (WP.region rfl ?_))
  refine WO.asg rfl rfl ?_
  refine WO.nil (NX.go (WP.ret ?_))
  refine NX.done (l := [.tmp 4]) rfl rfl ?_
  exact ⟨congrArg str (by rw [← hgo, List.drop_of_length_le (by omega)]; rfl), hS1⟩
end Go.Proofs.YtidoidoelgfnaaaGreatDoor.SL
