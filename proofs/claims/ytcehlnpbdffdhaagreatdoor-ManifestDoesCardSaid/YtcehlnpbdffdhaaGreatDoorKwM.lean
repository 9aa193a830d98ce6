import Derived.Test.YtcehlnpbdffdhaaGreatDoorKr1M
/- Manifests: what is wrong with one: the reference. -/
namespace Go.Proofs.YtcehlnpbdffdhaaGreatDoor.SL
open Go.RowKit Go.Proofs.YtcehlnpbdffdhaaGreatDoor
open Go.Proofs.YtcehlnpbdffdhaaGreatDoorW.PrintLast (rtab opsOf)
set_option linter.unusedVariables false
set_option linter.unusedSimpArgs false

/-- A manifest's value: its names lie behind the address. -/
def manV (m : Man) (a : Option Addr) (cap : Nat) : Value := .agg #[.int .i64 m.e, .int .i64 m.b, .int .i64 m.p, .int .i64 m.k, .int .i64 m.c, .slice a m.bl.length cap]
/-- Numbers and lengths within reach. -/
structure RngM (m : Man) : Prop where
  e : -9223372036854775808 ≤ m.e ∧ m.e ≤ 9223372036854775807
  b : -9223372036854775808 ≤ m.b ∧ m.b ≤ 9223372036854775807
  p : -9223372036854775808 ≤ m.p ∧ m.p ≤ 9223372036854775807
  k : -9223372036854775808 ≤ m.k ∧ m.k ≤ 9223372036854775807
  c : -9223372036854775808 ≤ m.c ∧ m.c ≤ 9223372036854775807
  n : m.bl.length ≤ 8796093022208
  t : ∀ t ∈ m.bl, t.length ≤ 140737488355328
theorem rin_spec {B w : World} {L : List HP} (n : Int) (hS : St B L w) : Does Tryz.prog 43 [Value.int .i64 n] w (fun v w1 => v = .bool (decide (inM n)) ∧ St B L w1) := by
 refine enter (n := 9) Tryz.func43 rfl rfl [Value.int .i64 n] rfl ?_
 refine WP.seq (WP.region rfl ?_)
 refine WO.asg rfl rfl ?_
 refine WO.nil (NX.go (WP.seq (WP.region rfl ?_)))
 refine WO.mv rfl rfl ?_
 refine WO.val (run_geq rfl rfl) rfl rfl rfl ?_
 refine WO.mv rfl rfl ?_
 by_cases g5 : 0 ≤ n
 ·
  refine WO.on rfl rfl (decide_eq_true g5) ?_
  refine WO.mv rfl rfl ?_
  refine WO.on rfl rfl (decide_eq_true g5) ?_
  refine WO.val (run_leq rfl rfl) rfl rfl rfl ?_
  refine WO.val (run_pickT rfl (decide_eq_true g5) rfl) rfl rfl rfl ?_
  refine WO.asg rfl rfl ?_
  refine WO.nil (NX.go (WP.ret ?_))
  refine NX.done (l := [.tmp 2]) rfl rfl ?_
  exact ⟨congrArg Value.bool (decide_eq_decide.2 ⟨fun h => ⟨by omega, by omega⟩, fun h => by unfold inM at h; omega⟩), hS⟩
 ·
  refine WO.off rfl rfl (decide_eq_false g5) rfl ?_
  refine WO.off rfl rfl (decide_eq_false g5) rfl ?_
  refine WO.val (run_pickF rfl (decide_eq_false g5) rfl) rfl rfl rfl ?_
  refine WO.asg rfl rfl ?_
  refine WO.nil (NX.go (WP.ret ?_))
  refine NX.done (l := [.tmp 2]) rfl rfl ?_
  exact ⟨congrArg Value.bool (decide_eq_false (fun h => by unfold inM at h; omega)).symm, hS⟩
theorem rfile_spec {B w : World} {L : List HP} (s : List UInt8) (hs : s.length ≤ 9223372036854775806) (hS : St B L w) : Does Tryz.prog 44 [str s] w (fun v w1 => v = .bool (fileF s) ∧ St B L w1) := by
 refine enter (n := 52) Tryz.func44 rfl rfl [str s] rfl ?_
 refine WP.seq (WP.region rfl ?_)
 refine WO.asg rfl rfl ?_
 refine WO.nil (NX.go (WP.seq (WP.seq (WP.region rfl ?_))))
 refine WO.asg rfl rfl ?_
 refine WO.nil (NX.go (WP.block ?_))
 refine WP.loop (α := Nat) (fun x => match x with | i => [(0, str s), (3, Value.int .i64 (i : Int))]) (fun x w => match x with | i => (i ≤ s.length ∧ ∀ j b, j < i → s[j]? = some b → fileB b) ∧ St B (L) w) (fun x => match x with | i => s.length - i) 0 ⟨⟨Nat.zero_le _, fun j b h => absurd h (by omega)⟩, hS⟩ (Sub.cons rfl (Sub.consE rfl (by first | rfl | first | rfl | (congr 1; omega) | (simp; done) | (simp; omega)) (Sub.nil _))) ?_
 rintro i w1 ⟨⟨hi, hok⟩, hS1⟩
 clear hS
 refine WP.seq (WP.seq (WP.region rfl ?_))
 refine WO.mv rfl rfl ?_
 refine WO.mv rfl rfl ?_
 refine WO.val (run_lenS rfl Tryz.underlying9 rfl) rfl rfl rfl ?_
 refine WO.val (run_lss rfl rfl) rfl rfl rfl ?_
 refine WO.nil (NX.go ?_)
 refine WP.condP rfl (fun g7 => ?_) (fun g7 => ?_)
 ·
  refine WP.skip (NX.go (WP.seq (WP.block (WP.seq (WP.region rfl ?_)))))
  refine WO.mv rfl rfl ?_
  refine WO.mv rfl rfl ?_
  obtain ⟨b, hb⟩ : ∃ b, s[i]? = some b := ⟨_, List.getElem?_eq_getElem (by omega)⟩
  have hb8 := UInt8.toNat_lt b
  refine WO.val (run_indexS Tryz.underlying9 rfl rfl (by omega) (by rw [Int.toNat_natCast]; exact hb)) rfl rfl rfl ?_
  refine WO.val (run_lss rfl rfl) rfl rfl rfl ?_
  refine WO.mv rfl rfl ?_
  by_cases g14 : (b.toNat : Int) < 97
  ·
   refine WO.off rfl rfl (decide_eq_true g14) rfl ?_
   refine WO.off rfl rfl (decide_eq_true g14) rfl ?_
   refine WO.off rfl rfl (decide_eq_true g14) rfl ?_
   refine WO.off rfl rfl (decide_eq_true g14) rfl ?_
   refine WO.val (run_pickT rfl (decide_eq_true g14) rfl) rfl rfl rfl ?_
   refine WO.mv rfl rfl ?_
   refine WO.on rfl rfl rfl ?_
   refine WO.mv rfl rfl ?_
   refine WO.on rfl rfl rfl ?_
   refine WO.mv rfl rfl ?_
   refine WO.on rfl rfl rfl ?_
   refine WO.val (run_indexS Tryz.underlying9 rfl rfl (by omega) (by rw [Int.toNat_natCast]; exact hb)) rfl rfl rfl ?_
   refine WO.on rfl rfl rfl ?_
   refine WO.val (run_lss rfl rfl) rfl rfl rfl ?_
   refine WO.on rfl rfl rfl ?_
   refine WO.mv rfl rfl ?_
   by_cases g25 : (b.toNat : Int) < 48
   ·
    refine WO.off rfl rfl (decide_eq_true g25) rfl ?_
    refine WO.off rfl rfl (decide_eq_true g25) rfl ?_
    refine WO.off rfl rfl (decide_eq_true g25) rfl ?_
    refine WO.off rfl rfl (decide_eq_true g25) rfl ?_
    refine WO.on rfl rfl rfl ?_
    refine WO.val (run_pickT rfl (decide_eq_true g25) rfl) rfl rfl rfl ?_
    refine WO.val (run_pickT rfl rfl rfl) rfl rfl rfl ?_
    refine WO.mv rfl rfl ?_
    refine WO.on rfl rfl rfl ?_
    refine WO.mv rfl rfl ?_
    refine WO.on rfl rfl rfl ?_
    refine WO.mv rfl rfl ?_
    refine WO.on rfl rfl rfl ?_
    refine WO.val (run_indexS Tryz.underlying9 rfl rfl (by omega) (by rw [Int.toNat_natCast]; exact hb)) rfl rfl rfl ?_
    refine WO.on rfl rfl rfl ?_
    refine WO.val (run_neq rfl rfl) rfl rfl rfl ?_
    refine WO.val (run_pickT rfl rfl rfl) rfl rfl rfl ?_
    refine WO.mv rfl rfl ?_
    by_cases g38 : ¬ (b.toNat : Int) = 46
    ·
     refine WO.on rfl rfl (decide_eq_true g38) ?_
     refine WO.mv rfl rfl ?_
     refine WO.on rfl rfl (decide_eq_true g38) ?_
     refine WO.mv rfl rfl ?_
     refine WO.on rfl rfl (decide_eq_true g38) ?_
     refine WO.val (run_indexS Tryz.underlying9 rfl rfl (by omega) (by rw [Int.toNat_natCast]; exact hb)) rfl rfl rfl ?_
     refine WO.on rfl rfl (decide_eq_true g38) ?_
     refine WO.val (run_neq rfl rfl) rfl rfl rfl ?_
     refine WO.val (run_pickT rfl (decide_eq_true g38) rfl) rfl rfl rfl ?_
     refine WO.nil (NX.go ?_)
     refine WP.condP rfl (fun g43 => ?_) (fun g43 => ?_)
     ·
      refine WP.seq (WP.region rfl ?_)
      refine WO.asg rfl rfl ?_
      refine WO.nil (NX.go (WP.ret (NX.blkRet (NX.thenRet (NX.thenRet (NX.blkRet (NX.thenRet ?_)))))))
      refine NX.done (l := [.tmp 2]) rfl rfl ?_
      exact ⟨congrArg Value.bool (decide_eq_false (fun h => absurd (h.2.2 b (List.mem_of_getElem? hb)) (by unfold fileB; omega))).symm, hS1⟩
     ·
      refine WP.skip (NX.blk (NX.go (WP.region rfl ?_)))
      refine WO.mv rfl rfl ?_
      refine WO.val (run_add rfl rfl (IntWalk.i64_in _ (by omega))) rfl rfl rfl ?_
      refine WO.asg rfl rfl ?_
      refine WO.nil ?_
      exact NX.again (i + 1) ⟨⟨by omega, file_next hok hb (by unfold fileB; omega)⟩, hS1⟩ (by show s.length - (i + 1) < s.length - i; omega) (Sub.cons rfl (Sub.consE rfl (by congr 1) (Sub.nil _)))
    ·
     refine WO.off rfl rfl (decide_eq_false g38) rfl ?_
     refine WO.off rfl rfl (decide_eq_false g38) rfl ?_
     refine WO.off rfl rfl (decide_eq_false g38) rfl ?_
     refine WO.off rfl rfl (decide_eq_false g38) rfl ?_
     refine WO.val (run_pickF rfl (decide_eq_false g38) rfl) rfl rfl rfl ?_
     refine WO.nil (NX.go ?_)
     refine WP.condF rfl rfl ?_
     refine WP.skip (NX.blk (NX.go (WP.region rfl ?_)))
     refine WO.mv rfl rfl ?_
     refine WO.val (run_add rfl rfl (IntWalk.i64_in _ (by omega))) rfl rfl rfl ?_
     refine WO.asg rfl rfl ?_
     refine WO.nil ?_
     exact NX.again (i + 1) ⟨⟨by omega, file_next hok hb (by unfold fileB; omega)⟩, hS1⟩ (by show s.length - (i + 1) < s.length - i; omega) (Sub.cons rfl (Sub.consE rfl (by congr 1) (Sub.nil _)))
   ·
    refine WO.on rfl rfl (decide_eq_false g25) ?_
    refine WO.mv rfl rfl ?_
    refine WO.on rfl rfl (decide_eq_false g25) ?_
    refine WO.mv rfl rfl ?_
    refine WO.on rfl rfl (decide_eq_false g25) ?_
    refine WO.val (run_indexS Tryz.underlying9 rfl rfl (by omega) (by rw [Int.toNat_natCast]; exact hb)) rfl rfl rfl ?_
    refine WO.on rfl rfl (decide_eq_false g25) ?_
    refine WO.val (run_gtr rfl rfl) rfl rfl rfl ?_
    refine WO.on rfl rfl rfl ?_
    refine WO.val (run_pickF rfl (decide_eq_false g25) rfl) rfl rfl rfl ?_
    refine WO.val (run_pickT rfl rfl rfl) rfl rfl rfl ?_
    refine WO.mv rfl rfl ?_
    by_cases g32 : 57 < (b.toNat : Int)
    ·
     refine WO.on rfl rfl (decide_eq_true g32) ?_
     refine WO.mv rfl rfl ?_
     refine WO.on rfl rfl (decide_eq_true g32) ?_
     refine WO.mv rfl rfl ?_
     refine WO.on rfl rfl (decide_eq_true g32) ?_
     refine WO.val (run_indexS Tryz.underlying9 rfl rfl (by omega) (by rw [Int.toNat_natCast]; exact hb)) rfl rfl rfl ?_
     refine WO.on rfl rfl (decide_eq_true g32) ?_
     refine WO.val (run_neq rfl rfl) rfl rfl rfl ?_
     refine WO.val (run_pickT rfl (decide_eq_true g32) rfl) rfl rfl rfl ?_
     refine WO.mv rfl rfl ?_
     by_cases g38 : ¬ (b.toNat : Int) = 46
     ·
      refine WO.on rfl rfl (decide_eq_true g38) ?_
      refine WO.mv rfl rfl ?_
      refine WO.on rfl rfl (decide_eq_true g38) ?_
      refine WO.mv rfl rfl ?_
      refine WO.on rfl rfl (decide_eq_true g38) ?_
      refine WO.val (run_indexS Tryz.underlying9 rfl rfl (by omega) (by rw [Int.toNat_natCast]; exact hb)) rfl rfl rfl ?_
      refine WO.on rfl rfl (decide_eq_true g38) ?_
      refine WO.val (run_neq rfl rfl) rfl rfl rfl ?_
      refine WO.val (run_pickT rfl (decide_eq_true g38) rfl) rfl rfl rfl ?_
      refine WO.nil (NX.go ?_)
      refine WP.condP rfl (fun g43 => ?_) (fun g43 => ?_)
      ·
       refine WP.seq (WP.region rfl ?_)
       refine WO.asg rfl rfl ?_
       refine WO.nil (NX.go (WP.ret (NX.blkRet (NX.thenRet (NX.thenRet (NX.blkRet (NX.thenRet ?_)))))))
       refine NX.done (l := [.tmp 2]) rfl rfl ?_
       exact ⟨congrArg Value.bool (decide_eq_false (fun h => absurd (h.2.2 b (List.mem_of_getElem? hb)) (by unfold fileB; omega))).symm, hS1⟩
      ·
       refine WP.skip (NX.blk (NX.go (WP.region rfl ?_)))
       refine WO.mv rfl rfl ?_
       refine WO.val (run_add rfl rfl (IntWalk.i64_in _ (by omega))) rfl rfl rfl ?_
       refine WO.asg rfl rfl ?_
       refine WO.nil ?_
       exact NX.again (i + 1) ⟨⟨by omega, file_next hok hb (by unfold fileB; omega)⟩, hS1⟩ (by show s.length - (i + 1) < s.length - i; omega) (Sub.cons rfl (Sub.consE rfl (by congr 1) (Sub.nil _)))
     ·
      refine WO.off rfl rfl (decide_eq_false g38) rfl ?_
      refine WO.off rfl rfl (decide_eq_false g38) rfl ?_
      refine WO.off rfl rfl (decide_eq_false g38) rfl ?_
      refine WO.off rfl rfl (decide_eq_false g38) rfl ?_
      refine WO.val (run_pickF rfl (decide_eq_false g38) rfl) rfl rfl rfl ?_
      refine WO.nil (NX.go ?_)
      refine WP.condF rfl rfl ?_
      refine WP.skip (NX.blk (NX.go (WP.region rfl ?_)))
      refine WO.mv rfl rfl ?_
      refine WO.val (run_add rfl rfl (IntWalk.i64_in _ (by omega))) rfl rfl rfl ?_
      refine WO.asg rfl rfl ?_
      refine WO.nil ?_
      exact NX.again (i + 1) ⟨⟨by omega, file_next hok hb (by unfold fileB; omega)⟩, hS1⟩ (by show s.length - (i + 1) < s.length - i; omega) (Sub.cons rfl (Sub.consE rfl (by congr 1) (Sub.nil _)))
    ·
     refine WO.off rfl rfl (decide_eq_false g32) rfl ?_
     refine WO.off rfl rfl (decide_eq_false g32) rfl ?_
     refine WO.off rfl rfl (decide_eq_false g32) rfl ?_
     refine WO.off rfl rfl (decide_eq_false g32) rfl ?_
     refine WO.val (run_pickF rfl (decide_eq_false g32) rfl) rfl rfl rfl ?_
     refine WO.mv rfl rfl ?_
     refine WO.off rfl rfl rfl rfl ?_
     refine WO.off rfl rfl rfl rfl ?_
     refine WO.off rfl rfl rfl rfl ?_
     refine WO.off rfl rfl rfl rfl ?_
     refine WO.val (run_pickF rfl rfl rfl) rfl rfl rfl ?_
     refine WO.nil (NX.go ?_)
     refine WP.condF rfl rfl ?_
     refine WP.skip (NX.blk (NX.go (WP.region rfl ?_)))
     refine WO.mv rfl rfl ?_
     refine WO.val (run_add rfl rfl (IntWalk.i64_in _ (by omega))) rfl rfl rfl ?_
     refine WO.asg rfl rfl ?_
     refine WO.nil ?_
     exact NX.again (i + 1) ⟨⟨by omega, file_next hok hb (by unfold fileB; omega)⟩, hS1⟩ (by show s.length - (i + 1) < s.length - i; omega) (Sub.cons rfl (Sub.consE rfl (by congr 1) (Sub.nil _)))
  ·
   refine WO.on rfl rfl (decide_eq_false g14) ?_
   refine WO.mv rfl rfl ?_
   refine WO.on rfl rfl (decide_eq_false g14) ?_
   refine WO.mv rfl rfl ?_
   refine WO.on rfl rfl (decide_eq_false g14) ?_
   refine WO.val (run_indexS Tryz.underlying9 rfl rfl (by omega) (by rw [Int.toNat_natCast]; exact hb)) rfl rfl rfl ?_
   refine WO.on rfl rfl (decide_eq_false g14) ?_
   refine WO.val (run_gtr rfl rfl) rfl rfl rfl ?_
   refine WO.val (run_pickF rfl (decide_eq_false g14) rfl) rfl rfl rfl ?_
   refine WO.mv rfl rfl ?_
   by_cases g20 : 122 < (b.toNat : Int)
   ·
    refine WO.on rfl rfl (decide_eq_true g20) ?_
    refine WO.mv rfl rfl ?_
    refine WO.on rfl rfl (decide_eq_true g20) ?_
    refine WO.mv rfl rfl ?_
    refine WO.on rfl rfl (decide_eq_true g20) ?_
    refine WO.val (run_indexS Tryz.underlying9 rfl rfl (by omega) (by rw [Int.toNat_natCast]; exact hb)) rfl rfl rfl ?_
    refine WO.on rfl rfl (decide_eq_true g20) ?_
    refine WO.val (run_lss rfl rfl) rfl rfl rfl ?_
    refine WO.on rfl rfl (decide_eq_true g20) ?_
    refine WO.mv rfl rfl ?_
    by_cases g25 : (b.toNat : Int) < 48
    ·
     refine WO.off rfl rfl (decide_eq_true g25) rfl ?_
     refine WO.off rfl rfl (decide_eq_true g25) rfl ?_
     refine WO.off rfl rfl (decide_eq_true g25) rfl ?_
     refine WO.off rfl rfl (decide_eq_true g25) rfl ?_
     refine WO.on rfl rfl (decide_eq_true g20) ?_
     refine WO.val (run_pickT rfl (decide_eq_true g25) rfl) rfl rfl rfl ?_
     refine WO.val (run_pickT rfl (decide_eq_true g20) rfl) rfl rfl rfl ?_
     refine WO.mv rfl rfl ?_
     refine WO.on rfl rfl rfl ?_
     refine WO.mv rfl rfl ?_
     refine WO.on rfl rfl rfl ?_
     refine WO.mv rfl rfl ?_
     refine WO.on rfl rfl rfl ?_
     refine WO.val (run_indexS Tryz.underlying9 rfl rfl (by omega) (by rw [Int.toNat_natCast]; exact hb)) rfl rfl rfl ?_
     refine WO.on rfl rfl rfl ?_
     refine WO.val (run_neq rfl rfl) rfl rfl rfl ?_
     refine WO.val (run_pickT rfl rfl rfl) rfl rfl rfl ?_
     refine WO.mv rfl rfl ?_
     by_cases g38 : ¬ (b.toNat : Int) = 46
     ·
      refine WO.on rfl rfl (decide_eq_true g38) ?_
      refine WO.mv rfl rfl ?_
      refine WO.on rfl rfl (decide_eq_true g38) ?_
      refine WO.mv rfl rfl ?_
      refine WO.on rfl rfl (decide_eq_true g38) ?_
      refine WO.val (run_indexS Tryz.underlying9 rfl rfl (by omega) (by rw [Int.toNat_natCast]; exact hb)) rfl rfl rfl ?_
      refine WO.on rfl rfl (decide_eq_true g38) ?_
      refine WO.val (run_neq rfl rfl) rfl rfl rfl ?_
      refine WO.val (run_pickT rfl (decide_eq_true g38) rfl) rfl rfl rfl ?_
      refine WO.nil (NX.go ?_)
      refine WP.condP rfl (fun g43 => ?_) (fun g43 => ?_)
      ·
       refine WP.seq (WP.region rfl ?_)
       refine WO.asg rfl rfl ?_
       refine WO.nil (NX.go (WP.ret (NX.blkRet (NX.thenRet (NX.thenRet (NX.blkRet (NX.thenRet ?_)))))))
       refine NX.done (l := [.tmp 2]) rfl rfl ?_
       exact ⟨congrArg Value.bool (decide_eq_false (fun h => absurd (h.2.2 b (List.mem_of_getElem? hb)) (by unfold fileB; omega))).symm, hS1⟩
      ·
       refine WP.skip (NX.blk (NX.go (WP.region rfl ?_)))
       refine WO.mv rfl rfl ?_
       refine WO.val (run_add rfl rfl (IntWalk.i64_in _ (by omega))) rfl rfl rfl ?_
       refine WO.asg rfl rfl ?_
       refine WO.nil ?_
       exact NX.again (i + 1) ⟨⟨by omega, file_next hok hb (by unfold fileB; omega)⟩, hS1⟩ (by show s.length - (i + 1) < s.length - i; omega) (Sub.cons rfl (Sub.consE rfl (by congr 1) (Sub.nil _)))
     ·
      refine WO.off rfl rfl (decide_eq_false g38) rfl ?_
      refine WO.off rfl rfl (decide_eq_false g38) rfl ?_
      refine WO.off rfl rfl (decide_eq_false g38) rfl ?_
      refine WO.off rfl rfl (decide_eq_false g38) rfl ?_
      refine WO.val (run_pickF rfl (decide_eq_false g38) rfl) rfl rfl rfl ?_
      refine WO.nil (NX.go ?_)
      refine WP.condF rfl rfl ?_
      refine WP.skip (NX.blk (NX.go (WP.region rfl ?_)))
      refine WO.mv rfl rfl ?_
      refine WO.val (run_add rfl rfl (IntWalk.i64_in _ (by omega))) rfl rfl rfl ?_
      refine WO.asg rfl rfl ?_
      refine WO.nil ?_
      exact NX.again (i + 1) ⟨⟨by omega, file_next hok hb (by unfold fileB; omega)⟩, hS1⟩ (by show s.length - (i + 1) < s.length - i; omega) (Sub.cons rfl (Sub.consE rfl (by congr 1) (Sub.nil _)))
    ·
     refine WO.on rfl rfl (decide_eq_false g25) ?_
     refine WO.mv rfl rfl ?_
     refine WO.on rfl rfl (decide_eq_false g25) ?_
     refine WO.mv rfl rfl ?_
     refine WO.on rfl rfl (decide_eq_false g25) ?_
     refine WO.val (run_indexS Tryz.underlying9 rfl rfl (by omega) (by rw [Int.toNat_natCast]; exact hb)) rfl rfl rfl ?_
     refine WO.on rfl rfl (decide_eq_false g25) ?_
     refine WO.val (run_gtr rfl rfl) rfl rfl rfl ?_
     refine WO.on rfl rfl (decide_eq_true g20) ?_
     refine WO.val (run_pickF rfl (decide_eq_false g25) rfl) rfl rfl rfl ?_
     refine WO.val (run_pickT rfl (decide_eq_true g20) rfl) rfl rfl rfl ?_
     refine WO.mv rfl rfl ?_
     by_cases g32 : 57 < (b.toNat : Int)
     ·
      refine WO.on rfl rfl (decide_eq_true g32) ?_
      refine WO.mv rfl rfl ?_
      refine WO.on rfl rfl (decide_eq_true g32) ?_
      refine WO.mv rfl rfl ?_
      refine WO.on rfl rfl (decide_eq_true g32) ?_
      refine WO.val (run_indexS Tryz.underlying9 rfl rfl (by omega) (by rw [Int.toNat_natCast]; exact hb)) rfl rfl rfl ?_
      refine WO.on rfl rfl (decide_eq_true g32) ?_
      refine WO.val (run_neq rfl rfl) rfl rfl rfl ?_
      refine WO.val (run_pickT rfl (decide_eq_true g32) rfl) rfl rfl rfl ?_
      refine WO.mv rfl rfl ?_
      by_cases g38 : ¬ (b.toNat : Int) = 46
      ·
       refine WO.on rfl rfl (decide_eq_true g38) ?_
       refine WO.mv rfl rfl ?_
       refine WO.on rfl rfl (decide_eq_true g38) ?_
       refine WO.mv rfl rfl ?_
       refine WO.on rfl rfl (decide_eq_true g38) ?_
       refine WO.val (run_indexS Tryz.underlying9 rfl rfl (by omega) (by rw [Int.toNat_natCast]; exact hb)) rfl rfl rfl ?_
       refine WO.on rfl rfl (decide_eq_true g38) ?_
       refine WO.val (run_neq rfl rfl) rfl rfl rfl ?_
       refine WO.val (run_pickT rfl (decide_eq_true g38) rfl) rfl rfl rfl ?_
       refine WO.nil (NX.go ?_)
       refine WP.condP rfl (fun g43 => ?_) (fun g43 => ?_)
       ·
        refine WP.seq (WP.region rfl ?_)
        refine WO.asg rfl rfl ?_
        refine WO.nil (NX.go (WP.ret (NX.blkRet (NX.thenRet (NX.thenRet (NX.blkRet (NX.thenRet ?_)))))))
        refine NX.done (l := [.tmp 2]) rfl rfl ?_
        exact ⟨congrArg Value.bool (decide_eq_false (fun h => absurd (h.2.2 b (List.mem_of_getElem? hb)) (by unfold fileB; omega))).symm, hS1⟩
       ·
        refine WP.skip (NX.blk (NX.go (WP.region rfl ?_)))
        refine WO.mv rfl rfl ?_
        refine WO.val (run_add rfl rfl (IntWalk.i64_in _ (by omega))) rfl rfl rfl ?_
        refine WO.asg rfl rfl ?_
        refine WO.nil ?_
        exact NX.again (i + 1) ⟨⟨by omega, file_next hok hb (by unfold fileB; omega)⟩, hS1⟩ (by show s.length - (i + 1) < s.length - i; omega) (Sub.cons rfl (Sub.consE rfl (by congr 1) (Sub.nil _)))
      ·
       refine WO.off rfl rfl (decide_eq_false g38) rfl ?_
       refine WO.off rfl rfl (decide_eq_false g38) rfl ?_
       refine WO.off rfl rfl (decide_eq_false g38) rfl ?_
       refine WO.off rfl rfl (decide_eq_false g38) rfl ?_
       refine WO.val (run_pickF rfl (decide_eq_false g38) rfl) rfl rfl rfl ?_
       refine WO.nil (NX.go ?_)
       refine WP.condF rfl rfl ?_
       refine WP.skip (NX.blk (NX.go (WP.region rfl ?_)))
       refine WO.mv rfl rfl ?_
       refine WO.val (run_add rfl rfl (IntWalk.i64_in _ (by omega))) rfl rfl rfl ?_
       refine WO.asg rfl rfl ?_
       refine WO.nil ?_
       exact NX.again (i + 1) ⟨⟨by omega, file_next hok hb (by unfold fileB; omega)⟩, hS1⟩ (by show s.length - (i + 1) < s.length - i; omega) (Sub.cons rfl (Sub.consE rfl (by congr 1) (Sub.nil _)))
     ·
      refine WO.off rfl rfl (decide_eq_false g32) rfl ?_
      refine WO.off rfl rfl (decide_eq_false g32) rfl ?_
      refine WO.off rfl rfl (decide_eq_false g32) rfl ?_
      refine WO.off rfl rfl (decide_eq_false g32) rfl ?_
      refine WO.val (run_pickF rfl (decide_eq_false g32) rfl) rfl rfl rfl ?_
      refine WO.mv rfl rfl ?_
      refine WO.off rfl rfl rfl rfl ?_
      refine WO.off rfl rfl rfl rfl ?_
      refine WO.off rfl rfl rfl rfl ?_
      refine WO.off rfl rfl rfl rfl ?_
      refine WO.val (run_pickF rfl rfl rfl) rfl rfl rfl ?_
      refine WO.nil (NX.go ?_)
      refine WP.condF rfl rfl ?_
      refine WP.skip (NX.blk (NX.go (WP.region rfl ?_)))
      refine WO.mv rfl rfl ?_
      refine WO.val (run_add rfl rfl (IntWalk.i64_in _ (by omega))) rfl rfl rfl ?_
      refine WO.asg rfl rfl ?_
      refine WO.nil ?_
      exact NX.again (i + 1) ⟨⟨by omega, file_next hok hb (by unfold fileB; omega)⟩, hS1⟩ (by show s.length - (i + 1) < s.length - i; omega) (Sub.cons rfl (Sub.consE rfl (by congr 1) (Sub.nil _)))
   ·
    refine WO.off rfl rfl (decide_eq_false g20) rfl ?_
    refine WO.off rfl rfl (decide_eq_false g20) rfl ?_
    refine WO.off rfl rfl (decide_eq_false g20) rfl ?_
    refine WO.off rfl rfl (decide_eq_false g20) rfl ?_
    refine WO.off rfl rfl (decide_eq_false g20) rfl ?_
    refine WO.offU rfl rfl rfl ?_
    refine WO.offU rfl rfl rfl ?_
    refine WO.offU rfl rfl rfl ?_
    refine WO.offU rfl rfl rfl ?_
    refine WO.off rfl rfl (decide_eq_false g20) rfl ?_
    refine WO.val (run_pickF rfl (decide_eq_false g20) rfl) rfl rfl rfl ?_
    refine WO.mv rfl rfl ?_
    refine WO.off rfl rfl rfl rfl ?_
    refine WO.off rfl rfl rfl rfl ?_
    refine WO.off rfl rfl rfl rfl ?_
    refine WO.off rfl rfl rfl rfl ?_
    refine WO.val (run_pickF rfl rfl rfl) rfl rfl rfl ?_
    refine WO.mv rfl rfl ?_
    refine WO.off rfl rfl rfl rfl ?_
    refine WO.off rfl rfl rfl rfl ?_
    refine WO.off rfl rfl rfl rfl ?_
    refine WO.off rfl rfl rfl rfl ?_
    refine WO.val (run_pickF rfl rfl rfl) rfl rfl rfl ?_
    refine WO.nil (NX.go ?_)
    refine WP.condF rfl rfl ?_
    refine WP.skip (NX.blk (NX.go (WP.region rfl ?_)))
    refine WO.mv rfl rfl ?_
    refine WO.val (run_add rfl rfl (IntWalk.i64_in _ (by omega))) rfl rfl rfl ?_
    refine WO.asg rfl rfl ?_
    refine WO.nil ?_
    exact NX.again (i + 1) ⟨⟨by omega, file_next hok hb (by unfold fileB; omega)⟩, hS1⟩ (by show s.length - (i + 1) < s.length - i; omega) (Sub.cons rfl (Sub.consE rfl (by congr 1) (Sub.nil _)))
 ·
  refine WP.exit (NX.thenExit (NX.thenExit ?_))
  refine NX.blkExit ?_
  refine NX.go (WP.seq (WP.region rfl ?_))
  refine WO.mv rfl rfl ?_
  refine WO.val (run_lenS rfl Tryz.underlying9 rfl) rfl rfl rfl ?_
  refine WO.val (run_geq rfl rfl) rfl rfl rfl ?_
  refine WO.mv rfl rfl ?_
  by_cases g47 : 1 ≤ (s.length : Int)
  ·
   refine WO.on rfl rfl (decide_eq_true g47) ?_
   refine WO.mv rfl rfl ?_
   refine WO.on rfl rfl (decide_eq_true g47) ?_
   refine WO.val (run_lenS rfl Tryz.underlying9 rfl) rfl rfl rfl ?_
   refine WO.on rfl rfl (decide_eq_true g47) ?_
   refine WO.val (run_leq rfl rfl) rfl rfl rfl ?_
   refine WO.val (run_pickT rfl (decide_eq_true g47) rfl) rfl rfl rfl ?_
   refine WO.asg rfl rfl ?_
   refine WO.nil (NX.go (WP.ret ?_))
   refine NX.done (l := [.tmp 2]) rfl rfl ?_
   exact ⟨congrArg Value.bool (decide_eq_decide.2 ⟨fun h => ⟨List.length_pos_iff.1 (by omega), by omega, all_of hok (by omega)⟩, fun h => by have := h.2.1; omega⟩), hS1⟩
  ·
   refine WO.off rfl rfl (decide_eq_false g47) rfl ?_
   refine WO.off rfl rfl (decide_eq_false g47) rfl ?_
   refine WO.off rfl rfl (decide_eq_false g47) rfl ?_
   refine WO.val (run_pickF rfl (decide_eq_false g47) rfl) rfl rfl rfl ?_
   refine WO.asg rfl rfl ?_
   refine WO.nil (NX.go (WP.ret ?_))
   refine NX.done (l := [.tmp 2]) rfl rfl ?_
   exact ⟨congrArg Value.bool (decide_eq_false (fun h => absurd (List.length_pos_iff.2 h.1) (by omega))).symm, hS1⟩
theorem rcheckM_spec {B w : World} {L : List HP} {X : HP} {a : Option Addr} {cap : Nat} {m : Man} (hX : ∀ {L : List HP} {w : World}, St B (X :: L) w → Rd w a m.bl.length 1 (m.bl.map str)) (hr : RngM m) (hS : St B (X :: L) w) : Does Tryz.prog 15 [Value.agg #[Value.int .i64 m.e, Value.int .i64 m.b, Value.int .i64 m.p, Value.int .i64 m.k, Value.int .i64 m.c, Value.slice a m.bl.length cap]] w (fun v w1 => v = .int .i64 (checkM m) ∧ St B (X :: L) w1) := by
 refine enter (n := 57) Tryz.func15 rfl rfl [Value.agg #[Value.int .i64 m.e, Value.int .i64 m.b, Value.int .i64 m.p, Value.int .i64 m.k, Value.int .i64 m.c, Value.slice a m.bl.length cap]] rfl ?_
 refine WP.seq (WP.region rfl ?_)
 refine WO.box (l := [Value.int .i64 m.e, Value.int .i64 m.b, Value.int .i64 m.p, Value.int .i64 m.k, Value.int .i64 m.c, Value.slice a m.bl.length cap]) hS rfl rfl rfl (fun g2 w1 lg2 hS1 => ?_)
 clear hS
 refine WO.asg rfl rfl ?_
 refine WO.nil (NX.go (WP.seq (WP.block (WP.seq (WP.region rfl ?_)))))
 refine WO.val (run_fieldAddr (q := ⟨g2, 0, none⟩) (show fieldB Tryz.prog 24 0 = some 0 from by kernel_rfl) rfl rfl) rfl rfl rfl ?_
 refine WO.val (run_load Ty.ag3 rfl ((hS1.cel_at 0 rfl 0).trans rfl)) rfl rfl rfl ?_
 refine WO.call rfl rfl Ty.hd43 rfl (rin_spec m.e hS1) (fun v4 w3 pv4 => ?_)
 obtain ⟨rfl, hS3⟩ := pv4
 clear hS1
 refine WO.val (run_notP rfl) rfl rfl rfl ?_
 refine WO.mv rfl rfl ?_
 by_cases g9 : ¬ (inM m.e)
 ·
  refine WO.off rfl rfl (decide_eq_true g9) rfl ?_
  refine WO.off rfl rfl (decide_eq_true g9) rfl ?_
  refine WO.off rfl rfl (decide_eq_true g9) rfl ?_
  refine WO.off rfl rfl (decide_eq_true g9) rfl ?_
  refine WO.val (run_pickT rfl (decide_eq_true g9) rfl) rfl rfl rfl ?_
  refine WO.mv rfl rfl ?_
  refine WO.off rfl rfl rfl rfl ?_
  refine WO.off rfl rfl rfl rfl ?_
  refine WO.off rfl rfl rfl rfl ?_
  refine WO.off rfl rfl rfl rfl ?_
  refine WO.val (run_pickT rfl rfl rfl) rfl rfl rfl ?_
  refine WO.mv rfl rfl ?_
  refine WO.off rfl rfl rfl rfl ?_
  refine WO.off rfl rfl rfl rfl ?_
  refine WO.off rfl rfl rfl rfl ?_
  refine WO.off rfl rfl rfl rfl ?_
  refine WO.val (run_pickT rfl rfl rfl) rfl rfl rfl ?_
  refine WO.mv rfl rfl ?_
  refine WO.off rfl rfl rfl rfl ?_
  refine WO.off rfl rfl rfl rfl ?_
  refine WO.off rfl rfl rfl rfl ?_
  refine WO.val (run_pickT rfl rfl rfl) rfl rfl rfl ?_
  refine WO.asg rfl rfl ?_
  refine WO.nil (NX.go ?_)
  refine WP.condT rfl rfl ?_
  refine WP.seq (WP.region rfl ?_)
  refine WO.asg rfl rfl ?_
  refine WO.nil (NX.go (WP.ret (NX.blkRet (NX.thenRet ?_))))
  refine NX.done (l := [.tmp 2]) rfl rfl ?_
  exact ⟨congrArg (Value.int .i64) (by rw [checkM, if_pos (fun h => by obtain ⟨i1, i2, i3, i4, i5⟩ := h; first | contradiction | omega)]), hS3.drop⟩
 ·
  refine WO.on rfl rfl (decide_eq_false g9) ?_
  refine WO.val (run_fieldAddr (q := ⟨g2, 1, none⟩) (show fieldB Tryz.prog 24 1 = some 1 from by kernel_rfl) rfl rfl) rfl rfl rfl ?_
  refine WO.on rfl rfl (decide_eq_false g9) ?_
  refine WO.val (run_load Ty.ag3 rfl ((hS3.cel_at 0 rfl 1).trans rfl)) rfl rfl rfl ?_
  refine WO.on rfl rfl (decide_eq_false g9) ?_
  refine WO.call rfl rfl Ty.hd43 rfl (rin_spec m.b hS3) (fun v6 w5 pv6 => ?_)
  obtain ⟨rfl, hS5⟩ := pv6
  clear hS3
  refine WO.on rfl rfl (decide_eq_false g9) ?_
  refine WO.val (run_notP rfl) rfl rfl rfl ?_
  refine WO.val (run_pickF rfl (decide_eq_false g9) rfl) rfl rfl rfl ?_
  refine WO.mv rfl rfl ?_
  by_cases g15 : ¬ (inM m.b)
  ·
   refine WO.off rfl rfl (decide_eq_true g15) rfl ?_
   refine WO.off rfl rfl (decide_eq_true g15) rfl ?_
   refine WO.off rfl rfl (decide_eq_true g15) rfl ?_
   refine WO.off rfl rfl (decide_eq_true g15) rfl ?_
   refine WO.val (run_pickT rfl (decide_eq_true g15) rfl) rfl rfl rfl ?_
   refine WO.mv rfl rfl ?_
   refine WO.off rfl rfl rfl rfl ?_
   refine WO.off rfl rfl rfl rfl ?_
   refine WO.off rfl rfl rfl rfl ?_
   refine WO.off rfl rfl rfl rfl ?_
   refine WO.val (run_pickT rfl rfl rfl) rfl rfl rfl ?_
   refine WO.mv rfl rfl ?_
   refine WO.off rfl rfl rfl rfl ?_
   refine WO.off rfl rfl rfl rfl ?_
   refine WO.off rfl rfl rfl rfl ?_
   refine WO.val (run_pickT rfl rfl rfl) rfl rfl rfl ?_
   refine WO.asg rfl rfl ?_
   refine WO.nil (NX.go ?_)
   refine WP.condT rfl rfl ?_
   refine WP.seq (WP.region rfl ?_)
   refine WO.asg rfl rfl ?_
   refine WO.nil (NX.go (WP.ret (NX.blkRet (NX.thenRet ?_))))
   refine NX.done (l := [.tmp 2]) rfl rfl ?_
   exact ⟨congrArg (Value.int .i64) (by rw [checkM, if_pos (fun h => by obtain ⟨i1, i2, i3, i4, i5⟩ := h; first | contradiction | omega)]), hS5.drop⟩
  ·
   refine WO.on rfl rfl (decide_eq_false g15) ?_
   refine WO.val (run_fieldAddr (q := ⟨g2, 2, none⟩) (show fieldB Tryz.prog 24 2 = some 2 from by kernel_rfl) rfl rfl) rfl rfl rfl ?_
   refine WO.on rfl rfl (decide_eq_false g15) ?_
   refine WO.val (run_load Ty.ag3 rfl ((hS5.cel_at 0 rfl 2).trans rfl)) rfl rfl rfl ?_
   refine WO.on rfl rfl (decide_eq_false g15) ?_
   refine WO.call rfl rfl Ty.hd43 rfl (rin_spec m.p hS5) (fun v8 w7 pv8 => ?_)
   obtain ⟨rfl, hS7⟩ := pv8
   clear hS5
   refine WO.on rfl rfl (decide_eq_false g15) ?_
   refine WO.val (run_notP rfl) rfl rfl rfl ?_
   refine WO.val (run_pickF rfl (decide_eq_false g15) rfl) rfl rfl rfl ?_
   refine WO.mv rfl rfl ?_
   by_cases g21 : ¬ (inM m.p)
   ·
    refine WO.off rfl rfl (decide_eq_true g21) rfl ?_
    refine WO.off rfl rfl (decide_eq_true g21) rfl ?_
    refine WO.off rfl rfl (decide_eq_true g21) rfl ?_
    refine WO.off rfl rfl (decide_eq_true g21) rfl ?_
    refine WO.val (run_pickT rfl (decide_eq_true g21) rfl) rfl rfl rfl ?_
    refine WO.mv rfl rfl ?_
    refine WO.off rfl rfl rfl rfl ?_
    refine WO.off rfl rfl rfl rfl ?_
    refine WO.off rfl rfl rfl rfl ?_
    refine WO.val (run_pickT rfl rfl rfl) rfl rfl rfl ?_
    refine WO.asg rfl rfl ?_
    refine WO.nil (NX.go ?_)
    refine WP.condT rfl rfl ?_
    refine WP.seq (WP.region rfl ?_)
    refine WO.asg rfl rfl ?_
    refine WO.nil (NX.go (WP.ret (NX.blkRet (NX.thenRet ?_))))
    refine NX.done (l := [.tmp 2]) rfl rfl ?_
    exact ⟨congrArg (Value.int .i64) (by rw [checkM, if_pos (fun h => by obtain ⟨i1, i2, i3, i4, i5⟩ := h; first | contradiction | omega)]), hS7.drop⟩
   ·
    refine WO.on rfl rfl (decide_eq_false g21) ?_
    refine WO.val (run_fieldAddr (q := ⟨g2, 4, none⟩) (show fieldB Tryz.prog 24 4 = some 4 from by kernel_rfl) rfl rfl) rfl rfl rfl ?_
    refine WO.on rfl rfl (decide_eq_false g21) ?_
    refine WO.val (run_load Ty.ag3 rfl ((hS7.cel_at 0 rfl 4).trans rfl)) rfl rfl rfl ?_
    refine WO.on rfl rfl (decide_eq_false g21) ?_
    refine WO.call rfl rfl Ty.hd43 rfl (rin_spec m.c hS7) (fun v10 w9 pv10 => ?_)
    obtain ⟨rfl, hS9⟩ := pv10
    clear hS7
    refine WO.on rfl rfl (decide_eq_false g21) ?_
    refine WO.val (run_notP rfl) rfl rfl rfl ?_
    refine WO.val (run_pickF rfl (decide_eq_false g21) rfl) rfl rfl rfl ?_
    refine WO.mv rfl rfl ?_
    by_cases g27 : ¬ (inM m.c)
    ·
     refine WO.off rfl rfl (decide_eq_true g27) rfl ?_
     refine WO.off rfl rfl (decide_eq_true g27) rfl ?_
     refine WO.off rfl rfl (decide_eq_true g27) rfl ?_
     refine WO.val (run_pickT rfl (decide_eq_true g27) rfl) rfl rfl rfl ?_
     refine WO.asg rfl rfl ?_
     refine WO.nil (NX.go ?_)
     refine WP.condT rfl rfl ?_
     refine WP.seq (WP.region rfl ?_)
     refine WO.asg rfl rfl ?_
     refine WO.nil (NX.go (WP.ret (NX.blkRet (NX.thenRet ?_))))
     refine NX.done (l := [.tmp 2]) rfl rfl ?_
     exact ⟨congrArg (Value.int .i64) (by rw [checkM, if_pos (fun h => by obtain ⟨i1, i2, i3, i4, i5⟩ := h; first | contradiction | omega)]), hS9.drop⟩
    ·
     refine WO.on rfl rfl (decide_eq_false g27) ?_
     refine WO.val (run_fieldAddr (q := ⟨g2, 0, none⟩) (show fieldB Tryz.prog 24 0 = some 0 from by kernel_rfl) rfl rfl) rfl rfl rfl ?_
     refine WO.on rfl rfl (decide_eq_false g27) ?_
     refine WO.val (run_load Ty.ag3 rfl ((hS9.cel_at 0 rfl 0).trans rfl)) rfl rfl rfl ?_
     refine WO.on rfl rfl (decide_eq_false g27) ?_
     refine WO.val (run_eql rfl rfl) rfl rfl rfl ?_
     refine WO.val (run_pickF rfl (decide_eq_false g27) rfl) rfl rfl rfl ?_
     refine WO.asg rfl rfl ?_
     refine WO.nil (NX.go ?_)
     refine WP.condP rfl (fun g4 => ?_) (fun g4 => ?_)
     ·
      refine WP.seq (WP.region rfl ?_)
      refine WO.asg rfl rfl ?_
      refine WO.nil (NX.go (WP.ret (NX.blkRet (NX.thenRet ?_))))
      refine NX.done (l := [.tmp 2]) rfl rfl ?_
      exact ⟨congrArg (Value.int .i64) (by rw [checkM, if_pos (fun h => by obtain ⟨i1, i2, i3, i4, i5⟩ := h; first | contradiction | omega)]), hS9.drop⟩
     ·
      refine WP.seq ?_
      have hall : ¬ ¬ (inM m.e ∧ inM m.b ∧ inM m.p ∧ inM m.c ∧ ¬ m.e = 0) := fun h => h ⟨Decidable.of_not_not (by assumption), Decidable.of_not_not (by assumption), Decidable.of_not_not (by assumption), Decidable.of_not_not (by assumption), by assumption⟩
      refine WP.region rfl ?_
      refine WO.val (run_fieldAddr (q := ⟨g2, 2, none⟩) (show fieldB Tryz.prog 24 2 = some 2 from by kernel_rfl) rfl rfl) rfl rfl rfl ?_
      refine WO.val (run_load Ty.ag3 rfl ((hS9.cel_at 0 rfl 2).trans rfl)) rfl rfl rfl ?_
      refine WO.val (run_fieldAddr (q := ⟨g2, 0, none⟩) (show fieldB Tryz.prog 24 0 = some 0 from by kernel_rfl) rfl rfl) rfl rfl rfl ?_
      refine WO.val (run_load Ty.ag3 rfl ((hS9.cel_at 0 rfl 0).trans rfl)) rfl rfl rfl ?_
      refine WO.val (run_lss rfl rfl) rfl rfl rfl ?_
      refine WO.asg rfl rfl ?_
      refine WO.nil (NX.go ?_)
      refine WP.condP rfl (fun g32 => ?_) (fun g32 => ?_)
      ·
       refine WP.seq (WP.region rfl ?_)
       refine WO.asg rfl rfl ?_
       refine WO.nil (NX.go (WP.ret (NX.blkRet (NX.thenRet ?_))))
       refine NX.done (l := [.tmp 2]) rfl rfl ?_
       exact ⟨congrArg (Value.int .i64) (by rw [checkM, if_neg hall, if_pos (by omega)]), hS9.drop⟩
      ·
       refine WP.seq (WP.region rfl ?_)
       refine WO.val (run_fieldAddr (q := ⟨g2, 5, none⟩) (show fieldB Tryz.prog 24 5 = some 5 from by kernel_rfl) rfl rfl) rfl rfl rfl ?_
       refine WO.val (run_load Ty.ag22 rfl ((hS9.cel_at 0 rfl 5).trans rfl)) rfl rfl rfl ?_
       refine WO.val (run_len rfl Tryz.underlying22 rfl) rfl rfl rfl ?_
       refine WO.val (run_gtr rfl rfl) rfl rfl rfl ?_
       refine WO.asg rfl rfl ?_
       refine WO.nil (NX.go ?_)
       refine WP.condP rfl (fun g38 => ?_) (fun g38 => ?_)
       ·
        refine WP.seq (WP.region rfl ?_)
        refine WO.asg rfl rfl ?_
        refine WO.nil (NX.go (WP.ret (NX.blkRet (NX.thenRet ?_))))
        refine NX.done (l := [.tmp 2]) rfl rfl ?_
        exact ⟨congrArg (Value.int .i64) (by rw [checkM, if_neg hall, if_neg (by omega), if_pos (by omega)]), hS9.drop⟩
       ·
        refine WP.skip (NX.blk (NX.go (WP.seq (WP.seq ?_))))
        have hn := hr.n
        refine WP.region rfl ?_
        refine WO.asg rfl rfl ?_
        refine WO.nil (NX.go (WP.block ?_))
        refine WP.loop (α := Nat) (fun x => match x with | i => [(1, Value.pointer (some ⟨g2, 0, none⟩)), (3, Value.int .i64 (i : Int))]) (fun x w => match x with | i => (i ≤ m.bl.length ∧ (m.bl.take i).all fileF = true) ∧ St B (cel g2 [Value.int .i64 m.e, Value.int .i64 m.b, Value.int .i64 m.p, Value.int .i64 m.k, Value.int .i64 m.c, Value.slice a m.bl.length cap] 24 :: X :: L) w) (fun x => match x with | i => m.bl.length - i) 0 ⟨⟨Nat.zero_le _, rfl⟩, hS9⟩ (Sub.cons rfl (Sub.consE rfl (by first | rfl | first | rfl | (congr 1; omega) | (simp; done) | (simp; omega)) (Sub.nil _))) ?_
        rintro i w11 ⟨⟨hi, hok⟩, hS11⟩
        clear hS9
        refine WP.seq (WP.seq (WP.region rfl ?_))
        refine WO.mv rfl rfl ?_
        refine WO.val (run_fieldAddr (q := ⟨g2, 5, none⟩) (show fieldB Tryz.prog 24 5 = some 5 from by kernel_rfl) rfl rfl) rfl rfl rfl ?_
        refine WO.val (run_load Ty.ag22 rfl ((hS11.cel_at 0 rfl 5).trans rfl)) rfl rfl rfl ?_
        refine WO.val (run_len rfl Tryz.underlying22 rfl) rfl rfl rfl ?_
        refine WO.val (run_lss rfl rfl) rfl rfl rfl ?_
        refine WO.nil (NX.go ?_)
        refine WP.condP rfl (fun g47 => ?_) (fun g47 => ?_)
        ·
         refine WP.skip (NX.go (WP.seq (WP.block (WP.seq (WP.region rfl ?_)))))
         refine WO.val (run_fieldAddr (q := ⟨g2, 5, none⟩) (show fieldB Tryz.prog 24 5 = some 5 from by kernel_rfl) rfl rfl) rfl rfl rfl ?_
         refine WO.val (run_load Ty.ag22 rfl ((hS11.cel_at 0 rfl 5).trans rfl)) rfl rfl rfl ?_
         refine WO.mv rfl rfl ?_
         obtain ⟨t, ht⟩ : ∃ t, m.bl[i]? = some t := ⟨_, List.getElem?_eq_getElem (by omega)⟩
         refine WO.val (run_indexAddr (q := adr a i) Tryz.underlying22 Ty.sz9 rfl rfl (by omega) (by omega) ((hX (hS11.focus 1 rfl)).2.1 (by omega)) (by simp)) rfl rfl rfl ?_
         refine WO.val (run_load Ty.ag9 rfl ((hX (hS11.focus 1 rfl)).cell (str_at ht))) rfl rfl rfl ?_
         refine WO.call rfl rfl Ty.hd44 rfl (rfile_spec t (by have := hr.t t (List.mem_of_getElem? ht); omega) hS11) (fun v13 w12 pv13 => ?_)
         obtain ⟨rfl, hS12⟩ := pv13
         clear hS11
         refine WO.val (run_not rfl rfl) rfl rfl rfl ?_
         refine WO.nil (NX.go ?_)
         refine WP.condB rfl (fun g56 => ?_) (fun g56 => ?_)
         ·
          refine WP.seq (WP.region rfl ?_)
          refine WO.asg rfl rfl ?_
          refine WO.nil (NX.go (WP.ret (NX.blkRet (NX.thenRet (NX.thenRet (NX.blkRet (NX.thenRet ?_)))))))
          refine NX.done (l := [.tmp 2]) rfl rfl ?_
          exact ⟨congrArg (Value.int .i64) (by rw [checkM, if_neg hall, if_neg (by omega), if_neg (by omega), if_neg (all_not ht (by simpa using g56))]), hS12.drop⟩
         ·
          refine WP.skip (NX.blk (NX.go (WP.region rfl ?_)))
          refine WO.mv rfl rfl ?_
          refine WO.val (run_add rfl rfl (IntWalk.i64_in _ (by omega))) rfl rfl rfl ?_
          refine WO.asg rfl rfl ?_
          refine WO.nil ?_
          exact NX.again (i + 1) ⟨⟨by omega, all_next hok ht (by simpa using g56)⟩, hS12⟩ (by show m.bl.length - (i + 1) < m.bl.length - i; omega) (Sub.cons rfl (Sub.consE rfl (by congr 1) (Sub.nil _)))
        ·
         refine WP.exit (NX.thenExit (NX.thenExit ?_))
         refine NX.blkExit ?_
         refine NX.go (WP.seq (WP.region rfl ?_))
         refine WO.asg rfl rfl ?_
         refine WO.nil (NX.go (WP.ret ?_))
         refine NX.done (l := [.tmp 2]) rfl rfl ?_
         exact ⟨congrArg (Value.int .i64) (by rw [checkM, if_neg hall, if_neg (by omega), if_neg (by omega), if_pos (by rw [List.take_of_length_le (by omega)] at hok; exact hok)]), hS11.drop⟩
end Go.Proofs.YtcehlnpbdffdhaaGreatDoor.SL

/- Manifests: the one of a new node; are two the same: the reference. -/
namespace Go.Proofs.YtcehlnpbdffdhaaGreatDoor.SL
open Go.RowKit Go.Proofs.YtcehlnpbdffdhaaGreatDoor
open Go.Proofs.YtcehlnpbdffdhaaGreatDoorW.PrintLast (rtab opsOf)
set_option linter.unusedVariables false
set_option linter.unusedSimpArgs false

def noneM : Man := ⟨1, 0, 1, -9223372036854775808, 0, []⟩
theorem man_eq {m n : Man} (h1 : ¬ ¬ m.e = n.e) (h2 : ¬ ¬ m.b = n.b) (h3 : ¬ ¬ m.p = n.p) (h4 : ¬ ¬ m.k = n.k) (h5 : ¬ ¬ m.c = n.c) (h6 : m.bl = n.bl) : m = n := by
  replace h1 := Decidable.of_not_not h1
  replace h2 := Decidable.of_not_not h2
  replace h3 := Decidable.of_not_not h3
  replace h4 := Decidable.of_not_not h4
  replace h5 := Decidable.of_not_not h5
  cases m; cases n
  simp only at h1 h2 h3 h4 h5 h6
  subst h1; subst h2; subst h3; subst h4; subst h5; subst h6; rfl
theorem take_same {α : Type} {l k : List α} {i : Nat} {x y : α} (h : l.take i = k.take i) (hx : l[i]? = some x) (hy : k[i]? = some y) (e : x = y) : l.take (i + 1) = k.take (i + 1) := by
  rw [List.take_add_one, List.take_add_one, h, hx, hy, e]
theorem rnone_spec {B w : World} {L : List HP} (hS : St B L w) : Does Tryz.prog 21 [] w (fun v w1 => v = manV noneM none 0 ∧ St B L w1) := by
 refine enter (n := 2) Tryz.func21 rfl rfl [] rfl ?_
 refine WP.seq (WP.region rfl ?_)
 refine WO.alloc (l := [Value.int .i64 0, Value.int .i64 0, Value.int .i64 0, Value.int .i64 0, Value.int .i64 0, Value.slice none 0 0]) hS Ty.zr24 rfl rfl (fun g2 w1 lg2 hS1 => ?_)
 clear hS
 refine WO.nil (NX.go (WP.seq (WP.region rfl ?_)))
 refine WO.val (run_build (v := Value.agg #[Value.int .i64 1, Value.int .i64 0, Value.int .i64 1, Value.int .i64 (-9223372036854775808), Value.int .i64 0, Value.slice none 0 0]) rfl (fun w => by kernel_rfl)) rfl rfl rfl ?_
 refine WO.store (l' := [Value.int .i64 1, Value.int .i64 0, Value.int .i64 1, Value.int .i64 (-9223372036854775808), Value.int .i64 0, Value.slice none 0 0]) 0 hS1 rfl Ty.sz24 rfl rfl rfl rfl rfl (Nat.le_of_ble_eq_true rfl) rfl (fun w3 (hS3 : St B (cel g2 [Value.int .i64 1, Value.int .i64 0, Value.int .i64 1, Value.int .i64 (-9223372036854775808), Value.int .i64 0, Value.slice none 0 0] 24 :: L) w3) => ?_)
 clear hS1
 refine WO.nil (NX.go (WP.ret ?_))
 refine NX.doneC (l := [.cell 0 24]) rfl (.cons (.cell rfl (loadVar_agg (vs := [Value.int .i64 1, Value.int .i64 0, Value.int .i64 1, Value.int .i64 (-9223372036854775808), Value.int .i64 0, Value.slice none 0 0]) Ty.ag24 Ty.sz24 rfl (cell_all (hS3.cel_at 0 rfl) 0 rfl))) .nil) ?_
 exact ⟨rfl, hS3.drop⟩
theorem rsame_spec_t6 : rtab .any (opsOf Tryz.f13 6) = (true, [([], []), ([0], [0]), ([], []), ([1, 2], [1, 2]), ([3], [3]), ([], []), ([5], [5]), ([], []), ([6, 7], [6, 7]), ([8], [8]), ([4, 9], [4, 9])]) := by kernel_rfl
theorem rsame_spec {B w : World} {L : List HP} {X Y : HP} {a b : Option Addr} {cap cap2 : Nat} {m n : Man} (hX : ∀ {L : List HP} {w : World}, St B (X :: L) w → Rd w a m.bl.length 1 (m.bl.map str)) (hY : ∀ {L : List HP} {w : World}, St B (Y :: L) w → Rd w b n.bl.length 1 (n.bl.map str)) (hm : RngM m) (hn : RngM n) (hS : St B (X :: Y :: L) w) : Does Tryz.prog 13 [Value.agg #[Value.int .i64 m.e, Value.int .i64 m.b, Value.int .i64 m.p, Value.int .i64 m.k, Value.int .i64 m.c, Value.slice a m.bl.length cap], Value.agg #[Value.int .i64 n.e, Value.int .i64 n.b, Value.int .i64 n.p, Value.int .i64 n.k, Value.int .i64 n.c, Value.slice b n.bl.length cap2]] w (fun v w1 => v = .bool (decide (m = n)) ∧ St B (X :: Y :: L) w1) := by
 refine enter (n := 66) Tryz.func13 rfl rfl [Value.agg #[Value.int .i64 m.e, Value.int .i64 m.b, Value.int .i64 m.p, Value.int .i64 m.k, Value.int .i64 m.c, Value.slice a m.bl.length cap], Value.agg #[Value.int .i64 n.e, Value.int .i64 n.b, Value.int .i64 n.p, Value.int .i64 n.k, Value.int .i64 n.c, Value.slice b n.bl.length cap2]] rfl ?_
 refine WP.seq (WP.region rfl ?_)
 refine WO.box (l := [Value.int .i64 m.e, Value.int .i64 m.b, Value.int .i64 m.p, Value.int .i64 m.k, Value.int .i64 m.c, Value.slice a m.bl.length cap]) hS rfl rfl rfl (fun g2 w1 lg2 hS1 => ?_)
 clear hS
 refine WO.box (l := [Value.int .i64 n.e, Value.int .i64 n.b, Value.int .i64 n.p, Value.int .i64 n.k, Value.int .i64 n.c, Value.slice b n.bl.length cap2]) hS1 rfl rfl rfl (fun g4 w3 lg4 hS3 => ?_)
 clear hS1
 refine WO.asg rfl rfl ?_
 refine WO.nil (NX.go (WP.seq (WP.seq (WP.region rfl ?_))))
 refine WO.val (run_fieldAddr (q := ⟨g2, 0, none⟩) (show fieldB Tryz.prog 24 0 = some 0 from by kernel_rfl) rfl rfl) rfl rfl rfl ?_
 refine WO.val (run_load Ty.ag3 rfl ((hS3.cel_at 1 rfl 0).trans rfl)) rfl rfl rfl ?_
 refine WO.val (run_fieldAddr (q := ⟨g4, 0, none⟩) (show fieldB Tryz.prog 24 0 = some 0 from by kernel_rfl) rfl rfl) rfl rfl rfl ?_
 refine WO.val (run_load Ty.ag3 rfl ((hS3.cel_at 0 rfl 0).trans rfl)) rfl rfl rfl ?_
 refine WO.val (run_neq rfl rfl) rfl rfl rfl ?_
 refine WO.mv rfl rfl ?_
 by_cases g11 : ¬ m.e = n.e
 ·
  refine WO.off rfl rfl (decide_eq_true g11) rfl ?_
  refine WO.off rfl rfl (decide_eq_true g11) rfl ?_
  refine WO.off rfl rfl (decide_eq_true g11) rfl ?_
  refine WO.off rfl rfl (decide_eq_true g11) rfl ?_
  refine WO.off rfl rfl (decide_eq_true g11) rfl ?_
  refine WO.val (run_pickT rfl (decide_eq_true g11) rfl) rfl rfl rfl ?_
  refine WO.mv rfl rfl ?_
  refine WO.off rfl rfl rfl rfl ?_
  refine WO.off rfl rfl rfl rfl ?_
  refine WO.off rfl rfl rfl rfl ?_
  refine WO.off rfl rfl rfl rfl ?_
  refine WO.off rfl rfl rfl rfl ?_
  refine WO.val (run_pickT rfl rfl rfl) rfl rfl rfl ?_
  refine WO.mv rfl rfl ?_
  refine WO.off rfl rfl rfl rfl ?_
  refine WO.off rfl rfl rfl rfl ?_
  refine WO.off rfl rfl rfl rfl ?_
  refine WO.off rfl rfl rfl rfl ?_
  refine WO.off rfl rfl rfl rfl ?_
  refine WO.val (run_pickT rfl rfl rfl) rfl rfl rfl ?_
  refine WO.mv rfl rfl ?_
  refine WO.off rfl rfl rfl rfl ?_
  refine WO.off rfl rfl rfl rfl ?_
  refine WO.off rfl rfl rfl rfl ?_
  refine WO.off rfl rfl rfl rfl ?_
  refine WO.off rfl rfl rfl rfl ?_
  refine WO.val (run_pickT rfl rfl rfl) rfl rfl rfl ?_
  refine WO.mv rfl rfl ?_
  refine WO.off rfl rfl rfl rfl ?_
  refine WO.off rfl rfl rfl rfl ?_
  refine WO.off rfl rfl rfl rfl ?_
  refine WO.off rfl rfl rfl rfl ?_
  refine WO.off rfl rfl rfl rfl ?_
  refine WO.off rfl rfl rfl rfl ?_
  refine WO.off rfl rfl rfl rfl ?_
  refine WO.val (run_pickT rfl rfl rfl) rfl rfl rfl ?_
  refine WO.nil (NX.go ?_)
  refine WP.condT rfl rfl ?_
  refine WP.seq (WP.region rfl ?_)
  refine WO.asg rfl rfl ?_
  refine WO.nil (NX.go (WP.ret (NX.thenRet ?_)))
  refine NX.done (l := [.tmp 4]) rfl rfl ?_
  exact ⟨congrArg Value.bool (decide_eq_false (fun h => by subst h; first | contradiction | omega)).symm, hS3.drop.drop⟩
 ·
  refine WO.on rfl rfl (decide_eq_false g11) ?_
  refine WO.val (run_fieldAddr (q := ⟨g2, 1, none⟩) (show fieldB Tryz.prog 24 1 = some 1 from by kernel_rfl) rfl rfl) rfl rfl rfl ?_
  refine WO.on rfl rfl (decide_eq_false g11) ?_
  refine WO.val (run_load Ty.ag3 rfl ((hS3.cel_at 1 rfl 1).trans rfl)) rfl rfl rfl ?_
  refine WO.on rfl rfl (decide_eq_false g11) ?_
  refine WO.val (run_fieldAddr (q := ⟨g4, 1, none⟩) (show fieldB Tryz.prog 24 1 = some 1 from by kernel_rfl) rfl rfl) rfl rfl rfl ?_
  refine WO.on rfl rfl (decide_eq_false g11) ?_
  refine WO.val (run_load Ty.ag3 rfl ((hS3.cel_at 0 rfl 1).trans rfl)) rfl rfl rfl ?_
  refine WO.on rfl rfl (decide_eq_false g11) ?_
  refine WO.val (run_neq rfl rfl) rfl rfl rfl ?_
  refine WO.val (run_pickF rfl (decide_eq_false g11) rfl) rfl rfl rfl ?_
  refine WO.mv rfl rfl ?_
  by_cases g18 : ¬ m.b = n.b
  ·
   refine WO.off rfl rfl (decide_eq_true g18) rfl ?_
   refine WO.off rfl rfl (decide_eq_true g18) rfl ?_
   refine WO.off rfl rfl (decide_eq_true g18) rfl ?_
   refine WO.off rfl rfl (decide_eq_true g18) rfl ?_
   refine WO.off rfl rfl (decide_eq_true g18) rfl ?_
   refine WO.val (run_pickT rfl (decide_eq_true g18) rfl) rfl rfl rfl ?_
   refine WO.mv rfl rfl ?_
   refine WO.off rfl rfl rfl rfl ?_
   refine WO.off rfl rfl rfl rfl ?_
   refine WO.off rfl rfl rfl rfl ?_
   refine WO.off rfl rfl rfl rfl ?_
   refine WO.off rfl rfl rfl rfl ?_
   refine WO.val (run_pickT rfl rfl rfl) rfl rfl rfl ?_
   refine WO.mv rfl rfl ?_
   refine WO.off rfl rfl rfl rfl ?_
   refine WO.off rfl rfl rfl rfl ?_
   refine WO.off rfl rfl rfl rfl ?_
   refine WO.off rfl rfl rfl rfl ?_
   refine WO.off rfl rfl rfl rfl ?_
   refine WO.val (run_pickT rfl rfl rfl) rfl rfl rfl ?_
   refine WO.mv rfl rfl ?_
   refine WO.off rfl rfl rfl rfl ?_
   refine WO.off rfl rfl rfl rfl ?_
   refine WO.off rfl rfl rfl rfl ?_
   refine WO.off rfl rfl rfl rfl ?_
   refine WO.off rfl rfl rfl rfl ?_
   refine WO.off rfl rfl rfl rfl ?_
   refine WO.off rfl rfl rfl rfl ?_
   refine WO.val (run_pickT rfl rfl rfl) rfl rfl rfl ?_
   refine WO.nil (NX.go ?_)
   refine WP.condT rfl rfl ?_
   refine WP.seq (WP.region rfl ?_)
   refine WO.asg rfl rfl ?_
   refine WO.nil (NX.go (WP.ret (NX.thenRet ?_)))
   refine NX.done (l := [.tmp 4]) rfl rfl ?_
   exact ⟨congrArg Value.bool (decide_eq_false (fun h => by subst h; first | contradiction | omega)).symm, hS3.drop.drop⟩
  ·
   refine WO.on rfl rfl (decide_eq_false g18) ?_
   refine WO.val (run_fieldAddr (q := ⟨g2, 2, none⟩) (show fieldB Tryz.prog 24 2 = some 2 from by kernel_rfl) rfl rfl) rfl rfl rfl ?_
   refine WO.on rfl rfl (decide_eq_false g18) ?_
   refine WO.val (run_load Ty.ag3 rfl ((hS3.cel_at 1 rfl 2).trans rfl)) rfl rfl rfl ?_
   refine WO.on rfl rfl (decide_eq_false g18) ?_
   refine WO.val (run_fieldAddr (q := ⟨g4, 2, none⟩) (show fieldB Tryz.prog 24 2 = some 2 from by kernel_rfl) rfl rfl) rfl rfl rfl ?_
   refine WO.on rfl rfl (decide_eq_false g18) ?_
   refine WO.val (run_load Ty.ag3 rfl ((hS3.cel_at 0 rfl 2).trans rfl)) rfl rfl rfl ?_
   refine WO.on rfl rfl (decide_eq_false g18) ?_
   refine WO.val (run_neq rfl rfl) rfl rfl rfl ?_
   refine WO.val (run_pickF rfl (decide_eq_false g18) rfl) rfl rfl rfl ?_
   refine WO.mv rfl rfl ?_
   by_cases g25 : ¬ m.p = n.p
   ·
    refine WO.off rfl rfl (decide_eq_true g25) rfl ?_
    refine WO.off rfl rfl (decide_eq_true g25) rfl ?_
    refine WO.off rfl rfl (decide_eq_true g25) rfl ?_
    refine WO.off rfl rfl (decide_eq_true g25) rfl ?_
    refine WO.off rfl rfl (decide_eq_true g25) rfl ?_
    refine WO.val (run_pickT rfl (decide_eq_true g25) rfl) rfl rfl rfl ?_
    refine WO.mv rfl rfl ?_
    refine WO.off rfl rfl rfl rfl ?_
    refine WO.off rfl rfl rfl rfl ?_
    refine WO.off rfl rfl rfl rfl ?_
    refine WO.off rfl rfl rfl rfl ?_
    refine WO.off rfl rfl rfl rfl ?_
    refine WO.val (run_pickT rfl rfl rfl) rfl rfl rfl ?_
    refine WO.mv rfl rfl ?_
    refine WO.off rfl rfl rfl rfl ?_
    refine WO.off rfl rfl rfl rfl ?_
    refine WO.off rfl rfl rfl rfl ?_
    refine WO.off rfl rfl rfl rfl ?_
    refine WO.off rfl rfl rfl rfl ?_
    refine WO.off rfl rfl rfl rfl ?_
    refine WO.off rfl rfl rfl rfl ?_
    refine WO.val (run_pickT rfl rfl rfl) rfl rfl rfl ?_
    refine WO.nil (NX.go ?_)
    refine WP.condT rfl rfl ?_
    refine WP.seq (WP.region rfl ?_)
    refine WO.asg rfl rfl ?_
    refine WO.nil (NX.go (WP.ret (NX.thenRet ?_)))
    refine NX.done (l := [.tmp 4]) rfl rfl ?_
    exact ⟨congrArg Value.bool (decide_eq_false (fun h => by subst h; first | contradiction | omega)).symm, hS3.drop.drop⟩
   ·
    refine WO.on rfl rfl (decide_eq_false g25) ?_
    refine WO.val (run_fieldAddr (q := ⟨g2, 3, none⟩) (show fieldB Tryz.prog 24 3 = some 3 from by kernel_rfl) rfl rfl) rfl rfl rfl ?_
    refine WO.on rfl rfl (decide_eq_false g25) ?_
    refine WO.val (run_load Ty.ag2 rfl ((hS3.cel_at 1 rfl 3).trans rfl)) rfl rfl rfl ?_
    refine WO.on rfl rfl (decide_eq_false g25) ?_
    refine WO.val (run_fieldAddr (q := ⟨g4, 3, none⟩) (show fieldB Tryz.prog 24 3 = some 3 from by kernel_rfl) rfl rfl) rfl rfl rfl ?_
    refine WO.on rfl rfl (decide_eq_false g25) ?_
    refine WO.val (run_load Ty.ag2 rfl ((hS3.cel_at 0 rfl 3).trans rfl)) rfl rfl rfl ?_
    refine WO.on rfl rfl (decide_eq_false g25) ?_
    refine WO.val (run_neq rfl rfl) rfl rfl rfl ?_
    refine WO.val (run_pickF rfl (decide_eq_false g25) rfl) rfl rfl rfl ?_
    refine WO.mv rfl rfl ?_
    by_cases g32 : ¬ m.k = n.k
    ·
     refine WO.off rfl rfl (decide_eq_true g32) rfl ?_
     refine WO.off rfl rfl (decide_eq_true g32) rfl ?_
     refine WO.off rfl rfl (decide_eq_true g32) rfl ?_
     refine WO.off rfl rfl (decide_eq_true g32) rfl ?_
     refine WO.off rfl rfl (decide_eq_true g32) rfl ?_
     refine WO.val (run_pickT rfl (decide_eq_true g32) rfl) rfl rfl rfl ?_
     refine WO.mv rfl rfl ?_
     refine WO.off rfl rfl rfl rfl ?_
     refine WO.off rfl rfl rfl rfl ?_
     refine WO.off rfl rfl rfl rfl ?_
     refine WO.off rfl rfl rfl rfl ?_
     refine WO.off rfl rfl rfl rfl ?_
     refine WO.off rfl rfl rfl rfl ?_
     refine WO.off rfl rfl rfl rfl ?_
     refine WO.val (run_pickT rfl rfl rfl) rfl rfl rfl ?_
     refine WO.nil (NX.go ?_)
     refine WP.condT rfl rfl ?_
     refine WP.seq (WP.region rfl ?_)
     refine WO.asg rfl rfl ?_
     refine WO.nil (NX.go (WP.ret (NX.thenRet ?_)))
     refine NX.done (l := [.tmp 4]) rfl rfl ?_
     exact ⟨congrArg Value.bool (decide_eq_false (fun h => by subst h; first | contradiction | omega)).symm, hS3.drop.drop⟩
    ·
     refine WO.on rfl rfl (decide_eq_false g32) ?_
     refine WO.val (run_fieldAddr (q := ⟨g2, 4, none⟩) (show fieldB Tryz.prog 24 4 = some 4 from by kernel_rfl) rfl rfl) rfl rfl rfl ?_
     refine WO.on rfl rfl (decide_eq_false g32) ?_
     refine WO.val (run_load Ty.ag3 rfl ((hS3.cel_at 1 rfl 4).trans rfl)) rfl rfl rfl ?_
     refine WO.on rfl rfl (decide_eq_false g32) ?_
     refine WO.val (run_fieldAddr (q := ⟨g4, 4, none⟩) (show fieldB Tryz.prog 24 4 = some 4 from by kernel_rfl) rfl rfl) rfl rfl rfl ?_
     refine WO.on rfl rfl (decide_eq_false g32) ?_
     refine WO.val (run_load Ty.ag3 rfl ((hS3.cel_at 0 rfl 4).trans rfl)) rfl rfl rfl ?_
     refine WO.on rfl rfl (decide_eq_false g32) ?_
     refine WO.val (run_neq rfl rfl) rfl rfl rfl ?_
     refine WO.val (run_pickF rfl (decide_eq_false g32) rfl) rfl rfl rfl ?_
     refine WO.mv rfl rfl ?_
     by_cases g39 : ¬ m.c = n.c
     ·
      refine WO.off rfl rfl (decide_eq_true g39) rfl ?_
      refine WO.off rfl rfl (decide_eq_true g39) rfl ?_
      refine WO.off rfl rfl (decide_eq_true g39) rfl ?_
      refine WO.off rfl rfl (decide_eq_true g39) rfl ?_
      refine WO.off rfl rfl (decide_eq_true g39) rfl ?_
      refine WO.off rfl rfl (decide_eq_true g39) rfl ?_
      refine WO.off rfl rfl (decide_eq_true g39) rfl ?_
      refine WO.val (run_pickT rfl (decide_eq_true g39) rfl) rfl rfl rfl ?_
      refine WO.nil (NX.go ?_)
      refine WP.condT rfl rfl ?_
      refine WP.seq (WP.region rfl ?_)
      refine WO.asg rfl rfl ?_
      refine WO.nil (NX.go (WP.ret (NX.thenRet ?_)))
      refine NX.done (l := [.tmp 4]) rfl rfl ?_
      exact ⟨congrArg Value.bool (decide_eq_false (fun h => by subst h; first | contradiction | omega)).symm, hS3.drop.drop⟩
     ·
      refine WO.on rfl rfl (decide_eq_false g39) ?_
      refine WO.val (run_fieldAddr (q := ⟨g2, 5, none⟩) (show fieldB Tryz.prog 24 5 = some 5 from by kernel_rfl) rfl rfl) rfl rfl rfl ?_
      refine WO.on rfl rfl (decide_eq_false g39) ?_
      refine WO.val (run_load Ty.ag22 rfl ((hS3.cel_at 1 rfl 5).trans rfl)) rfl rfl rfl ?_
      refine WO.on rfl rfl (decide_eq_false g39) ?_
      refine WO.val (run_len rfl Tryz.underlying22 rfl) rfl rfl rfl ?_
      refine WO.on rfl rfl (decide_eq_false g39) ?_
      refine WO.val (run_fieldAddr (q := ⟨g4, 5, none⟩) (show fieldB Tryz.prog 24 5 = some 5 from by kernel_rfl) rfl rfl) rfl rfl rfl ?_
      refine WO.on rfl rfl (decide_eq_false g39) ?_
      refine WO.val (run_load Ty.ag22 rfl ((hS3.cel_at 0 rfl 5).trans rfl)) rfl rfl rfl ?_
      refine WO.on rfl rfl (decide_eq_false g39) ?_
      refine WO.val (run_len rfl Tryz.underlying22 rfl) rfl rfl rfl ?_
      refine WO.on rfl rfl (decide_eq_false g39) ?_
      refine WO.val (run_neq rfl rfl) rfl rfl rfl ?_
      refine WO.val (run_pickF rfl (decide_eq_false g39) rfl) rfl rfl rfl ?_
      refine WO.nil (NX.go ?_)
      refine WP.condP rfl (fun g47 => ?_) (fun g47 => ?_)
      ·
       refine WP.seq (WP.region rfl ?_)
       refine WO.asg rfl rfl ?_
       refine WO.nil (NX.go (WP.ret (NX.thenRet ?_)))
       refine NX.done (l := [.tmp 4]) rfl rfl ?_
       exact ⟨congrArg Value.bool (decide_eq_false (fun h => by subst h; first | contradiction | omega)).symm, hS3.drop.drop⟩
      ·
       refine WP.skip (NX.go (WP.seq (WP.seq ?_)))
       have hl : m.bl.length = n.bl.length := by omega
       have hln := hm.n
       refine WP.region rfl ?_
       refine WO.asg rfl rfl ?_
       refine WO.nil (NX.go (WP.block ?_))
       refine WP.loop (α := Nat) (fun x => match x with | i => [(2, Value.pointer (some ⟨g2, 0, none⟩)), (3, Value.pointer (some ⟨g4, 0, none⟩)), (5, Value.int .i64 (i : Int))]) (fun x w => match x with | i => (i ≤ m.bl.length ∧ m.bl.take i = n.bl.take i) ∧ St B (cel g4 [Value.int .i64 n.e, Value.int .i64 n.b, Value.int .i64 n.p, Value.int .i64 n.k, Value.int .i64 n.c, Value.slice b n.bl.length cap2] 24 :: cel g2 [Value.int .i64 m.e, Value.int .i64 m.b, Value.int .i64 m.p, Value.int .i64 m.k, Value.int .i64 m.c, Value.slice a m.bl.length cap] 24 :: X :: Y :: L) w) (fun x => match x with | i => m.bl.length - i) 0 ⟨⟨Nat.zero_le _, rfl⟩, hS3⟩ (Sub.cons rfl (Sub.cons rfl (Sub.consE rfl (by first | rfl | first | rfl | (congr 1; omega) | (simp; done) | (simp; omega)) (Sub.nil _)))) ?_
       rintro i w5 ⟨⟨hi, hok⟩, hS5⟩
       clear hS3
       refine WP.seq (WP.seq (WP.region rfl ?_))
       refine WO.mv rfl rfl ?_
       refine WO.val (run_fieldAddr (q := ⟨g2, 5, none⟩) (show fieldB Tryz.prog 24 5 = some 5 from by kernel_rfl) rfl rfl) rfl rfl rfl ?_
       refine WO.val (run_load Ty.ag22 rfl ((hS5.cel_at 1 rfl 5).trans rfl)) rfl rfl rfl ?_
       refine WO.val (run_len rfl Tryz.underlying22 rfl) rfl rfl rfl ?_
       refine WO.val (run_lss rfl rfl) rfl rfl rfl ?_
       refine WO.nil (NX.go ?_)
       refine WP.condP rfl (fun g52 => ?_) (fun g52 => ?_)
       ·
        refine WP.skip (NX.go (WP.seq (WP.block (WP.seq ?_))))
        obtain ⟨t, ht⟩ : ∃ t, m.bl[i]? = some t := ⟨_, List.getElem?_eq_getElem (by omega)⟩
        obtain ⟨u, hu⟩ : ∃ u, n.bl[i]? = some u := ⟨_, List.getElem?_eq_getElem (by omega)⟩
        refine WD.start (fun w => (∀ j, World.cell? w ⟨g4, j, none⟩ = [Value.int .i64 n.e, Value.int .i64 n.b, Value.int .i64 n.p, Value.int .i64 n.k, Value.int .i64 n.c, Value.slice b n.bl.length cap2][j]?) ∧ (∀ j, World.cell? w ⟨g2, j, none⟩ = [Value.int .i64 m.e, Value.int .i64 m.b, Value.int .i64 m.p, Value.int .i64 m.k, Value.int .i64 m.c, Value.slice a m.bl.length cap][j]?) ∧ Rd w a m.bl.length 1 (m.bl.map str) ∧ Rd w b n.bl.length 1 (n.bl.map str)) [] (bt 11 0) Ty.mo rfl (by kernel_rfl) hS5 (fun _ h => ⟨h.cel_at 0 rfl, h.cel_at 1 rfl, (hX (h.focus 2 rfl)), (hY (h.focus 3 rfl))⟩) (fun w6 hS6 s7 => ?_)
        clear hS5
        refine WD.pure (i := 0) rsame_spec_t6 (bt 11 1) rfl rfl rfl (by kernel_rfl) (PQ.then (PQ.blk (PQ.then (PQ.then (PQ.blk (PQ.then PQ.body)))))) rfl (fun w => run_fieldAddr (q := ⟨g2, 5, none⟩) (show fieldB Tryz.prog 24 5 = some 5 from by kernel_rfl) rfl rfl) ?_
        refine WD.take (i := 1) rsame_spec_t6 (bt 11 3) s7 rfl rfl rfl (by kernel_rfl) (PQ.then (PQ.blk (PQ.then (PQ.then (PQ.blk (PQ.then PQ.body)))))) rfl (fun w hs => run_load Ty.ag22 rfl ((hs.2.1 5).trans rfl)) ?_
        refine WD.pure (i := 2) rsame_spec_t6 (bt 11 7) rfl rfl rfl (by kernel_rfl) (PQ.then (PQ.blk (PQ.then (PQ.then (PQ.blk (PQ.then PQ.body)))))) rfl (fun w => run_move rfl) ?_
        refine WD.take (i := 3) rsame_spec_t6 (bt 11 15) s7 rfl rfl rfl (by kernel_rfl) (PQ.then (PQ.blk (PQ.then (PQ.then (PQ.blk (PQ.then PQ.body)))))) rfl (fun w hs => run_indexAddr (q := adr a i) Tryz.underlying22 Ty.sz9 rfl rfl (by omega) (by omega) ((hs.2.2.1).2.1 (by omega)) (by simp)) ?_
        refine WD.take (i := 4) rsame_spec_t6 (bt 11 31) s7 rfl rfl rfl (by kernel_rfl) (PQ.then (PQ.blk (PQ.then (PQ.then (PQ.blk (PQ.then PQ.body)))))) rfl (fun w hs => run_load Ty.ag9 rfl ((hs.2.2.1).cell (str_at ht))) ?_
        refine WD.pure (i := 5) rsame_spec_t6 (bt 11 63) rfl rfl rfl (by kernel_rfl) (PQ.then (PQ.blk (PQ.then (PQ.then (PQ.blk (PQ.then PQ.body)))))) rfl (fun w => run_fieldAddr (q := ⟨g4, 5, none⟩) (show fieldB Tryz.prog 24 5 = some 5 from by kernel_rfl) rfl rfl) ?_
        refine WD.take (i := 6) rsame_spec_t6 (bt 11 127) s7 rfl rfl rfl (by kernel_rfl) (PQ.then (PQ.blk (PQ.then (PQ.then (PQ.blk (PQ.then PQ.body)))))) rfl (fun w hs => run_load Ty.ag22 rfl ((hs.1 5).trans rfl)) ?_
        refine WD.pure (i := 7) rsame_spec_t6 (bt 11 255) rfl rfl rfl (by kernel_rfl) (PQ.then (PQ.blk (PQ.then (PQ.then (PQ.blk (PQ.then PQ.body)))))) rfl (fun w => run_move rfl) ?_
        refine WD.take (i := 8) rsame_spec_t6 (bt 11 511) s7 rfl rfl rfl (by kernel_rfl) (PQ.then (PQ.blk (PQ.then (PQ.then (PQ.blk (PQ.then PQ.body)))))) rfl (fun w hs => run_indexAddr (q := adr b i) Tryz.underlying22 Ty.sz9 rfl rfl (by omega) (by omega) ((hs.2.2.2).2.1 (by omega)) (by simp)) ?_
        refine WD.take (i := 9) rsame_spec_t6 (bt 11 1023) s7 rfl rfl rfl (by kernel_rfl) (PQ.then (PQ.blk (PQ.then (PQ.then (PQ.blk (PQ.then PQ.body)))))) rfl (fun w hs => run_load Ty.ag9 rfl ((hs.2.2.2).cell (str_at hu))) ?_
        refine WD.pure (i := 10) rsame_spec_t6 (bt 11 2047) rfl rfl rfl (by kernel_rfl) (PQ.then (PQ.blk (PQ.then (PQ.then (PQ.blk (PQ.then PQ.body)))))) rfl (fun w => run_neqS rfl rfl) ?_
        refine WD.done rsame_spec_t6 (by kernel_rfl) ?_
        refine NX.go ?_
        refine WP.condP rfl (fun g65 => ?_) (fun g65 => ?_)
        ·
         refine WP.seq (WP.region rfl ?_)
         refine WO.asg rfl rfl ?_
         refine WO.nil (NX.go (WP.ret (NX.blkRet (NX.thenRet (NX.thenRet (NX.blkRet (NX.thenRet ?_)))))))
         refine NX.done (l := [.tmp 4]) rfl rfl ?_
         exact ⟨congrArg Value.bool (decide_eq_false (fun h => by subst h; rw [ht] at hu; exact g65 (Option.some.inj hu))).symm, hS6.drop.drop⟩
        ·
         refine WP.skip (NX.blk (NX.go (WP.region rfl ?_)))
         refine WO.mv rfl rfl ?_
         refine WO.val (run_add rfl rfl (IntWalk.i64_in _ (by omega))) rfl rfl rfl ?_
         refine WO.asg rfl rfl ?_
         refine WO.nil ?_
         exact NX.again (i + 1) ⟨⟨by omega, take_same hok ht hu (Decidable.of_not_not g65)⟩, hS6⟩ (by show m.bl.length - (i + 1) < m.bl.length - i; omega) (Sub.cons rfl (Sub.cons rfl (Sub.consE rfl (by congr 1) (Sub.nil _))))
       ·
        refine WP.exit (NX.thenExit (NX.thenExit ?_))
        refine NX.blkExit ?_
        refine NX.go (WP.seq (WP.region rfl ?_))
        refine WO.asg rfl rfl ?_
        refine WO.nil (NX.go (WP.ret ?_))
        refine NX.done (l := [.tmp 4]) rfl rfl ?_
        exact ⟨congrArg Value.bool (decide_eq_true (man_eq g11 g18 g25 g32 g39 (by rw [List.take_of_length_le (by omega), List.take_of_length_le (by omega)] at hok; exact hok))).symm, hS5.drop.drop⟩
end Go.Proofs.YtcehlnpbdffdhaaGreatDoor.SL

/- Manifests: the bytes: the reference. -/
namespace Go.Proofs.YtcehlnpbdffdhaaGreatDoor.SL
open Go.RowKit Go.Proofs.YtcehlnpbdffdhaaGreatDoor
open Go.Proofs.YtcehlnpbdffdhaaGreatDoorW.PrintLast (rtab opsOf)
set_option linter.unusedVariables false
set_option linter.unusedSimpArgs false

theorem checkM_zero {m : Man} (h : ¬ ¬ checkM m = 0) : inM m.e ∧ inM m.b ∧ inM m.p ∧ inM m.c ∧ m.bl.length ≤ 16 ∧ (∀ t ∈ m.bl, t.length ≤ 32) ∧ ¬ m.e = 0 ∧ ¬ m.p < m.e := by
  replace h := Decidable.of_not_not h
  unfold checkM at h
  split at h
  · cases h
  · rename_i h1
    obtain ⟨i1, i2, i3, i4, i5⟩ := Decidable.of_not_not h1
    split at h
    · cases h
    · rename_i h2
      split at h
      · cases h
      · split at h
        · rename_i h3 h4
          exact ⟨i1, i2, i3, i4, by omega, fun t ht => (of_decide_eq_true (List.all_eq_true.1 h4 t ht)).2.1, i5, h2⟩
        · cases h
/-- A manifest's numbers as bytes. -/
def numsM (m : Man) : List UInt8 := numB m.e.toNat ++ numB m.b.toNat ++ numB m.p.toNat ++ numB (zig m.k) ++ numB m.c.toNat ++ numB m.bl.length
theorem dataM_nums (m : Man) : dataM m = numsM m ++ m.bl.flatMap textB := by unfold dataM numsM; simp only [List.append_assoc]
theorem u64_toNat {n : Int} (h : inM n) : IntKind.u64.wrap n = ((n.toNat : Nat) : Int) := by unfold inM at h; rw [IntWalk.u64_in _ (by omega)]; omega
theorem flat_next {l : List (List UInt8)} {i : Nat} {t : List UInt8} (h : l[i]? = some t) : (l.take (i + 1)).flatMap textB = (l.take i).flatMap textB ++ textB t := by
  rw [List.take_add_one, h, Option.toList_some, List.flatMap_append]; simp
theorem textB_le {t : List UInt8} (h : t.length ≤ 140737488355328) : (textB t).length ≤ t.length + 9 := by
  have := numB_len (show t.length < 18446744073709551616 by omega)
  unfold textB; rw [List.length_append]; omega
theorem rencM_spec_t4 : rtab .any (opsOf Tryz.f69 4) = (true, [([], []), ([0], [0]), ([1], [1]), ([2], [2]), ([], []), ([4], [4]), ([5], [5]), ([6, 3], [6]), ([3, 7], [3, 7]), ([], []), ([9], [9]), ([10], [10]), ([11, 7], [11]), ([8, 12], [8, 12]), ([], []), ([14], [14]), ([15, 12], [15]), ([13, 16], [13, 16]), ([], []), ([18], [18]), ([19], [19]), ([20, 16], [20]), ([17, 21], [17, 21]), ([], []), ([23], [23]), ([24], [24]), ([25], [25]), ([26, 21], [26]), ([22, 27], [22, 27]), ([28, 27, 0, 1, 2, 3, 4, 5, 6, 7, 8, 9, 10, 11, 12, 13, 14, 15, 16, 17, 18, 19, 20, 21, 22, 23, 24, 25, 26, 27, 28], [28])]) := by kernel_rfl
theorem rencM_spec {B w : World} {L : List HP} {X : HP} {a : Option Addr} {cap : Nat} {m : Man} (hX : ∀ {L : List HP} {w : World}, St B (X :: L) w → Rd w a m.bl.length 1 (m.bl.map str)) (hr : RngM m) (hS : St B (X :: L) w) : Does Tryz.prog 69 [Value.agg #[Value.int .i64 m.e, Value.int .i64 m.b, Value.int .i64 m.p, Value.int .i64 m.k, Value.int .i64 m.c, Value.slice a m.bl.length cap]] w (fun v w1 => v = .tuple #[str (encM m).1, .int .i64 (encM m).2] ∧ St B (X :: L) w1) := by
 refine enter (n := 61) Tryz.func69 rfl rfl [Value.agg #[Value.int .i64 m.e, Value.int .i64 m.b, Value.int .i64 m.p, Value.int .i64 m.k, Value.int .i64 m.c, Value.slice a m.bl.length cap]] rfl ?_
 refine WP.seq (WP.region rfl ?_)
 refine WO.box (l := [Value.int .i64 m.e, Value.int .i64 m.b, Value.int .i64 m.p, Value.int .i64 m.k, Value.int .i64 m.c, Value.slice a m.bl.length cap]) hS rfl rfl rfl (fun g2 w1 lg2 hS1 => ?_)
 clear hS
 refine WO.asg rfl rfl ?_
 refine WO.asg rfl rfl ?_
 refine WO.nil (NX.go (WP.seq (WP.region rfl ?_)))
 refine WO.val (run_loadAgg (vs := [Value.int .i64 m.e, Value.int .i64 m.b, Value.int .i64 m.p, Value.int .i64 m.k, Value.int .i64 m.c, Value.slice a m.bl.length cap]) Ty.ag24 Ty.sz24 rfl rfl (cell_all (hS1.cel_at 0 rfl) 0 rfl)) rfl rfl rfl ?_
 have hS3 := hS1.permT [1, 0] (L' := X :: cel g2 [Value.int .i64 m.e, Value.int .i64 m.b, Value.int .i64 m.p, Value.int .i64 m.k, Value.int .i64 m.c, Value.slice a m.bl.length cap] 24 :: L) rfl
 clear hS1
 refine WO.call rfl rfl Ty.hd15 rfl (rcheckM_spec hX hr hS3) (fun v5 w4 pv5 => ?_)
 obtain ⟨rfl, hS4⟩ := pv5
 clear hS3
 refine WO.asg rfl rfl ?_
 refine WO.nil (NX.go (WP.seq (WP.seq (WP.region rfl ?_))))
 refine WO.mv rfl rfl ?_
 refine WO.val (run_neq rfl rfl) rfl rfl rfl ?_
 refine WO.nil (NX.go ?_)
 refine WP.condP rfl (fun g10 => ?_) (fun g10 => ?_)
 ·
  refine WP.seq (WP.region rfl ?_)
  refine WO.mv rfl rfl ?_
  refine WO.asg rfl rfl ?_
  refine WO.asg rfl rfl ?_
  refine WO.nil (NX.go (WP.ret (NX.thenRet ?_)))
  refine NX.done (l := [.tmp 2, .tmp 3]) rfl rfl ?_
  exact ⟨by rw [encM, if_neg g10]; rfl, (hS4.permT [1, 0] (L' := cel g2 [Value.int .i64 m.e, Value.int .i64 m.b, Value.int .i64 m.p, Value.int .i64 m.k, Value.int .i64 m.c, Value.slice a m.bl.length cap] 24 :: X :: L) rfl).drop⟩
 ·
  refine WP.skip (NX.go (WP.seq ?_))
  obtain ⟨ie, ib, ip, ic, hl16, ht32, _, _⟩ := checkM_zero g10
  have h1 : m.e.toNat ≤ 99999999 ∧ m.b.toNat ≤ 99999999 ∧ m.p.toNat ≤ 99999999 ∧ m.c.toNat ≤ 99999999 := by unfold inM at ie ib ip ic; omega
  have k1 := numB_len (n := m.e.toNat) (by omega)
  have k2 := numB_len (n := m.b.toNat) (by omega)
  have k3 := numB_len (n := m.p.toNat) (by omega)
  have k4 := numB_len (n := zig m.k) (zig_lt hr.k.1 hr.k.2)
  have k5 := numB_len (n := m.c.toNat) (by omega)
  have k6 := numB_len (n := m.bl.length) (by omega)
  refine WD.start (fun w => Rd w a m.bl.length 1 (m.bl.map str) ∧ (∀ j, World.cell? w ⟨g2, j, none⟩ = [Value.int .i64 m.e, Value.int .i64 m.b, Value.int .i64 m.p, Value.int .i64 m.k, Value.int .i64 m.c, Value.slice a m.bl.length cap][j]?)) [] (bt 30 0) Ty.mo rfl (by kernel_rfl) hS4 (fun _ h => ⟨(hX (h.focus 0 rfl)), h.cel_at 1 rfl⟩) (fun w6 hS6 s7 => ?_)
  clear hS4
  refine WD.pure (i := 0) rencM_spec_t4 (bt 30 1) rfl rfl rfl (by kernel_rfl) (PQ.then PQ.body) rfl (fun w => run_fieldAddr (q := ⟨g2, 0, none⟩) (show fieldB Tryz.prog 24 0 = some 0 from by kernel_rfl) rfl rfl) ?_
  refine WD.take (i := 1) rencM_spec_t4 (bt 30 3) s7 rfl rfl rfl (by kernel_rfl) (PQ.then PQ.body) rfl (fun w hs => run_load Ty.ag3 rfl ((hs.2 0).trans rfl)) ?_
  refine WD.pure (i := 2) rencM_spec_t4 (bt 30 7) rfl rfl rfl (by kernel_rfl) (PQ.then PQ.body) rfl (fun w => run_convI Tryz.underlying43 (by kernel_rfl) rfl (u64_toNat ie)) ?_
  refine WD.pure (i := 4) rencM_spec_t4 (bt 30 23) rfl rfl rfl (by kernel_rfl) (PQ.then PQ.body) rfl (fun w => run_fieldAddr (q := ⟨g2, 1, none⟩) (show fieldB Tryz.prog 24 1 = some 1 from by kernel_rfl) rfl rfl) ?_
  refine WD.take (i := 5) rencM_spec_t4 (bt 30 55) s7 rfl rfl rfl (by kernel_rfl) (PQ.then PQ.body) rfl (fun w hs => run_load Ty.ag3 rfl ((hs.2 1).trans rfl)) ?_
  refine WD.pure (i := 6) rencM_spec_t4 (bt 30 119) rfl rfl rfl (by kernel_rfl) (PQ.then PQ.body) rfl (fun w => run_convI Tryz.underlying43 (by kernel_rfl) rfl (u64_toNat ib)) ?_
  refine WD.pure (i := 9) rencM_spec_t4 (bt 30 631) rfl rfl rfl (by kernel_rfl) (PQ.then PQ.body) rfl (fun w => run_fieldAddr (q := ⟨g2, 2, none⟩) (show fieldB Tryz.prog 24 2 = some 2 from by kernel_rfl) rfl rfl) ?_
  refine WD.take (i := 10) rencM_spec_t4 (bt 30 1655) s7 rfl rfl rfl (by kernel_rfl) (PQ.then PQ.body) rfl (fun w hs => run_load Ty.ag3 rfl ((hs.2 2).trans rfl)) ?_
  refine WD.pure (i := 11) rencM_spec_t4 (bt 30 3703) rfl rfl rfl (by kernel_rfl) (PQ.then PQ.body) rfl (fun w => run_convI Tryz.underlying43 (by kernel_rfl) rfl (u64_toNat ip)) ?_
  refine WD.pure (i := 14) rencM_spec_t4 (bt 30 20087) rfl rfl rfl (by kernel_rfl) (PQ.then PQ.body) rfl (fun w => run_fieldAddr (q := ⟨g2, 3, none⟩) (show fieldB Tryz.prog 24 3 = some 3 from by kernel_rfl) rfl rfl) ?_
  refine WD.take (i := 15) rencM_spec_t4 (bt 30 52855) s7 rfl rfl rfl (by kernel_rfl) (PQ.then PQ.body) rfl (fun w hs => run_load Ty.ag2 rfl ((hs.2 3).trans rfl)) ?_
  refine WD.pure (i := 18) rencM_spec_t4 (bt 30 314999) rfl rfl rfl (by kernel_rfl) (PQ.then PQ.body) rfl (fun w => run_fieldAddr (q := ⟨g2, 4, none⟩) (show fieldB Tryz.prog 24 4 = some 4 from by kernel_rfl) rfl rfl) ?_
  refine WD.take (i := 19) rencM_spec_t4 (bt 30 839287) s7 rfl rfl rfl (by kernel_rfl) (PQ.then PQ.body) rfl (fun w hs => run_load Ty.ag3 rfl ((hs.2 4).trans rfl)) ?_
  refine WD.pure (i := 20) rencM_spec_t4 (bt 30 1887863) rfl rfl rfl (by kernel_rfl) (PQ.then PQ.body) rfl (fun w => run_convI Tryz.underlying43 (by kernel_rfl) rfl (u64_toNat ic)) ?_
  refine WD.pure (i := 23) rencM_spec_t4 (bt 30 10276471) rfl rfl rfl (by kernel_rfl) (PQ.then PQ.body) rfl (fun w => run_fieldAddr (q := ⟨g2, 5, none⟩) (show fieldB Tryz.prog 24 5 = some 5 from by kernel_rfl) rfl rfl) ?_
  refine WD.take (i := 24) rencM_spec_t4 (bt 30 27053687) s7 rfl rfl rfl (by kernel_rfl) (PQ.then PQ.body) rfl (fun w hs => run_load Ty.ag22 rfl ((hs.2 5).trans rfl)) ?_
  refine WD.pure (i := 25) rencM_spec_t4 (bt 30 60608119) rfl rfl rfl (by kernel_rfl) (PQ.then PQ.body) rfl (fun w => run_len rfl Tryz.underlying22 rfl) ?_
  refine WD.pure (i := 26) rencM_spec_t4 (bt 30 127716983) rfl rfl rfl (by kernel_rfl) (PQ.then PQ.body) rfl (fun w => run_convI Tryz.underlying43 (by kernel_rfl) rfl (IntWalk.u64_in _ (by omega))) ?_
  refine WD.one (i := 3) rencM_spec_t4 (bt 30 127716991) rfl (by kernel_rfl) ?_
  refine WO.call rfl rfl Ty.hd94 rfl (rnum_spec (m.e.toNat) (by omega) hS6) (fun v9 w8 pv9 => ?_)
  obtain ⟨rfl, hS8⟩ := pv9
  clear hS6
  refine WO.nil ?_
  have s10 : Rd w8 a m.bl.length 1 (m.bl.map str) ∧ (∀ j, World.cell? w8 ⟨g2, j, none⟩ = [Value.int .i64 m.e, Value.int .i64 m.b, Value.int .i64 m.p, Value.int .i64 m.k, Value.int .i64 m.c, Value.slice a m.bl.length cap][j]?) := ⟨(hX (hS8.focus 0 rfl)), hS8.cel_at 1 rfl⟩
  refine NX.held s10 ?_
  refine WD.one (i := 7) rencM_spec_t4 (bt 30 127717119) rfl (by kernel_rfl) ?_
  refine WO.call rfl rfl Ty.hd94 rfl (rnum_spec (m.b.toNat) (by omega) hS8) (fun v12 w11 pv12 => ?_)
  obtain ⟨rfl, hS11⟩ := pv12
  clear hS8
  refine WO.nil ?_
  have s13 : Rd w11 a m.bl.length 1 (m.bl.map str) ∧ (∀ j, World.cell? w11 ⟨g2, j, none⟩ = [Value.int .i64 m.e, Value.int .i64 m.b, Value.int .i64 m.p, Value.int .i64 m.k, Value.int .i64 m.c, Value.slice a m.bl.length cap][j]?) := ⟨(hX (hS11.focus 0 rfl)), hS11.cel_at 1 rfl⟩
  refine NX.held s13 ?_
  refine WD.pure (i := 8) rencM_spec_t4 (bt 30 127717375) rfl rfl rfl (by kernel_rfl) (PQ.then PQ.body) rfl (fun w => run_cat rfl rfl (by first | omega | (simp only [List.length_append]; omega))) ?_
  refine WD.one (i := 12) rencM_spec_t4 (bt 30 127721471) rfl (by kernel_rfl) ?_
  refine WO.call rfl rfl Ty.hd94 rfl (rnum_spec (m.p.toNat) (by omega) hS11) (fun v15 w14 pv15 => ?_)
  obtain ⟨rfl, hS14⟩ := pv15
  clear hS11
  refine WO.nil ?_
  have s16 : Rd w14 a m.bl.length 1 (m.bl.map str) ∧ (∀ j, World.cell? w14 ⟨g2, j, none⟩ = [Value.int .i64 m.e, Value.int .i64 m.b, Value.int .i64 m.p, Value.int .i64 m.k, Value.int .i64 m.c, Value.slice a m.bl.length cap][j]?) := ⟨(hX (hS14.focus 0 rfl)), hS14.cel_at 1 rfl⟩
  refine NX.held s16 ?_
  refine WD.pure (i := 13) rencM_spec_t4 (bt 30 127729663) rfl rfl rfl (by kernel_rfl) (PQ.then PQ.body) rfl (fun w => run_cat rfl rfl (by first | omega | (simp only [List.length_append]; omega))) ?_
  refine WD.one (i := 16) rencM_spec_t4 (bt 30 127795199) rfl (by kernel_rfl) ?_
  refine WO.call rfl rfl Ty.hd95 rfl (rsigned_spec m.k hr.k.1 hr.k.2 hS14) (fun v18 w17 pv18 => ?_)
  obtain ⟨rfl, hS17⟩ := pv18
  clear hS14
  refine WO.nil ?_
  have s19 : Rd w17 a m.bl.length 1 (m.bl.map str) ∧ (∀ j, World.cell? w17 ⟨g2, j, none⟩ = [Value.int .i64 m.e, Value.int .i64 m.b, Value.int .i64 m.p, Value.int .i64 m.k, Value.int .i64 m.c, Value.slice a m.bl.length cap][j]?) := ⟨(hX (hS17.focus 0 rfl)), hS17.cel_at 1 rfl⟩
  refine NX.held s19 ?_
  refine WD.pure (i := 17) rencM_spec_t4 (bt 30 127926271) rfl rfl rfl (by kernel_rfl) (PQ.then PQ.body) rfl (fun w => run_cat rfl rfl (by first | omega | (simp only [List.length_append]; omega))) ?_
  refine WD.one (i := 21) rencM_spec_t4 (bt 30 130023423) rfl (by kernel_rfl) ?_
  refine WO.call rfl rfl Ty.hd94 rfl (rnum_spec (m.c.toNat) (by omega) hS17) (fun v21 w20 pv21 => ?_)
  obtain ⟨rfl, hS20⟩ := pv21
  clear hS17
  refine WO.nil ?_
  have s22 : Rd w20 a m.bl.length 1 (m.bl.map str) ∧ (∀ j, World.cell? w20 ⟨g2, j, none⟩ = [Value.int .i64 m.e, Value.int .i64 m.b, Value.int .i64 m.p, Value.int .i64 m.k, Value.int .i64 m.c, Value.slice a m.bl.length cap][j]?) := ⟨(hX (hS20.focus 0 rfl)), hS20.cel_at 1 rfl⟩
  refine NX.held s22 ?_
  refine WD.pure (i := 22) rencM_spec_t4 (bt 30 134217727) rfl rfl rfl (by kernel_rfl) (PQ.then PQ.body) rfl (fun w => run_cat rfl rfl (by first | omega | (simp only [List.length_append]; omega))) ?_
  refine WD.one (i := 27) rencM_spec_t4 (bt 30 268435455) rfl (by kernel_rfl) ?_
  refine WO.call rfl rfl Ty.hd94 rfl (rnum_spec (m.bl.length) (by omega) hS20) (fun v24 w23 pv24 => ?_)
  obtain ⟨rfl, hS23⟩ := pv24
  clear hS20
  refine WO.nil ?_
  have s25 : Rd w23 a m.bl.length 1 (m.bl.map str) ∧ (∀ j, World.cell? w23 ⟨g2, j, none⟩ = [Value.int .i64 m.e, Value.int .i64 m.b, Value.int .i64 m.p, Value.int .i64 m.k, Value.int .i64 m.c, Value.slice a m.bl.length cap][j]?) := ⟨(hX (hS23.focus 0 rfl)), hS23.cel_at 1 rfl⟩
  refine NX.held s25 ?_
  refine WD.pure (i := 28) rencM_spec_t4 (bt 30 536870911) rfl rfl rfl (by kernel_rfl) (PQ.then PQ.body) rfl (fun w => run_cat rfl rfl (by first | omega | (simp only [List.length_append]; omega))) ?_
  refine WD.pure (i := 29) rencM_spec_t4 (bt 30 1073741823) rfl rfl rfl (by kernel_rfl) (PQ.then PQ.body) rfl (fun w => run_assign rfl) ?_
  refine WD.done rencM_spec_t4 (by kernel_rfl) ?_
  refine NX.go (WP.seq (WP.seq (WP.region rfl ?_)))
  refine WO.asg rfl rfl ?_
  refine WO.nil (NX.go (WP.block ?_))
  refine WP.loop (α := Nat × List UInt8) (fun x => match x with | ⟨i, s⟩ => [(1, Value.pointer (some ⟨g2, 0, none⟩)), (5, str s), (6, Value.int .i64 (i : Int))]) (fun x w => match x with | ⟨i, s⟩ => (i ≤ m.bl.length ∧ s = numsM m ++ (m.bl.take i).flatMap textB ∧ s.length ≤ 60 + 50 * i) ∧ St B (X :: cel g2 [Value.int .i64 m.e, Value.int .i64 m.b, Value.int .i64 m.p, Value.int .i64 m.k, Value.int .i64 m.c, Value.slice a m.bl.length cap] 24 :: L) w) (fun x => match x with | ⟨i, s⟩ => m.bl.length - i) (0, (((((numB (m.e.toNat)) ++ (numB (m.b.toNat))) ++ (numB (m.p.toNat))) ++ (numB (zig m.k))) ++ (numB (m.c.toNat))) ++ (numB (m.bl.length))) ⟨⟨Nat.zero_le _, by unfold numsM; simp, by simp only [List.length_append]; omega⟩, hS23⟩ (Sub.cons rfl (Sub.consE rfl (by first | rfl | first | rfl | (congr 1; omega) | (simp; done) | (simp; omega)) (Sub.consE rfl (by first | rfl | first | rfl | (congr 1; omega) | (simp; done) | (simp; omega)) (Sub.nil _)))) ?_
  rintro ⟨i, s⟩ w26 ⟨⟨hi, hs, hsl⟩, hS26⟩
  clear hS23
  refine WP.seq (WP.seq (WP.region rfl ?_))
  refine WO.mv rfl rfl ?_
  refine WO.val (run_fieldAddr (q := ⟨g2, 5, none⟩) (show fieldB Tryz.prog 24 5 = some 5 from by kernel_rfl) rfl rfl) rfl rfl rfl ?_
  refine WO.val (run_load Ty.ag22 rfl ((hS26.cel_at 1 rfl 5).trans rfl)) rfl rfl rfl ?_
  refine WO.val (run_len rfl Tryz.underlying22 rfl) rfl rfl rfl ?_
  refine WO.val (run_lss rfl rfl) rfl rfl rfl ?_
  refine WO.nil (NX.go ?_)
  refine WP.condP rfl (fun g45 => ?_) (fun g45 => ?_)
  ·
   refine WP.skip (NX.go (WP.seq (WP.block (WP.region rfl ?_))))
   refine WO.mv rfl rfl ?_
   refine WO.val (run_fieldAddr (q := ⟨g2, 5, none⟩) (show fieldB Tryz.prog 24 5 = some 5 from by kernel_rfl) rfl rfl) rfl rfl rfl ?_
   refine WO.val (run_load Ty.ag22 rfl ((hS26.cel_at 1 rfl 5).trans rfl)) rfl rfl rfl ?_
   refine WO.mv rfl rfl ?_
   obtain ⟨t, ht⟩ : ∃ t, m.bl[i]? = some t := ⟨_, List.getElem?_eq_getElem (by omega)⟩
   refine WO.val (run_indexAddr (q := adr a i) Tryz.underlying22 Ty.sz9 rfl rfl (by omega) (by omega) ((hX (hS26.focus 0 rfl)).2.1 (by omega)) (by simp)) rfl rfl rfl ?_
   refine WO.val (run_load Ty.ag9 rfl ((hX (hS26.focus 0 rfl)).cell (str_at ht))) rfl rfl rfl ?_
   have htl := ht32 t (List.mem_of_getElem? ht)
   have hxl := textB_le (t := t) (by omega)
   refine WO.call rfl rfl Ty.hd96 rfl (rtext_spec t (by omega) hS26) (fun v28 w27 pv28 => ?_)
   obtain ⟨rfl, hS27⟩ := pv28
   clear hS26
   refine WO.val (run_cat rfl rfl (by omega)) rfl rfl rfl ?_
   refine WO.asg rfl rfl ?_
   refine WO.nil (NX.blk (NX.go (WP.region rfl ?_)))
   refine WO.mv rfl rfl ?_
   refine WO.val (run_add rfl rfl (IntWalk.i64_in _ (by omega))) rfl rfl rfl ?_
   refine WO.asg rfl rfl ?_
   refine WO.nil ?_
   exact NX.again (i + 1, s ++ textB t) ⟨⟨by omega, by rw [hs, flat_next ht, List.append_assoc], by rw [List.length_append]; omega⟩, hS27⟩ (by show m.bl.length - (i + 1) < m.bl.length - i; omega) (Sub.cons rfl (Sub.consE rfl rfl (Sub.consE rfl (by congr 1) (Sub.nil _))))
  ·
   refine WP.exit (NX.thenExit (NX.thenExit ?_))
   refine NX.blkExit ?_
   refine NX.go (WP.seq (WP.region rfl ?_))
   refine WO.mv rfl rfl ?_
   refine WO.val (run_build (v := Value.agg #[Value.int .i64 6, str s]) rfl (fun w => by kernel_rfl)) rfl rfl rfl ?_
   refine WO.call rfl rfl Ty.hd97 rfl (rput_spec 6 s (by decide) (by decide) (by omega) hS26) (fun v30 w29 pv30 => ?_)
   obtain ⟨rfl, hS29⟩ := pv30
   clear hS26
   refine WO.val (run_extract rfl rfl) rfl rfl rfl ?_
   refine WO.val (run_extract rfl rfl) rfl rfl rfl ?_
   refine WO.asg rfl rfl ?_
   refine WO.asg rfl rfl ?_
   refine WO.nil (NX.go (WP.ret ?_))
   refine NX.done (l := [.tmp 2, .tmp 3]) rfl rfl ?_
   have hd : s = dataM m := by rw [hs, dataM_nums, List.take_of_length_le (by omega)]
   exact ⟨by rw [encM, if_pos (Decidable.of_not_not g10), ← hd]; rfl, (hS29.permT [1, 0] (L' := cel g2 [Value.int .i64 m.e, Value.int .i64 m.b, Value.int .i64 m.p, Value.int .i64 m.k, Value.int .i64 m.c, Value.slice a m.bl.length cap] 24 :: X :: L) rfl).drop⟩
end Go.Proofs.YtcehlnpbdffdhaaGreatDoor.SL

/- Manifests: read of bytes: the reference. -/
namespace Go.Proofs.YtcehlnpbdffdhaaGreatDoor.SL
open Go.RowKit Go.Proofs.YtcehlnpbdffdhaaGreatDoor
open Go.Proofs.YtcehlnpbdffdhaaGreatDoorW.PrintLast (rtab opsOf)
set_option linter.unusedVariables false
set_option linter.unusedSimpArgs false

theorem all_snoc {α : Type} {P : α → Prop} {l : List α} {x : α} (h : ∀ t ∈ l, P t) (hx : P x) : ∀ t ∈ l ++ [x], P t := fun t ht => by
  rcases List.mem_append.1 ht with ht | ht
  · exact h t ht
  · cases List.mem_singleton.1 ht; exact hx
theorem inNum_len (x : List UInt8 × Int) : (inNum x).2.1.length ≤ x.1.length := by unfold inNum; split <;> simp
theorem inSig_len (x : List UInt8 × Int) : (inSig x).2.1.length ≤ x.1.length := by unfold inSig; split <;> simp
theorem inText_len (x : List UInt8 × Int) (m : Int) : (inText x m).2.1.length ≤ x.1.length := by unfold inText; split <;> simp
theorem must_len (x : List UInt8 × Int) (c : Bool) (e : Int) : (must x c e).1 = x.1 := by unfold must; split <;> rfl
theorem inText_got (x : List UInt8 × Int) (m : Int) : (inText x m).1.length ≤ x.1.length := by
  unfold inText; split
  · unfold getText
    split
    · simp
    · split
      · simp
      · split
        · simp
        · simp only [List.length_take, List.length_drop]; omega
  · simp
theorem inSig_rng (x : List UInt8 × Int) : -9223372036854775808 ≤ (inSig x).1 ∧ (inSig x).1 ≤ 9223372036854775807 := by
  unfold inSig; split
  · exact zag_rng (getNum_lt _)
  · show -9223372036854775808 ≤ (0 : Int) ∧ (0 : Int) ≤ 9223372036854775807; decide
theorem i64w_rng (n : Nat) : -9223372036854775808 ≤ i64w n ∧ i64w n ≤ 9223372036854775807 := by unfold i64w; rw [IntKind.wrap_i64]; omega
theorem n7_zero {d : List UInt8} (h : (n7 d).2 = 0) : (n6 d).1 ≤ 16 := by
  unfold n7 must at h
  split at h
  · cases h
  · rename_i hq
    cases e : decide ((n1 d).1 ≤ 99999999 ∧ (n2 d).1 ≤ 99999999 ∧ (n3 d).1 ≤ 99999999 ∧ (n5 d).1 ≤ 99999999 ∧ (n6 d).1 ≤ 16) with
    | true => exact (of_decide_eq_true e).2.2.2.2
    | false => exact absurd ⟨h, e⟩ hq
theorem zeroM_rng : RngM zeroM := ⟨by decide, by decide, by decide, by decide, by decide, by decide, by intro t h; cases h⟩
theorem getF_le (s : List UInt8) : (getF s).1.2.length ≤ s.length := by
  by_cases h : (getF s).2.2 = 0
  · obtain ⟨h1, h2, h3, h4, _⟩ := getF_canon h
    have := congrArg List.length h4
    rw [List.length_append, putF_length h1 h2 h3, textB_length] at this
    omega
  · have e0 : (getF s).1.2 = [] := by
      unfold getF at h ⊢
      split
      · rfl
      · rename_i c r
        split
        · rfl
        · split
          · rfl
          · split
            · rfl
            · split
              · rfl
              · rename_i h1 h2 h3 h4; exact absurd (by simp only [if_neg h1, if_neg h2, if_neg h3, if_neg h4]) h
    rw [e0]; exact Nat.zero_le _
theorem rdecM_spec_t16 : rtab .any (opsOf Tryz.f75 16) = (true, [([], []), ([0], [0]), ([], []), ([2], [2]), ([3], [3]), ([1, 4, 3], [1, 4]), ([0, 1, 2, 3, 4, 5], []), ([6, 5, 5, 0, 1, 2, 3, 4, 5], [5, 6])]) := by kernel_rfl
theorem rdecM_spec {B w : World} {L : List HP} (s : List UInt8) (hs : s.length ≤ 140737488355328) (hS : St B L w) : Does Tryz.prog 75 [str s] w (fun v w1 => ∃ (a : Option Addr) (cap : Nat), v = .tuple #[manV (decM s).1 a cap, .int .i64 (decM s).2] ∧ RngM (decM s).1 ∧ St B (own a (decM s).1.bl.length cap 9 1 ((decM s).1.bl.map str) :: L) w1) := by
 have hdl := getF_le s
 obtain ⟨d, hd⟩ : ∃ d, d = (getF s).1.2 := ⟨_, rfl⟩
 rw [← hd] at hdl
 refine enter (n := 112) Tryz.func75 rfl rfl [str s] rfl ?_
 refine WP.seq (WP.region rfl ?_)
 refine WO.alloc (l := [Value.int .i64 0, Value.int .i64 0, Value.int .i64 0, Value.int .i64 0, Value.int .i64 0, Value.slice none 0 0]) hS Ty.zr24 rfl rfl (fun g2 w1 lg2 hS1 => ?_)
 clear hS
 refine WO.asg rfl rfl ?_
 refine WO.nil (NX.go (WP.seq (WP.region rfl ?_)))
 refine WO.mv rfl rfl ?_
 refine WO.call rfl rfl Ty.hd98 rfl (rgetFrame_spec s hs hS1) (fun v4 w3 pv4 => ?_)
 obtain ⟨hv, hS3⟩ := pv4
 clear hS1
 replace hv : v4 = Value.tuple #[Value.agg #[Value.int .i64 ((getF s).1.1), str d], Value.int .i64 ((getF s).2.1), Value.int .i64 ((getF s).2.2)] := (by rw [hd]; exact hv)
 subst hv
 replace hS3 : St B (cel g2 [Value.int .i64 0, Value.int .i64 0, Value.int .i64 0, Value.int .i64 0, Value.int .i64 0, Value.slice none 0 0] 24 :: L) w3 := hS3
 refine WO.mv rfl rfl ?_
 refine WO.val (run_extract rfl rfl) rfl rfl rfl ?_
 refine WO.val (run_extract rfl rfl) rfl rfl rfl ?_
 refine WO.val (run_extract rfl rfl) rfl rfl rfl ?_
 refine WO.alloc (l := [Value.int .i64 0, str []]) hS3 Ty.zr144 rfl rfl (fun g6 w5 lg6 hS5 => ?_)
 clear hS3
 refine WO.store (l' := [Value.int .i64 ((getF s).1.1), str d]) 0 hS5 rfl Ty.sz144 rfl rfl rfl rfl rfl (Nat.le_of_ble_eq_true rfl) rfl (fun w7 (hS7 : St B (cel g6 [Value.int .i64 ((getF s).1.1), str d] 144 :: cel g2 [Value.int .i64 0, Value.int .i64 0, Value.int .i64 0, Value.int .i64 0, Value.int .i64 0, Value.slice none 0 0] 24 :: L) w7) => ?_)
 clear hS5
 refine WO.asg rfl rfl ?_
 refine WO.asg rfl rfl ?_
 refine WO.nil (NX.go (WP.seq (WP.seq (WP.region rfl ?_))))
 refine WO.mv rfl rfl ?_
 refine WO.val (run_neq rfl rfl) rfl rfl rfl ?_
 refine WO.nil (NX.go ?_)
 refine WP.condP rfl (fun g24 => ?_) (fun g24 => ?_)
 ·
  refine WP.seq (WP.region rfl ?_)
  refine WO.val (run_build (v := Value.agg #[Value.int .i64 0, Value.int .i64 0, Value.int .i64 0, Value.int .i64 0, Value.int .i64 0, Value.slice none 0 0]) rfl (fun w => by kernel_rfl)) rfl rfl rfl ?_
  refine WO.store (l' := [Value.int .i64 0, Value.int .i64 0, Value.int .i64 0, Value.int .i64 0, Value.int .i64 0, Value.slice none 0 0]) 1 hS7 rfl Ty.sz24 rfl rfl rfl rfl rfl (Nat.le_of_ble_eq_true rfl) rfl (fun w8 (hS8 : St B (cel g6 [Value.int .i64 ((getF s).1.1), str d] 144 :: cel g2 [Value.int .i64 0, Value.int .i64 0, Value.int .i64 0, Value.int .i64 0, Value.int .i64 0, Value.slice none 0 0] 24 :: L) w8) => ?_)
  clear hS7
  refine WO.asg rfl rfl ?_
  refine WO.nil (NX.go (WP.ret (NX.thenRet ?_)))
  refine NX.doneC (l := [.cell 2 24, .tmp 3]) rfl (.cons (.cell rfl (loadVar_agg (vs := [Value.int .i64 0, Value.int .i64 0, Value.int .i64 0, Value.int .i64 0, Value.int .i64 0, Value.slice none 0 0]) Ty.ag24 Ty.sz24 rfl (cell_all (hS8.cel_at 1 rfl) 0 rfl))) (.cons (.tmp rfl) .nil)) ?_
  have hdc : decM s = (zeroM, 3) := by rw [← refDec_eq, refDec, if_neg (fun q => g24 q.1)]
  rw [hdc]
  exact ⟨none, 0, rfl, zeroM_rng, (hS8.drop.drop).own_nil 9 1⟩
 ·
  refine WP.skip (NX.go (WP.seq (WP.region rfl ?_)))
  refine WO.val (run_fieldAddr (q := ⟨g6, 1, none⟩) (show fieldB Tryz.prog 144 1 = some 1 from by kernel_rfl) rfl rfl) rfl rfl rfl ?_
  refine WO.val (run_load Ty.ag9 rfl ((hS7.cel_at 0 rfl 1).trans rfl)) rfl rfl rfl ?_
  refine WO.val (run_build (v := Value.agg #[str d, Value.int .i64 0]) rfl (fun w => by kernel_rfl)) rfl rfl rfl ?_
  refine WO.box (l := [str d, Value.int .i64 0]) hS7 rfl rfl rfl (fun g10 w9 lg10 hS9 => ?_)
  clear hS7
  refine WO.asg rfl rfl ?_
  refine WO.nil (NX.go (WP.seq (WP.region rfl ?_)))
  refine WO.mv rfl rfl ?_
  refine WO.call rfl rfl Ty.hd99 rfl (inNum_spec g10 (d, 0) (by simp only; omega) hS9) (fun v12 w11 pv12 => ?_)
  obtain ⟨rfl, hS11⟩ := pv12
  clear hS9
  have hl1 : (n1 d).2.1.length ≤ d.length := Nat.le_trans (inNum_len _) (by first | exact hl0 | exact Nat.le_refl _)
  refine WO.asg rfl rfl ?_
  refine WO.nil (NX.go (WP.seq (WP.region rfl ?_)))
  refine WO.mv rfl rfl ?_
  refine WO.call rfl rfl Ty.hd99 rfl (inNum_spec g10 (n1 d).2 (by omega) hS11) (fun v14 w13 pv14 => ?_)
  obtain ⟨rfl, hS13⟩ := pv14
  clear hS11
  have hl2 : (n2 d).2.1.length ≤ d.length := Nat.le_trans (inNum_len _) (by first | exact hl1 | exact Nat.le_refl _)
  refine WO.asg rfl rfl ?_
  refine WO.nil (NX.go (WP.seq (WP.region rfl ?_)))
  refine WO.mv rfl rfl ?_
  refine WO.call rfl rfl Ty.hd99 rfl (inNum_spec g10 (n2 d).2 (by omega) hS13) (fun v16 w15 pv16 => ?_)
  obtain ⟨rfl, hS15⟩ := pv16
  clear hS13
  have hl3 : (n3 d).2.1.length ≤ d.length := Nat.le_trans (inNum_len _) (by first | exact hl2 | exact Nat.le_refl _)
  refine WO.asg rfl rfl ?_
  refine WO.nil (NX.go (WP.seq (WP.region rfl ?_)))
  refine WO.mv rfl rfl ?_
  refine WO.call rfl rfl Ty.hd100 rfl (inSig_spec g10 (n3 d).2 (by omega) hS15) (fun v18 w17 pv18 => ?_)
  obtain ⟨rfl, hS17⟩ := pv18
  clear hS15
  have hl4 : (n4 d).2.1.length ≤ d.length := Nat.le_trans (inSig_len _) (by first | exact hl3 | exact Nat.le_refl _)
  refine WO.asg rfl rfl ?_
  refine WO.nil (NX.go (WP.seq (WP.region rfl ?_)))
  refine WO.mv rfl rfl ?_
  refine WO.call rfl rfl Ty.hd99 rfl (inNum_spec g10 (n4 d).2 (by omega) hS17) (fun v20 w19 pv20 => ?_)
  obtain ⟨rfl, hS19⟩ := pv20
  clear hS17
  have hl5 : (n5 d).2.1.length ≤ d.length := Nat.le_trans (inNum_len _) (by first | exact hl4 | exact Nat.le_refl _)
  refine WO.asg rfl rfl ?_
  refine WO.nil (NX.go (WP.seq (WP.region rfl ?_)))
  refine WO.mv rfl rfl ?_
  refine WO.call rfl rfl Ty.hd99 rfl (inNum_spec g10 (n5 d).2 (by omega) hS19) (fun v22 w21 pv22 => ?_)
  obtain ⟨rfl, hS21⟩ := pv22
  clear hS19
  have hl6 : (n6 d).2.1.length ≤ d.length := Nat.le_trans (inNum_len _) (by first | exact hl5 | exact Nat.le_refl _)
  refine WO.asg rfl rfl ?_
  refine WO.nil (NX.go (WP.seq ?_))
  refine WP.meet (α := Unit) (fun x => match x with | _ => [(0, str s), (2, Value.pointer (some ⟨g2, 0, none⟩)), (3, Value.int .i64 0), (4, Value.pointer (some ⟨g6, 0, none⟩)), (7, Value.pointer (some ⟨g10, 0, none⟩)), (8, Value.int .u64 ((n1 d).1 : Int)), (9, Value.int .u64 ((n2 d).1 : Int)), (10, Value.int .u64 ((n3 d).1 : Int)), (11, Value.int .i64 ((n4 d).1)), (12, Value.int .u64 ((n5 d).1 : Int)), (13, Value.int .u64 ((n6 d).1 : Int))]) (fun x w => match x with | _ => St B (cel g10 [str ((n7 d).1), Value.int .i64 ((n7 d).2)] 149 :: cel g6 [Value.int .i64 ((getF s).1.1), str d] 144 :: cel g2 [Value.int .i64 0, Value.int .i64 0, Value.int .i64 0, Value.int .i64 0, Value.int .i64 0, Value.slice none 0 0] 24 :: L) w) ?_ (fun K23 => ?_)
  ·
   rintro _ w24 hS24
   clear hS21
   refine NX.go (WP.seq (WP.region rfl ?_))
   refine WO.mv rfl rfl ?_
   refine WO.val (run_convI Tryz.underlying3 (by kernel_rfl) rfl rfl) rfl rfl rfl ?_
   refine WO.mv rfl rfl ?_
   refine WO.val (run_convI Tryz.underlying3 (by kernel_rfl) rfl rfl) rfl rfl rfl ?_
   refine WO.mv rfl rfl ?_
   refine WO.val (run_convI Tryz.underlying3 (by kernel_rfl) rfl rfl) rfl rfl rfl ?_
   refine WO.mv rfl rfl ?_
   refine WO.mv rfl rfl ?_
   refine WO.val (run_convI Tryz.underlying3 (by kernel_rfl) rfl rfl) rfl rfl rfl ?_
   refine WO.val (run_build (v := Value.agg #[Value.int .i64 (i64w (n1 d).1), Value.int .i64 (i64w (n2 d).1), Value.int .i64 (i64w (n3 d).1), Value.int .i64 ((n4 d).1), Value.int .i64 (i64w (n5 d).1), Value.slice none 0 0]) rfl (fun w => by kernel_rfl)) rfl rfl rfl ?_
   refine WO.alloc (l := [Value.int .i64 0, Value.int .i64 0, Value.int .i64 0, Value.int .i64 0, Value.int .i64 0, Value.slice none 0 0]) hS24 Ty.zr24 rfl rfl (fun g26 w25 lg26 hS25 => ?_)
   clear hS24
   refine WO.store (l' := [Value.int .i64 (i64w (n1 d).1), Value.int .i64 (i64w (n2 d).1), Value.int .i64 (i64w (n3 d).1), Value.int .i64 ((n4 d).1), Value.int .i64 (i64w (n5 d).1), Value.slice none 0 0]) 0 hS25 rfl Ty.sz24 rfl rfl rfl rfl rfl (Nat.le_of_ble_eq_true rfl) rfl (fun w27 (hS27 : St B (cel g26 [Value.int .i64 (i64w (n1 d).1), Value.int .i64 (i64w (n2 d).1), Value.int .i64 (i64w (n3 d).1), Value.int .i64 ((n4 d).1), Value.int .i64 (i64w (n5 d).1), Value.slice none 0 0] 24 :: cel g10 [str ((n7 d).1), Value.int .i64 ((n7 d).2)] 149 :: cel g6 [Value.int .i64 ((getF s).1.1), str d] 144 :: cel g2 [Value.int .i64 0, Value.int .i64 0, Value.int .i64 0, Value.int .i64 0, Value.int .i64 0, Value.slice none 0 0] 24 :: L) w27) => ?_)
   clear hS25
   refine WO.nil (NX.go (WP.seq (WP.seq (WP.region rfl ?_))))
   refine WO.asg rfl rfl ?_
   refine WO.nil (NX.go ?_)
   refine WP.meet (α := List (List UInt8) × (List UInt8 × Int) × Option Addr × Nat) (fun x => match x with | ⟨acc, x, a, cap⟩ => [(0, str s), (2, Value.pointer (some ⟨g2, 0, none⟩)), (3, Value.int .i64 0), (7, Value.pointer (some ⟨g10, 0, none⟩)), (14, Value.pointer (some ⟨g26, 0, none⟩))]) (fun x w => match x with | ⟨acc, x, a, cap⟩ => (n8 d = (acc, x) ∧ acc.length ≤ 16 ∧ ∀ t ∈ acc, t.length ≤ 140737488355328) ∧ St B (cel g10 [str x.1, Value.int .i64 x.2] 149 :: cel g26 [Value.int .i64 (i64w (n1 d).1), Value.int .i64 (i64w (n2 d).1), Value.int .i64 (i64w (n3 d).1), Value.int .i64 ((n4 d).1), Value.int .i64 (i64w (n5 d).1), Value.slice a acc.length cap] 24 :: own a acc.length cap 9 1 (acc.map str) :: cel g2 [Value.int .i64 0, Value.int .i64 0, Value.int .i64 0, Value.int .i64 0, Value.int .i64 0, Value.slice none 0 0] 24 :: L) w) ?_ (fun K28 => ?_)
   ·
    rintro ⟨acc, x, a, cap⟩ w29 ⟨⟨hn8, ha16, hat⟩, hS29⟩
    clear hS27
    refine NX.go (WP.seq ?_)
    have hrefm : refM d = ⟨i64w (n1 d).1, i64w (n2 d).1, i64w (n3 d).1, (n4 d).1, i64w (n5 d).1, acc⟩ := by unfold refM; rw [hn8]
    have hrm : RngM ⟨i64w (n1 d).1, i64w (n2 d).1, i64w (n3 d).1, (n4 d).1, i64w (n5 d).1, acc⟩ := ⟨i64w_rng _, i64w_rng _, i64w_rng _, inSig_rng _, i64w_rng _, by show acc.length ≤ _; omega, hat⟩
    refine WP.region rfl ?_
    refine WO.val (run_loadAgg (vs := [Value.int .i64 (i64w (n1 d).1), Value.int .i64 (i64w (n2 d).1), Value.int .i64 (i64w (n3 d).1), Value.int .i64 ((n4 d).1), Value.int .i64 (i64w (n5 d).1), Value.slice a acc.length cap]) Ty.ag24 Ty.sz24 rfl rfl (cell_all (hS29.cel_at 1 rfl) 0 rfl)) rfl rfl rfl ?_
    have hS30 := hS29.permT [2, 0, 0, 0] (L' := own a acc.length cap 9 1 (acc.map str) :: cel g10 [str x.1, Value.int .i64 x.2] 149 :: cel g26 [Value.int .i64 (i64w (n1 d).1), Value.int .i64 (i64w (n2 d).1), Value.int .i64 (i64w (n3 d).1), Value.int .i64 ((n4 d).1), Value.int .i64 (i64w (n5 d).1), Value.slice a acc.length cap] 24 :: cel g2 [Value.int .i64 0, Value.int .i64 0, Value.int .i64 0, Value.int .i64 0, Value.int .i64 0, Value.slice none 0 0] 24 :: L) rfl
    clear hS29
    refine WO.call rfl rfl Ty.hd69 rfl (rencM_spec (m := ⟨i64w (n1 d).1, i64w (n2 d).1, i64w (n3 d).1, (n4 d).1, i64w (n5 d).1, acc⟩) (fun h => h.own_rd.1) hrm hS30) (fun v32 w31 pv32 => ?_)
    obtain ⟨rfl, hS31⟩ := pv32
    clear hS30
    refine WO.mv rfl rfl ?_
    refine WO.val (run_extract rfl rfl) rfl rfl rfl ?_
    refine WO.val (run_extract rfl rfl) rfl rfl rfl ?_
    refine WO.asg rfl rfl ?_
    refine WO.asg rfl rfl ?_
    refine WO.nil (NX.go (WP.seq (WP.seq (WP.region rfl ?_))))
    refine WO.mv rfl rfl ?_
    refine WO.val (run_nilCheck rfl) rfl rfl rfl ?_
    refine WO.val (run_fieldAddr (q := ⟨g10, 1, none⟩) (show fieldB Tryz.prog 149 1 = some 1 from by kernel_rfl) rfl rfl) rfl rfl rfl ?_
    refine WO.val (run_load Ty.ag27 rfl ((hS31.cel_at 1 rfl 1).trans rfl)) rfl rfl rfl ?_
    refine WO.val (run_neq rfl rfl) rfl rfl rfl ?_
    refine WO.mv rfl rfl ?_
    by_cases g101 : ¬ x.2 = 0
    ·
     refine WO.off rfl rfl (decide_eq_true g101) rfl ?_
     refine WO.off rfl rfl (decide_eq_true g101) rfl ?_
     refine WO.val (run_pickT rfl (decide_eq_true g101) rfl) rfl rfl rfl ?_
     refine WO.mv rfl rfl ?_
     refine WO.off rfl rfl rfl rfl ?_
     refine WO.off rfl rfl rfl rfl ?_
     refine WO.off rfl rfl rfl rfl ?_
     refine WO.val (run_pickT rfl rfl rfl) rfl rfl rfl ?_
     refine WO.nil (NX.go ?_)
     refine WP.condT rfl rfl ?_
     refine WP.seq (WP.region rfl ?_)
     refine WO.val (run_build (v := Value.agg #[Value.int .i64 0, Value.int .i64 0, Value.int .i64 0, Value.int .i64 0, Value.int .i64 0, Value.slice none 0 0]) rfl (fun w => by kernel_rfl)) rfl rfl rfl ?_
     refine WO.store (l' := [Value.int .i64 0, Value.int .i64 0, Value.int .i64 0, Value.int .i64 0, Value.int .i64 0, Value.slice none 0 0]) 3 hS31 rfl Ty.sz24 rfl rfl rfl rfl rfl (Nat.le_of_ble_eq_true rfl) rfl (fun w33 (hS33 : St B (own a acc.length cap 9 1 (acc.map str) :: cel g10 [str x.1, Value.int .i64 x.2] 149 :: cel g26 [Value.int .i64 (i64w (n1 d).1), Value.int .i64 (i64w (n2 d).1), Value.int .i64 (i64w (n3 d).1), Value.int .i64 ((n4 d).1), Value.int .i64 (i64w (n5 d).1), Value.slice a acc.length cap] 24 :: cel g2 [Value.int .i64 0, Value.int .i64 0, Value.int .i64 0, Value.int .i64 0, Value.int .i64 0, Value.slice none 0 0] 24 :: L) w33) => ?_)
     clear hS31
     refine WO.asg rfl rfl ?_
     refine WO.nil (NX.go (WP.ret (NX.thenRet ?_)))
     refine NX.doneC (l := [.cell 2 24, .tmp 3]) rfl (.cons (.cell rfl (loadVar_agg (vs := [Value.int .i64 0, Value.int .i64 0, Value.int .i64 0, Value.int .i64 0, Value.int .i64 0, Value.slice none 0 0]) Ty.ag24 Ty.sz24 rfl (cell_all (hS33.cel_at 3 rfl) 0 rfl))) (.cons (.tmp rfl) .nil)) ?_
     have hdc : decM s = (zeroM, 3) := by rw [← refDec_eq, refDec, if_neg (fun q => by rw [← hd] at q; obtain ⟨_, q2, q3⟩ := q; rw [hn8] at q2; rw [hrefm] at q3; first | exact g101 q2 | exact g105 (congrArg Prod.snd q3) | exact g109 (congrArg Prod.fst q3))]
     rw [hdc]
     exact ⟨none, 0, rfl, zeroM_rng, (hS33.drop.drop.drop.drop).own_nil 9 1⟩
    ·
     refine WO.on rfl rfl (decide_eq_false g101) ?_
     refine WO.mv rfl rfl ?_
     refine WO.on rfl rfl (decide_eq_false g101) ?_
     refine WO.val (run_neq rfl rfl) rfl rfl rfl ?_
     refine WO.val (run_pickF rfl (decide_eq_false g101) rfl) rfl rfl rfl ?_
     refine WO.mv rfl rfl ?_
     by_cases g105 : ¬ ((encM ⟨i64w (n1 d).1, i64w (n2 d).1, i64w (n3 d).1, (n4 d).1, i64w (n5 d).1, acc⟩).2) = 0
     ·
      refine WO.off rfl rfl (decide_eq_true g105) rfl ?_
      refine WO.off rfl rfl (decide_eq_true g105) rfl ?_
      refine WO.off rfl rfl (decide_eq_true g105) rfl ?_
      refine WO.val (run_pickT rfl (decide_eq_true g105) rfl) rfl rfl rfl ?_
      refine WO.nil (NX.go ?_)
      refine WP.condT rfl rfl ?_
      refine WP.seq (WP.region rfl ?_)
      refine WO.val (run_build (v := Value.agg #[Value.int .i64 0, Value.int .i64 0, Value.int .i64 0, Value.int .i64 0, Value.int .i64 0, Value.slice none 0 0]) rfl (fun w => by kernel_rfl)) rfl rfl rfl ?_
      refine WO.store (l' := [Value.int .i64 0, Value.int .i64 0, Value.int .i64 0, Value.int .i64 0, Value.int .i64 0, Value.slice none 0 0]) 3 hS31 rfl Ty.sz24 rfl rfl rfl rfl rfl (Nat.le_of_ble_eq_true rfl) rfl (fun w34 (hS34 : St B (own a acc.length cap 9 1 (acc.map str) :: cel g10 [str x.1, Value.int .i64 x.2] 149 :: cel g26 [Value.int .i64 (i64w (n1 d).1), Value.int .i64 (i64w (n2 d).1), Value.int .i64 (i64w (n3 d).1), Value.int .i64 ((n4 d).1), Value.int .i64 (i64w (n5 d).1), Value.slice a acc.length cap] 24 :: cel g2 [Value.int .i64 0, Value.int .i64 0, Value.int .i64 0, Value.int .i64 0, Value.int .i64 0, Value.slice none 0 0] 24 :: L) w34) => ?_)
      clear hS31
      refine WO.asg rfl rfl ?_
      refine WO.nil (NX.go (WP.ret (NX.thenRet ?_)))
      refine NX.doneC (l := [.cell 2 24, .tmp 3]) rfl (.cons (.cell rfl (loadVar_agg (vs := [Value.int .i64 0, Value.int .i64 0, Value.int .i64 0, Value.int .i64 0, Value.int .i64 0, Value.slice none 0 0]) Ty.ag24 Ty.sz24 rfl (cell_all (hS34.cel_at 3 rfl) 0 rfl))) (.cons (.tmp rfl) .nil)) ?_
      have hdc : decM s = (zeroM, 3) := by rw [← refDec_eq, refDec, if_neg (fun q => by rw [← hd] at q; obtain ⟨_, q2, q3⟩ := q; rw [hn8] at q2; rw [hrefm] at q3; first | exact g101 q2 | exact g105 (congrArg Prod.snd q3) | exact g109 (congrArg Prod.fst q3))]
      rw [hdc]
      exact ⟨none, 0, rfl, zeroM_rng, (hS34.drop.drop.drop.drop).own_nil 9 1⟩
     ·
      refine WO.on rfl rfl (decide_eq_false g105) ?_
      refine WO.mv rfl rfl ?_
      refine WO.on rfl rfl (decide_eq_false g105) ?_
      refine WO.mv rfl rfl ?_
      refine WO.on rfl rfl (decide_eq_false g105) ?_
      refine WO.val (run_neqS rfl rfl) rfl rfl rfl ?_
      refine WO.val (run_pickF rfl (decide_eq_false g105) rfl) rfl rfl rfl ?_
      refine WO.nil (NX.go ?_)
      refine WP.condP rfl (fun g109 => ?_) (fun g109 => ?_)
      ·
       refine WP.seq (WP.region rfl ?_)
       refine WO.val (run_build (v := Value.agg #[Value.int .i64 0, Value.int .i64 0, Value.int .i64 0, Value.int .i64 0, Value.int .i64 0, Value.slice none 0 0]) rfl (fun w => by kernel_rfl)) rfl rfl rfl ?_
       refine WO.store (l' := [Value.int .i64 0, Value.int .i64 0, Value.int .i64 0, Value.int .i64 0, Value.int .i64 0, Value.slice none 0 0]) 3 hS31 rfl Ty.sz24 rfl rfl rfl rfl rfl (Nat.le_of_ble_eq_true rfl) rfl (fun w35 (hS35 : St B (own a acc.length cap 9 1 (acc.map str) :: cel g10 [str x.1, Value.int .i64 x.2] 149 :: cel g26 [Value.int .i64 (i64w (n1 d).1), Value.int .i64 (i64w (n2 d).1), Value.int .i64 (i64w (n3 d).1), Value.int .i64 ((n4 d).1), Value.int .i64 (i64w (n5 d).1), Value.slice a acc.length cap] 24 :: cel g2 [Value.int .i64 0, Value.int .i64 0, Value.int .i64 0, Value.int .i64 0, Value.int .i64 0, Value.slice none 0 0] 24 :: L) w35) => ?_)
       clear hS31
       refine WO.asg rfl rfl ?_
       refine WO.nil (NX.go (WP.ret (NX.thenRet ?_)))
       refine NX.doneC (l := [.cell 2 24, .tmp 3]) rfl (.cons (.cell rfl (loadVar_agg (vs := [Value.int .i64 0, Value.int .i64 0, Value.int .i64 0, Value.int .i64 0, Value.int .i64 0, Value.slice none 0 0]) Ty.ag24 Ty.sz24 rfl (cell_all (hS35.cel_at 3 rfl) 0 rfl))) (.cons (.tmp rfl) .nil)) ?_
       have hdc : decM s = (zeroM, 3) := by rw [← refDec_eq, refDec, if_neg (fun q => by rw [← hd] at q; obtain ⟨_, q2, q3⟩ := q; rw [hn8] at q2; rw [hrefm] at q3; first | exact g101 q2 | exact g105 (congrArg Prod.snd q3) | exact g109 (congrArg Prod.fst q3))]
       rw [hdc]
       exact ⟨none, 0, rfl, zeroM_rng, (hS35.drop.drop.drop.drop).own_nil 9 1⟩
      ·
       refine WP.skip (NX.go (WP.seq (WP.region rfl ?_)))
       refine WO.val (run_loadAgg (vs := [Value.int .i64 (i64w (n1 d).1), Value.int .i64 (i64w (n2 d).1), Value.int .i64 (i64w (n3 d).1), Value.int .i64 ((n4 d).1), Value.int .i64 (i64w (n5 d).1), Value.slice a acc.length cap]) Ty.ag24 Ty.sz24 rfl rfl (cell_all (hS31.cel_at 2 rfl) 0 rfl)) rfl rfl rfl ?_
       refine WO.store (l' := [Value.int .i64 (i64w (n1 d).1), Value.int .i64 (i64w (n2 d).1), Value.int .i64 (i64w (n3 d).1), Value.int .i64 ((n4 d).1), Value.int .i64 (i64w (n5 d).1), Value.slice a acc.length cap]) 3 hS31 rfl Ty.sz24 rfl rfl rfl rfl rfl (Nat.le_of_ble_eq_true rfl) rfl (fun w36 (hS36 : St B (own a acc.length cap 9 1 (acc.map str) :: cel g10 [str x.1, Value.int .i64 x.2] 149 :: cel g26 [Value.int .i64 (i64w (n1 d).1), Value.int .i64 (i64w (n2 d).1), Value.int .i64 (i64w (n3 d).1), Value.int .i64 ((n4 d).1), Value.int .i64 (i64w (n5 d).1), Value.slice a acc.length cap] 24 :: cel g2 [Value.int .i64 (i64w (n1 d).1), Value.int .i64 (i64w (n2 d).1), Value.int .i64 (i64w (n3 d).1), Value.int .i64 ((n4 d).1), Value.int .i64 (i64w (n5 d).1), Value.slice a acc.length cap] 24 :: L) w36) => ?_)
       clear hS31
       refine WO.asg rfl rfl ?_
       refine WO.nil (NX.go (WP.ret ?_))
       refine NX.doneC (l := [.cell 2 24, .tmp 3]) rfl (.cons (.cell rfl (loadVar_agg (vs := [Value.int .i64 (i64w (n1 d).1), Value.int .i64 (i64w (n2 d).1), Value.int .i64 (i64w (n3 d).1), Value.int .i64 ((n4 d).1), Value.int .i64 (i64w (n5 d).1), Value.slice a acc.length cap]) Ty.ag24 Ty.sz24 rfl (cell_all (hS36.cel_at 3 rfl) 0 rfl))) (.cons (.tmp rfl) .nil)) ?_
       have hdc : decM s = (refM d, 0) := by rw [← refDec_eq, refDec, ← hd, if_pos ⟨Decidable.of_not_not g24, by rw [hn8]; exact Decidable.of_not_not g101, by rw [hrefm]; exact Prod.ext (Decidable.of_not_not g109) (Decidable.of_not_not g105)⟩]
       rw [hdc, hrefm]
       exact ⟨a, cap, rfl, hrm, (hS36.permT [1, 1, 1, 0] (L' := cel g10 [str x.1, Value.int .i64 x.2] 149 :: cel g26 [Value.int .i64 (i64w (n1 d).1), Value.int .i64 (i64w (n2 d).1), Value.int .i64 (i64w (n3 d).1), Value.int .i64 ((n4 d).1), Value.int .i64 (i64w (n5 d).1), Value.slice a acc.length cap] 24 :: cel g2 [Value.int .i64 (i64w (n1 d).1), Value.int .i64 (i64w (n2 d).1), Value.int .i64 (i64w (n3 d).1), Value.int .i64 ((n4 d).1), Value.int .i64 (i64w (n5 d).1), Value.slice a acc.length cap] 24 :: own a acc.length cap 9 1 (acc.map str) :: L) rfl).drop.drop.drop⟩
   ·
    refine WP.block ?_
    have hS37 := hS27.own_nil 9 1
    clear hS27
    refine WP.loop (α := Nat × List (List UInt8) × (List UInt8 × Int) × Option Addr × Nat) (fun x => match x with | ⟨i, acc, x, a, cap⟩ => [(0, str s), (2, Value.pointer (some ⟨g2, 0, none⟩)), (3, Value.int .i64 0), (4, Value.pointer (some ⟨g6, 0, none⟩)), (7, Value.pointer (some ⟨g10, 0, none⟩)), (8, Value.int .u64 ((n1 d).1 : Int)), (9, Value.int .u64 ((n2 d).1 : Int)), (10, Value.int .u64 ((n3 d).1 : Int)), (11, Value.int .i64 ((n4 d).1)), (12, Value.int .u64 ((n5 d).1 : Int)), (13, Value.int .u64 ((n6 d).1 : Int)), (14, Value.pointer (some ⟨g26, 0, none⟩)), (15, Value.int .u64 (i : Int))]) (fun x w => match x with | ⟨i, acc, x, a, cap⟩ => (i ≤ (n6 d).1 ∧ inTexts ((n6 d).1 - i) x acc = n8 d ∧ acc.length = i ∧ (x.2 = 0 → (n6 d).1 ≤ 16) ∧ acc.length ≤ 16 ∧ x.1.length ≤ 140737488355328 ∧ ∀ t ∈ acc, t.length ≤ 140737488355328) ∧ St B (own a acc.length cap 9 1 (acc.map str) :: cel g26 [Value.int .i64 (i64w (n1 d).1), Value.int .i64 (i64w (n2 d).1), Value.int .i64 (i64w (n3 d).1), Value.int .i64 ((n4 d).1), Value.int .i64 (i64w (n5 d).1), Value.slice a acc.length cap] 24 :: cel g10 [str x.1, Value.int .i64 x.2] 149 :: cel g6 [Value.int .i64 ((getF s).1.1), str d] 144 :: cel g2 [Value.int .i64 0, Value.int .i64 0, Value.int .i64 0, Value.int .i64 0, Value.int .i64 0, Value.slice none 0 0] 24 :: L) w) (fun x => match x with | ⟨i, acc, x, a, cap⟩ => (n6 d).1 - i) (0, [], n7 d, none, 0) ⟨⟨Nat.zero_le _, rfl, rfl, n7_zero, by decide, by rw [show (n7 d).1 = (n6 d).2.1 from must_len _ _ _]; omega, fun t h => (by cases h)⟩, hS37⟩ (Sub.cons rfl (Sub.cons rfl (Sub.cons rfl (Sub.cons rfl (Sub.cons rfl (Sub.cons rfl (Sub.cons rfl (Sub.cons rfl (Sub.cons rfl (Sub.cons rfl (Sub.cons rfl (Sub.cons rfl (Sub.consE rfl (by first | rfl | first | rfl | (congr 1; omega) | (simp; done) | (simp; omega)) (Sub.nil _)))))))))))))) ?_
    rintro ⟨i, acc, x, a, cap⟩ w38 ⟨⟨hi, hn8, hal, h16, ha16, hxl, hat⟩, hS38⟩
    clear hS37
    refine WP.seq (WP.seq (WP.region rfl ?_))
    refine WO.mv rfl rfl ?_
    refine WO.mv rfl rfl ?_
    refine WO.val (run_lss rfl rfl) rfl rfl rfl ?_
    refine WO.mv rfl rfl ?_
    by_cases g75 : (i : Int) < ((n6 d).1 : Int)
    ·
     refine WO.on rfl rfl (decide_eq_true g75) ?_
     refine WO.mv rfl rfl ?_
     refine WO.on rfl rfl (decide_eq_true g75) ?_
     refine WO.val (run_nilCheck rfl) rfl rfl rfl ?_
     refine WO.on rfl rfl (decide_eq_true g75) ?_
     refine WO.val (run_fieldAddr (q := ⟨g10, 1, none⟩) (show fieldB Tryz.prog 149 1 = some 1 from by kernel_rfl) rfl rfl) rfl rfl rfl ?_
     refine WO.on rfl rfl (decide_eq_true g75) ?_
     refine WO.val (run_load Ty.ag27 rfl ((hS38.cel_at 2 rfl 1).trans rfl)) rfl rfl rfl ?_
     refine WO.on rfl rfl (decide_eq_true g75) ?_
     refine WO.val (run_eql rfl rfl) rfl rfl rfl ?_
     refine WO.val (run_pickT rfl (decide_eq_true g75) rfl) rfl rfl rfl ?_
     refine WO.nil (NX.go ?_)
     refine WP.condP rfl (fun g81 => ?_) (fun g81 => ?_)
     ·
      refine WP.skip (NX.go (WP.seq (WP.block ?_)))
      refine WD.start (fun w => (∀ j, World.cell? w ⟨g26, j, none⟩ = [Value.int .i64 (i64w (n1 d).1), Value.int .i64 (i64w (n2 d).1), Value.int .i64 (i64w (n3 d).1), Value.int .i64 ((n4 d).1), Value.int .i64 (i64w (n5 d).1), Value.slice a acc.length cap][j]?)) [7] (bt 8 0) Ty.mo rfl (by kernel_rfl) hS38 (fun _ h => h.cel_at 1 rfl) (fun w39 hS39 s40 => ?_)
      clear hS38
      refine WD.pure (i := 0) rdecM_spec_t16 (bt 8 1) rfl rfl rfl (by kernel_rfl) (PQ.blk (PQ.then (PQ.then (PQ.blk (PQ.then PQ.body))))) rfl (fun w => run_fieldAddr (q := ⟨g26, 5, none⟩) (show fieldB Tryz.prog 24 5 = some 5 from by kernel_rfl) rfl rfl) ?_
      refine WD.take (i := 1) rdecM_spec_t16 (bt 8 3) s40 rfl rfl rfl (by kernel_rfl) (PQ.blk (PQ.then (PQ.then (PQ.blk (PQ.then PQ.body))))) rfl (fun w hs => run_load Ty.ag22 rfl ((hs 5).trans rfl)) ?_
      refine WD.pure (i := 2) rdecM_spec_t16 (bt 8 7) rfl rfl rfl (by kernel_rfl) (PQ.blk (PQ.then (PQ.then (PQ.blk (PQ.then PQ.body))))) rfl (fun w => run_move rfl) ?_
      refine WD.one (i := 3) rdecM_spec_t16 (bt 8 15) rfl (by kernel_rfl) ?_
      have hS41 := hS39.permT [2, 0, 0, 0, 0] (L' := cel g10 [str x.1, Value.int .i64 x.2] 149 :: own a acc.length cap 9 1 (acc.map str) :: cel g26 [Value.int .i64 (i64w (n1 d).1), Value.int .i64 (i64w (n2 d).1), Value.int .i64 (i64w (n3 d).1), Value.int .i64 ((n4 d).1), Value.int .i64 (i64w (n5 d).1), Value.slice a acc.length cap] 24 :: cel g6 [Value.int .i64 ((getF s).1.1), str d] 144 :: cel g2 [Value.int .i64 0, Value.int .i64 0, Value.int .i64 0, Value.int .i64 0, Value.int .i64 0, Value.slice none 0 0] 24 :: L) rfl
      clear hS39
      refine WO.call rfl rfl Ty.hd102 rfl (inText_spec g10 x 32 (by decide) (by omega) hS41) (fun v43 w42 pv43 => ?_)
      obtain ⟨rfl, hS42⟩ := pv43
      clear hS41
      refine WO.nil ?_
      have s44 : (∀ j, World.cell? w42 ⟨g26, j, none⟩ = [Value.int .i64 (i64w (n1 d).1), Value.int .i64 (i64w (n2 d).1), Value.int .i64 (i64w (n3 d).1), Value.int .i64 ((n4 d).1), Value.int .i64 (i64w (n5 d).1), Value.slice a acc.length cap][j]?) := hS42.cel_at 2 rfl
      refine NX.held s44 ?_
      refine WD.one (i := 4) rdecM_spec_t16 (bt 8 31) rfl (by kernel_rfl) ?_
      refine WO.buildSlice (l := [str ((inText x 32).1)]) hS42 Tryz.underlying22 rfl (fun w => by kernel_rfl) rfl (fun g46 w45 lg46 hS45 => ?_)
      clear hS42
      have hS45 := hS45.own_of_cel (m := 1) (k := 1) rfl
      replace hS45 : St B (own (some ⟨g46, 0, none⟩) 1 1 9 1 ([(inText x 32).1].map str) :: cel g10 [str ((inText x 32).2.1), Value.int .i64 ((inText x 32).2.2)] 149 :: own a acc.length cap 9 1 (acc.map str) :: cel g26 [Value.int .i64 (i64w (n1 d).1), Value.int .i64 (i64w (n2 d).1), Value.int .i64 (i64w (n3 d).1), Value.int .i64 ((n4 d).1), Value.int .i64 (i64w (n5 d).1), Value.slice a acc.length cap] 24 :: cel g6 [Value.int .i64 ((getF s).1.1), str d] 144 :: cel g2 [Value.int .i64 0, Value.int .i64 0, Value.int .i64 0, Value.int .i64 0, Value.int .i64 0, Value.slice none 0 0] 24 :: L) w45 := hS45
      refine WO.nil ?_
      have s47 : (∀ j, World.cell? w45 ⟨g26, j, none⟩ = [Value.int .i64 (i64w (n1 d).1), Value.int .i64 (i64w (n2 d).1), Value.int .i64 (i64w (n3 d).1), Value.int .i64 ((n4 d).1), Value.int .i64 (i64w (n5 d).1), Value.slice a acc.length cap][j]?) := hS45.cel_at 3 rfl
      refine NX.held s47 ?_
      refine WD.one (i := 5) rdecM_spec_t16 (bt 8 63) rfl (by kernel_rfl) ?_
      refine WO.append (news := ([(inText x 32).1].map str)) 2 rfl Tryz.underlying22 Tryz.underlying22 (fun _ h => by cases h) Ty.sz9 (by decide) Ty.by9 Ty.zr9 rfl rfl rfl rfl hS45 rfl ((hS45.own_rd_i 0 rfl).src) rfl (by omega) (by omega) (fun a49 c50 w48 hS48 => ?_)
      replace hS48 : St B (own (some ⟨g46, 0, none⟩) 1 1 9 1 ([(inText x 32).1].map str) :: cel g10 [str ((inText x 32).2.1), Value.int .i64 ((inText x 32).2.2)] 149 :: own a49 ((acc ++ [(inText x 32).1]).length) c50 9 1 ((acc ++ [(inText x 32).1]).map str) :: cel g26 [Value.int .i64 (i64w (n1 d).1), Value.int .i64 (i64w (n2 d).1), Value.int .i64 (i64w (n3 d).1), Value.int .i64 ((n4 d).1), Value.int .i64 (i64w (n5 d).1), Value.slice a acc.length cap] 24 :: cel g6 [Value.int .i64 ((getF s).1.1), str d] 144 :: cel g2 [Value.int .i64 0, Value.int .i64 0, Value.int .i64 0, Value.int .i64 0, Value.int .i64 0, Value.slice none 0 0] 24 :: L) w48 := (by rw [List.map_append, List.length_append]; exact hS48)
      refine WO.as (d := 89) (v := Value.slice a49 ((acc ++ [(inText x 32).1]).length) c50) rfl (by simp) ?_
      clear hS45
      refine WO.nil ?_
      have s51 : (∀ j, World.cell? w48 ⟨g26, j, none⟩ = [Value.int .i64 (i64w (n1 d).1), Value.int .i64 (i64w (n2 d).1), Value.int .i64 (i64w (n3 d).1), Value.int .i64 ((n4 d).1), Value.int .i64 (i64w (n5 d).1), Value.slice a acc.length cap][j]?) := hS48.cel_at 3 rfl
      refine NX.held s51 ?_
      refine WD.pure (i := 6) rdecM_spec_t16 (bt 8 127) rfl rfl rfl (by kernel_rfl) (PQ.blk (PQ.then (PQ.then (PQ.blk (PQ.then PQ.body))))) rfl (fun w => run_fieldAddr (q := ⟨g26, 5, none⟩) (show fieldB Tryz.prog 24 5 = some 5 from by kernel_rfl) rfl rfl) ?_
      refine WD.one (i := 7) rdecM_spec_t16 (bt 8 255) rfl (by kernel_rfl) ?_
      refine WO.store (l' := [Value.int .i64 (i64w (n1 d).1), Value.int .i64 (i64w (n2 d).1), Value.int .i64 (i64w (n3 d).1), Value.int .i64 ((n4 d).1), Value.int .i64 (i64w (n5 d).1), Value.slice a49 ((acc ++ [(inText x 32).1]).length) c50]) 3 hS48 rfl Ty.sz22 rfl rfl rfl rfl rfl (Nat.le_of_ble_eq_true rfl) rfl (fun w52 (hS52 : St B (own (some ⟨g46, 0, none⟩) 1 1 9 1 ([(inText x 32).1].map str) :: cel g10 [str ((inText x 32).2.1), Value.int .i64 ((inText x 32).2.2)] 149 :: own a49 ((acc ++ [(inText x 32).1]).length) c50 9 1 ((acc ++ [(inText x 32).1]).map str) :: cel g26 [Value.int .i64 (i64w (n1 d).1), Value.int .i64 (i64w (n2 d).1), Value.int .i64 (i64w (n3 d).1), Value.int .i64 ((n4 d).1), Value.int .i64 (i64w (n5 d).1), Value.slice a49 ((acc ++ [(inText x 32).1]).length) c50] 24 :: cel g6 [Value.int .i64 ((getF s).1.1), str d] 144 :: cel g2 [Value.int .i64 0, Value.int .i64 0, Value.int .i64 0, Value.int .i64 0, Value.int .i64 0, Value.slice none 0 0] 24 :: L) w52) => ?_)
      clear hS48
      refine WO.nil ?_
      refine NX.last (by decide) ?_
      refine WD.done rdecM_spec_t16 (by kernel_rfl) ?_
      refine NX.blk (NX.go (WP.region rfl ?_))
      refine WO.mv rfl rfl ?_
      refine WO.val (run_add rfl rfl (IntWalk.u64_in _ (by omega))) rfl rfl rfl ?_
      refine WO.asg rfl rfl ?_
      refine WO.nil ?_
      exact NX.again (i + 1, acc ++ [(inText x 32).1], (inText x 32).2, a49, c50) ⟨⟨by omega, by rw [← hn8, show (n6 d).1 - i = ((n6 d).1 - (i + 1)) + 1 by omega]; conv => rhs; unfold inTexts; rw [if_pos g81], by rw [List.length_append, List.length_singleton, hal], fun _ => h16 g81, by rw [List.length_append, List.length_singleton]; have := h16 g81; omega, Nat.le_trans (inText_len x 32) hxl, all_snoc hat (Nat.le_trans (inText_got x 32) hxl)⟩, (hS52.permT [0, 1, 1, 0, 0, 0] (L' := own (some ⟨g46, 0, none⟩) 1 1 9 1 ([(inText x 32).1].map str) :: own a49 ((acc ++ [(inText x 32).1]).length) c50 9 1 ((acc ++ [(inText x 32).1]).map str) :: cel g26 [Value.int .i64 (i64w (n1 d).1), Value.int .i64 (i64w (n2 d).1), Value.int .i64 (i64w (n3 d).1), Value.int .i64 ((n4 d).1), Value.int .i64 (i64w (n5 d).1), Value.slice a49 ((acc ++ [(inText x 32).1]).length) c50] 24 :: cel g10 [str ((inText x 32).2.1), Value.int .i64 ((inText x 32).2.2)] 149 :: cel g6 [Value.int .i64 ((getF s).1.1), str d] 144 :: cel g2 [Value.int .i64 0, Value.int .i64 0, Value.int .i64 0, Value.int .i64 0, Value.int .i64 0, Value.slice none 0 0] 24 :: L) rfl).drop⟩ (by show (n6 d).1 - (i + 1) < (n6 d).1 - i; omega) (Sub.cons rfl (Sub.cons rfl (Sub.cons rfl (Sub.cons rfl (Sub.cons rfl (Sub.cons rfl (Sub.cons rfl (Sub.cons rfl (Sub.cons rfl (Sub.cons rfl (Sub.cons rfl (Sub.cons rfl (Sub.consE rfl (by congr 1) (Sub.nil _))))))))))))))
     ·
      refine WP.exit (NX.thenExit (NX.thenExit ?_))
      refine NX.blkExit ?_
      exact K28 (acc, x, a, cap) _ _ ⟨⟨by rw [← hn8]; exact inTexts_err g81 acc _, ha16, hat⟩, (hS38.permT [3, 2, 1, 0, 0] (L' := cel g6 [Value.int .i64 ((getF s).1.1), str d] 144 :: cel g10 [str x.1, Value.int .i64 x.2] 149 :: cel g26 [Value.int .i64 (i64w (n1 d).1), Value.int .i64 (i64w (n2 d).1), Value.int .i64 (i64w (n3 d).1), Value.int .i64 ((n4 d).1), Value.int .i64 (i64w (n5 d).1), Value.slice a acc.length cap] 24 :: own a acc.length cap 9 1 (acc.map str) :: cel g2 [Value.int .i64 0, Value.int .i64 0, Value.int .i64 0, Value.int .i64 0, Value.int .i64 0, Value.slice none 0 0] 24 :: L) rfl).drop⟩ (Sub.cons rfl (Sub.cons rfl (Sub.cons rfl (Sub.cons rfl (Sub.cons rfl (Sub.nil _))))))
    ·
     refine WO.off rfl rfl (decide_eq_false g75) rfl ?_
     refine WO.off rfl rfl (decide_eq_false g75) rfl ?_
     refine WO.off rfl rfl (decide_eq_false g75) rfl ?_
     refine WO.off rfl rfl (decide_eq_false g75) rfl ?_
     refine WO.off rfl rfl (decide_eq_false g75) rfl ?_
     refine WO.val (run_pickF rfl (decide_eq_false g75) rfl) rfl rfl rfl ?_
     refine WO.nil (NX.go ?_)
     refine WP.condF rfl rfl ?_
     refine WP.exit (NX.thenExit (NX.thenExit ?_))
     refine NX.blkExit ?_
     exact K28 (acc, x, a, cap) _ _ ⟨⟨by rw [← hn8]; rw [show (n6 d).1 - i = 0 by omega]; rfl, ha16, hat⟩, (hS38.permT [3, 2, 1, 0, 0] (L' := cel g6 [Value.int .i64 ((getF s).1.1), str d] 144 :: cel g10 [str x.1, Value.int .i64 x.2] 149 :: cel g26 [Value.int .i64 (i64w (n1 d).1), Value.int .i64 (i64w (n2 d).1), Value.int .i64 (i64w (n3 d).1), Value.int .i64 ((n4 d).1), Value.int .i64 (i64w (n5 d).1), Value.slice a acc.length cap] 24 :: own a acc.length cap 9 1 (acc.map str) :: cel g2 [Value.int .i64 0, Value.int .i64 0, Value.int .i64 0, Value.int .i64 0, Value.int .i64 0, Value.slice none 0 0] 24 :: L) rfl).drop⟩ (Sub.cons rfl (Sub.cons rfl (Sub.cons rfl (Sub.cons rfl (Sub.cons rfl (Sub.nil _))))))
  ·
   refine WP.region rfl ?_
   refine WO.mv rfl rfl ?_
   refine WO.mv rfl rfl ?_
   refine WO.val (run_leq rfl rfl) rfl rfl rfl ?_
   refine WO.mv rfl rfl ?_
   by_cases g45 : ((n1 d).1 : Int) ≤ 99999999
   ·
    refine WO.on rfl rfl (decide_eq_true g45) ?_
    refine WO.mv rfl rfl ?_
    refine WO.on rfl rfl (decide_eq_true g45) ?_
    refine WO.val (run_leq rfl rfl) rfl rfl rfl ?_
    refine WO.val (run_pickT rfl (decide_eq_true g45) rfl) rfl rfl rfl ?_
    refine WO.mv rfl rfl ?_
    by_cases g49 : ((n2 d).1 : Int) ≤ 99999999
    ·
     refine WO.on rfl rfl (decide_eq_true g49) ?_
     refine WO.mv rfl rfl ?_
     refine WO.on rfl rfl (decide_eq_true g49) ?_
     refine WO.val (run_leq rfl rfl) rfl rfl rfl ?_
     refine WO.val (run_pickT rfl (decide_eq_true g49) rfl) rfl rfl rfl ?_
     refine WO.mv rfl rfl ?_
     by_cases g53 : ((n3 d).1 : Int) ≤ 99999999
     ·
      refine WO.on rfl rfl (decide_eq_true g53) ?_
      refine WO.mv rfl rfl ?_
      refine WO.on rfl rfl (decide_eq_true g53) ?_
      refine WO.val (run_leq rfl rfl) rfl rfl rfl ?_
      refine WO.val (run_pickT rfl (decide_eq_true g53) rfl) rfl rfl rfl ?_
      refine WO.mv rfl rfl ?_
      by_cases g57 : ((n5 d).1 : Int) ≤ 99999999
      ·
       refine WO.on rfl rfl (decide_eq_true g57) ?_
       refine WO.mv rfl rfl ?_
       refine WO.on rfl rfl (decide_eq_true g57) ?_
       refine WO.val (run_leq rfl rfl) rfl rfl rfl ?_
       refine WO.val (run_pickT rfl (decide_eq_true g57) rfl) rfl rfl rfl ?_
       refine WO.call rfl rfl Ty.hd101 rfl (inMust_spec g10 (n6 d).2 (decide (((n6 d).1 : Int) ≤ 16)) 3 hS21) (fun v54 w53 pv54 => ?_)
       obtain ⟨rfl, hS53⟩ := pv54
       clear hS21
       refine WO.nil ?_
       exact K23 () _ _ (by have e7 : (decide (((n6 d).1 : Int) ≤ 16)) = decide ((n1 d).1 ≤ 99999999 ∧ (n2 d).1 ≤ 99999999 ∧ (n3 d).1 ≤ 99999999 ∧ (n5 d).1 ≤ 99999999 ∧ (n6 d).1 ≤ 16) := (by first | exact (decide_eq_false (by omega)).symm | exact decide_eq_decide.2 (by omega)); rw [e7] at hS53; exact hS53) (Sub.cons rfl (Sub.cons rfl (Sub.cons rfl (Sub.cons rfl (Sub.cons rfl (Sub.cons rfl (Sub.cons rfl (Sub.cons rfl (Sub.cons rfl (Sub.cons rfl (Sub.cons rfl (Sub.nil _))))))))))))
      ·
       refine WO.off rfl rfl (decide_eq_false g57) rfl ?_
       refine WO.off rfl rfl (decide_eq_false g57) rfl ?_
       refine WO.val (run_pickF rfl (decide_eq_false g57) rfl) rfl rfl rfl ?_
       refine WO.call rfl rfl Ty.hd101 rfl (inMust_spec g10 (n6 d).2 false 3 hS21) (fun v56 w55 pv56 => ?_)
       obtain ⟨rfl, hS55⟩ := pv56
       clear hS21
       refine WO.nil ?_
       exact K23 () _ _ (by have e7 : false = decide ((n1 d).1 ≤ 99999999 ∧ (n2 d).1 ≤ 99999999 ∧ (n3 d).1 ≤ 99999999 ∧ (n5 d).1 ≤ 99999999 ∧ (n6 d).1 ≤ 16) := (by first | exact (decide_eq_false (by omega)).symm | exact decide_eq_decide.2 (by omega)); rw [e7] at hS55; exact hS55) (Sub.cons rfl (Sub.cons rfl (Sub.cons rfl (Sub.cons rfl (Sub.cons rfl (Sub.cons rfl (Sub.cons rfl (Sub.cons rfl (Sub.cons rfl (Sub.cons rfl (Sub.cons rfl (Sub.nil _))))))))))))
     ·
      refine WO.off rfl rfl (decide_eq_false g53) rfl ?_
      refine WO.off rfl rfl (decide_eq_false g53) rfl ?_
      refine WO.val (run_pickF rfl (decide_eq_false g53) rfl) rfl rfl rfl ?_
      refine WO.mv rfl rfl ?_
      refine WO.off rfl rfl rfl rfl ?_
      refine WO.off rfl rfl rfl rfl ?_
      refine WO.val (run_pickF rfl rfl rfl) rfl rfl rfl ?_
      refine WO.call rfl rfl Ty.hd101 rfl (inMust_spec g10 (n6 d).2 false 3 hS21) (fun v58 w57 pv58 => ?_)
      obtain ⟨rfl, hS57⟩ := pv58
      clear hS21
      refine WO.nil ?_
      exact K23 () _ _ (by have e7 : false = decide ((n1 d).1 ≤ 99999999 ∧ (n2 d).1 ≤ 99999999 ∧ (n3 d).1 ≤ 99999999 ∧ (n5 d).1 ≤ 99999999 ∧ (n6 d).1 ≤ 16) := (by first | exact (decide_eq_false (by omega)).symm | exact decide_eq_decide.2 (by omega)); rw [e7] at hS57; exact hS57) (Sub.cons rfl (Sub.cons rfl (Sub.cons rfl (Sub.cons rfl (Sub.cons rfl (Sub.cons rfl (Sub.cons rfl (Sub.cons rfl (Sub.cons rfl (Sub.cons rfl (Sub.cons rfl (Sub.nil _))))))))))))
    ·
     refine WO.off rfl rfl (decide_eq_false g49) rfl ?_
     refine WO.off rfl rfl (decide_eq_false g49) rfl ?_
     refine WO.val (run_pickF rfl (decide_eq_false g49) rfl) rfl rfl rfl ?_
     refine WO.mv rfl rfl ?_
     refine WO.off rfl rfl rfl rfl ?_
     refine WO.off rfl rfl rfl rfl ?_
     refine WO.val (run_pickF rfl rfl rfl) rfl rfl rfl ?_
     refine WO.mv rfl rfl ?_
     refine WO.off rfl rfl rfl rfl ?_
     refine WO.off rfl rfl rfl rfl ?_
     refine WO.val (run_pickF rfl rfl rfl) rfl rfl rfl ?_
     refine WO.call rfl rfl Ty.hd101 rfl (inMust_spec g10 (n6 d).2 false 3 hS21) (fun v60 w59 pv60 => ?_)
     obtain ⟨rfl, hS59⟩ := pv60
     clear hS21
     refine WO.nil ?_
     exact K23 () _ _ (by have e7 : false = decide ((n1 d).1 ≤ 99999999 ∧ (n2 d).1 ≤ 99999999 ∧ (n3 d).1 ≤ 99999999 ∧ (n5 d).1 ≤ 99999999 ∧ (n6 d).1 ≤ 16) := (by first | exact (decide_eq_false (by omega)).symm | exact decide_eq_decide.2 (by omega)); rw [e7] at hS59; exact hS59) (Sub.cons rfl (Sub.cons rfl (Sub.cons rfl (Sub.cons rfl (Sub.cons rfl (Sub.cons rfl (Sub.cons rfl (Sub.cons rfl (Sub.cons rfl (Sub.cons rfl (Sub.cons rfl (Sub.nil _))))))))))))
   ·
    refine WO.off rfl rfl (decide_eq_false g45) rfl ?_
    refine WO.off rfl rfl (decide_eq_false g45) rfl ?_
    refine WO.val (run_pickF rfl (decide_eq_false g45) rfl) rfl rfl rfl ?_
    refine WO.mv rfl rfl ?_
    refine WO.off rfl rfl rfl rfl ?_
    refine WO.off rfl rfl rfl rfl ?_
    refine WO.val (run_pickF rfl rfl rfl) rfl rfl rfl ?_
    refine WO.mv rfl rfl ?_
    refine WO.off rfl rfl rfl rfl ?_
    refine WO.off rfl rfl rfl rfl ?_
    refine WO.val (run_pickF rfl rfl rfl) rfl rfl rfl ?_
    refine WO.mv rfl rfl ?_
    refine WO.off rfl rfl rfl rfl ?_
    refine WO.off rfl rfl rfl rfl ?_
    refine WO.val (run_pickF rfl rfl rfl) rfl rfl rfl ?_
    refine WO.call rfl rfl Ty.hd101 rfl (inMust_spec g10 (n6 d).2 false 3 hS21) (fun v62 w61 pv62 => ?_)
    obtain ⟨rfl, hS61⟩ := pv62
    clear hS21
    refine WO.nil ?_
    exact K23 () _ _ (by have e7 : false = decide ((n1 d).1 ≤ 99999999 ∧ (n2 d).1 ≤ 99999999 ∧ (n3 d).1 ≤ 99999999 ∧ (n5 d).1 ≤ 99999999 ∧ (n6 d).1 ≤ 16) := (by first | exact (decide_eq_false (by omega)).symm | exact decide_eq_decide.2 (by omega)); rw [e7] at hS61; exact hS61) (Sub.cons rfl (Sub.cons rfl (Sub.cons rfl (Sub.cons rfl (Sub.cons rfl (Sub.cons rfl (Sub.cons rfl (Sub.cons rfl (Sub.cons rfl (Sub.cons rfl (Sub.cons rfl (Sub.nil _))))))))))))
end Go.Proofs.YtcehlnpbdffdhaaGreatDoor.SL
