/- Manifests: what is wrong with one: the reference. -/
import Derived.Test.YtcehlnpbdffdhaaGreatDoorKr1M
namespace Go.Proofs.YtcehlnpbdffdhaaGreatDoor.SL
open Go.RowKit Go.Proofs.YtcehlnpbdffdhaaGreatDoor
open Go.Proofs.YtcehlnpbdffdhaaGreatDoorW.PrintLast (rtab opsOf)
set_option linter.unusedVariables false
set_option linter.unusedSimpArgs false

/-- A manifest's value: its names lie behind the address. -/
def manV (m : Man) (a : Option Addr) (cap : Nat) : Value := .agg #[.int .i64 m.e, .int .i64 m.b, .int .i64 m.p, .int .i64 m.k, .int .i64 m.c, .slice a m.bl.length cap]
/-- Numbers and lengths within reach. -/
structure RngM (m : Man) : Prop where
  e : -9223372036854775808 ≤ m.e ∧ m.e ≤ 9223372036854775807
  b : -9223372036854775808 ≤ m.b ∧ m.b ≤ 9223372036854775807
  p : -9223372036854775808 ≤ m.p ∧ m.p ≤ 9223372036854775807
  k : -9223372036854775808 ≤ m.k ∧ m.k ≤ 9223372036854775807
  c : -9223372036854775808 ≤ m.c ∧ m.c ≤ 9223372036854775807
  n : m.bl.length ≤ 8796093022208
  t : ∀ t ∈ m.bl, t.length ≤ 140737488355328
theorem rin_spec {B w : World} {L : List HP} (n : Int) (hS : St B L w) : Does Tryz.prog 43 [Value.int .i64 n] w (fun v w1 => v = .bool (decide (inM n)) ∧ St B L w1) := by
 refine enter (n := 9) Tryz.func43 rfl rfl [Value.int .i64 n] rfl ?_
 refine WP.seq ?_
 refine WP.region rfl ?_
 refine WO.val (run_assign rfl) rfl rfl rfl ?_
 refine WO.nil ?_
 refine NX.go ?_
 refine WP.seq ?_
 refine WP.region rfl ?_
 refine WO.val (run_move rfl) rfl rfl rfl ?_
 refine WO.val (run_geq rfl rfl) rfl rfl rfl ?_
 refine WO.val (run_move rfl) rfl rfl rfl ?_
 by_cases g5 : 0 ≤ n
 ·
  refine WO.on rfl rfl (decide_eq_true g5) ?_
  refine WO.val (run_move rfl) rfl rfl rfl ?_
  refine WO.on rfl rfl (decide_eq_true g5) ?_
  refine WO.val (run_leq rfl rfl) rfl rfl rfl ?_
  refine WO.val (run_pickT rfl (decide_eq_true g5) rfl) rfl rfl rfl ?_
  refine WO.val (run_assign rfl) rfl rfl rfl ?_
  refine WO.nil ?_
  refine NX.go ?_
  refine WP.ret ?_
  refine NX.done (l := [.tmp 2]) rfl rfl ?_
  exact ⟨congrArg Value.bool (decide_eq_decide.2 ⟨fun h => ⟨by omega, by omega⟩, fun h => by unfold inM at h; omega⟩), hS⟩
 ·
  refine WO.off rfl rfl (decide_eq_false g5) rfl ?_
  refine WO.off rfl rfl (decide_eq_false g5) rfl ?_
  refine WO.val (run_pickF rfl (decide_eq_false g5) rfl) rfl rfl rfl ?_
  refine WO.val (run_assign rfl) rfl rfl rfl ?_
  refine WO.nil ?_
  refine NX.go ?_
  refine WP.ret ?_
  refine NX.done (l := [.tmp 2]) rfl rfl ?_
  exact ⟨congrArg Value.bool (decide_eq_false (fun h => by unfold inM at h; omega)).symm, hS⟩
theorem rfile_spec {B w : World} {L : List HP} (s : List UInt8) (hs : s.length ≤ 9223372036854775806) (hS : St B L w) : Does Tryz.prog 44 [str s] w (fun v w1 => v = .bool (fileF s) ∧ St B L w1) := by
 refine enter (n := 52) Tryz.func44 rfl rfl [str s] rfl ?_
 refine WP.seq ?_
 refine WP.region rfl ?_
 refine WO.val (run_assign rfl) rfl rfl rfl ?_
 refine WO.nil ?_
 refine NX.go ?_
 refine WP.seq ?_
 refine WP.seq ?_
 refine WP.region rfl ?_
 refine WO.val (run_assign rfl) rfl rfl rfl ?_
 refine WO.nil ?_
 refine NX.go ?_
 refine WP.block ?_
 refine WP.loop (α := Nat) (fun x => match x with | i => [(0, str s), (3, Value.int .i64 (i : Int))]) (fun x w => match x with | i => (i ≤ s.length ∧ ∀ j b, j < i → s[j]? = some b → fileB b) ∧ St B (L) w) (fun x => match x with | i => s.length - i) 0 ⟨⟨Nat.zero_le _, fun j b h => absurd h (by omega)⟩, hS⟩ (Sub.cons rfl (Sub.consE rfl (by first | rfl | first | rfl | (congr 1; omega) | (simp; done) | (simp; omega)) (Sub.nil _))) ?_
 rintro i w1 ⟨⟨hi, hok⟩, hS1⟩
 clear hS
 refine WP.seq ?_
 refine WP.seq ?_
 refine WP.region rfl ?_
 refine WO.val (run_move rfl) rfl rfl rfl ?_
 refine WO.val (run_move rfl) rfl rfl rfl ?_
 refine WO.val (run_lenS rfl Tryz.underlying9 rfl) rfl rfl rfl ?_
 refine WO.val (run_lss rfl rfl) rfl rfl rfl ?_
 refine WO.nil ?_
 refine NX.go ?_
 refine WP.condP rfl (fun g7 => ?_) (fun g7 => ?_)
 ·
  refine WP.skip ?_
  refine NX.go ?_
  refine WP.seq ?_
  refine WP.block ?_
  refine WP.seq ?_
  refine WP.region rfl ?_
  refine WO.val (run_move rfl) rfl rfl rfl ?_
  refine WO.val (run_move rfl) rfl rfl rfl ?_
  obtain ⟨b, hb⟩ : ∃ b, s[i]? = some b := ⟨_, List.getElem?_eq_getElem (by omega)⟩
  have hb8 := UInt8.toNat_lt b
  refine WO.val (run_indexS Tryz.underlying9 rfl rfl (by omega) (by rw [Int.toNat_natCast]; exact hb)) rfl rfl rfl ?_
  refine WO.val (run_lss rfl rfl) rfl rfl rfl ?_
  refine WO.val (run_move rfl) rfl rfl rfl ?_
  by_cases g14 : (b.toNat : Int) < 97
  ·
   refine WO.off rfl rfl (decide_eq_true g14) rfl ?_
   refine WO.off rfl rfl (decide_eq_true g14) rfl ?_
   refine WO.off rfl rfl (decide_eq_true g14) rfl ?_
   refine WO.off rfl rfl (decide_eq_true g14) rfl ?_
   refine WO.val (run_pickT rfl (decide_eq_true g14) rfl) rfl rfl rfl ?_
   refine WO.val (run_move rfl) rfl rfl rfl ?_
   refine WO.on rfl rfl rfl ?_
   refine WO.val (run_move rfl) rfl rfl rfl ?_
   refine WO.on rfl rfl rfl ?_
   refine WO.val (run_move rfl) rfl rfl rfl ?_
   refine WO.on rfl rfl rfl ?_
   refine WO.val (run_indexS Tryz.underlying9 rfl rfl (by omega) (by rw [Int.toNat_natCast]; exact hb)) rfl rfl rfl ?_
   refine WO.on rfl rfl rfl ?_
   refine WO.val (run_lss rfl rfl) rfl rfl rfl ?_
   refine WO.on rfl rfl rfl ?_
   refine WO.val (run_move rfl) rfl rfl rfl ?_
   by_cases g25 : (b.toNat : Int) < 48
   ·
    refine WO.off rfl rfl (decide_eq_true g25) rfl ?_
    refine WO.off rfl rfl (decide_eq_true g25) rfl ?_
    refine WO.off rfl rfl (decide_eq_true g25) rfl ?_
    refine WO.off rfl rfl (decide_eq_true g25) rfl ?_
    refine WO.on rfl rfl rfl ?_
    refine WO.val (run_pickT rfl (decide_eq_true g25) rfl) rfl rfl rfl ?_
    refine WO.val (run_pickT rfl rfl rfl) rfl rfl rfl ?_
    refine WO.val (run_move rfl) rfl rfl rfl ?_
    refine WO.on rfl rfl rfl ?_
    refine WO.val (run_move rfl) rfl rfl rfl ?_
    refine WO.on rfl rfl rfl ?_
    refine WO.val (run_move rfl) rfl rfl rfl ?_
    refine WO.on rfl rfl rfl ?_
    refine WO.val (run_indexS Tryz.underlying9 rfl rfl (by omega) (by rw [Int.toNat_natCast]; exact hb)) rfl rfl rfl ?_
    refine WO.on rfl rfl rfl ?_
    refine WO.val (run_neq rfl rfl) rfl rfl rfl ?_
    refine WO.val (run_pickT rfl rfl rfl) rfl rfl rfl ?_
    refine WO.val (run_move rfl) rfl rfl rfl ?_
    by_cases g38 : ¬ (b.toNat : Int) = 46
    ·
     refine WO.on rfl rfl (decide_eq_true g38) ?_
     refine WO.val (run_move rfl) rfl rfl rfl ?_
     refine WO.on rfl rfl (decide_eq_true g38) ?_
     refine WO.val (run_move rfl) rfl rfl rfl ?_
     refine WO.on rfl rfl (decide_eq_true g38) ?_
     refine WO.val (run_indexS Tryz.underlying9 rfl rfl (by omega) (by rw [Int.toNat_natCast]; exact hb)) rfl rfl rfl ?_
     refine WO.on rfl rfl (decide_eq_true g38) ?_
     refine WO.val (run_neq rfl rfl) rfl rfl rfl ?_
     refine WO.val (run_pickT rfl (decide_eq_true g38) rfl) rfl rfl rfl ?_
     refine WO.nil ?_
     refine NX.go ?_
     refine WP.condP rfl (fun g43 => ?_) (fun g43 => ?_)
     ·
      refine WP.seq ?_
      refine WP.region rfl ?_
      refine WO.val (run_assign rfl) rfl rfl rfl ?_
      refine WO.nil ?_
      refine NX.go ?_
      refine WP.ret ?_
      refine NX.blkRet ?_
      refine NX.thenRet ?_
      refine NX.thenRet ?_
      refine NX.blkRet ?_
      refine NX.thenRet ?_
      refine NX.done (l := [.tmp 2]) rfl rfl ?_
      exact ⟨congrArg Value.bool (decide_eq_false (fun h => absurd (h.2.2 b (List.mem_of_getElem? hb)) (by unfold fileB; omega))).symm, hS1⟩
     ·
      refine WP.skip ?_
      refine NX.blk ?_
      refine NX.go ?_
      refine WP.region rfl ?_
      refine WO.val (run_move rfl) rfl rfl rfl ?_
      refine WO.val (run_add rfl rfl (IntWalk.i64_in _ (by omega))) rfl rfl rfl ?_
      refine WO.val (run_assign rfl) rfl rfl rfl ?_
      refine WO.nil ?_
      exact NX.again (i + 1) ⟨⟨by omega, file_next hok hb (by unfold fileB; omega)⟩, hS1⟩ (by show s.length - (i + 1) < s.length - i; omega) (Sub.cons rfl (Sub.consE rfl (by congr 1) (Sub.nil _)))
    ·
     refine WO.off rfl rfl (decide_eq_false g38) rfl ?_
     refine WO.off rfl rfl (decide_eq_false g38) rfl ?_
     refine WO.off rfl rfl (decide_eq_false g38) rfl ?_
     refine WO.off rfl rfl (decide_eq_false g38) rfl ?_
     refine WO.val (run_pickF rfl (decide_eq_false g38) rfl) rfl rfl rfl ?_
     refine WO.nil ?_
     refine NX.go ?_
     refine WP.condF rfl rfl ?_
     refine WP.skip ?_
     refine NX.blk ?_
     refine NX.go ?_
     refine WP.region rfl ?_
     refine WO.val (run_move rfl) rfl rfl rfl ?_
     refine WO.val (run_add rfl rfl (IntWalk.i64_in _ (by omega))) rfl rfl rfl ?_
     refine WO.val (run_assign rfl) rfl rfl rfl ?_
     refine WO.nil ?_
     exact NX.again (i + 1) ⟨⟨by omega, file_next hok hb (by unfold fileB; omega)⟩, hS1⟩ (by show s.length - (i + 1) < s.length - i; omega) (Sub.cons rfl (Sub.consE rfl (by congr 1) (Sub.nil _)))
   ·
    refine WO.on rfl rfl (decide_eq_false g25) ?_
    refine WO.val (run_move rfl) rfl rfl rfl ?_
    refine WO.on rfl rfl (decide_eq_false g25) ?_
    refine WO.val (run_move rfl) rfl rfl rfl ?_
    refine WO.on rfl rfl (decide_eq_false g25) ?_
    refine WO.val (run_indexS Tryz.underlying9 rfl rfl (by omega) (by rw [Int.toNat_natCast]; exact hb)) rfl rfl rfl ?_
    refine WO.on rfl rfl (decide_eq_false g25) ?_
    refine WO.val (run_gtr rfl rfl) rfl rfl rfl ?_
    refine WO.on rfl rfl rfl ?_
    refine WO.val (run_pickF rfl (decide_eq_false g25) rfl) rfl rfl rfl ?_
    refine WO.val (run_pickT rfl rfl rfl) rfl rfl rfl ?_
    refine WO.val (run_move rfl) rfl rfl rfl ?_
    by_cases g32 : 57 < (b.toNat : Int)
    ·
     refine WO.on rfl rfl (decide_eq_true g32) ?_
     refine WO.val (run_move rfl) rfl rfl rfl ?_
     refine WO.on rfl rfl (decide_eq_true g32) ?_
     refine WO.val (run_move rfl) rfl rfl rfl ?_
     refine WO.on rfl rfl (decide_eq_true g32) ?_
     refine WO.val (run_indexS Tryz.underlying9 rfl rfl (by omega) (by rw [Int.toNat_natCast]; exact hb)) rfl rfl rfl ?_
     refine WO.on rfl rfl (decide_eq_true g32) ?_
     refine WO.val (run_neq rfl rfl) rfl rfl rfl ?_
     refine WO.val (run_pickT rfl (decide_eq_true g32) rfl) rfl rfl rfl ?_
     refine WO.val (run_move rfl) rfl rfl rfl ?_
     by_cases g38 : ¬ (b.toNat : Int) = 46
     ·
      refine WO.on rfl rfl (decide_eq_true g38) ?_
      refine WO.val (run_move rfl) rfl rfl rfl ?_
      refine WO.on rfl rfl (decide_eq_true g38) ?_
      refine WO.val (run_move rfl) rfl rfl rfl ?_
      refine WO.on rfl rfl (decide_eq_true g38) ?_
      refine WO.val (run_indexS Tryz.underlying9 rfl rfl (by omega) (by rw [Int.toNat_natCast]; exact hb)) rfl rfl rfl ?_
      refine WO.on rfl rfl (decide_eq_true g38) ?_
      refine WO.val (run_neq rfl rfl) rfl rfl rfl ?_
      refine WO.val (run_pickT rfl (decide_eq_true g38) rfl) rfl rfl rfl ?_
      refine WO.nil ?_
      refine NX.go ?_
      refine WP.condP rfl (fun g43 => ?_) (fun g43 => ?_)
      ·
       refine WP.seq ?_
       refine WP.region rfl ?_
       refine WO.val (run_assign rfl) rfl rfl rfl ?_
       refine WO.nil ?_
       refine NX.go ?_
       refine WP.ret ?_
       refine NX.blkRet ?_
       refine NX.thenRet ?_
       refine NX.thenRet ?_
       refine NX.blkRet ?_
       refine NX.thenRet ?_
       refine NX.done (l := [.tmp 2]) rfl rfl ?_
       exact ⟨congrArg Value.bool (decide_eq_false (fun h => absurd (h.2.2 b (List.mem_of_getElem? hb)) (by unfold fileB; omega))).symm, hS1⟩
      ·
       refine WP.skip ?_
       refine NX.blk ?_
       refine NX.go ?_
       refine WP.region rfl ?_
       refine WO.val (run_move rfl) rfl rfl rfl ?_
       refine WO.val (run_add rfl rfl (IntWalk.i64_in _ (by omega))) rfl rfl rfl ?_
       refine WO.val (run_assign rfl) rfl rfl rfl ?_
       refine WO.nil ?_
       exact NX.again (i + 1) ⟨⟨by omega, file_next hok hb (by unfold fileB; omega)⟩, hS1⟩ (by show s.length - (i + 1) < s.length - i; omega) (Sub.cons rfl (Sub.consE rfl (by congr 1) (Sub.nil _)))
     ·
      refine WO.off rfl rfl (decide_eq_false g38) rfl ?_
      refine WO.off rfl rfl (decide_eq_false g38) rfl ?_
      refine WO.off rfl rfl (decide_eq_false g38) rfl ?_
      refine WO.off rfl rfl (decide_eq_false g38) rfl ?_
      refine WO.val (run_pickF rfl (decide_eq_false g38) rfl) rfl rfl rfl ?_
      refine WO.nil ?_
      refine NX.go ?_
      refine WP.condF rfl rfl ?_
      refine WP.skip ?_
      refine NX.blk ?_
      refine NX.go ?_
      refine WP.region rfl ?_
      refine WO.val (run_move rfl) rfl rfl rfl ?_
      refine WO.val (run_add rfl rfl (IntWalk.i64_in _ (by omega))) rfl rfl rfl ?_
      refine WO.val (run_assign rfl) rfl rfl rfl ?_
      refine WO.nil ?_
      exact NX.again (i + 1) ⟨⟨by omega, file_next hok hb (by unfold fileB; omega)⟩, hS1⟩ (by show s.length - (i + 1) < s.length - i; omega) (Sub.cons rfl (Sub.consE rfl (by congr 1) (Sub.nil _)))
    ·
     refine WO.off rfl rfl (decide_eq_false g32) rfl ?_
     refine WO.off rfl rfl (decide_eq_false g32) rfl ?_
     refine WO.off rfl rfl (decide_eq_false g32) rfl ?_
     refine WO.off rfl rfl (decide_eq_false g32) rfl ?_
     refine WO.val (run_pickF rfl (decide_eq_false g32) rfl) rfl rfl rfl ?_
     refine WO.val (run_move rfl) rfl rfl rfl ?_
     refine WO.off rfl rfl rfl rfl ?_
     refine WO.off rfl rfl rfl rfl ?_
     refine WO.off rfl rfl rfl rfl ?_
     refine WO.off rfl rfl rfl rfl ?_
     refine WO.val (run_pickF rfl rfl rfl) rfl rfl rfl ?_
     refine WO.nil ?_
     refine NX.go ?_
     refine WP.condF rfl rfl ?_
     refine WP.skip ?_
     refine NX.blk ?_
     refine NX.go ?_
     refine WP.region rfl ?_
     refine WO.val (run_move rfl) rfl rfl rfl ?_
     refine WO.val (run_add rfl rfl (IntWalk.i64_in _ (by omega))) rfl rfl rfl ?_
     refine WO.val (run_assign rfl) rfl rfl rfl ?_
     refine WO.nil ?_
     exact NX.again (i + 1) ⟨⟨by omega, file_next hok hb (by unfold fileB; omega)⟩, hS1⟩ (by show s.length - (i + 1) < s.length - i; omega) (Sub.cons rfl (Sub.consE rfl (by congr 1) (Sub.nil _)))
  ·
   refine WO.on rfl rfl (decide_eq_false g14) ?_
   refine WO.val (run_move rfl) rfl rfl rfl ?_
   refine WO.on rfl rfl (decide_eq_false g14) ?_
   refine WO.val (run_move rfl) rfl rfl rfl ?_
   refine WO.on rfl rfl (decide_eq_false g14) ?_
   refine WO.val (run_indexS Tryz.underlying9 rfl rfl (by omega) (by rw [Int.toNat_natCast]; exact hb)) rfl rfl rfl ?_
   refine WO.on rfl rfl (decide_eq_false g14) ?_
   refine WO.val (run_gtr rfl rfl) rfl rfl rfl ?_
   refine WO.val (run_pickF rfl (decide_eq_false g14) rfl) rfl rfl rfl ?_
   refine WO.val (run_move rfl) rfl rfl rfl ?_
   by_cases g20 : 122 < (b.toNat : Int)
   ·
    refine WO.on rfl rfl (decide_eq_true g20) ?_
    refine WO.val (run_move rfl) rfl rfl rfl ?_
    refine WO.on rfl rfl (decide_eq_true g20) ?_
    refine WO.val (run_move rfl) rfl rfl rfl ?_
    refine WO.on rfl rfl (decide_eq_true g20) ?_
    refine WO.val (run_indexS Tryz.underlying9 rfl rfl (by omega) (by rw [Int.toNat_natCast]; exact hb)) rfl rfl rfl ?_
    refine WO.on rfl rfl (decide_eq_true g20) ?_
    refine WO.val (run_lss rfl rfl) rfl rfl rfl ?_
    refine WO.on rfl rfl (decide_eq_true g20) ?_
    refine WO.val (run_move rfl) rfl rfl rfl ?_
    by_cases g25 : (b.toNat : Int) < 48
    ·
     refine WO.off rfl rfl (decide_eq_true g25) rfl ?_
     refine WO.off rfl rfl (decide_eq_true g25) rfl ?_
     refine WO.off rfl rfl (decide_eq_true g25) rfl ?_
     refine WO.off rfl rfl (decide_eq_true g25) rfl ?_
     refine WO.on rfl rfl (decide_eq_true g20) ?_
     refine WO.val (run_pickT rfl (decide_eq_true g25) rfl) rfl rfl rfl ?_
     refine WO.val (run_pickT rfl (decide_eq_true g20) rfl) rfl rfl rfl ?_
     refine WO.val (run_move rfl) rfl rfl rfl ?_
     refine WO.on rfl rfl rfl ?_
     refine WO.val (run_move rfl) rfl rfl rfl ?_
     refine WO.on rfl rfl rfl ?_
     refine WO.val (run_move rfl) rfl rfl rfl ?_
     refine WO.on rfl rfl rfl ?_
     refine WO.val (run_indexS Tryz.underlying9 rfl rfl (by omega) (by rw [Int.toNat_natCast]; exact hb)) rfl rfl rfl ?_
     refine WO.on rfl rfl rfl ?_
     refine WO.val (run_neq rfl rfl) rfl rfl rfl ?_
     refine WO.val (run_pickT rfl rfl rfl) rfl rfl rfl ?_
     refine WO.val (run_move rfl) rfl rfl rfl ?_
     by_cases g38 : ¬ (b.toNat : Int) = 46
     ·
      refine WO.on rfl rfl (decide_eq_true g38) ?_
      refine WO.val (run_move rfl) rfl rfl rfl ?_
      refine WO.on rfl rfl (decide_eq_true g38) ?_
      refine WO.val (run_move rfl) rfl rfl rfl ?_
      refine WO.on rfl rfl (decide_eq_true g38) ?_
      refine WO.val (run_indexS Tryz.underlying9 rfl rfl (by omega) (by rw [Int.toNat_natCast]; exact hb)) rfl rfl rfl ?_
      refine WO.on rfl rfl (decide_eq_true g38) ?_
      refine WO.val (run_neq rfl rfl) rfl rfl rfl ?_
      refine WO.val (run_pickT rfl (decide_eq_true g38) rfl) rfl rfl rfl ?_
      refine WO.nil ?_
      refine NX.go ?_
      refine WP.condP rfl (fun g43 => ?_) (fun g43 => ?_)
      ·
       refine WP.seq ?_
       refine WP.region rfl ?_
       refine WO.val (run_assign rfl) rfl rfl rfl ?_
       refine WO.nil ?_
       refine NX.go ?_
       refine WP.ret ?_
       refine NX.blkRet ?_
       refine NX.thenRet ?_
       refine NX.thenRet ?_
       refine NX.blkRet ?_
       refine NX.thenRet ?_
       refine NX.done (l := [.tmp 2]) rfl rfl ?_
       exact ⟨congrArg Value.bool (decide_eq_false (fun h => absurd (h.2.2 b (List.mem_of_getElem? hb)) (by unfold fileB; omega))).symm, hS1⟩
      ·
       refine WP.skip ?_
       refine NX.blk ?_
       refine NX.go ?_
       refine WP.region rfl ?_
       refine WO.val (run_move rfl) rfl rfl rfl ?_
       refine WO.val (run_add rfl rfl (IntWalk.i64_in _ (by omega))) rfl rfl rfl ?_
       refine WO.val (run_assign rfl) rfl rfl rfl ?_
       refine WO.nil ?_
       exact NX.again (i + 1) ⟨⟨by omega, file_next hok hb (by unfold fileB; omega)⟩, hS1⟩ (by show s.length - (i + 1) < s.length - i; omega) (Sub.cons rfl (Sub.consE rfl (by congr 1) (Sub.nil _)))
     ·
      refine WO.off rfl rfl (decide_eq_false g38) rfl ?_
      refine WO.off rfl rfl (decide_eq_false g38) rfl ?_
      refine WO.off rfl rfl (decide_eq_false g38) rfl ?_
      refine WO.off rfl rfl (decide_eq_false g38) rfl ?_
      refine WO.val (run_pickF rfl (decide_eq_false g38) rfl) rfl rfl rfl ?_
      refine WO.nil ?_
      refine NX.go ?_
      refine WP.condF rfl rfl ?_
      refine WP.skip ?_
      refine NX.blk ?_
      refine NX.go ?_
      refine WP.region rfl ?_
      refine WO.val (run_move rfl) rfl rfl rfl ?_
      refine WO.val (run_add rfl rfl (IntWalk.i64_in _ (by omega))) rfl rfl rfl ?_
      refine WO.val (run_assign rfl) rfl rfl rfl ?_
      refine WO.nil ?_
      exact NX.again (i + 1) ⟨⟨by omega, file_next hok hb (by unfold fileB; omega)⟩, hS1⟩ (by show s.length - (i + 1) < s.length - i; omega) (Sub.cons rfl (Sub.consE rfl (by congr 1) (Sub.nil _)))
    ·
     refine WO.on rfl rfl (decide_eq_false g25) ?_
     refine WO.val (run_move rfl) rfl rfl rfl ?_
     refine WO.on rfl rfl (decide_eq_false g25) ?_
     refine WO.val (run_move rfl) rfl rfl rfl ?_
     refine WO.on rfl rfl (decide_eq_false g25) ?_
     refine WO.val (run_indexS Tryz.underlying9 rfl rfl (by omega) (by rw [Int.toNat_natCast]; exact hb)) rfl rfl rfl ?_
     refine WO.on rfl rfl (decide_eq_false g25) ?_
     refine WO.val (run_gtr rfl rfl) rfl rfl rfl ?_
     refine WO.on rfl rfl (decide_eq_true g20) ?_
     refine WO.val (run_pickF rfl (decide_eq_false g25) rfl) rfl rfl rfl ?_
     refine WO.val (run_pickT rfl (decide_eq_true g20) rfl) rfl rfl rfl ?_
     refine WO.val (run_move rfl) rfl rfl rfl ?_
     by_cases g32 : 57 < (b.toNat : Int)
     ·
      refine WO.on rfl rfl (decide_eq_true g32) ?_
      refine WO.val (run_move rfl) rfl rfl rfl ?_
      refine WO.on rfl rfl (decide_eq_true g32) ?_
      refine WO.val (run_move rfl) rfl rfl rfl ?_
      refine WO.on rfl rfl (decide_eq_true g32) ?_
      refine WO.val (run_indexS Tryz.underlying9 rfl rfl (by omega) (by rw [Int.toNat_natCast]; exact hb)) rfl rfl rfl ?_
      refine WO.on rfl rfl (decide_eq_true g32) ?_
      refine WO.val (run_neq rfl rfl) rfl rfl rfl ?_
      refine WO.val (run_pickT rfl (decide_eq_true g32) rfl) rfl rfl rfl ?_
      refine WO.val (run_move rfl) rfl rfl rfl ?_
      by_cases g38 : ¬ (b.toNat : Int) = 46
      ·
       refine WO.on rfl rfl (decide_eq_true g38) ?_
       refine WO.val (run_move rfl) rfl rfl rfl ?_
       refine WO.on rfl rfl (decide_eq_true g38) ?_
       refine WO.val (run_move rfl) rfl rfl rfl ?_
       refine WO.on rfl rfl (decide_eq_true g38) ?_
       refine WO.val (run_indexS Tryz.underlying9 rfl rfl (by omega) (by rw [Int.toNat_natCast]; exact hb)) rfl rfl rfl ?_
       refine WO.on rfl rfl (decide_eq_true g38) ?_
       refine WO.val (run_neq rfl rfl) rfl rfl rfl ?_
       refine WO.val (run_pickT rfl (decide_eq_true g38) rfl) rfl rfl rfl ?_
       refine WO.nil ?_
       refine NX.go ?_
       refine WP.condP rfl (fun g43 => ?_) (fun g43 => ?_)
       ·
        refine WP.seq ?_
        refine WP.region rfl ?_
        refine WO.val (run_assign rfl) rfl rfl rfl ?_
        refine WO.nil ?_
        refine NX.go ?_
        refine WP.ret ?_
        refine NX.blkRet ?_
        refine NX.thenRet ?_
        refine NX.thenRet ?_
        refine NX.blkRet ?_
        refine NX.thenRet ?_
        refine NX.done (l := [.tmp 2]) rfl rfl ?_
        exact ⟨congrArg Value.bool (decide_eq_false (fun h => absurd (h.2.2 b (List.mem_of_getElem? hb)) (by unfold fileB; omega))).symm, hS1⟩
       ·
        refine WP.skip ?_
        refine NX.blk ?_
        refine NX.go ?_
        refine WP.region rfl ?_
        refine WO.val (run_move rfl) rfl rfl rfl ?_
        refine WO.val (run_add rfl rfl (IntWalk.i64_in _ (by omega))) rfl rfl rfl ?_
        refine WO.val (run_assign rfl) rfl rfl rfl ?_
        refine WO.nil ?_
        exact NX.again (i + 1) ⟨⟨by omega, file_next hok hb (by unfold fileB; omega)⟩, hS1⟩ (by show s.length - (i + 1) < s.length - i; omega) (Sub.cons rfl (Sub.consE rfl (by congr 1) (Sub.nil _)))
      ·
       refine WO.off rfl rfl (decide_eq_false g38) rfl ?_
       refine WO.off rfl rfl (decide_eq_false g38) rfl ?_
       refine WO.off rfl rfl (decide_eq_false g38) rfl ?_
       refine WO.off rfl rfl (decide_eq_false g38) rfl ?_
       refine WO.val (run_pickF rfl (decide_eq_false g38) rfl) rfl rfl rfl ?_
       refine WO.nil ?_
       refine NX.go ?_
       refine WP.condF rfl rfl ?_
       refine WP.skip ?_
       refine NX.blk ?_
       refine NX.go ?_
       refine WP.region rfl ?_
       refine WO.val (run_move rfl) rfl rfl rfl ?_
       refine WO.val (run_add rfl rfl (IntWalk.i64_in _ (by omega))) rfl rfl rfl ?_
       refine WO.val (run_assign rfl) rfl rfl rfl ?_
       refine WO.nil ?_
       exact NX.again (i + 1) ⟨⟨by omega, file_next hok hb (by unfold fileB; omega)⟩, hS1⟩ (by show s.length - (i + 1) < s.length - i; omega) (Sub.cons rfl (Sub.consE rfl (by congr 1) (Sub.nil _)))
     ·
      refine WO.off rfl rfl (decide_eq_false g32) rfl ?_
      refine WO.off rfl rfl (decide_eq_false g32) rfl ?_
      refine WO.off rfl rfl (decide_eq_false g32) rfl ?_
      refine WO.off rfl rfl (decide_eq_false g32) rfl ?_
      refine WO.val (run_pickF rfl (decide_eq_false g32) rfl) rfl rfl rfl ?_
      refine WO.val (run_move rfl) rfl rfl rfl ?_
      refine WO.off rfl rfl rfl rfl ?_
      refine WO.off rfl rfl rfl rfl ?_
      refine WO.off rfl rfl rfl rfl ?_
      refine WO.off rfl rfl rfl rfl ?_
      refine WO.val (run_pickF rfl rfl rfl) rfl rfl rfl ?_
      refine WO.nil ?_
      refine NX.go ?_
      refine WP.condF rfl rfl ?_
      refine WP.skip ?_
      refine NX.blk ?_
      refine NX.go ?_
      refine WP.region rfl ?_
      refine WO.val (run_move rfl) rfl rfl rfl ?_
      refine WO.val (run_add rfl rfl (IntWalk.i64_in _ (by omega))) rfl rfl rfl ?_
      refine WO.val (run_assign rfl) rfl rfl rfl ?_
      refine WO.nil ?_
      exact NX.again (i + 1) ⟨⟨by omega, file_next hok hb (by unfold fileB; omega)⟩, hS1⟩ (by show s.length - (i + 1) < s.length - i; omega) (Sub.cons rfl (Sub.consE rfl (by congr 1) (Sub.nil _)))
   ·
    refine WO.off rfl rfl (decide_eq_false g20) rfl ?_
    refine WO.off rfl rfl (decide_eq_false g20) rfl ?_
    refine WO.off rfl rfl (decide_eq_false g20) rfl ?_
    refine WO.off rfl rfl (decide_eq_false g20) rfl ?_
    refine WO.off rfl rfl (decide_eq_false g20) rfl ?_
    refine WO.offU rfl rfl rfl ?_
    refine WO.offU rfl rfl rfl ?_
    refine WO.offU rfl rfl rfl ?_
    refine WO.offU rfl rfl rfl ?_
    refine WO.off rfl rfl (decide_eq_false g20) rfl ?_
    refine WO.val (run_pickF rfl (decide_eq_false g20) rfl) rfl rfl rfl ?_
    refine WO.val (run_move rfl) rfl rfl rfl ?_
    refine WO.off rfl rfl rfl rfl ?_
    refine WO.off rfl rfl rfl rfl ?_
    refine WO.off rfl rfl rfl rfl ?_
    refine WO.off rfl rfl rfl rfl ?_
    refine WO.val (run_pickF rfl rfl rfl) rfl rfl rfl ?_
    refine WO.val (run_move rfl) rfl rfl rfl ?_
    refine WO.off rfl rfl rfl rfl ?_
    refine WO.off rfl rfl rfl rfl ?_
    refine WO.off rfl rfl rfl rfl ?_
    refine WO.off rfl rfl rfl rfl ?_
    refine WO.val (run_pickF rfl rfl rfl) rfl rfl rfl ?_
    refine WO.nil ?_
    refine NX.go ?_
    refine WP.condF rfl rfl ?_
    refine WP.skip ?_
    refine NX.blk ?_
    refine NX.go ?_
    refine WP.region rfl ?_
    refine WO.val (run_move rfl) rfl rfl rfl ?_
    refine WO.val (run_add rfl rfl (IntWalk.i64_in _ (by omega))) rfl rfl rfl ?_
    refine WO.val (run_assign rfl) rfl rfl rfl ?_
    refine WO.nil ?_
    exact NX.again (i + 1) ⟨⟨by omega, file_next hok hb (by unfold fileB; omega)⟩, hS1⟩ (by show s.length - (i + 1) < s.length - i; omega) (Sub.cons rfl (Sub.consE rfl (by congr 1) (Sub.nil _)))
 ·
  refine WP.exit ?_
  refine NX.thenExit ?_
  refine NX.thenExit ?_
  refine NX.blkExit ?_
  refine NX.go ?_
  refine WP.seq ?_
  refine WP.region rfl ?_
  refine WO.val (run_move rfl) rfl rfl rfl ?_
  refine WO.val (run_lenS rfl Tryz.underlying9 rfl) rfl rfl rfl ?_
  refine WO.val (run_geq rfl rfl) rfl rfl rfl ?_
  refine WO.val (run_move rfl) rfl rfl rfl ?_
  by_cases g47 : 1 ≤ (s.length : Int)
  ·
   refine WO.on rfl rfl (decide_eq_true g47) ?_
   refine WO.val (run_move rfl) rfl rfl rfl ?_
   refine WO.on rfl rfl (decide_eq_true g47) ?_
   refine WO.val (run_lenS rfl Tryz.underlying9 rfl) rfl rfl rfl ?_
   refine WO.on rfl rfl (decide_eq_true g47) ?_
   refine WO.val (run_leq rfl rfl) rfl rfl rfl ?_
   refine WO.val (run_pickT rfl (decide_eq_true g47) rfl) rfl rfl rfl ?_
   refine WO.val (run_assign rfl) rfl rfl rfl ?_
   refine WO.nil ?_
   refine NX.go ?_
   refine WP.ret ?_
   refine NX.done (l := [.tmp 2]) rfl rfl ?_
   exact ⟨congrArg Value.bool (decide_eq_decide.2 ⟨fun h => ⟨List.length_pos_iff.1 (by omega), by omega, all_of hok (by omega)⟩, fun h => by have := h.2.1; omega⟩), hS1⟩
  ·
   refine WO.off rfl rfl (decide_eq_false g47) rfl ?_
   refine WO.off rfl rfl (decide_eq_false g47) rfl ?_
   refine WO.off rfl rfl (decide_eq_false g47) rfl ?_
   refine WO.val (run_pickF rfl (decide_eq_false g47) rfl) rfl rfl rfl ?_
   refine WO.val (run_assign rfl) rfl rfl rfl ?_
   refine WO.nil ?_
   refine NX.go ?_
   refine WP.ret ?_
   refine NX.done (l := [.tmp 2]) rfl rfl ?_
   exact ⟨congrArg Value.bool (decide_eq_false (fun h => absurd (List.length_pos_iff.2 h.1) (by omega))).symm, hS1⟩
theorem rcheckM_spec {B w : World} {L : List HP} {X : HP} {a : Option Addr} {cap : Nat} {m : Man} (hX : ∀ {L : List HP} {w : World}, St B (X :: L) w → Rd w a m.bl.length 1 (m.bl.map str)) (hr : RngM m) (hS : St B (X :: L) w) : Does Tryz.prog 15 [Value.agg #[Value.int .i64 m.e, Value.int .i64 m.b, Value.int .i64 m.p, Value.int .i64 m.k, Value.int .i64 m.c, Value.slice a m.bl.length cap]] w (fun v w1 => v = .int .i64 (checkM m) ∧ St B (X :: L) w1) := by
 refine enter (n := 57) Tryz.func15 rfl rfl [Value.agg #[Value.int .i64 m.e, Value.int .i64 m.b, Value.int .i64 m.p, Value.int .i64 m.k, Value.int .i64 m.c, Value.slice a m.bl.length cap]] rfl ?_
 refine WP.seq ?_
 refine WP.region rfl ?_
 refine WO.box (l := [Value.int .i64 m.e, Value.int .i64 m.b, Value.int .i64 m.p, Value.int .i64 m.k, Value.int .i64 m.c, Value.slice a m.bl.length cap]) hS rfl rfl rfl (fun g2 w1 lg2 hS1 => ?_)
 clear hS
 refine WO.val (run_assign rfl) rfl rfl rfl ?_
 refine WO.nil ?_
 refine NX.go ?_
 refine WP.seq ?_
 refine WP.block ?_
 refine WP.seq ?_
 refine WP.region rfl ?_
 refine WO.val (run_fieldAddr (q := ⟨g2, 0, none⟩) (show fieldB Tryz.prog 24 0 = some 0 from by kernel_rfl) rfl rfl) rfl rfl rfl ?_
 refine WO.val (run_load Ty.ag3 rfl ((hS1.cel_at 0 rfl 0).trans rfl)) rfl rfl rfl ?_
 refine WO.call rfl rfl Ty.hd43 rfl (rin_spec m.e hS1) (fun v4 w3 pv4 => ?_)
 obtain ⟨rfl, hS3⟩ := pv4
 clear hS1
 refine WO.val (run_notP rfl) rfl rfl rfl ?_
 refine WO.val (run_move rfl) rfl rfl rfl ?_
 by_cases g9 : ¬ (inM m.e)
 ·
  refine WO.off rfl rfl (decide_eq_true g9) rfl ?_
  refine WO.off rfl rfl (decide_eq_true g9) rfl ?_
  refine WO.off rfl rfl (decide_eq_true g9) rfl ?_
  refine WO.off rfl rfl (decide_eq_true g9) rfl ?_
  refine WO.val (run_pickT rfl (decide_eq_true g9) rfl) rfl rfl rfl ?_
  refine WO.val (run_move rfl) rfl rfl rfl ?_
  refine WO.off rfl rfl rfl rfl ?_
  refine WO.off rfl rfl rfl rfl ?_
  refine WO.off rfl rfl rfl rfl ?_
  refine WO.off rfl rfl rfl rfl ?_
  refine WO.val (run_pickT rfl rfl rfl) rfl rfl rfl ?_
  refine WO.val (run_move rfl) rfl rfl rfl ?_
  refine WO.off rfl rfl rfl rfl ?_
  refine WO.off rfl rfl rfl rfl ?_
  refine WO.off rfl rfl rfl rfl ?_
  refine WO.off rfl rfl rfl rfl ?_
  refine WO.val (run_pickT rfl rfl rfl) rfl rfl rfl ?_
  refine WO.val (run_move rfl) rfl rfl rfl ?_
  refine WO.off rfl rfl rfl rfl ?_
  refine WO.off rfl rfl rfl rfl ?_
  refine WO.off rfl rfl rfl rfl ?_
  refine WO.val (run_pickT rfl rfl rfl) rfl rfl rfl ?_
  refine WO.val (run_assign rfl) rfl rfl rfl ?_
  refine WO.nil ?_
  refine NX.go ?_
  refine WP.condT rfl rfl ?_
  refine WP.seq ?_
  refine WP.region rfl ?_
  refine WO.val (run_assign rfl) rfl rfl rfl ?_
  refine WO.nil ?_
  refine NX.go ?_
  refine WP.ret ?_
  refine NX.blkRet ?_
  refine NX.thenRet ?_
  refine NX.done (l := [.tmp 2]) rfl rfl ?_
  exact ⟨congrArg (Value.int .i64) (by rw [checkM, if_pos (fun h => by obtain ⟨i1, i2, i3, i4, i5⟩ := h; first | contradiction | omega)]), hS3.drop⟩
 ·
  refine WO.on rfl rfl (decide_eq_false g9) ?_
  refine WO.val (run_fieldAddr (q := ⟨g2, 1, none⟩) (show fieldB Tryz.prog 24 1 = some 1 from by kernel_rfl) rfl rfl) rfl rfl rfl ?_
  refine WO.on rfl rfl (decide_eq_false g9) ?_
  refine WO.val (run_load Ty.ag3 rfl ((hS3.cel_at 0 rfl 1).trans rfl)) rfl rfl rfl ?_
  refine WO.on rfl rfl (decide_eq_false g9) ?_
  refine WO.call rfl rfl Ty.hd43 rfl (rin_spec m.b hS3) (fun v6 w5 pv6 => ?_)
  obtain ⟨rfl, hS5⟩ := pv6
  clear hS3
  refine WO.on rfl rfl (decide_eq_false g9) ?_
  refine WO.val (run_notP rfl) rfl rfl rfl ?_
  refine WO.val (run_pickF rfl (decide_eq_false g9) rfl) rfl rfl rfl ?_
  refine WO.val (run_move rfl) rfl rfl rfl ?_
  by_cases g15 : ¬ (inM m.b)
  ·
   refine WO.off rfl rfl (decide_eq_true g15) rfl ?_
   refine WO.off rfl rfl (decide_eq_true g15) rfl ?_
   refine WO.off rfl rfl (decide_eq_true g15) rfl ?_
   refine WO.off rfl rfl (decide_eq_true g15) rfl ?_
   refine WO.val (run_pickT rfl (decide_eq_true g15) rfl) rfl rfl rfl ?_
   refine WO.val (run_move rfl) rfl rfl rfl ?_
   refine WO.off rfl rfl rfl rfl ?_
   refine WO.off rfl rfl rfl rfl ?_
   refine WO.off rfl rfl rfl rfl ?_
   refine WO.off rfl rfl rfl rfl ?_
   refine WO.val (run_pickT rfl rfl rfl) rfl rfl rfl ?_
   refine WO.val (run_move rfl) rfl rfl rfl ?_
   refine WO.off rfl rfl rfl rfl ?_
   refine WO.off rfl rfl rfl rfl ?_
   refine WO.off rfl rfl rfl rfl ?_
   refine WO.val (run_pickT rfl rfl rfl) rfl rfl rfl ?_
   refine WO.val (run_assign rfl) rfl rfl rfl ?_
   refine WO.nil ?_
   refine NX.go ?_
   refine WP.condT rfl rfl ?_
   refine WP.seq ?_
   refine WP.region rfl ?_
   refine WO.val (run_assign rfl) rfl rfl rfl ?_
   refine WO.nil ?_
   refine NX.go ?_
   refine WP.ret ?_
   refine NX.blkRet ?_
   refine NX.thenRet ?_
   refine NX.done (l := [.tmp 2]) rfl rfl ?_
   exact ⟨congrArg (Value.int .i64) (by rw [checkM, if_pos (fun h => by obtain ⟨i1, i2, i3, i4, i5⟩ := h; first | contradiction | omega)]), hS5.drop⟩
  ·
   refine WO.on rfl rfl (decide_eq_false g15) ?_
   refine WO.val (run_fieldAddr (q := ⟨g2, 2, none⟩) (show fieldB Tryz.prog 24 2 = some 2 from by kernel_rfl) rfl rfl) rfl rfl rfl ?_
   refine WO.on rfl rfl (decide_eq_false g15) ?_
   refine WO.val (run_load Ty.ag3 rfl ((hS5.cel_at 0 rfl 2).trans rfl)) rfl rfl rfl ?_
   refine WO.on rfl rfl (decide_eq_false g15) ?_
   refine WO.call rfl rfl Ty.hd43 rfl (rin_spec m.p hS5) (fun v8 w7 pv8 => ?_)
   obtain ⟨rfl, hS7⟩ := pv8
   clear hS5
   refine WO.on rfl rfl (decide_eq_false g15) ?_
   refine WO.val (run_notP rfl) rfl rfl rfl ?_
   refine WO.val (run_pickF rfl (decide_eq_false g15) rfl) rfl rfl rfl ?_
   refine WO.val (run_move rfl) rfl rfl rfl ?_
   by_cases g21 : ¬ (inM m.p)
   ·
    refine WO.off rfl rfl (decide_eq_true g21) rfl ?_
    refine WO.off rfl rfl (decide_eq_true g21) rfl ?_
    refine WO.off rfl rfl (decide_eq_true g21) rfl ?_
    refine WO.off rfl rfl (decide_eq_true g21) rfl ?_
    refine WO.val (run_pickT rfl (decide_eq_true g21) rfl) rfl rfl rfl ?_
    refine WO.val (run_move rfl) rfl rfl rfl ?_
    refine WO.off rfl rfl rfl rfl ?_
    refine WO.off rfl rfl rfl rfl ?_
    refine WO.off rfl rfl rfl rfl ?_
    refine WO.val (run_pickT rfl rfl rfl) rfl rfl rfl ?_
    refine WO.val (run_assign rfl) rfl rfl rfl ?_
    refine WO.nil ?_
    refine NX.go ?_
    refine WP.condT rfl rfl ?_
    refine WP.seq ?_
    refine WP.region rfl ?_
    refine WO.val (run_assign rfl) rfl rfl rfl ?_
    refine WO.nil ?_
    refine NX.go ?_
    refine WP.ret ?_
    refine NX.blkRet ?_
    refine NX.thenRet ?_
    refine NX.done (l := [.tmp 2]) rfl rfl ?_
    exact ⟨congrArg (Value.int .i64) (by rw [checkM, if_pos (fun h => by obtain ⟨i1, i2, i3, i4, i5⟩ := h; first | contradiction | omega)]), hS7.drop⟩
   ·
    refine WO.on rfl rfl (decide_eq_false g21) ?_
    refine WO.val (run_fieldAddr (q := ⟨g2, 4, none⟩) (show fieldB Tryz.prog 24 4 = some 4 from by kernel_rfl) rfl rfl) rfl rfl rfl ?_
    refine WO.on rfl rfl (decide_eq_false g21) ?_
    refine WO.val (run_load Ty.ag3 rfl ((hS7.cel_at 0 rfl 4).trans rfl)) rfl rfl rfl ?_
    refine WO.on rfl rfl (decide_eq_false g21) ?_
    refine WO.call rfl rfl Ty.hd43 rfl (rin_spec m.c hS7) (fun v10 w9 pv10 => ?_)
    obtain ⟨rfl, hS9⟩ := pv10
    clear hS7
    refine WO.on rfl rfl (decide_eq_false g21) ?_
    refine WO.val (run_notP rfl) rfl rfl rfl ?_
    refine WO.val (run_pickF rfl (decide_eq_false g21) rfl) rfl rfl rfl ?_
    refine WO.val (run_move rfl) rfl rfl rfl ?_
    by_cases g27 : ¬ (inM m.c)
    ·
     refine WO.off rfl rfl (decide_eq_true g27) rfl ?_
     refine WO.off rfl rfl (decide_eq_true g27) rfl ?_
     refine WO.off rfl rfl (decide_eq_true g27) rfl ?_
     refine WO.val (run_pickT rfl (decide_eq_true g27) rfl) rfl rfl rfl ?_
     refine WO.val (run_assign rfl) rfl rfl rfl ?_
     refine WO.nil ?_
     refine NX.go ?_
     refine WP.condT rfl rfl ?_
     refine WP.seq ?_
     refine WP.region rfl ?_
     refine WO.val (run_assign rfl) rfl rfl rfl ?_
     refine WO.nil ?_
     refine NX.go ?_
     refine WP.ret ?_
     refine NX.blkRet ?_
     refine NX.thenRet ?_
     refine NX.done (l := [.tmp 2]) rfl rfl ?_
     exact ⟨congrArg (Value.int .i64) (by rw [checkM, if_pos (fun h => by obtain ⟨i1, i2, i3, i4, i5⟩ := h; first | contradiction | omega)]), hS9.drop⟩
    ·
     refine WO.on rfl rfl (decide_eq_false g27) ?_
     refine WO.val (run_fieldAddr (q := ⟨g2, 0, none⟩) (show fieldB Tryz.prog 24 0 = some 0 from by kernel_rfl) rfl rfl) rfl rfl rfl ?_
     refine WO.on rfl rfl (decide_eq_false g27) ?_
     refine WO.val (run_load Ty.ag3 rfl ((hS9.cel_at 0 rfl 0).trans rfl)) rfl rfl rfl ?_
     refine WO.on rfl rfl (decide_eq_false g27) ?_
     refine WO.val (run_eql rfl rfl) rfl rfl rfl ?_
     refine WO.val (run_pickF rfl (decide_eq_false g27) rfl) rfl rfl rfl ?_
     refine WO.val (run_assign rfl) rfl rfl rfl ?_
     refine WO.nil ?_
     refine NX.go ?_
     refine WP.condP rfl (fun g4 => ?_) (fun g4 => ?_)
     ·
      refine WP.seq ?_
      refine WP.region rfl ?_
      refine WO.val (run_assign rfl) rfl rfl rfl ?_
      refine WO.nil ?_
      refine NX.go ?_
      refine WP.ret ?_
      refine NX.blkRet ?_
      refine NX.thenRet ?_
      refine NX.done (l := [.tmp 2]) rfl rfl ?_
      exact ⟨congrArg (Value.int .i64) (by rw [checkM, if_pos (fun h => by obtain ⟨i1, i2, i3, i4, i5⟩ := h; first | contradiction | omega)]), hS9.drop⟩
     ·
      refine WP.seq ?_
      have hall : ¬ ¬ (inM m.e ∧ inM m.b ∧ inM m.p ∧ inM m.c ∧ ¬ m.e = 0) := fun h => h ⟨Decidable.of_not_not (by assumption), Decidable.of_not_not (by assumption), Decidable.of_not_not (by assumption), Decidable.of_not_not (by assumption), by assumption⟩
      refine WP.region rfl ?_
      refine WO.val (run_fieldAddr (q := ⟨g2, 2, none⟩) (show fieldB Tryz.prog 24 2 = some 2 from by kernel_rfl) rfl rfl) rfl rfl rfl ?_
      refine WO.val (run_load Ty.ag3 rfl ((hS9.cel_at 0 rfl 2).trans rfl)) rfl rfl rfl ?_
      refine WO.val (run_fieldAddr (q := ⟨g2, 0, none⟩) (show fieldB Tryz.prog 24 0 = some 0 from by kernel_rfl) rfl rfl) rfl rfl rfl ?_
      refine WO.val (run_load Ty.ag3 rfl ((hS9.cel_at 0 rfl 0).trans rfl)) rfl rfl rfl ?_
      refine WO.val (run_lss rfl rfl) rfl rfl rfl ?_
      refine WO.val (run_assign rfl) rfl rfl rfl ?_
      refine WO.nil ?_
      refine NX.go ?_
      refine WP.condP rfl (fun g32 => ?_) (fun g32 => ?_)
      ·
       refine WP.seq ?_
       refine WP.region rfl ?_
       refine WO.val (run_assign rfl) rfl rfl rfl ?_
       refine WO.nil ?_
       refine NX.go ?_
       refine WP.ret ?_
       refine NX.blkRet ?_
       refine NX.thenRet ?_
       refine NX.done (l := [.tmp 2]) rfl rfl ?_
       exact ⟨congrArg (Value.int .i64) (by rw [checkM, if_neg hall, if_pos (by omega)]), hS9.drop⟩
      ·
       refine WP.seq ?_
       refine WP.region rfl ?_
       refine WO.val (run_fieldAddr (q := ⟨g2, 5, none⟩) (show fieldB Tryz.prog 24 5 = some 5 from by kernel_rfl) rfl rfl) rfl rfl rfl ?_
       refine WO.val (run_load Ty.ag22 rfl ((hS9.cel_at 0 rfl 5).trans rfl)) rfl rfl rfl ?_
       refine WO.val (run_len rfl Tryz.underlying22 rfl) rfl rfl rfl ?_
       refine WO.val (run_gtr rfl rfl) rfl rfl rfl ?_
       refine WO.val (run_assign rfl) rfl rfl rfl ?_
       refine WO.nil ?_
       refine NX.go ?_
       refine WP.condP rfl (fun g38 => ?_) (fun g38 => ?_)
       ·
        refine WP.seq ?_
        refine WP.region rfl ?_
        refine WO.val (run_assign rfl) rfl rfl rfl ?_
        refine WO.nil ?_
        refine NX.go ?_
        refine WP.ret ?_
        refine NX.blkRet ?_
        refine NX.thenRet ?_
        refine NX.done (l := [.tmp 2]) rfl rfl ?_
        exact ⟨congrArg (Value.int .i64) (by rw [checkM, if_neg hall, if_neg (by omega), if_pos (by omega)]), hS9.drop⟩
       ·
        refine WP.skip ?_
        refine NX.blk ?_
        refine NX.go ?_
        refine WP.seq ?_
        refine WP.seq ?_
        have hn := hr.n
        refine WP.region rfl ?_
        refine WO.val (run_assign rfl) rfl rfl rfl ?_
        refine WO.nil ?_
        refine NX.go ?_
        refine WP.block ?_
        refine WP.loop (α := Nat) (fun x => match x with | i => [(1, Value.pointer (some ⟨g2, 0, none⟩)), (3, Value.int .i64 (i : Int))]) (fun x w => match x with | i => (i ≤ m.bl.length ∧ (m.bl.take i).all fileF = true) ∧ St B (cel g2 [Value.int .i64 m.e, Value.int .i64 m.b, Value.int .i64 m.p, Value.int .i64 m.k, Value.int .i64 m.c, Value.slice a m.bl.length cap] 24 :: X :: L) w) (fun x => match x with | i => m.bl.length - i) 0 ⟨⟨Nat.zero_le _, rfl⟩, hS9⟩ (Sub.cons rfl (Sub.consE rfl (by first | rfl | first | rfl | (congr 1; omega) | (simp; done) | (simp; omega)) (Sub.nil _))) ?_
        rintro i w11 ⟨⟨hi, hok⟩, hS11⟩
        clear hS9
        refine WP.seq ?_
        refine WP.seq ?_
        refine WP.region rfl ?_
        refine WO.val (run_move rfl) rfl rfl rfl ?_
        refine WO.val (run_fieldAddr (q := ⟨g2, 5, none⟩) (show fieldB Tryz.prog 24 5 = some 5 from by kernel_rfl) rfl rfl) rfl rfl rfl ?_
        refine WO.val (run_load Ty.ag22 rfl ((hS11.cel_at 0 rfl 5).trans rfl)) rfl rfl rfl ?_
        refine WO.val (run_len rfl Tryz.underlying22 rfl) rfl rfl rfl ?_
        refine WO.val (run_lss rfl rfl) rfl rfl rfl ?_
        refine WO.nil ?_
        refine NX.go ?_
        refine WP.condP rfl (fun g47 => ?_) (fun g47 => ?_)
        ·
         refine WP.skip ?_
         refine NX.go ?_
         refine WP.seq ?_
         refine WP.block ?_
         refine WP.seq ?_
         refine WP.region rfl ?_
         refine WO.val (run_fieldAddr (q := ⟨g2, 5, none⟩) (show fieldB Tryz.prog 24 5 = some 5 from by kernel_rfl) rfl rfl) rfl rfl rfl ?_
         refine WO.val (run_load Ty.ag22 rfl ((hS11.cel_at 0 rfl 5).trans rfl)) rfl rfl rfl ?_
         refine WO.val (run_move rfl) rfl rfl rfl ?_
         obtain ⟨t, ht⟩ : ∃ t, m.bl[i]? = some t := ⟨_, List.getElem?_eq_getElem (by omega)⟩
         refine WO.val (run_indexAddr (q := adr a i) Tryz.underlying22 Ty.sz9 rfl rfl (by omega) (by omega) ((hX (hS11.focus 1 rfl)).2.1 (by omega)) (by simp)) rfl rfl rfl ?_
         refine WO.val (run_load Ty.ag9 rfl ((hX (hS11.focus 1 rfl)).cell (str_at ht))) rfl rfl rfl ?_
         refine WO.call rfl rfl Ty.hd44 rfl (rfile_spec t (by have := hr.t t (List.mem_of_getElem? ht); omega) hS11) (fun v13 w12 pv13 => ?_)
         obtain ⟨rfl, hS12⟩ := pv13
         clear hS11
         refine WO.val (run_not rfl rfl) rfl rfl rfl ?_
         refine WO.nil ?_
         refine NX.go ?_
         refine WP.condB rfl (fun g56 => ?_) (fun g56 => ?_)
         ·
          refine WP.seq ?_
          refine WP.region rfl ?_
          refine WO.val (run_assign rfl) rfl rfl rfl ?_
          refine WO.nil ?_
          refine NX.go ?_
          refine WP.ret ?_
          refine NX.blkRet ?_
          refine NX.thenRet ?_
          refine NX.thenRet ?_
          refine NX.blkRet ?_
          refine NX.thenRet ?_
          refine NX.done (l := [.tmp 2]) rfl rfl ?_
          exact ⟨congrArg (Value.int .i64) (by rw [checkM, if_neg hall, if_neg (by omega), if_neg (by omega), if_neg (all_not ht (by simpa using g56))]), hS12.drop⟩
         ·
          refine WP.skip ?_
          refine NX.blk ?_
          refine NX.go ?_
          refine WP.region rfl ?_
          refine WO.val (run_move rfl) rfl rfl rfl ?_
          refine WO.val (run_add rfl rfl (IntWalk.i64_in _ (by omega))) rfl rfl rfl ?_
          refine WO.val (run_assign rfl) rfl rfl rfl ?_
          refine WO.nil ?_
          exact NX.again (i + 1) ⟨⟨by omega, all_next hok ht (by simpa using g56)⟩, hS12⟩ (by show m.bl.length - (i + 1) < m.bl.length - i; omega) (Sub.cons rfl (Sub.consE rfl (by congr 1) (Sub.nil _)))
        ·
         refine WP.exit ?_
         refine NX.thenExit ?_
         refine NX.thenExit ?_
         refine NX.blkExit ?_
         refine NX.go ?_
         refine WP.seq ?_
         refine WP.region rfl ?_
         refine WO.val (run_assign rfl) rfl rfl rfl ?_
         refine WO.nil ?_
         refine NX.go ?_
         refine WP.ret ?_
         refine NX.done (l := [.tmp 2]) rfl rfl ?_
         exact ⟨congrArg (Value.int .i64) (by rw [checkM, if_neg hall, if_neg (by omega), if_neg (by omega), if_pos (by rw [List.take_of_length_le (by omega)] at hok; exact hok)]), hS11.drop⟩
end Go.Proofs.YtcehlnpbdffdhaaGreatDoor.SL
