/- Numbers at the front: the reference. -/
import Derived.Test.YtcehlnpbdffdhaaDoorKr2
namespace Go.Proofs.YtcehlnpbdffdhaaDoor.SL
open Go.RowKit Go.Proofs.YtcehlnpbdffdhaaDoor
open Go.Proofs.YtcehlnpbdffdhaaDoorW.PrintLast (rtab opsOf)
set_option linter.unusedVariables false
set_option linter.unusedSimpArgs false
theorem rgetNum_spec {B w : World} {L : List HP} (s : List UInt8) (hs : s.length ≤ 140737488355328) (hS : St B L w) : Does Tryd.prog 91 [str s] w (fun v w1 => v = .tuple #[.int .u64 ((getNum s).1 : Int), .int .i64 ((getNum s).2.1 : Int), .int .i64 (getNum s).2.2] ∧ St B L w1) := by
 refine enter (n := 44) Tryd.func91 rfl rfl [str s] rfl ?_
 refine WP.seq ?_
 refine WP.region rfl ?_
 refine WO.val (run_assign rfl) rfl rfl rfl ?_
 refine WO.val (run_assign rfl) rfl rfl rfl ?_
 refine WO.val (run_assign rfl) rfl rfl rfl ?_
 refine WO.nil ?_
 refine NX.go ?_
 refine WP.seq ?_
 refine WP.seq ?_
 refine WP.region rfl ?_
 refine WO.val (run_move rfl) rfl rfl rfl ?_
 refine WO.val (run_eqlS rfl rfl) rfl rfl rfl ?_
 refine WO.nil ?_
 refine NX.go ?_
 refine WP.condP rfl (fun g9 => ?_) (fun g9 => ?_)
 ·
  refine WP.seq ?_
  refine WP.region rfl ?_
  refine WO.val (run_assign rfl) rfl rfl rfl ?_
  refine WO.val (run_assign rfl) rfl rfl rfl ?_
  refine WO.val (run_assign rfl) rfl rfl rfl ?_
  refine WO.nil ?_
  refine NX.go ?_
  refine WP.ret ?_
  refine NX.thenRet ?_
  refine NX.done (l := [.tmp 2, .tmp 3, .tmp 4]) rfl rfl ?_
  exact ⟨by rw [show s = [] from g9]; rfl, hS⟩
 ·
  obtain ⟨c, rest, hs0⟩ : ∃ c rest, s = c :: rest := by cases s with | nil => exact absurd rfl g9 | cons c r => exact ⟨c, r, rfl⟩
  have hcl := UInt8.toNat_lt c
  have hl0 : s.length = rest.length + 1 := by rw [hs0]; rfl
  refine WP.skip ?_
  refine NX.go ?_
  refine WP.seq ?_
  refine WP.region rfl ?_
  refine WO.val (run_move rfl) rfl rfl rfl ?_
  refine WO.val (run_indexS Tryd.underlying9 rfl rfl (by omega) (by rw [hs0]; rfl)) rfl rfl rfl ?_
  refine WO.val (run_convI Tryd.underlying3 (by kernel_rfl) rfl (IntWalk.i64_in _ (by omega))) rfl rfl rfl ?_
  refine WO.val (run_assign rfl) rfl rfl rfl ?_
  refine WO.nil ?_
  refine NX.go ?_
  refine WP.seq ?_
  refine WP.meet (α := Unit) (fun x => match x with | _ => [(0, str s), (5, Value.int .i64 (c.toNat : Int))]) (fun x w => match x with | _ => (¬ 8 < c.toNat ∧ ¬ rest.length < c.toNat ∧ ¬ (0 < c.toNat ∧ rest.head? = some 0)) ∧ St B (L) w) ?_ (fun K1 => ?_)
  ·
   rintro _ w2 ⟨⟨h8, hl8, hz8⟩, hS2⟩
   clear hS
   refine NX.go ?_
   refine WP.seq ?_
   refine WP.region rfl ?_
   refine WO.val (run_assign rfl) rfl rfl rfl ?_
   refine WO.nil ?_
   refine NX.go ?_
   refine WP.seq ?_
   refine WP.seq ?_
   refine WP.region rfl ?_
   refine WO.val (run_assign rfl) rfl rfl rfl ?_
   refine WO.nil ?_
   refine NX.go ?_
   refine WP.block ?_
   refine WP.loop (α := Nat) (fun x => match x with | k => [(0, str s), (5, Value.int .i64 (c.toNat : Int)), (6, Value.int .u64 ((beN (rest.take k) : Nat) : Int)), (7, Value.int .i64 ((k : Int) + 1))]) (fun x w => match x with | k => (k ≤ c.toNat) ∧ St B (L) w) (fun x => match x with | k => c.toNat - k) 0 ⟨Nat.zero_le _, hS2⟩ (Sub.cons rfl (Sub.cons rfl (Sub.consE rfl (by first | rfl | first | rfl | (congr 1; omega) | (simp; done) | (simp; omega)) (Sub.consE rfl (by first | rfl | first | rfl | (congr 1; omega) | (simp; done) | (simp; omega)) (Sub.nil _))))) ?_
   rintro k w3 ⟨hk, hS3⟩
   clear hS2
   refine WP.seq ?_
   refine WP.seq ?_
   refine WP.region rfl ?_
   refine WO.val (run_move rfl) rfl rfl rfl ?_
   refine WO.val (run_move rfl) rfl rfl rfl ?_
   refine WO.val (run_leq rfl rfl) rfl rfl rfl ?_
   refine WO.nil ?_
   refine NX.go ?_
   refine WP.condP rfl (fun g31 => ?_) (fun g31 => ?_)
   ·
    refine WP.skip ?_
    refine NX.go ?_
    refine WP.seq ?_
    refine WP.block ?_
    obtain ⟨b, hb⟩ : ∃ b, rest[k]? = some b := ⟨_, List.getElem?_eq_getElem (by omega)⟩
    have hbl := UInt8.toNat_lt b
    have hnl := beN_lt 7 (rest.take k) (by rw [List.length_take]; omega)
    refine WP.region rfl ?_
    refine WO.val (run_move rfl) rfl rfl rfl ?_
    refine WO.val (run_mul rfl rfl (IntWalk.u64_in _ (by omega))) rfl rfl rfl ?_
    refine WO.val (run_move rfl) rfl rfl rfl ?_
    refine WO.val (run_move rfl) rfl rfl rfl ?_
    refine WO.val (run_indexS Tryd.underlying9 rfl rfl (by omega) (by rw [hs0, show ((k : Int) + 1).toNat = k + 1 by omega]; exact hb)) rfl rfl rfl ?_
    refine WO.val (run_convI Tryd.underlying44 (by kernel_rfl) rfl (IntWalk.u64_in _ (by omega))) rfl rfl rfl ?_
    refine WO.val (run_add rfl rfl (IntWalk.u64_in _ (by omega))) rfl rfl rfl ?_
    refine WO.val (run_assign rfl) rfl rfl rfl ?_
    refine WO.nil ?_
    refine NX.blk ?_
    refine NX.go ?_
    refine WP.region rfl ?_
    refine WO.val (run_move rfl) rfl rfl rfl ?_
    refine WO.val (run_add rfl rfl (IntWalk.i64_in _ (by omega))) rfl rfl rfl ?_
    refine WO.val (run_assign rfl) rfl rfl rfl ?_
    refine WO.nil ?_
    exact NX.again (k + 1) ⟨by omega, hS3⟩ (by show c.toNat - (k + 1) < c.toNat - k; omega) (Sub.cons rfl (Sub.cons rfl (Sub.consE rfl (by rw [List.take_add_one, hb, Option.toList_some, beN_snoc]; congr 1; omega) (Sub.consE rfl (by simp) (Sub.nil _)))))
   ·
    refine WP.exit ?_
    refine NX.thenExit ?_
    refine NX.thenExit ?_
    refine NX.blkExit ?_
    refine NX.go ?_
    refine WP.seq ?_
    refine WP.region rfl ?_
    refine WO.val (run_move rfl) rfl rfl rfl ?_
    refine WO.val (run_move rfl) rfl rfl rfl ?_
    refine WO.val (run_add rfl rfl (IntWalk.i64_in _ (by omega))) rfl rfl rfl ?_
    refine WO.val (run_assign rfl) rfl rfl rfl ?_
    refine WO.val (run_assign rfl) rfl rfl rfl ?_
    refine WO.val (run_assign rfl) rfl rfl rfl ?_
    refine WO.nil ?_
    refine NX.go ?_
    refine WP.ret ?_
    refine NX.done (l := [.tmp 2, .tmp 3, .tmp 4]) rfl rfl ?_
    exact ⟨by rw [hs0, getNum, if_neg h8, if_neg hl8, if_neg hz8, show beN (rest.take k) = beN (rest.take c.toNat) by rw [show k = c.toNat by omega]]; simp only [Int.natCast_add, Int.add_comm]; rfl, hS3⟩
  ·
   refine WP.block ?_
   refine WP.seq ?_
   refine WP.region rfl ?_
   refine WO.val (run_move rfl) rfl rfl rfl ?_
   refine WO.val (run_gtr rfl rfl) rfl rfl rfl ?_
   refine WO.val (run_assign rfl) rfl rfl rfl ?_
   refine WO.nil ?_
   refine NX.go ?_
   refine WP.condP rfl (fun g13 => ?_) (fun g13 => ?_)
   ·
    refine WP.seq ?_
    refine WP.region rfl ?_
    refine WO.val (run_assign rfl) rfl rfl rfl ?_
    refine WO.val (run_assign rfl) rfl rfl rfl ?_
    refine WO.val (run_assign rfl) rfl rfl rfl ?_
    refine WO.nil ?_
    refine NX.go ?_
    refine WP.ret ?_
    refine NX.blkRet ?_
    refine NX.thenRet ?_
    refine NX.done (l := [.tmp 2, .tmp 3, .tmp 4]) rfl rfl ?_
    exact ⟨by rw [hs0, getNum, if_pos (by omega)]; rfl, hS⟩
   ·
    refine WP.seq ?_
    refine WP.region rfl ?_
    refine WO.val (run_move rfl) rfl rfl rfl ?_
    refine WO.val (run_lenS rfl Tryd.underlying9 rfl) rfl rfl rfl ?_
    refine WO.val (run_move rfl) rfl rfl rfl ?_
    refine WO.val (run_leq rfl rfl) rfl rfl rfl ?_
    refine WO.val (run_assign rfl) rfl rfl rfl ?_
    refine WO.nil ?_
    refine NX.go ?_
    refine WP.condP rfl (fun g16 => ?_) (fun g16 => ?_)
    ·
     refine WP.seq ?_
     refine WP.region rfl ?_
     refine WO.val (run_assign rfl) rfl rfl rfl ?_
     refine WO.val (run_assign rfl) rfl rfl rfl ?_
     refine WO.val (run_assign rfl) rfl rfl rfl ?_
     refine WO.nil ?_
     refine NX.go ?_
     refine WP.ret ?_
     refine NX.blkRet ?_
     refine NX.thenRet ?_
     refine NX.done (l := [.tmp 2, .tmp 3, .tmp 4]) rfl rfl ?_
     exact ⟨by rw [hs0, getNum, if_neg (by omega), if_pos (by omega)]; rfl, hS⟩
    ·
     refine WP.seq ?_
     refine WP.region rfl ?_
     refine WO.val (run_move rfl) rfl rfl rfl ?_
     refine WO.val (run_gtr rfl rfl) rfl rfl rfl ?_
     refine WO.val (run_move rfl) rfl rfl rfl ?_
     by_cases g24 : 0 < (c.toNat : Int)
     ·
      refine WO.on rfl rfl (decide_eq_true g24) ?_
      refine WO.val (run_move rfl) rfl rfl rfl ?_
      refine WO.on rfl rfl (decide_eq_true g24) ?_
      obtain ⟨d, hd0⟩ : ∃ d, rest.head? = some d := by cases rest with | nil => (exfalso; rw [hs0] at g16; simp at g16 <;> omega) | cons d r => exact ⟨d, rfl⟩
      refine WO.val (run_indexS Tryd.underlying9 rfl rfl (by omega) (by rw [hs0]; exact (List.head?_eq_getElem? (l := rest)).symm.trans hd0)) rfl rfl rfl ?_
      refine WO.on rfl rfl (decide_eq_true g24) ?_
      refine WO.val (run_eql rfl rfl) rfl rfl rfl ?_
      refine WO.val (run_pickT rfl (decide_eq_true g24) rfl) rfl rfl rfl ?_
      refine WO.val (run_assign rfl) rfl rfl rfl ?_
      refine WO.nil ?_
      refine NX.go ?_
      refine WP.condP rfl (fun g21 => ?_) (fun g21 => ?_)
      ·
       refine WP.seq ?_
       refine WP.region rfl ?_
       refine WO.val (run_assign rfl) rfl rfl rfl ?_
       refine WO.val (run_assign rfl) rfl rfl rfl ?_
       refine WO.val (run_assign rfl) rfl rfl rfl ?_
       refine WO.nil ?_
       refine NX.go ?_
       refine WP.ret ?_
       refine NX.blkRet ?_
       refine NX.thenRet ?_
       refine NX.done (l := [.tmp 2, .tmp 3, .tmp 4]) rfl rfl ?_
       exact ⟨by rw [hs0, getNum, if_neg (by omega), if_neg (by omega), if_pos ⟨by omega, by rw [hd0]; exact congrArg some ((u8z d).1 g21)⟩]; rfl, hS⟩
      ·
       refine WP.skip ?_
       refine NX.blk ?_
       exact K1 () _ _ ⟨⟨by omega, by omega, fun h => by rw [hd0] at h; exact g21 ((u8z d).2 (Option.some.inj h.2))⟩, hS⟩ (Sub.cons rfl (Sub.cons rfl (Sub.nil _)))
     ·
      refine WO.off rfl rfl (decide_eq_false g24) rfl ?_
      refine WO.off rfl rfl (decide_eq_false g24) rfl ?_
      refine WO.off rfl rfl (decide_eq_false g24) rfl ?_
      refine WO.val (run_pickF rfl (decide_eq_false g24) rfl) rfl rfl rfl ?_
      refine WO.val (run_assign rfl) rfl rfl rfl ?_
      refine WO.nil ?_
      refine NX.go ?_
      refine WP.condF rfl rfl ?_
      refine WP.skip ?_
      refine NX.blk ?_
      exact K1 () _ _ ⟨⟨by omega, by omega, fun h => absurd h.1 (by omega)⟩, hS⟩ (Sub.cons rfl (Sub.cons rfl (Sub.nil _)))
end Go.Proofs.YtcehlnpbdffdhaaDoor.SL
