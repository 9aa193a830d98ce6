/- Texts and numbers as bytes. -/
import Derived.Test.YtcehlnpbdffdhaaDoorKd
import Derived.Laws.BitsAllLaws
namespace Go.Proofs.YtcehlnpbdffdhaaDoor.SL
open Go.RowKit Go.Proofs.YtcehlnpbdffdhaaDoor
open Go.Proofs.YtcehlnpbdffdhaaDoorW.PrintLast (rtab opsOf)
set_option linter.unusedVariables false
set_option linter.unusedSimpArgs false

theorem numB_len {n : Nat} (h : n < 18446744073709551616) : (numB n).length ≤ 9 := by
  have := beB_len 8 n (by simpa using h)
  unfold numB; simp; omega
def textB (s : List UInt8) : List UInt8 := numB s.length ++ s
/-- The number that bytes are, the highest first. -/
def beN (l : List UInt8) : Nat := l.foldl (fun n b => n * 256 + b.toNat) 0
theorem beN_snoc (l : List UInt8) (b : UInt8) : beN (l ++ [b]) = beN l * 256 + b.toNat := by unfold beN; rw [List.foldl_append]; rfl
theorem beN_lt : ∀ (k : Nat) (l : List UInt8), l.length ≤ k → beN l < 256 ^ k
  | 0, l, h => by have : l = [] := List.length_eq_zero_iff.1 (by omega); subst this; decide
  | k + 1, l, h => by
    rcases List.eq_nil_or_concat l with e | ⟨z, c, e⟩
    · subst e; exact Nat.pos_of_ne_zero (by simp)
    · rw [e, List.concat_eq_append, beN_snoc, Nat.pow_succ]
      have := beN_lt k z (by rw [e, List.concat_eq_append, List.length_append] at h; simpa using h)
      have := UInt8.toNat_lt c
      omega
def getNum (s : List UInt8) : Nat × Nat × Int := match s with
  | [] => (0, 0, 1)
  | c :: rest => if 8 < c.toNat then (0, 0, 2) else if rest.length < c.toNat then (0, 0, 1) else if 0 < c.toNat ∧ rest.head? = some 0 then (0, 0, 3) else (beN (rest.take c.toNat), 1 + c.toNat, 0)
theorem or_be {n : Nat} {b : UInt8} (h : n < 72057594037927936) : bits .or .u64 ((n * 256 : Nat) : Int) (b.toNat : Int) = ((n * 256 + b.toNat : Nat) : Int) := by
  have hb := UInt8.toNat_lt b
  rw [u64_or_nat _ _ (by omega) (by omega)]
  congr 1
  have := Nat.two_pow_add_eq_or_of_lt (i := 8) (b := b.toNat) (by simpa using hb) n
  rw [Nat.mul_comm]; exact this.symm
theorem text_spec {B w : World} {L : List HP} (s : List UInt8) (hs : s.length ≤ 9223372036854775000) (hS : St B L w) : Does Tryd.prog 42 [str s] w (fun v w1 => v = str (textB s) ∧ St B L w1) := by
 refine enter (n := 9) Tryd.func42 rfl rfl [str s] rfl ?_
 refine WP.seq ?_
 refine WP.region rfl ?_
 refine WO.val (run_assign rfl) rfl rfl rfl ?_
 refine WO.nil ?_
 refine NX.go ?_
 refine WP.seq ?_
 refine WP.region rfl ?_
 refine WO.val (run_move rfl) rfl rfl rfl ?_
 refine WO.val (run_lenS rfl Tryd.underlying9 rfl) rfl rfl rfl ?_
 refine WO.val (run_convI Tryd.underlying44 (by kernel_rfl) rfl (IntWalk.u64_in _ (by omega))) rfl rfl rfl ?_
 refine WO.call rfl rfl Ty.hd40 rfl (num_spec s.length (by omega) hS) (fun v2 w1 pv2 => ?_)
 obtain ⟨rfl, hS1⟩ := pv2
 clear hS
 refine WO.val (run_move rfl) rfl rfl rfl ?_
 refine WO.val (run_cat rfl rfl (by have := numB_len (show s.length < 18446744073709551616 by omega); omega)) rfl rfl rfl ?_
 refine WO.val (run_assign rfl) rfl rfl rfl ?_
 refine WO.nil ?_
 refine NX.go ?_
 refine WP.ret ?_
 refine NX.done (l := [.tmp 2]) rfl rfl ?_
 exact ⟨rfl, hS1⟩

theorem u8z (d : UInt8) : (d.toNat : Int) = 0 ↔ d = 0 := by
  constructor
  · intro h; exact UInt8.toNat_inj.1 (show d.toNat = (0 : UInt8).toNat by simpa using h)
  · rintro rfl; rfl
theorem shl8 {n : Nat} (h : n < 72057594037927936) : IntKind.u64.wrap ((n : Int) * 2 ^ (min (8 : Int).toNat IntKind.u64.bits)) = ((n * 256 : Nat) : Int) := by
  rw [show (min (8 : Int).toNat IntKind.u64.bits) = 8 by decide, IntWalk.u64_in _ (by omega)]
  omega
theorem getNum_spec_t3 : rtab .any (opsOf Tryd.f88 3) = (true, [([], []), ([0], [0]), ([1], [1]), ([], []), ([3], [3]), ([2, 0, 1, 2], [2]), ([4, 5, 0, 1, 2, 3, 4, 5], [4])]) := by kernel_rfl
theorem getNum_spec {B w : World} {L : List HP} (s : List UInt8) (hs : s.length ≤ 140737488355328) (hS : St B L w) : Does Tryd.prog 88 [str s] w (fun v w1 => v = .tuple #[.int .u64 ((getNum s).1 : Int), .int .i64 ((getNum s).2.1 : Int), .int .i64 (getNum s).2.2] ∧ St B L w1) := by
 refine enter (n := 51) Tryd.func88 rfl rfl [str s] rfl ?_
 refine WP.seq ?_
 refine WP.region rfl ?_
 refine WO.val (run_assign rfl) rfl rfl rfl ?_
 refine WO.val (run_assign rfl) rfl rfl rfl ?_
 refine WO.val (run_assign rfl) rfl rfl rfl ?_
 refine WO.nil ?_
 refine NX.go ?_
 refine WP.seq ?_
 refine WP.seq ?_
 refine WP.region rfl ?_
 refine WO.val (run_move rfl) rfl rfl rfl ?_
 refine WO.val (run_eqlS rfl rfl) rfl rfl rfl ?_
 refine WO.nil ?_
 refine NX.go ?_
 refine WP.condP rfl (fun g11 => ?_) (fun g11 => ?_)
 ·
  refine WP.seq ?_
  refine WP.region rfl ?_
  refine WO.val (run_assign rfl) rfl rfl rfl ?_
  refine WO.val (run_assign rfl) rfl rfl rfl ?_
  refine WO.val (run_assign rfl) rfl rfl rfl ?_
  refine WO.nil ?_
  refine NX.go ?_
  refine WP.ret ?_
  refine NX.thenRet ?_
  refine NX.done (l := [.tmp 2, .tmp 3, .tmp 4]) rfl rfl ?_
  exact ⟨by rw [show s = [] from g11]; rfl, hS⟩
 ·
  obtain ⟨c, rest, hs0⟩ : ∃ c rest, s = c :: rest := by cases s with | nil => exact absurd rfl g11 | cons c r => exact ⟨c, r, rfl⟩
  have hcl := UInt8.toNat_lt c
  refine WP.skip ?_
  refine NX.go ?_
  refine WP.seq ?_
  refine WD.start (fun w => True) [] #[false, false, false, false, false, false, false] Ty.mo rfl (by kernel_rfl) hS (fun _ h => trivial) (fun w1 hS1 s2 => ?_)
  clear hS
  refine WD.pure (i := 0) getNum_spec_t3 #[true, false, false, false, false, false, false] rfl rfl rfl (by kernel_rfl) (PQ.then PQ.body) rfl (fun w => run_move rfl) ?_
  refine WD.pure (i := 1) getNum_spec_t3 #[true, true, false, false, false, false, false] rfl rfl rfl (by kernel_rfl) (PQ.then PQ.body) rfl (fun w => run_indexS Tryd.underlying9 rfl rfl (by omega) (by rw [hs0]; rfl)) ?_
  refine WD.pure (i := 2) getNum_spec_t3 #[true, true, true, false, false, false, false] rfl rfl rfl (by kernel_rfl) (PQ.then PQ.body) rfl (fun w => run_convI Tryd.underlying3 (by kernel_rfl) rfl (IntWalk.i64_in _ (by omega))) ?_
  refine WD.pure (i := 3) getNum_spec_t3 #[true, true, true, true, false, false, false] rfl rfl rfl (by kernel_rfl) (PQ.then PQ.body) rfl (fun w => run_move rfl) ?_
  refine WD.pure (i := 4) getNum_spec_t3 #[true, true, true, true, true, false, false] rfl rfl rfl (by kernel_rfl) (PQ.then PQ.body) rfl (fun w => run_sliceS (i := 1) (j := s.length) Tryd.underlying9 rfl ⟨_, rfl⟩ rfl (by rw [hs0]; simp) (Nat.le_refl _) (show (s.take s.length).drop 1 = rest by rw [List.take_length, hs0]; rfl)) ?_
  refine WD.pure (i := 5) getNum_spec_t3 #[true, true, true, true, true, true, false] rfl rfl rfl (by kernel_rfl) (PQ.then PQ.body) rfl (fun w => run_assign rfl) ?_
  refine WD.pure (i := 6) getNum_spec_t3 #[true, true, true, true, true, true, true] rfl rfl rfl (by kernel_rfl) (PQ.then PQ.body) rfl (fun w => run_assign rfl) ?_
  refine WD.done getNum_spec_t3 (by kernel_rfl) ?_
  refine NX.go ?_
  refine WP.seq ?_
  refine WP.meet (α := Unit) (fun x => match x with | _ => [(5, Value.int .i64 (c.toNat : Int)), (6, str rest)]) (fun x w => match x with | _ => (¬ 8 < c.toNat ∧ ¬ rest.length < c.toNat ∧ ¬ (0 < c.toNat ∧ rest.head? = some 0)) ∧ St B (L) w) ?_ (fun K3 => ?_)
  ·
   rintro _ w4 ⟨⟨h8, hl8, hz8⟩, hS4⟩
   clear hS1
   refine NX.go ?_
   refine WP.seq ?_
   refine WP.region rfl ?_
   refine WO.val (run_assign rfl) rfl rfl rfl ?_
   refine WO.nil ?_
   refine NX.go ?_
   refine WP.seq ?_
   refine WP.seq ?_
   have htl : (rest.take c.toNat).length = c.toNat := by rw [List.length_take]; omega
   refine WP.region rfl ?_
   refine WO.val (run_move rfl) rfl rfl rfl ?_
   refine WO.val (run_move rfl) rfl rfl rfl ?_
   refine WO.val (run_sliceS (i := 0) (j := c.toNat) Tryd.underlying9 rfl rfl ⟨_, rfl⟩ (Nat.zero_le _) (by omega) (List.drop_zero)) rfl rfl rfl ?_
   refine WO.strToBytes Tryd.underlying52 Tryd.underlying5 Tryd.underlying9 rfl hS4 rfl (fun a6 c7 w5 hS5 => ?_)
   clear hS4
   refine WO.val (run_len rfl Tryd.underlying52 rfl) rfl rfl rfl ?_
   refine WO.val (run_move rfl) rfl rfl rfl ?_
   refine WO.nil ?_
   refine NX.go ?_
   refine WP.block ?_
   refine WP.loop (α := Nat) (fun x => match x with | k => [(5, Value.int .i64 (c.toNat : Int)), (7, Value.int .u64 ((beN (rest.take k) : Nat) : Int)), (36, Value.slice a6 ((rest.take c.toNat).length) c7), (37, Value.int .i64 (((rest.take c.toNat).length : Nat) : Int)), (38, Value.int .i64 (k : Int))]) (fun x w => match x with | k => (k ≤ c.toNat) ∧ St B (own a6 ((rest.take c.toNat).length) c7 5 1 ((rest.take c.toNat).map fun b => Value.int .u8 b.toNat) :: L) w) (fun x => match x with | k => c.toNat - k) 0 ⟨Nat.zero_le _, hS5⟩ (Sub.cons rfl (Sub.consE rfl (by first | rfl | first | rfl | (congr 1; omega) | (simp; done) | (simp; omega)) (Sub.cons rfl (Sub.cons rfl (Sub.consE rfl (by first | rfl | first | rfl | (congr 1; omega) | (simp; done) | (simp; omega)) (Sub.nil _)))))) ?_
   rintro k w8 ⟨hk, hS8⟩
   clear hS5
   refine WP.seq ?_
   refine WP.region rfl ?_
   refine WO.val (run_lss rfl rfl) rfl rfl rfl ?_
   refine WO.nil ?_
   refine NX.go ?_
   refine WP.seq ?_
   refine WP.condP rfl (fun g39 => ?_) (fun g39 => ?_)
   ·
    refine WP.skip ?_
    refine NX.go ?_
    refine WP.seq ?_
    refine WP.block ?_
    refine WP.seq ?_
    obtain ⟨b, hb⟩ : ∃ b, rest[k]? = some b := ⟨_, List.getElem?_eq_getElem (by omega)⟩
    have hbl := UInt8.toNat_lt b
    have hnl := beN_lt 7 (rest.take k) (by rw [List.length_take]; omega)
    refine WP.region rfl ?_
    refine WO.val (run_indexAddr (q := adr a6 k) Tryd.underlying52 Ty.sz5 rfl rfl (by omega) (by omega) ((hS8.own_rd_i 0 rfl).2.1 (by omega)) (by simp)) rfl rfl rfl ?_
    refine WO.val (run_load Ty.ag5 rfl ((hS8.own_rd_i 0 rfl).cell (by rw [List.getElem?_map, List.getElem?_take_of_lt (by omega), hb]; rfl))) rfl rfl rfl ?_
    refine WO.val (run_assign rfl) rfl rfl rfl ?_
    refine WO.nil ?_
    refine NX.go ?_
    refine WP.region rfl ?_
    refine WO.val (run_move rfl) rfl rfl rfl ?_
    refine WO.val (run_shl rfl rfl (by omega) (shl8 (by omega))) rfl rfl rfl ?_
    refine WO.val (run_move rfl) rfl rfl rfl ?_
    refine WO.val (run_convI Tryd.underlying44 (by kernel_rfl) rfl (IntWalk.u64_in _ (by omega))) rfl rfl rfl ?_
    refine WO.val (run_or rfl rfl (or_be (by omega))) rfl rfl rfl ?_
    refine WO.val (run_assign rfl) rfl rfl rfl ?_
    refine WO.nil ?_
    refine NX.blk ?_
    refine NX.go ?_
    refine WP.region rfl ?_
    refine WO.val (run_add rfl rfl (IntWalk.i64_in _ (by omega))) rfl rfl rfl ?_
    refine WO.val (run_move rfl) rfl rfl rfl ?_
    refine WO.nil ?_
    exact NX.again (k + 1) ⟨by omega, hS8⟩ (by show c.toNat - (k + 1) < c.toNat - k; omega) (Sub.cons rfl (Sub.consE rfl (by rw [List.take_add_one, hb, Option.toList_some, beN_snoc]) (Sub.cons rfl (Sub.cons rfl (Sub.consE rfl (by congr 1) (Sub.nil _))))))
   ·
    refine WP.exit ?_
    refine NX.thenExit ?_
    refine NX.thenExit ?_
    refine NX.blkExit ?_
    refine NX.go ?_
    refine WP.seq ?_
    refine WP.region rfl ?_
    refine WO.val (run_move rfl) rfl rfl rfl ?_
    refine WO.val (run_move rfl) rfl rfl rfl ?_
    refine WO.val (run_add rfl rfl (IntWalk.i64_in _ (by omega))) rfl rfl rfl ?_
    refine WO.val (run_assign rfl) rfl rfl rfl ?_
    refine WO.val (run_assign rfl) rfl rfl rfl ?_
    refine WO.val (run_assign rfl) rfl rfl rfl ?_
    refine WO.nil ?_
    refine NX.go ?_
    refine WP.ret ?_
    refine NX.done (l := [.tmp 2, .tmp 3, .tmp 4]) rfl rfl ?_
    exact ⟨by rw [hs0, getNum, if_neg h8, if_neg hl8, if_neg hz8, show beN (rest.take k) = beN (rest.take c.toNat) by rw [show k = c.toNat by omega]]; simp; rfl, hS8.drop⟩
  ·
   refine WP.block ?_
   refine WP.seq ?_
   refine WP.region rfl ?_
   refine WO.val (run_move rfl) rfl rfl rfl ?_
   refine WO.val (run_gtr rfl rfl) rfl rfl rfl ?_
   refine WO.val (run_assign rfl) rfl rfl rfl ?_
   refine WO.nil ?_
   refine NX.go ?_
   refine WP.condP rfl (fun g17 => ?_) (fun g17 => ?_)
   ·
    refine WP.seq ?_
    refine WP.region rfl ?_
    refine WO.val (run_assign rfl) rfl rfl rfl ?_
    refine WO.val (run_assign rfl) rfl rfl rfl ?_
    refine WO.val (run_assign rfl) rfl rfl rfl ?_
    refine WO.nil ?_
    refine NX.go ?_
    refine WP.ret ?_
    refine NX.blkRet ?_
    refine NX.thenRet ?_
    refine NX.done (l := [.tmp 2, .tmp 3, .tmp 4]) rfl rfl ?_
    exact ⟨by rw [hs0, getNum, if_pos (by omega)]; rfl, hS1⟩
   ·
    refine WP.seq ?_
    refine WP.region rfl ?_
    refine WO.val (run_move rfl) rfl rfl rfl ?_
    refine WO.val (run_lenS rfl Tryd.underlying9 rfl) rfl rfl rfl ?_
    refine WO.val (run_move rfl) rfl rfl rfl ?_
    refine WO.val (run_lss rfl rfl) rfl rfl rfl ?_
    refine WO.val (run_assign rfl) rfl rfl rfl ?_
    refine WO.nil ?_
    refine NX.go ?_
    refine WP.condP rfl (fun g20 => ?_) (fun g20 => ?_)
    ·
     refine WP.seq ?_
     refine WP.region rfl ?_
     refine WO.val (run_assign rfl) rfl rfl rfl ?_
     refine WO.val (run_assign rfl) rfl rfl rfl ?_
     refine WO.val (run_assign rfl) rfl rfl rfl ?_
     refine WO.nil ?_
     refine NX.go ?_
     refine WP.ret ?_
     refine NX.blkRet ?_
     refine NX.thenRet ?_
     refine NX.done (l := [.tmp 2, .tmp 3, .tmp 4]) rfl rfl ?_
     exact ⟨by rw [hs0, getNum, if_neg (by omega), if_pos (by omega)]; rfl, hS1⟩
    ·
     refine WP.seq ?_
     refine WP.region rfl ?_
     refine WO.val (run_move rfl) rfl rfl rfl ?_
     refine WO.val (run_gtr rfl rfl) rfl rfl rfl ?_
     refine WO.val (run_move rfl) rfl rfl rfl ?_
     by_cases g28 : 0 < (c.toNat : Int)
     ·
      refine WO.on rfl rfl (decide_eq_true g28) ?_
      refine WO.val (run_move rfl) rfl rfl rfl ?_
      refine WO.on rfl rfl (decide_eq_true g28) ?_
      obtain ⟨d, hd0⟩ : ∃ d, rest.head? = some d := by cases rest with | nil => (exfalso; simp at g20 <;> omega) | cons d r => exact ⟨d, rfl⟩
      refine WO.val (run_indexS Tryd.underlying9 rfl rfl (by omega) ((List.head?_eq_getElem? (l := rest)).symm.trans hd0)) rfl rfl rfl ?_
      refine WO.on rfl rfl (decide_eq_true g28) ?_
      refine WO.val (run_eql rfl rfl) rfl rfl rfl ?_
      refine WO.val (run_pickT rfl (decide_eq_true g28) rfl) rfl rfl rfl ?_
      refine WO.val (run_assign rfl) rfl rfl rfl ?_
      refine WO.nil ?_
      refine NX.go ?_
      refine WP.condP rfl (fun g25 => ?_) (fun g25 => ?_)
      ·
       refine WP.seq ?_
       refine WP.region rfl ?_
       refine WO.val (run_assign rfl) rfl rfl rfl ?_
       refine WO.val (run_assign rfl) rfl rfl rfl ?_
       refine WO.val (run_assign rfl) rfl rfl rfl ?_
       refine WO.nil ?_
       refine NX.go ?_
       refine WP.ret ?_
       refine NX.blkRet ?_
       refine NX.thenRet ?_
       refine NX.done (l := [.tmp 2, .tmp 3, .tmp 4]) rfl rfl ?_
       exact ⟨by rw [hs0, getNum, if_neg (by omega), if_neg (by omega), if_pos ⟨by omega, by rw [hd0]; exact congrArg some ((u8z d).1 g25)⟩]; rfl, hS1⟩
      ·
       refine WP.skip ?_
       refine NX.blk ?_
       exact K3 () _ _ ⟨⟨by omega, by omega, fun h => by rw [hd0] at h; exact g25 ((u8z d).2 (Option.some.inj h.2))⟩, hS1⟩ (Sub.cons rfl (Sub.cons rfl (Sub.nil _)))
     ·
      refine WO.off rfl rfl (decide_eq_false g28) rfl ?_
      refine WO.off rfl rfl (decide_eq_false g28) rfl ?_
      refine WO.off rfl rfl (decide_eq_false g28) rfl ?_
      refine WO.val (run_pickF rfl (decide_eq_false g28) rfl) rfl rfl rfl ?_
      refine WO.val (run_assign rfl) rfl rfl rfl ?_
      refine WO.nil ?_
      refine NX.go ?_
      refine WP.condF rfl rfl ?_
      refine WP.skip ?_
      refine NX.blk ?_
      exact K3 () _ _ ⟨⟨by omega, by omega, fun h => absurd h.1 (by omega)⟩, hS1⟩ (Sub.cons rfl (Sub.cons rfl (Sub.nil _)))
end Go.Proofs.YtcehlnpbdffdhaaDoor.SL
