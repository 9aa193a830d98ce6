/- The reference of a net. -/
import Derived.Test.YtcdbnbdeinhokaaKn2
namespace Go.Proofs.Ytcdbnbdeinhokaa.SL
open Go.RowKit Go.Proofs.Ytcdbnbdeinhokaa
open Go.Proofs.YtcdbnbdeinhokaaW.PrintLast (rtab opsOf)
set_option linter.unusedVariables false
set_option linter.unusedSimpArgs false

theorem ref_snoc {B w : World} {L : List HP} {g : Nat} {a : Option Addr} {cap : Nat} {V : List PV} {gone : Int} {p : PV} (h2 : V.length < 64)
    (h : St B (cel g [.slice a (V.length + 1) cap, .int .i64 gone] 43 :: own a (V.length + 1) cap 55 3 (V.flatMap rcell ++ rcell p) :: L) w) : St B (refP g (V ++ [p]) gone :: L) w := by
  refine refP_shut (a := a) (cap := cap) (by simp; omega) ?_
  have e1 : (V ++ [p]).length = V.length + 1 := by simp
  rw [e1, flat_snoc]; exact h
theorem ref_take {B w : World} {L : List HP} {g i : Nat} {a : Option Addr} {cap : Nat} {V : List PV} {gone : Int} {p q : PV} (h2 : V.length ≤ 64) (hp : V[i]? = some p) (hq : V[V.length - 1]? = some q)
    (h : St B (cel g [.slice a (V.length - 1) cap, .int .i64 gone] 43 :: own a V.length cap 55 3 ((V.set i q).flatMap rcell) :: L) w) : St B (refP g (takeF V i) gone :: L) w := by
  have hil := (List.getElem?_eq_some_iff.1 hp).1
  have hT : takeF V (i : Int) = (V.set i q).dropLast := by
    unfold takeF
    have hlast : V.getLast? = some q := by rw [List.getLast?_eq_getElem?]; exact hq
    rw [if_neg (by omega), Int.toNat_natCast, hp, hlast]
  have h3 := h.own_take_i 1 rfl (m := V.length - 1) (by omega) (l' := ((V.set i q).dropLast).flatMap rcell) (by rw [flat_take rcell_len, List.dropLast_eq_take, List.length_set]) rfl
  rw [hT]
  refine refP_shut (a := a) (cap := cap) (by simp; omega) ?_
  have e1 : ((V.set i q).dropLast).length = V.length - 1 := by simp
  rw [e1]; exact h3
theorem rat_none {B w : World} {L : List HP} {g : Nat} {V : List PV} {gone : Int} (hS : St B (refP g V gone :: L) w) (i : Int) (hi : i < 0 ∨ (V.length : Int) ≤ i) : Does Try.prog 20 [Value.pointer (some ⟨g, 0, none⟩), Value.int .i64 i] w (fun v w1 => v = .tuple #[.int .i64 0, str [], .int .i64 2] ∧ St B (refP g V gone :: L) w1) := by
 obtain ⟨a, cap, hlen, hS⟩ := refP_open hS
 refine enter (n := 34) Try.func20 rfl rfl [Value.pointer (some ⟨g, 0, none⟩), Value.int .i64 i] rfl ?_
 refine WP.seq ?_
 refine WP.region rfl ?_
 refine WO.val (run_assign rfl) rfl rfl rfl ?_
 refine WO.val (run_assign rfl) rfl rfl rfl ?_
 refine WO.val (run_assign rfl) rfl rfl rfl ?_
 refine WO.nil ?_
 refine NX.go ?_
 refine WP.seq ?_
 refine WP.seq ?_
 refine WP.region rfl ?_
 refine WO.val (run_move rfl) rfl rfl rfl ?_
 refine WO.val (run_lss rfl rfl) rfl rfl rfl ?_
 refine WO.val (run_move rfl) rfl rfl rfl ?_
 by_cases g9 : i < 0
 ·
  refine WO.off rfl rfl (decide_eq_true g9) rfl ?_
  refine WO.off rfl rfl (decide_eq_true g9) rfl ?_
  refine WO.off rfl rfl (decide_eq_true g9) rfl ?_
  refine WO.off rfl rfl (decide_eq_true g9) rfl ?_
  refine WO.off rfl rfl (decide_eq_true g9) rfl ?_
  refine WO.off rfl rfl (decide_eq_true g9) rfl ?_
  refine WO.off rfl rfl (decide_eq_true g9) rfl ?_
  refine WO.val (run_pickT rfl (decide_eq_true g9) rfl) rfl rfl rfl ?_
  refine WO.nil ?_
  refine NX.go ?_
  refine WP.condT rfl rfl ?_
  refine WP.seq ?_
  refine WP.region rfl ?_
  refine WO.val (run_assign rfl) rfl rfl rfl ?_
  refine WO.val (run_assign rfl) rfl rfl rfl ?_
  refine WO.val (run_assign rfl) rfl rfl rfl ?_
  refine WO.nil ?_
  refine NX.go ?_
  refine WP.ret ?_
  refine NX.thenRet ?_
  refine NX.done (l := [.tmp 4, .tmp 5, .tmp 6]) rfl rfl ?_
  exact ⟨rfl, refP_shut hlen hS⟩
 ·
  refine WO.on rfl rfl (decide_eq_false g9) ?_
  refine WO.val (run_move rfl) rfl rfl rfl ?_
  refine WO.on rfl rfl (decide_eq_false g9) ?_
  refine WO.val (run_move rfl) rfl rfl rfl ?_
  refine WO.on rfl rfl (decide_eq_false g9) ?_
  refine WO.val (run_nilCheck rfl) rfl rfl rfl ?_
  refine WO.on rfl rfl (decide_eq_false g9) ?_
  refine WO.val (run_fieldAddr (q := ⟨g, 0, none⟩) (show fieldB Try.prog 43 0 = some 0 from by kernel_rfl) rfl rfl) rfl rfl rfl ?_
  refine WO.on rfl rfl (decide_eq_false g9) ?_
  refine WO.val (run_load Ty.ag41 rfl ((hS.cel_at 0 rfl 0).trans rfl)) rfl rfl rfl ?_
  refine WO.on rfl rfl (decide_eq_false g9) ?_
  refine WO.val (run_len rfl Try.underlying41 rfl) rfl rfl rfl ?_
  refine WO.on rfl rfl (decide_eq_false g9) ?_
  refine WO.val (run_geq rfl rfl) rfl rfl rfl ?_
  refine WO.val (run_pickF rfl (decide_eq_false g9) rfl) rfl rfl rfl ?_
  refine WO.nil ?_
  refine NX.go ?_
  refine WP.condP rfl (fun g17 => ?_) (fun g17 => ?_)
  ·
   refine WP.seq ?_
   refine WP.region rfl ?_
   refine WO.val (run_assign rfl) rfl rfl rfl ?_
   refine WO.val (run_assign rfl) rfl rfl rfl ?_
   refine WO.val (run_assign rfl) rfl rfl rfl ?_
   refine WO.nil ?_
   refine NX.go ?_
   refine WP.ret ?_
   refine NX.thenRet ?_
   refine NX.done (l := [.tmp 4, .tmp 5, .tmp 6]) rfl rfl ?_
   exact ⟨rfl, refP_shut hlen hS⟩
  ·
   exfalso; omega
theorem rat_some_t3 : rtab .any (opsOf Try.f20 3) = (true, [([], []), ([0], [0]), ([1], [1]), ([2], [2]), ([], []), ([3, 4], [3, 4]), ([5], [5]), ([6], [6]), ([], []), ([8], [8]), ([9], [9]), ([10], [10]), ([], []), ([11, 12], [11, 12]), ([13], [13]), ([14], [14]), ([7, 0, 1, 2, 3, 4, 5, 6, 7], [7]), ([15, 16, 0, 1, 2, 3, 4, 5, 6, 7, 8, 9, 10, 11, 12, 13, 14, 15, 16], [15]), ([17, 0, 1, 2, 3, 4, 5, 6, 7, 8, 9, 10, 11, 12, 13, 14, 15, 16, 17], [])]) := by kernel_rfl
theorem rat_some {B w : World} {L : List HP} {g : Nat} {V : List PV} {gone : Int} (hS : St B (refP g V gone :: L) w) (i : Nat) (pv : PV) (hpv : V[i]? = some pv) : Does Try.prog 20 [Value.pointer (some ⟨g, 0, none⟩), Value.int .i64 (i : Int)] w (fun v w1 => v = .tuple #[.int .i64 pv.who, str pv.s, .int .i64 0] ∧ St B (refP g V gone :: L) w1) := by
 obtain ⟨a, cap, hlen, hS⟩ := refP_open hS
 have hil := (List.getElem?_eq_some_iff.1 hpv).1
 have hcap := hS.own_le_i 1 rfl
 have hsa := own_isSome hS 1 rfl (by omega)
 refine enter (n := 34) Try.func20 rfl rfl [Value.pointer (some ⟨g, 0, none⟩), Value.int .i64 (i : Int)] rfl ?_
 refine WP.seq ?_
 refine WP.region rfl ?_
 refine WO.val (run_assign rfl) rfl rfl rfl ?_
 refine WO.val (run_assign rfl) rfl rfl rfl ?_
 refine WO.val (run_assign rfl) rfl rfl rfl ?_
 refine WO.nil ?_
 refine NX.go ?_
 refine WP.seq ?_
 refine WP.seq ?_
 refine WP.region rfl ?_
 refine WO.val (run_move rfl) rfl rfl rfl ?_
 refine WO.val (run_lss rfl rfl) rfl rfl rfl ?_
 refine WO.val (run_move rfl) rfl rfl rfl ?_
 by_cases g9 : (i : Int) < 0
 ·
  exfalso; omega
 ·
  refine WO.on rfl rfl (decide_eq_false g9) ?_
  refine WO.val (run_move rfl) rfl rfl rfl ?_
  refine WO.on rfl rfl (decide_eq_false g9) ?_
  refine WO.val (run_move rfl) rfl rfl rfl ?_
  refine WO.on rfl rfl (decide_eq_false g9) ?_
  refine WO.val (run_nilCheck rfl) rfl rfl rfl ?_
  refine WO.on rfl rfl (decide_eq_false g9) ?_
  refine WO.val (run_fieldAddr (q := ⟨g, 0, none⟩) (show fieldB Try.prog 43 0 = some 0 from by kernel_rfl) rfl rfl) rfl rfl rfl ?_
  refine WO.on rfl rfl (decide_eq_false g9) ?_
  refine WO.val (run_load Ty.ag41 rfl ((hS.cel_at 0 rfl 0).trans rfl)) rfl rfl rfl ?_
  refine WO.on rfl rfl (decide_eq_false g9) ?_
  refine WO.val (run_len rfl Try.underlying41 rfl) rfl rfl rfl ?_
  refine WO.on rfl rfl (decide_eq_false g9) ?_
  refine WO.val (run_geq rfl rfl) rfl rfl rfl ?_
  refine WO.val (run_pickF rfl (decide_eq_false g9) rfl) rfl rfl rfl ?_
  refine WO.nil ?_
  refine NX.go ?_
  refine WP.condP rfl (fun g17 => ?_) (fun g17 => ?_)
  ·
   exfalso; omega
  ·
   refine WP.skip ?_
   refine NX.go ?_
   refine WP.seq ?_
   refine WD.start (fun w => (∀ j, World.cell? w ⟨g, j, none⟩ = [Value.slice a V.length cap, Value.int .i64 gone][j]?) ∧ Rd w a V.length 3 (V.flatMap rcell)) [] #[false, false, false, false, false, false, false, false, false, false, false, false, false, false, false, false, false, false, false] Ty.mo rfl (by kernel_rfl) hS (fun _ h => ⟨h.cel_at 0 rfl, h.own_rd_i 1 rfl⟩) (fun w1 hS1 s2 => ?_)
   clear hS
   refine WD.pure (i := 0) rat_some_t3 #[true, false, false, false, false, false, false, false, false, false, false, false, false, false, false, false, false, false, false] rfl rfl rfl (by kernel_rfl) (PQ.then PQ.body) rfl (fun w => run_move rfl) ?_
   refine WD.pure (i := 1) rat_some_t3 #[true, true, false, false, false, false, false, false, false, false, false, false, false, false, false, false, false, false, false] rfl rfl rfl (by kernel_rfl) (PQ.then PQ.body) rfl (fun w => run_nilCheck rfl) ?_
   refine WD.pure (i := 2) rat_some_t3 #[true, true, true, false, false, false, false, false, false, false, false, false, false, false, false, false, false, false, false] rfl rfl rfl (by kernel_rfl) (PQ.then PQ.body) rfl (fun w => run_fieldAddr (q := ⟨g, 0, none⟩) (show fieldB Try.prog 43 0 = some 0 from by kernel_rfl) rfl rfl) ?_
   refine WD.take (i := 3) rat_some_t3 #[true, true, true, true, false, false, false, false, false, false, false, false, false, false, false, false, false, false, false] s2 rfl rfl rfl (by kernel_rfl) (PQ.then PQ.body) rfl (fun w hs => run_load Ty.ag41 rfl ((hs.1 0).trans rfl)) ?_
   refine WD.pure (i := 4) rat_some_t3 #[true, true, true, true, true, false, false, false, false, false, false, false, false, false, false, false, false, false, false] rfl rfl rfl (by kernel_rfl) (PQ.then PQ.body) rfl (fun w => run_move rfl) ?_
   refine WD.take (i := 5) rat_some_t3 #[true, true, true, true, true, true, false, false, false, false, false, false, false, false, false, false, false, false, false] s2 rfl rfl rfl (by kernel_rfl) (PQ.then PQ.body) rfl (fun w hs => run_indexAddr (q := adr a (i * 3)) Try.underlying41 Ty.sz55 rfl rfl (by omega) (by omega) ((hs.2).2.1 (by omega)) rfl) ?_
   refine WD.pure (i := 6) rat_some_t3 #[true, true, true, true, true, true, true, false, false, false, false, false, false, false, false, false, false, false, false] rfl rfl rfl (by kernel_rfl) (PQ.then PQ.body) rfl (fun w => run_fieldAddr (q := (adr a (i * 3 + 0))) (show fieldB Try.prog 55 0 = some 0 from by kernel_rfl) rfl (adr_add _ (by assumption) _ _)) ?_
   refine WD.take (i := 7) rat_some_t3 #[true, true, true, true, true, true, true, true, false, false, false, false, false, false, false, false, false, false, false] s2 rfl rfl rfl (by kernel_rfl) (PQ.then PQ.body) rfl (fun w hs => run_load Ty.ag3 rfl ((hs.2).cell ((flat_get rcell_len hpv (j := 0) (by decide)).trans rfl))) ?_
   refine WD.pure (i := 8) rat_some_t3 #[true, true, true, true, true, true, true, true, true, false, false, false, false, false, false, false, false, false, false] rfl rfl rfl (by kernel_rfl) (PQ.then PQ.body) rfl (fun w => run_move rfl) ?_
   refine WD.pure (i := 9) rat_some_t3 #[true, true, true, true, true, true, true, true, true, true, false, false, false, false, false, false, false, false, false] rfl rfl rfl (by kernel_rfl) (PQ.then PQ.body) rfl (fun w => run_nilCheck rfl) ?_
   refine WD.pure (i := 10) rat_some_t3 #[true, true, true, true, true, true, true, true, true, true, true, false, false, false, false, false, false, false, false] rfl rfl rfl (by kernel_rfl) (PQ.then PQ.body) rfl (fun w => run_fieldAddr (q := ⟨g, 0, none⟩) (show fieldB Try.prog 43 0 = some 0 from by kernel_rfl) rfl rfl) ?_
   refine WD.take (i := 11) rat_some_t3 #[true, true, true, true, true, true, true, true, true, true, true, true, false, false, false, false, false, false, false] s2 rfl rfl rfl (by kernel_rfl) (PQ.then PQ.body) rfl (fun w hs => run_load Ty.ag41 rfl ((hs.1 0).trans rfl)) ?_
   refine WD.pure (i := 12) rat_some_t3 #[true, true, true, true, true, true, true, true, true, true, true, true, true, false, false, false, false, false, false] rfl rfl rfl (by kernel_rfl) (PQ.then PQ.body) rfl (fun w => run_move rfl) ?_
   refine WD.take (i := 13) rat_some_t3 #[true, true, true, true, true, true, true, true, true, true, true, true, true, true, false, false, false, false, false] s2 rfl rfl rfl (by kernel_rfl) (PQ.then PQ.body) rfl (fun w hs => run_indexAddr (q := adr a (i * 3)) Try.underlying41 Ty.sz55 rfl rfl (by omega) (by omega) ((hs.2).2.1 (by omega)) rfl) ?_
   refine WD.pure (i := 14) rat_some_t3 #[true, true, true, true, true, true, true, true, true, true, true, true, true, true, true, false, false, false, false] rfl rfl rfl (by kernel_rfl) (PQ.then PQ.body) rfl (fun w => run_fieldAddr (q := (adr a (i * 3 + 1))) (show fieldB Try.prog 55 1 = some 1 from by kernel_rfl) rfl (adr_add _ (by assumption) _ _)) ?_
   refine WD.take (i := 15) rat_some_t3 #[true, true, true, true, true, true, true, true, true, true, true, true, true, true, true, true, false, false, false] s2 rfl rfl rfl (by kernel_rfl) (PQ.then PQ.body) rfl (fun w hs => run_load Ty.ag9 rfl ((hs.2).cell ((flat_get rcell_len hpv (j := 1) (by decide)).trans rfl))) ?_
   refine WD.pure (i := 16) rat_some_t3 #[true, true, true, true, true, true, true, true, true, true, true, true, true, true, true, true, true, false, false] rfl rfl rfl (by kernel_rfl) (PQ.then PQ.body) rfl (fun w => run_assign rfl) ?_
   refine WD.pure (i := 17) rat_some_t3 #[true, true, true, true, true, true, true, true, true, true, true, true, true, true, true, true, true, true, false] rfl rfl rfl (by kernel_rfl) (PQ.then PQ.body) rfl (fun w => run_assign rfl) ?_
   refine WD.pure (i := 18) rat_some_t3 #[true, true, true, true, true, true, true, true, true, true, true, true, true, true, true, true, true, true, true] rfl rfl rfl (by kernel_rfl) (PQ.then PQ.body) rfl (fun w => run_assign rfl) ?_
   refine WD.done rat_some_t3 (by kernel_rfl) ?_
   refine NX.go ?_
   refine WP.ret ?_
   refine NX.done (l := [.tmp 4, .tmp 5, .tmp 6]) rfl rfl ?_
   exact ⟨rfl, refP_shut hlen hS1⟩
theorem rsend_spec {B w : World} {L : List HP} {g : Nat} {V : List PV} {gone : Int} (hS : St B (refP g V gone :: L) w) (who : Int) (s : List UInt8) (hg : 0 ≤ gone ∧ gone < 1000000000) : Does Try.prog 16 [Value.pointer (some ⟨g, 0, none⟩), Value.int .i64 who, str s] w (fun v w1 => v = .bool (sendF V gone who s).1 ∧ St B (refP g (sendF V gone who s).2.1 (sendF V gone who s).2.2 :: L) w1) := by
 obtain ⟨a, cap, hlen, hS⟩ := refP_open hS
 have hbad : (¬ who = 0 ∧ ¬ who = 1) → sendF V gone who s = (false, V, gone) := fun h => by unfold sendF; rw [if_pos h]
 have hfull : ¬ (¬ who = 0 ∧ ¬ who = 1) → V.length = 64 → sendF V gone who s = (false, V, gone + 1) := fun h h2 => by unfold sendF; rw [if_neg h, if_pos h2]
 have hok : ¬ (¬ who = 0 ∧ ¬ who = 1) → ¬ V.length = 64 → sendF V gone who s = (true, V ++ [⟨who, s, false⟩], gone) := fun h h2 => by unfold sendF; rw [if_neg h, if_neg h2]
 refine enter (n := 38) Try.func16 rfl rfl [Value.pointer (some ⟨g, 0, none⟩), Value.int .i64 who, str s] rfl ?_
 refine WP.seq ?_
 refine WP.region rfl ?_
 refine WO.val (run_assign rfl) rfl rfl rfl ?_
 refine WO.nil ?_
 refine NX.go ?_
 refine WP.seq ?_
 refine WP.seq ?_
 refine WP.region rfl ?_
 refine WO.val (run_move rfl) rfl rfl rfl ?_
 refine WO.val (run_neq rfl rfl) rfl rfl rfl ?_
 refine WO.val (run_move rfl) rfl rfl rfl ?_
 by_cases g9 : ¬ who = 0
 ·
  refine WO.on rfl rfl (decide_eq_true g9) ?_
  refine WO.val (run_move rfl) rfl rfl rfl ?_
  refine WO.on rfl rfl (decide_eq_true g9) ?_
  refine WO.val (run_neq rfl rfl) rfl rfl rfl ?_
  refine WO.val (run_pickT rfl (decide_eq_true g9) rfl) rfl rfl rfl ?_
  refine WO.nil ?_
  refine NX.go ?_
  refine WP.condP rfl (fun g12 => ?_) (fun g12 => ?_)
  ·
   refine WP.seq ?_
   refine WP.region rfl ?_
   refine WO.val (run_assign rfl) rfl rfl rfl ?_
   refine WO.nil ?_
   refine NX.go ?_
   refine WP.ret ?_
   refine NX.thenRet ?_
   refine NX.done (l := [.tmp 6]) rfl rfl ?_
   refine ⟨by rw [hbad (by omega)]; rfl, by rw [hbad (by omega)]; exact refP_shut hlen hS⟩
  ·
   refine WP.skip ?_
   refine NX.go ?_
   refine WP.seq ?_
   refine WP.seq ?_
   refine WP.region rfl ?_
   refine WO.val (run_move rfl) rfl rfl rfl ?_
   refine WO.val (run_nilCheck rfl) rfl rfl rfl ?_
   refine WO.val (run_fieldAddr (q := ⟨g, 0, none⟩) (show fieldB Try.prog 43 0 = some 0 from by kernel_rfl) rfl rfl) rfl rfl rfl ?_
   refine WO.val (run_load Ty.ag41 rfl ((hS.cel_at 0 rfl 0).trans rfl)) rfl rfl rfl ?_
   refine WO.val (run_len rfl Try.underlying41 rfl) rfl rfl rfl ?_
   refine WO.val (run_geq rfl rfl) rfl rfl rfl ?_
   refine WO.nil ?_
   refine NX.go ?_
   refine WP.condP rfl (fun g18 => ?_) (fun g18 => ?_)
   ·
    refine WP.seq ?_
    refine WP.region rfl ?_
    refine WO.val (run_move rfl) rfl rfl rfl ?_
    refine WO.val (run_nilCheck rfl) rfl rfl rfl ?_
    refine WO.val (run_fieldAddr (q := ⟨g, 1, none⟩) (show fieldB Try.prog 43 1 = some 1 from by kernel_rfl) rfl rfl) rfl rfl rfl ?_
    refine WO.val (run_load Ty.ag3 rfl ((hS.cel_at 0 rfl 1).trans rfl)) rfl rfl rfl ?_
    refine WO.val (run_add rfl rfl (IntWalk.i64_in _ (by omega))) rfl rfl rfl ?_
    refine WO.val (run_nilCheck rfl) rfl rfl rfl ?_
    refine WO.val (run_fieldAddr (q := ⟨g, 1, none⟩) (show fieldB Try.prog 43 1 = some 1 from by kernel_rfl) rfl rfl) rfl rfl rfl ?_
    refine WO.store (l' := [Value.slice a V.length cap, Value.int .i64 (gone + 1)]) 0 hS rfl Ty.sz3 rfl rfl rfl rfl rfl (Nat.le_of_ble_eq_true rfl) rfl (fun w1 (hS1 : St B (cel g [Value.slice a V.length cap, Value.int .i64 (gone + 1)] 43 :: own a V.length cap 55 3 (V.flatMap rcell) :: L) w1) => ?_)
    clear hS
    refine WO.nil ?_
    refine NX.go ?_
    refine WP.seq ?_
    refine WP.region rfl ?_
    refine WO.val (run_assign rfl) rfl rfl rfl ?_
    refine WO.nil ?_
    refine NX.go ?_
    refine WP.ret ?_
    refine NX.thenRet ?_
    refine NX.done (l := [.tmp 6]) rfl rfl ?_
    refine ⟨by rw [hfull (by omega) (by omega)]; rfl, by rw [hfull (by omega) (by omega)]; exact refP_shut hlen hS1⟩
   ·
    refine WP.skip ?_
    refine NX.go ?_
    refine WP.seq ?_
    refine WP.region rfl ?_
    refine WO.val (run_move rfl) rfl rfl rfl ?_
    refine WO.val (run_move rfl) rfl rfl rfl ?_
    refine WO.val (run_nilCheck rfl) rfl rfl rfl ?_
    refine WO.val (run_fieldAddr (q := ⟨g, 0, none⟩) (show fieldB Try.prog 43 0 = some 0 from by kernel_rfl) rfl rfl) rfl rfl rfl ?_
    refine WO.val (run_load Ty.ag41 rfl ((hS.cel_at 0 rfl 0).trans rfl)) rfl rfl rfl ?_
    refine WO.val (run_move rfl) rfl rfl rfl ?_
    refine WO.val (run_move rfl) rfl rfl rfl ?_
    refine WO.val (run_build (v := Value.agg #[Value.int .i64 who, str s, Value.bool false]) rfl (fun w => by kernel_rfl)) rfl rfl rfl ?_
    refine WO.buildSlice (l := [Value.int .i64 who, str s, Value.bool false]) hS Try.underlying41 rfl (fun w => by kernel_rfl) rfl (fun g3 w2 lg3 hS2 => ?_)
    clear hS
    refine WO.append (news := [Value.int .i64 who, str s, Value.bool false]) 2 rfl Try.underlying41 Try.underlying41 (fun _ h => by cases h) Ty.sz55 (by decide) Ty.by55 Ty.zr55 rfl rfl rfl rfl hS2 rfl ((hS2.cel_rd 0 rfl (o := 0) (m := 1) (k := 3) rfl (Nat.le_of_ble_eq_true rfl)).src) rfl (by omega) (by omega) (fun a5 c6 w4 hS4 => ?_)
    replace hS4 : St B (cel g3 [Value.int .i64 who, str s, Value.bool false] 55 :: cel g [Value.slice a V.length cap, Value.int .i64 gone] 43 :: own a5 (V.length + 1) c6 55 3 ((V.flatMap rcell) ++ [Value.int .i64 who, str s, Value.bool false]) :: L) w4 := hS4
    clear hS2
    refine WO.val (run_nilCheck rfl) rfl rfl rfl ?_
    refine WO.val (run_fieldAddr (q := ⟨g, 0, none⟩) (show fieldB Try.prog 43 0 = some 0 from by kernel_rfl) rfl rfl) rfl rfl rfl ?_
    refine WO.store (l' := [Value.slice a5 (V.length + 1) c6, Value.int .i64 gone]) 1 hS4 rfl Ty.sz41 rfl rfl rfl rfl rfl (Nat.le_of_ble_eq_true rfl) rfl (fun w7 (hS7 : St B (cel g3 [Value.int .i64 who, str s, Value.bool false] 55 :: cel g [Value.slice a5 (V.length + 1) c6, Value.int .i64 gone] 43 :: own a5 (V.length + 1) c6 55 3 ((V.flatMap rcell) ++ [Value.int .i64 who, str s, Value.bool false]) :: L) w7) => ?_)
    clear hS4
    refine WO.nil ?_
    refine NX.go ?_
    refine WP.seq ?_
    refine WP.region rfl ?_
    refine WO.val (run_assign rfl) rfl rfl rfl ?_
    refine WO.nil ?_
    refine NX.go ?_
    refine WP.ret ?_
    refine NX.done (l := [.tmp 6]) rfl rfl ?_
    refine ⟨by rw [hok (by omega) (by omega)]; rfl, ?_⟩
    rw [hok (by omega) (by omega)]
    exact ref_snoc (by omega) hS7.drop
 ·
  refine WO.off rfl rfl (decide_eq_false g9) rfl ?_
  refine WO.off rfl rfl (decide_eq_false g9) rfl ?_
  refine WO.val (run_pickF rfl (decide_eq_false g9) rfl) rfl rfl rfl ?_
  refine WO.nil ?_
  refine NX.go ?_
  refine WP.condF rfl rfl ?_
  refine WP.skip ?_
  refine NX.go ?_
  refine WP.seq ?_
  refine WP.seq ?_
  refine WP.region rfl ?_
  refine WO.val (run_move rfl) rfl rfl rfl ?_
  refine WO.val (run_nilCheck rfl) rfl rfl rfl ?_
  refine WO.val (run_fieldAddr (q := ⟨g, 0, none⟩) (show fieldB Try.prog 43 0 = some 0 from by kernel_rfl) rfl rfl) rfl rfl rfl ?_
  refine WO.val (run_load Ty.ag41 rfl ((hS.cel_at 0 rfl 0).trans rfl)) rfl rfl rfl ?_
  refine WO.val (run_len rfl Try.underlying41 rfl) rfl rfl rfl ?_
  refine WO.val (run_geq rfl rfl) rfl rfl rfl ?_
  refine WO.nil ?_
  refine NX.go ?_
  refine WP.condP rfl (fun g18 => ?_) (fun g18 => ?_)
  ·
   refine WP.seq ?_
   refine WP.region rfl ?_
   refine WO.val (run_move rfl) rfl rfl rfl ?_
   refine WO.val (run_nilCheck rfl) rfl rfl rfl ?_
   refine WO.val (run_fieldAddr (q := ⟨g, 1, none⟩) (show fieldB Try.prog 43 1 = some 1 from by kernel_rfl) rfl rfl) rfl rfl rfl ?_
   refine WO.val (run_load Ty.ag3 rfl ((hS.cel_at 0 rfl 1).trans rfl)) rfl rfl rfl ?_
   refine WO.val (run_add rfl rfl (IntWalk.i64_in _ (by omega))) rfl rfl rfl ?_
   refine WO.val (run_nilCheck rfl) rfl rfl rfl ?_
   refine WO.val (run_fieldAddr (q := ⟨g, 1, none⟩) (show fieldB Try.prog 43 1 = some 1 from by kernel_rfl) rfl rfl) rfl rfl rfl ?_
   refine WO.store (l' := [Value.slice a V.length cap, Value.int .i64 (gone + 1)]) 0 hS rfl Ty.sz3 rfl rfl rfl rfl rfl (Nat.le_of_ble_eq_true rfl) rfl (fun w8 (hS8 : St B (cel g [Value.slice a V.length cap, Value.int .i64 (gone + 1)] 43 :: own a V.length cap 55 3 (V.flatMap rcell) :: L) w8) => ?_)
   clear hS
   refine WO.nil ?_
   refine NX.go ?_
   refine WP.seq ?_
   refine WP.region rfl ?_
   refine WO.val (run_assign rfl) rfl rfl rfl ?_
   refine WO.nil ?_
   refine NX.go ?_
   refine WP.ret ?_
   refine NX.thenRet ?_
   refine NX.done (l := [.tmp 6]) rfl rfl ?_
   refine ⟨by rw [hfull (by omega) (by omega)]; rfl, by rw [hfull (by omega) (by omega)]; exact refP_shut hlen hS8⟩
  ·
   refine WP.skip ?_
   refine NX.go ?_
   refine WP.seq ?_
   refine WP.region rfl ?_
   refine WO.val (run_move rfl) rfl rfl rfl ?_
   refine WO.val (run_move rfl) rfl rfl rfl ?_
   refine WO.val (run_nilCheck rfl) rfl rfl rfl ?_
   refine WO.val (run_fieldAddr (q := ⟨g, 0, none⟩) (show fieldB Try.prog 43 0 = some 0 from by kernel_rfl) rfl rfl) rfl rfl rfl ?_
   refine WO.val (run_load Ty.ag41 rfl ((hS.cel_at 0 rfl 0).trans rfl)) rfl rfl rfl ?_
   refine WO.val (run_move rfl) rfl rfl rfl ?_
   refine WO.val (run_move rfl) rfl rfl rfl ?_
   refine WO.val (run_build (v := Value.agg #[Value.int .i64 who, str s, Value.bool false]) rfl (fun w => by kernel_rfl)) rfl rfl rfl ?_
   refine WO.buildSlice (l := [Value.int .i64 who, str s, Value.bool false]) hS Try.underlying41 rfl (fun w => by kernel_rfl) rfl (fun g10 w9 lg10 hS9 => ?_)
   clear hS
   refine WO.append (news := [Value.int .i64 who, str s, Value.bool false]) 2 rfl Try.underlying41 Try.underlying41 (fun _ h => by cases h) Ty.sz55 (by decide) Ty.by55 Ty.zr55 rfl rfl rfl rfl hS9 rfl ((hS9.cel_rd 0 rfl (o := 0) (m := 1) (k := 3) rfl (Nat.le_of_ble_eq_true rfl)).src) rfl (by omega) (by omega) (fun a12 c13 w11 hS11 => ?_)
   replace hS11 : St B (cel g10 [Value.int .i64 who, str s, Value.bool false] 55 :: cel g [Value.slice a V.length cap, Value.int .i64 gone] 43 :: own a12 (V.length + 1) c13 55 3 ((V.flatMap rcell) ++ [Value.int .i64 who, str s, Value.bool false]) :: L) w11 := hS11
   clear hS9
   refine WO.val (run_nilCheck rfl) rfl rfl rfl ?_
   refine WO.val (run_fieldAddr (q := ⟨g, 0, none⟩) (show fieldB Try.prog 43 0 = some 0 from by kernel_rfl) rfl rfl) rfl rfl rfl ?_
   refine WO.store (l' := [Value.slice a12 (V.length + 1) c13, Value.int .i64 gone]) 1 hS11 rfl Ty.sz41 rfl rfl rfl rfl rfl (Nat.le_of_ble_eq_true rfl) rfl (fun w14 (hS14 : St B (cel g10 [Value.int .i64 who, str s, Value.bool false] 55 :: cel g [Value.slice a12 (V.length + 1) c13, Value.int .i64 gone] 43 :: own a12 (V.length + 1) c13 55 3 ((V.flatMap rcell) ++ [Value.int .i64 who, str s, Value.bool false]) :: L) w14) => ?_)
   clear hS11
   refine WO.nil ?_
   refine NX.go ?_
   refine WP.seq ?_
   refine WP.region rfl ?_
   refine WO.val (run_assign rfl) rfl rfl rfl ?_
   refine WO.nil ?_
   refine NX.go ?_
   refine WP.ret ?_
   refine NX.done (l := [.tmp 6]) rfl rfl ?_
   refine ⟨by rw [hok (by omega) (by omega)]; rfl, ?_⟩
   rw [hok (by omega) (by omega)]
   exact ref_snoc (by omega) hS14.drop
theorem rtake_none {B w : World} {L : List HP} {g : Nat} {V : List PV} {gone : Int} (hS : St B (refP g V gone :: L) w) (i : Int) (hi : i < 0 ∨ (V.length : Int) ≤ i) : Does Try.prog 17 [Value.pointer (some ⟨g, 0, none⟩), Value.int .i64 i] w (fun v w1 => v = .tuple #[.int .i64 0, str [], .int .i64 2] ∧ St B (refP g V gone :: L) w1) := by
 refine enter (n := 51) Try.func17 rfl rfl [Value.pointer (some ⟨g, 0, none⟩), Value.int .i64 i] rfl ?_
 refine WP.seq ?_
 refine WP.region rfl ?_
 refine WO.val (run_assign rfl) rfl rfl rfl ?_
 refine WO.val (run_assign rfl) rfl rfl rfl ?_
 refine WO.val (run_assign rfl) rfl rfl rfl ?_
 refine WO.nil ?_
 refine NX.go ?_
 refine WP.seq ?_
 refine WP.region rfl ?_
 refine WO.val (run_move rfl) rfl rfl rfl ?_
 refine WO.val (run_move rfl) rfl rfl rfl ?_
 refine WO.call rfl rfl Ty.hd20 rfl (rat_none hS i hi) (fun v2 w1 pv2 => ?_)
 obtain ⟨rfl, hS1⟩ := pv2
 clear hS
 refine WO.val (run_move rfl) rfl rfl rfl ?_
 refine WO.val (run_extract rfl rfl) rfl rfl rfl ?_
 refine WO.val (run_extract rfl rfl) rfl rfl rfl ?_
 refine WO.val (run_extract rfl rfl) rfl rfl rfl ?_
 refine WO.val (run_assign rfl) rfl rfl rfl ?_
 refine WO.val (run_assign rfl) rfl rfl rfl ?_
 refine WO.val (run_assign rfl) rfl rfl rfl ?_
 refine WO.nil ?_
 refine NX.go ?_
 refine WP.seq ?_
 refine WP.seq ?_
 refine WP.region rfl ?_
 refine WO.val (run_move rfl) rfl rfl rfl ?_
 refine WO.val (run_eql rfl rfl) rfl rfl rfl ?_
 refine WO.nil ?_
 refine NX.go ?_
 refine WP.condF rfl (by decide) ?_
 refine WP.skip ?_
 refine NX.go ?_
 refine WP.seq ?_
 refine WP.region rfl ?_
 refine WO.val (run_move rfl) rfl rfl rfl ?_
 refine WO.val (run_move rfl) rfl rfl rfl ?_
 refine WO.val (run_move rfl) rfl rfl rfl ?_
 refine WO.val (run_assign rfl) rfl rfl rfl ?_
 refine WO.val (run_assign rfl) rfl rfl rfl ?_
 refine WO.val (run_assign rfl) rfl rfl rfl ?_
 refine WO.nil ?_
 refine NX.go ?_
 refine WP.ret ?_
 refine NX.done (l := [.tmp 4, .tmp 5, .tmp 6]) rfl rfl ?_
 exact ⟨rfl, hS1⟩
theorem rtake_some_t4 : rtab .any (opsOf Try.f17 4) = (true, [([], []), ([0], [0]), ([1], [1]), ([2], [2]), ([], []), ([], []), ([5], [5]), ([6], [6]), ([7], [7]), ([], []), ([8, 9], [8, 9]), ([10], [10]), ([3, 4, 0, 1, 2, 3, 4, 5, 6, 7, 8, 9, 10, 11], [3, 4]), ([12, 11, 0, 1, 2, 3, 4, 5, 6, 7, 8, 9, 10, 11], [11, 12])]) := by kernel_rfl
theorem rtake_some {B w : World} {L : List HP} {g : Nat} {V : List PV} {gone : Int} (hS : St B (refP g V gone :: L) w) (i : Nat) (pv : PV) (hpv : V[i]? = some pv) : Does Try.prog 17 [Value.pointer (some ⟨g, 0, none⟩), Value.int .i64 (i : Int)] w (fun v w1 => v = .tuple #[.int .i64 pv.who, str pv.s, .int .i64 0] ∧ St B (refP g (takeF V i) gone :: L) w1) := by
 refine enter (n := 51) Try.func17 rfl rfl [Value.pointer (some ⟨g, 0, none⟩), Value.int .i64 (i : Int)] rfl ?_
 refine WP.seq ?_
 refine WP.region rfl ?_
 refine WO.val (run_assign rfl) rfl rfl rfl ?_
 refine WO.val (run_assign rfl) rfl rfl rfl ?_
 refine WO.val (run_assign rfl) rfl rfl rfl ?_
 refine WO.nil ?_
 refine NX.go ?_
 refine WP.seq ?_
 refine WP.region rfl ?_
 refine WO.val (run_move rfl) rfl rfl rfl ?_
 refine WO.val (run_move rfl) rfl rfl rfl ?_
 refine WO.call rfl rfl Ty.hd20 rfl (rat_some hS i pv hpv) (fun v2 w1 pv2 => ?_)
 obtain ⟨rfl, hS1⟩ := pv2
 clear hS
 refine WO.val (run_move rfl) rfl rfl rfl ?_
 refine WO.val (run_extract rfl rfl) rfl rfl rfl ?_
 refine WO.val (run_extract rfl rfl) rfl rfl rfl ?_
 refine WO.val (run_extract rfl rfl) rfl rfl rfl ?_
 refine WO.val (run_assign rfl) rfl rfl rfl ?_
 refine WO.val (run_assign rfl) rfl rfl rfl ?_
 refine WO.val (run_assign rfl) rfl rfl rfl ?_
 refine WO.nil ?_
 refine NX.go ?_
 refine WP.seq ?_
 refine WP.seq ?_
 refine WP.region rfl ?_
 refine WO.val (run_move rfl) rfl rfl rfl ?_
 refine WO.val (run_eql rfl rfl) rfl rfl rfl ?_
 refine WO.nil ?_
 refine NX.go ?_
 refine WP.condT rfl (by decide) ?_
 refine WP.seq ?_
 refine WP.region rfl ?_
 obtain ⟨a, cap, hlen, hS3⟩ := refP_open hS1
 clear hS1
 have hil := (List.getElem?_eq_some_iff.1 hpv).1
 have hcap := hS3.own_le_i 1 rfl
 have hsa := own_isSome hS3 1 rfl (by omega)
 obtain ⟨q, hq⟩ : ∃ q, V[V.length - 1]? = some q := ⟨_, List.getElem?_eq_getElem (by omega)⟩
 refine WO.val (run_move rfl) rfl rfl rfl ?_
 refine WO.val (run_nilCheck rfl) rfl rfl rfl ?_
 refine WO.val (run_fieldAddr (q := ⟨g, 0, none⟩) (show fieldB Try.prog 43 0 = some 0 from by kernel_rfl) rfl rfl) rfl rfl rfl ?_
 refine WO.val (run_load Ty.ag41 rfl ((hS3.cel_at 0 rfl 0).trans rfl)) rfl rfl rfl ?_
 refine WO.val (run_len rfl Try.underlying41 rfl) rfl rfl rfl ?_
 refine WO.val (run_sub rfl rfl (IntWalk.i64_in _ (by omega))) rfl rfl rfl ?_
 refine WO.val (run_assign rfl) rfl rfl rfl ?_
 refine WO.nil ?_
 refine NX.go ?_
 refine WP.seq ?_
 refine WD.start (fun w => (∀ j, World.cell? w ⟨g, j, none⟩ = [Value.slice a V.length cap, Value.int .i64 gone][j]?) ∧ Rd w a V.length 3 (V.flatMap rcell)) [13] #[false, false, false, false, false, false, false, false, false, false, false, false, false, false] Ty.mo rfl (by kernel_rfl) hS3 (fun _ h => ⟨h.cel_at 0 rfl, h.own_rd_i 1 rfl⟩) (fun w4 hS4 s5 => ?_)
 clear hS3
 refine WD.pure (i := 0) rtake_some_t4 #[true, false, false, false, false, false, false, false, false, false, false, false, false, false] rfl rfl rfl (by kernel_rfl) (PQ.then (PQ.then PQ.body)) rfl (fun w => run_move rfl) ?_
 refine WD.pure (i := 1) rtake_some_t4 #[true, true, false, false, false, false, false, false, false, false, false, false, false, false] rfl rfl rfl (by kernel_rfl) (PQ.then (PQ.then PQ.body)) rfl (fun w => run_nilCheck rfl) ?_
 refine WD.pure (i := 2) rtake_some_t4 #[true, true, true, false, false, false, false, false, false, false, false, false, false, false] rfl rfl rfl (by kernel_rfl) (PQ.then (PQ.then PQ.body)) rfl (fun w => run_fieldAddr (q := ⟨g, 0, none⟩) (show fieldB Try.prog 43 0 = some 0 from by kernel_rfl) rfl rfl) ?_
 refine WD.take (i := 3) rtake_some_t4 #[true, true, true, true, false, false, false, false, false, false, false, false, false, false] s5 rfl rfl rfl (by kernel_rfl) (PQ.then (PQ.then PQ.body)) rfl (fun w hs => run_load Ty.ag41 rfl ((hs.1 0).trans rfl)) ?_
 refine WD.pure (i := 4) rtake_some_t4 #[true, true, true, true, true, false, false, false, false, false, false, false, false, false] rfl rfl rfl (by kernel_rfl) (PQ.then (PQ.then PQ.body)) rfl (fun w => run_move rfl) ?_
 refine WD.pure (i := 5) rtake_some_t4 #[true, true, true, true, true, true, false, false, false, false, false, false, false, false] rfl rfl rfl (by kernel_rfl) (PQ.then (PQ.then PQ.body)) rfl (fun w => run_move rfl) ?_
 refine WD.pure (i := 6) rtake_some_t4 #[true, true, true, true, true, true, true, false, false, false, false, false, false, false] rfl rfl rfl (by kernel_rfl) (PQ.then (PQ.then PQ.body)) rfl (fun w => run_nilCheck rfl) ?_
 refine WD.pure (i := 7) rtake_some_t4 #[true, true, true, true, true, true, true, true, false, false, false, false, false, false] rfl rfl rfl (by kernel_rfl) (PQ.then (PQ.then PQ.body)) rfl (fun w => run_fieldAddr (q := ⟨g, 0, none⟩) (show fieldB Try.prog 43 0 = some 0 from by kernel_rfl) rfl rfl) ?_
 refine WD.take (i := 8) rtake_some_t4 #[true, true, true, true, true, true, true, true, true, false, false, false, false, false] s5 rfl rfl rfl (by kernel_rfl) (PQ.then (PQ.then PQ.body)) rfl (fun w hs => run_load Ty.ag41 rfl ((hs.1 0).trans rfl)) ?_
 refine WD.pure (i := 9) rtake_some_t4 #[true, true, true, true, true, true, true, true, true, true, false, false, false, false] rfl rfl rfl (by kernel_rfl) (PQ.then (PQ.then PQ.body)) rfl (fun w => run_moveAs (v := Value.int .i64 ((V.length - 1 : Nat) : Int)) rfl (by congr 1; omega)) ?_
 refine WD.take (i := 10) rtake_some_t4 #[true, true, true, true, true, true, true, true, true, true, true, false, false, false] s5 rfl rfl rfl (by kernel_rfl) (PQ.then (PQ.then PQ.body)) rfl (fun w hs => run_indexAddr (q := adr a ((V.length - 1) * 3)) Try.underlying41 Ty.sz55 rfl rfl (by omega) (by omega) ((hs.2).2.1 (by omega)) rfl) ?_
 refine WD.take (i := 11) rtake_some_t4 #[true, true, true, true, true, true, true, true, true, true, true, true, false, false] s5 rfl rfl rfl (by kernel_rfl) (PQ.then (PQ.then PQ.body)) rfl (fun w hs => run_loadAgg (vs := [Value.int .i64 q.who, str q.s, Value.bool q.sp]) Ty.ag55 Ty.sz55 rfl ((hs.2).cells (by rw [flat_len rcell_len]; omega) (flat_part rcell_len hq)).1 ((hs.2).cells (by rw [flat_len rcell_len]; omega) (flat_part rcell_len hq)).2) ?_
 refine WD.take (i := 12) rtake_some_t4 #[true, true, true, true, true, true, true, true, true, true, true, true, true, false] s5 rfl rfl rfl (by kernel_rfl) (PQ.then (PQ.then PQ.body)) rfl (fun w hs => run_indexAddr (q := adr a (i * 3)) Try.underlying41 Ty.sz55 rfl rfl (by omega) (by omega) ((hs.2).2.1 (by omega)) rfl) ?_
 refine WD.one (i := 13) rtake_some_t4 #[true, true, true, true, true, true, true, true, true, true, true, true, true, true] rfl (by kernel_rfl) ?_
 refine WO.storeOwn (l' := ((V.set i q).flatMap rcell)) 1 hS4 rfl Ty.sz55 rfl rfl rfl rfl rfl (by decide) (by rw [flat_len rcell_len]; omega) (flat_splice rcell_len q hil) (fun w6 (hS6 : St B (cel g [Value.slice a V.length cap, Value.int .i64 gone] 43 :: own a V.length cap 55 3 ((V.set i q).flatMap rcell) :: L) w6) => ?_)
 clear hS4
 refine WO.nil ?_
 refine NX.last (by decide) ?_
 refine WD.done rtake_some_t4 (by kernel_rfl) ?_
 refine NX.go ?_
 refine WP.region rfl ?_
 refine WO.val (run_move rfl) rfl rfl rfl ?_
 refine WO.val (run_move rfl) rfl rfl rfl ?_
 refine WO.val (run_nilCheck rfl) rfl rfl rfl ?_
 refine WO.val (run_fieldAddr (q := ⟨g, 0, none⟩) (show fieldB Try.prog 43 0 = some 0 from by kernel_rfl) rfl rfl) rfl rfl rfl ?_
 refine WO.val (run_load Ty.ag41 rfl ((hS6.cel_at 0 rfl 0).trans rfl)) rfl rfl rfl ?_
 refine WO.val (run_moveAs (v := Value.int .i64 ((V.length - 1 : Nat) : Int)) rfl (by congr 1; omega)) rfl rfl rfl ?_
 refine WO.val (run_sliceTo (j := V.length - 1) Try.underlying41 Ty.sz55 rfl ⟨_, rfl⟩ (by omega)) rfl rfl rfl ?_
 refine WO.val (run_nilCheck rfl) rfl rfl rfl ?_
 refine WO.val (run_fieldAddr (q := ⟨g, 0, none⟩) (show fieldB Try.prog 43 0 = some 0 from by kernel_rfl) rfl rfl) rfl rfl rfl ?_
 refine WO.store (l' := [Value.slice a (V.length - 1) cap, Value.int .i64 gone]) 0 hS6 rfl Ty.sz41 rfl rfl rfl rfl rfl (Nat.le_of_ble_eq_true rfl) rfl (fun w7 (hS7 : St B (cel g [Value.slice a (V.length - 1) cap, Value.int .i64 gone] 43 :: own a V.length cap 55 3 ((V.set i q).flatMap rcell) :: L) w7) => ?_)
 clear hS6
 refine WO.nil ?_
 refine NX.go ?_
 refine WP.seq ?_
 refine WP.region rfl ?_
 refine WO.val (run_move rfl) rfl rfl rfl ?_
 refine WO.val (run_move rfl) rfl rfl rfl ?_
 refine WO.val (run_move rfl) rfl rfl rfl ?_
 refine WO.val (run_assign rfl) rfl rfl rfl ?_
 refine WO.val (run_assign rfl) rfl rfl rfl ?_
 refine WO.val (run_assign rfl) rfl rfl rfl ?_
 refine WO.nil ?_
 refine NX.go ?_
 refine WP.ret ?_
 refine NX.done (l := [.tmp 4, .tmp 5, .tmp 6]) rfl rfl ?_
 exact ⟨rfl, ref_take hlen hpv hq hS7⟩
theorem rdouble_none {B w : World} {L : List HP} {g : Nat} {V : List PV} {gone : Int} (hS : St B (refP g V gone :: L) w) (i : Int) (hi : i < 0 ∨ (V.length : Int) ≤ i) : Does Try.prog 18 [Value.pointer (some ⟨g, 0, none⟩), Value.int .i64 i] w (fun v w1 => v = .int .i64 2 ∧ St B (refP g V gone :: L) w1) := by
 refine enter (n := 44) Try.func18 rfl rfl [Value.pointer (some ⟨g, 0, none⟩), Value.int .i64 i] rfl ?_
 refine WP.seq ?_
 refine WP.region rfl ?_
 refine WO.val (run_assign rfl) rfl rfl rfl ?_
 refine WO.nil ?_
 refine NX.go ?_
 refine WP.seq ?_
 refine WP.region rfl ?_
 refine WO.val (run_move rfl) rfl rfl rfl ?_
 refine WO.val (run_move rfl) rfl rfl rfl ?_
 refine WO.call rfl rfl Ty.hd20 rfl (rat_none hS i hi) (fun v2 w1 pv2 => ?_)
 obtain ⟨rfl, hS1⟩ := pv2
 clear hS
 refine WO.val (run_move rfl) rfl rfl rfl ?_
 refine WO.val (run_extract rfl rfl) rfl rfl rfl ?_
 refine WO.val (run_extract rfl rfl) rfl rfl rfl ?_
 refine WO.val (run_extract rfl rfl) rfl rfl rfl ?_
 refine WO.val (run_assign rfl) rfl rfl rfl ?_
 refine WO.val (run_assign rfl) rfl rfl rfl ?_
 refine WO.val (run_assign rfl) rfl rfl rfl ?_
 refine WO.nil ?_
 refine NX.go ?_
 refine WP.seq ?_
 refine WP.seq ?_
 refine WP.region rfl ?_
 refine WO.val (run_move rfl) rfl rfl rfl ?_
 refine WO.val (run_eql rfl rfl) rfl rfl rfl ?_
 refine WO.val (run_move rfl) rfl rfl rfl ?_
 refine WO.off rfl rfl (by decide) rfl ?_
 refine WO.off rfl rfl (by decide) rfl ?_
 refine WO.off rfl rfl (by decide) rfl ?_
 refine WO.off rfl rfl (by decide) rfl ?_
 refine WO.off rfl rfl (by decide) rfl ?_
 refine WO.off rfl rfl (by decide) rfl ?_
 refine WO.val (run_pickF rfl (by decide) rfl) rfl rfl rfl ?_
 refine WO.nil ?_
 refine NX.go ?_
 refine WP.condF rfl rfl ?_
 refine WP.skip ?_
 refine NX.go ?_
 refine WP.seq ?_
 refine WP.seq ?_
 refine WP.region rfl ?_
 refine WO.val (run_move rfl) rfl rfl rfl ?_
 refine WO.val (run_eql rfl rfl) rfl rfl rfl ?_
 refine WO.nil ?_
 refine NX.go ?_
 refine WP.condF rfl (by decide) ?_
 refine WP.skip ?_
 refine NX.go ?_
 refine WP.seq ?_
 refine WP.region rfl ?_
 refine WO.val (run_move rfl) rfl rfl rfl ?_
 refine WO.val (run_assign rfl) rfl rfl rfl ?_
 refine WO.nil ?_
 refine NX.go ?_
 refine WP.ret ?_
 refine NX.done (l := [.tmp 4]) rfl rfl ?_
 exact ⟨rfl, hS1⟩
theorem rdouble_some_t5 : rtab .any (opsOf Try.f18 5) = (true, [([], []), ([], []), ([1], [1]), ([2], [2]), ([3], [3]), ([], []), ([5], [5]), ([6], [6]), ([7], [7]), ([], []), ([8, 9], [8, 9]), ([10], [10]), ([11], [11]), ([4, 12], [4, 12]), ([0, 0, 1, 2, 3, 4, 5, 6, 7, 8, 9, 10, 11, 12, 13], [0]), ([14, 0, 1, 2, 3, 4, 5, 6, 7, 8, 9, 10, 11, 12, 13], [14]), ([15, 13, 13, 0, 1, 2, 3, 4, 5, 6, 7, 8, 9, 10, 11, 12, 13], [13, 15])]) := by kernel_rfl
theorem rdouble_some {B w : World} {L : List HP} {g : Nat} {V : List PV} {gone : Int} (hS : St B (refP g V gone :: L) w) (i : Nat) (pv : PV) (hpv : V[i]? = some pv) : Does Try.prog 18 [Value.pointer (some ⟨g, 0, none⟩), Value.int .i64 (i : Int)] w (fun v w1 => v = .int .i64 (if V.length = 64 then 4 else 0) ∧ St B (refP g (if V.length = 64 then V else V ++ [pv]) gone :: L) w1) := by
 refine enter (n := 44) Try.func18 rfl rfl [Value.pointer (some ⟨g, 0, none⟩), Value.int .i64 (i : Int)] rfl ?_
 refine WP.seq ?_
 refine WP.region rfl ?_
 refine WO.val (run_assign rfl) rfl rfl rfl ?_
 refine WO.nil ?_
 refine NX.go ?_
 refine WP.seq ?_
 refine WP.region rfl ?_
 refine WO.val (run_move rfl) rfl rfl rfl ?_
 refine WO.val (run_move rfl) rfl rfl rfl ?_
 refine WO.call rfl rfl Ty.hd20 rfl (rat_some hS i pv hpv) (fun v2 w1 pv2 => ?_)
 obtain ⟨rfl, hS1⟩ := pv2
 clear hS
 refine WO.val (run_move rfl) rfl rfl rfl ?_
 refine WO.val (run_extract rfl rfl) rfl rfl rfl ?_
 refine WO.val (run_extract rfl rfl) rfl rfl rfl ?_
 refine WO.val (run_extract rfl rfl) rfl rfl rfl ?_
 refine WO.val (run_assign rfl) rfl rfl rfl ?_
 refine WO.val (run_assign rfl) rfl rfl rfl ?_
 refine WO.val (run_assign rfl) rfl rfl rfl ?_
 refine WO.nil ?_
 refine NX.go ?_
 refine WP.seq ?_
 refine WP.seq ?_
 refine WP.region rfl ?_
 obtain ⟨a, cap, hlen, hS3⟩ := refP_open hS1
 clear hS1
 have hil := (List.getElem?_eq_some_iff.1 hpv).1
 have hcap := hS3.own_le_i 1 rfl
 have hsa := own_isSome hS3 1 rfl (by omega)
 refine WO.val (run_move rfl) rfl rfl rfl ?_
 refine WO.val (run_eql rfl rfl) rfl rfl rfl ?_
 refine WO.val (run_move rfl) rfl rfl rfl ?_
 refine WO.on rfl rfl (by decide) ?_
 refine WO.val (run_move rfl) rfl rfl rfl ?_
 refine WO.on rfl rfl (by decide) ?_
 refine WO.val (run_nilCheck rfl) rfl rfl rfl ?_
 refine WO.on rfl rfl (by decide) ?_
 refine WO.val (run_fieldAddr (q := ⟨g, 0, none⟩) (show fieldB Try.prog 43 0 = some 0 from by kernel_rfl) rfl rfl) rfl rfl rfl ?_
 refine WO.on rfl rfl (by decide) ?_
 refine WO.val (run_load Ty.ag41 rfl ((hS3.cel_at 0 rfl 0).trans rfl)) rfl rfl rfl ?_
 refine WO.on rfl rfl (by decide) ?_
 refine WO.val (run_len rfl Try.underlying41 rfl) rfl rfl rfl ?_
 refine WO.on rfl rfl (by decide) ?_
 refine WO.val (run_geq rfl rfl) rfl rfl rfl ?_
 refine WO.val (run_pickT rfl (by decide) rfl) rfl rfl rfl ?_
 refine WO.nil ?_
 refine NX.go ?_
 refine WP.condP rfl (fun g24 => ?_) (fun g24 => ?_)
 ·
  refine WP.region rfl ?_
  refine WO.val (run_assign rfl) rfl rfl rfl ?_
  refine WO.nil ?_
  refine NX.go ?_
  refine WP.seq ?_
  refine WP.seq ?_
  refine WP.region rfl ?_
  refine WO.val (run_move rfl) rfl rfl rfl ?_
  refine WO.val (run_eql rfl rfl) rfl rfl rfl ?_
  refine WO.nil ?_
  refine NX.go ?_
  refine WP.condF rfl (by decide) ?_
  refine WP.skip ?_
  refine NX.go ?_
  refine WP.seq ?_
  refine WP.region rfl ?_
  refine WO.val (run_move rfl) rfl rfl rfl ?_
  refine WO.val (run_assign rfl) rfl rfl rfl ?_
  refine WO.nil ?_
  refine NX.go ?_
  refine WP.ret ?_
  refine NX.done (l := [.tmp 4]) rfl rfl ?_
  refine ⟨by rw [if_pos (show V.length = 64 by omega)]; rfl, ?_⟩
  rw [if_pos (show V.length = 64 by omega)]
  exact refP_shut hlen hS3
 ·
  refine WP.skip ?_
  refine NX.go ?_
  refine WP.seq ?_
  refine WP.seq ?_
  refine WP.region rfl ?_
  refine WO.val (run_move rfl) rfl rfl rfl ?_
  refine WO.val (run_eql rfl rfl) rfl rfl rfl ?_
  refine WO.nil ?_
  refine NX.go ?_
  refine WP.condT rfl (by decide) ?_
  refine WD.start (fun w => (∀ j, World.cell? w ⟨g, j, none⟩ = [Value.slice a V.length cap, Value.int .i64 gone][j]?) ∧ Rd w a V.length 3 (V.flatMap rcell)) [13, 16] #[false, false, false, false, false, false, false, false, false, false, false, false, false, false, false, false, false] Ty.mo rfl (by kernel_rfl) hS3 (fun _ h => ⟨h.cel_at 0 rfl, h.own_rd_i 1 rfl⟩) (fun w4 hS4 s5 => ?_)
  clear hS3
  refine WD.pure (i := 0) rdouble_some_t5 #[true, false, false, false, false, false, false, false, false, false, false, false, false, false, false, false, false] rfl rfl rfl (by kernel_rfl) (PQ.then PQ.body) rfl (fun w => run_move rfl) ?_
  refine WD.pure (i := 1) rdouble_some_t5 #[true, true, false, false, false, false, false, false, false, false, false, false, false, false, false, false, false] rfl rfl rfl (by kernel_rfl) (PQ.then PQ.body) rfl (fun w => run_move rfl) ?_
  refine WD.pure (i := 2) rdouble_some_t5 #[true, true, true, false, false, false, false, false, false, false, false, false, false, false, false, false, false] rfl rfl rfl (by kernel_rfl) (PQ.then PQ.body) rfl (fun w => run_nilCheck rfl) ?_
  refine WD.pure (i := 3) rdouble_some_t5 #[true, true, true, true, false, false, false, false, false, false, false, false, false, false, false, false, false] rfl rfl rfl (by kernel_rfl) (PQ.then PQ.body) rfl (fun w => run_fieldAddr (q := ⟨g, 0, none⟩) (show fieldB Try.prog 43 0 = some 0 from by kernel_rfl) rfl rfl) ?_
  refine WD.take (i := 4) rdouble_some_t5 #[true, true, true, true, true, false, false, false, false, false, false, false, false, false, false, false, false] s5 rfl rfl rfl (by kernel_rfl) (PQ.then PQ.body) rfl (fun w hs => run_load Ty.ag41 rfl ((hs.1 0).trans rfl)) ?_
  refine WD.pure (i := 5) rdouble_some_t5 #[true, true, true, true, true, true, false, false, false, false, false, false, false, false, false, false, false] rfl rfl rfl (by kernel_rfl) (PQ.then PQ.body) rfl (fun w => run_move rfl) ?_
  refine WD.pure (i := 6) rdouble_some_t5 #[true, true, true, true, true, true, true, false, false, false, false, false, false, false, false, false, false] rfl rfl rfl (by kernel_rfl) (PQ.then PQ.body) rfl (fun w => run_nilCheck rfl) ?_
  refine WD.pure (i := 7) rdouble_some_t5 #[true, true, true, true, true, true, true, true, false, false, false, false, false, false, false, false, false] rfl rfl rfl (by kernel_rfl) (PQ.then PQ.body) rfl (fun w => run_fieldAddr (q := ⟨g, 0, none⟩) (show fieldB Try.prog 43 0 = some 0 from by kernel_rfl) rfl rfl) ?_
  refine WD.take (i := 8) rdouble_some_t5 #[true, true, true, true, true, true, true, true, true, false, false, false, false, false, false, false, false] s5 rfl rfl rfl (by kernel_rfl) (PQ.then PQ.body) rfl (fun w hs => run_load Ty.ag41 rfl ((hs.1 0).trans rfl)) ?_
  refine WD.pure (i := 9) rdouble_some_t5 #[true, true, true, true, true, true, true, true, true, true, false, false, false, false, false, false, false] rfl rfl rfl (by kernel_rfl) (PQ.then PQ.body) rfl (fun w => run_move rfl) ?_
  refine WD.take (i := 10) rdouble_some_t5 #[true, true, true, true, true, true, true, true, true, true, true, false, false, false, false, false, false] s5 rfl rfl rfl (by kernel_rfl) (PQ.then PQ.body) rfl (fun w hs => run_indexAddr (q := adr a (i * 3)) Try.underlying41 Ty.sz55 rfl rfl (by omega) (by omega) ((hs.2).2.1 (by omega)) rfl) ?_
  refine WD.take (i := 11) rdouble_some_t5 #[true, true, true, true, true, true, true, true, true, true, true, true, false, false, false, false, false] s5 rfl rfl rfl (by kernel_rfl) (PQ.then PQ.body) rfl (fun w hs => run_loadAgg (vs := [Value.int .i64 pv.who, str pv.s, Value.bool pv.sp]) Ty.ag55 Ty.sz55 rfl ((hs.2).cells (by rw [flat_len rcell_len]; omega) (flat_part rcell_len hpv)).1 ((hs.2).cells (by rw [flat_len rcell_len]; omega) (flat_part rcell_len hpv)).2) ?_
  refine WD.one (i := 12) rdouble_some_t5 #[true, true, true, true, true, true, true, true, true, true, true, true, true, false, false, false, false] rfl (by kernel_rfl) ?_
  refine WO.buildSlice (l := [Value.int .i64 pv.who, str pv.s, Value.bool pv.sp]) hS4 Try.underlying41 rfl (fun w => by kernel_rfl) rfl (fun g7 w6 lg7 hS6 => ?_)
  clear hS4
  refine WO.nil ?_
  have s8 : (∀ j, World.cell? w6 ⟨g, j, none⟩ = [Value.slice a V.length cap, Value.int .i64 gone][j]?) ∧ Rd w6 a V.length 3 (V.flatMap rcell) := ⟨hS6.cel_at 1 rfl, hS6.own_rd_i 2 rfl⟩
  refine NX.held s8 ?_
  refine WD.one (i := 13) rdouble_some_t5 #[true, true, true, true, true, true, true, true, true, true, true, true, true, true, false, false, false] rfl (by kernel_rfl) ?_
  refine WO.append (news := [Value.int .i64 pv.who, str pv.s, Value.bool pv.sp]) 2 rfl Try.underlying41 Try.underlying41 (fun _ h => by cases h) Ty.sz55 (by decide) Ty.by55 Ty.zr55 rfl rfl rfl rfl hS6 rfl ((hS6.cel_rd 0 rfl (o := 0) (m := 1) (k := 3) rfl (Nat.le_of_ble_eq_true rfl)).src) rfl (by omega) (by omega) (fun a10 c11 w9 hS9 => ?_)
  replace hS9 : St B (cel g7 [Value.int .i64 pv.who, str pv.s, Value.bool pv.sp] 55 :: cel g [Value.slice a V.length cap, Value.int .i64 gone] 43 :: own a10 (V.length + 1) c11 55 3 ((V.flatMap rcell) ++ [Value.int .i64 pv.who, str pv.s, Value.bool pv.sp]) :: L) w9 := hS9
  clear hS6
  refine WO.nil ?_
  refine NX.last (by decide) ?_
  refine WD.pure (i := 14) rdouble_some_t5 #[true, true, true, true, true, true, true, true, true, true, true, true, true, true, true, false, false] rfl rfl rfl (by kernel_rfl) (PQ.then PQ.body) rfl (fun w => run_nilCheck rfl) ?_
  refine WD.pure (i := 15) rdouble_some_t5 #[true, true, true, true, true, true, true, true, true, true, true, true, true, true, true, true, false] rfl rfl rfl (by kernel_rfl) (PQ.then PQ.body) rfl (fun w => run_fieldAddr (q := ⟨g, 0, none⟩) (show fieldB Try.prog 43 0 = some 0 from by kernel_rfl) rfl rfl) ?_
  refine WD.one (i := 16) rdouble_some_t5 #[true, true, true, true, true, true, true, true, true, true, true, true, true, true, true, true, true] rfl (by kernel_rfl) ?_
  refine WO.store (l' := [Value.slice a10 (V.length + 1) c11, Value.int .i64 gone]) 1 hS9 rfl Ty.sz41 rfl rfl rfl rfl rfl (Nat.le_of_ble_eq_true rfl) rfl (fun w12 (hS12 : St B (cel g7 [Value.int .i64 pv.who, str pv.s, Value.bool pv.sp] 55 :: cel g [Value.slice a10 (V.length + 1) c11, Value.int .i64 gone] 43 :: own a10 (V.length + 1) c11 55 3 ((V.flatMap rcell) ++ [Value.int .i64 pv.who, str pv.s, Value.bool pv.sp]) :: L) w12) => ?_)
  clear hS9
  refine WO.nil ?_
  refine NX.last (by decide) ?_
  refine WD.done rdouble_some_t5 (by kernel_rfl) ?_
  refine NX.go ?_
  refine WP.seq ?_
  refine WP.region rfl ?_
  refine WO.val (run_move rfl) rfl rfl rfl ?_
  refine WO.val (run_assign rfl) rfl rfl rfl ?_
  refine WO.nil ?_
  refine NX.go ?_
  refine WP.ret ?_
  refine NX.done (l := [.tmp 4]) rfl rfl ?_
  refine ⟨by rw [if_neg (show ¬ V.length = 64 by omega)]; rfl, ?_⟩
  rw [if_neg (show ¬ V.length = 64 by omega)]
  exact ref_snoc (by omega) hS12.drop
theorem rspoil_none {B w : World} {L : List HP} {g : Nat} {V : List PV} {gone : Int} (hS : St B (refP g V gone :: L) w) (i : Int) (hi : i < 0 ∨ (V.length : Int) ≤ i) (at_ : Int) (b : UInt8) : Does Try.prog 19 [Value.pointer (some ⟨g, 0, none⟩), Value.int .i64 i, Value.int .i64 at_, Value.int .u8 (b.toNat : Int)] w (fun v w1 => v = .int .i64 2 ∧ St B (refP g V gone :: L) w1) := by
 refine enter (n := 73) Try.func19 rfl rfl [Value.pointer (some ⟨g, 0, none⟩), Value.int .i64 i, Value.int .i64 at_, Value.int .u8 (b.toNat : Int)] rfl ?_
 refine WP.seq ?_
 refine WP.region rfl ?_
 refine WO.val (run_assign rfl) rfl rfl rfl ?_
 refine WO.nil ?_
 refine NX.go ?_
 refine WP.seq ?_
 refine WP.region rfl ?_
 refine WO.val (run_move rfl) rfl rfl rfl ?_
 refine WO.val (run_move rfl) rfl rfl rfl ?_
 refine WO.call rfl rfl Ty.hd20 rfl (rat_none hS i hi) (fun v2 w1 pv2 => ?_)
 obtain ⟨rfl, hS1⟩ := pv2
 clear hS
 refine WO.val (run_move rfl) rfl rfl rfl ?_
 refine WO.val (run_extract rfl rfl) rfl rfl rfl ?_
 refine WO.val (run_extract rfl rfl) rfl rfl rfl ?_
 refine WO.val (run_extract rfl rfl) rfl rfl rfl ?_
 refine WO.val (run_assign rfl) rfl rfl rfl ?_
 refine WO.val (run_assign rfl) rfl rfl rfl ?_
 refine WO.val (run_assign rfl) rfl rfl rfl ?_
 refine WO.nil ?_
 refine NX.go ?_
 refine WP.seq ?_
 refine WP.block ?_
 refine WP.seq ?_
 refine WP.region rfl ?_
 refine WO.val (run_move rfl) rfl rfl rfl ?_
 refine WO.val (run_neq rfl rfl) rfl rfl rfl ?_
 refine WO.val (run_assign rfl) rfl rfl rfl ?_
 refine WO.nil ?_
 refine NX.go ?_
 refine WP.condT rfl (by decide) ?_
 refine WP.seq ?_
 refine WP.region rfl ?_
 refine WO.val (run_move rfl) rfl rfl rfl ?_
 refine WO.val (run_assign rfl) rfl rfl rfl ?_
 refine WO.nil ?_
 refine NX.go ?_
 refine WP.ret ?_
 refine NX.blkRet ?_
 refine NX.thenRet ?_
 refine NX.done (l := [.tmp 8]) rfl rfl ?_
 exact ⟨rfl, hS1⟩
theorem rspoil_some_t12 : rtab .any (opsOf Try.f19 12) = (true, [([], []), ([0], [0]), ([1], [1]), ([2], [2]), ([], []), ([], []), ([5], [5]), ([6], [6]), ([7], [7]), ([], []), ([8, 9], [8, 9]), ([10], [10]), ([11], [11]), ([], []), ([13], [13]), ([12, 14], [12, 14]), ([3, 4, 0, 1, 2, 3, 4, 5, 6, 7, 8, 9, 10, 11, 12, 13, 14, 15], [3, 4]), ([16, 15, 0, 1, 2, 3, 4, 5, 6, 7, 8, 9, 10, 11, 12, 13, 14, 15], [15, 16])]) := by kernel_rfl
theorem rspoil_some {B w : World} {L : List HP} {g : Nat} {V : List PV} {gone : Int} (hS : St B (refP g V gone :: L) w) (i : Nat) (pv : PV) (hpv : V[i]? = some pv) (at_ : Int) (b : UInt8) : Does Try.prog 19 [Value.pointer (some ⟨g, 0, none⟩), Value.int .i64 (i : Int), Value.int .i64 at_, Value.int .u8 (b.toNat : Int)] w (fun v w1 => v = .int .i64 (spoilF V i at_ b).1 ∧ St B (refP g (spoilF V i at_ b).2 gone :: L) w1) := by
 refine enter (n := 73) Try.func19 rfl rfl [Value.pointer (some ⟨g, 0, none⟩), Value.int .i64 (i : Int), Value.int .i64 at_, Value.int .u8 (b.toNat : Int)] rfl ?_
 refine WP.seq ?_
 refine WP.region rfl ?_
 refine WO.val (run_assign rfl) rfl rfl rfl ?_
 refine WO.nil ?_
 refine NX.go ?_
 refine WP.seq ?_
 refine WP.region rfl ?_
 refine WO.val (run_move rfl) rfl rfl rfl ?_
 refine WO.val (run_move rfl) rfl rfl rfl ?_
 refine WO.call rfl rfl Ty.hd20 rfl (rat_some hS i pv hpv) (fun v2 w1 pv2 => ?_)
 obtain ⟨rfl, hS1⟩ := pv2
 clear hS
 refine WO.val (run_move rfl) rfl rfl rfl ?_
 refine WO.val (run_extract rfl rfl) rfl rfl rfl ?_
 refine WO.val (run_extract rfl rfl) rfl rfl rfl ?_
 refine WO.val (run_extract rfl rfl) rfl rfl rfl ?_
 refine WO.val (run_assign rfl) rfl rfl rfl ?_
 refine WO.val (run_assign rfl) rfl rfl rfl ?_
 refine WO.val (run_assign rfl) rfl rfl rfl ?_
 refine WO.nil ?_
 refine NX.go ?_
 refine WP.seq ?_
 refine WP.block ?_
 refine WP.seq ?_
 refine WP.region rfl ?_
 obtain ⟨a, cap, hlen, hS3⟩ := refP_open hS1
 clear hS1
 have hil := (List.getElem?_eq_some_iff.1 hpv).1
 have hcap := hS3.own_le_i 1 rfl
 have hsa := own_isSome hS3 1 rfl (by omega)
 refine WO.val (run_move rfl) rfl rfl rfl ?_
 refine WO.val (run_neq rfl rfl) rfl rfl rfl ?_
 refine WO.val (run_assign rfl) rfl rfl rfl ?_
 refine WO.nil ?_
 refine NX.go ?_
 refine WP.condF rfl (by decide) ?_
 refine WP.seq ?_
 refine WP.region rfl ?_
 refine WO.val (run_move rfl) rfl rfl rfl ?_
 refine WO.val (run_lss rfl rfl) rfl rfl rfl ?_
 refine WO.val (run_move rfl) rfl rfl rfl ?_
 by_cases g27 : at_ < 0
 ·
  refine WO.off rfl rfl (decide_eq_true g27) rfl ?_
  refine WO.off rfl rfl (decide_eq_true g27) rfl ?_
  refine WO.off rfl rfl (decide_eq_true g27) rfl ?_
  refine WO.off rfl rfl (decide_eq_true g27) rfl ?_
  refine WO.val (run_pickT rfl (decide_eq_true g27) rfl) rfl rfl rfl ?_
  refine WO.val (run_assign rfl) rfl rfl rfl ?_
  refine WO.nil ?_
  refine NX.go ?_
  refine WP.condT rfl rfl ?_
  refine WP.seq ?_
  refine WP.region rfl ?_
  refine WO.val (run_assign rfl) rfl rfl rfl ?_
  refine WO.nil ?_
  refine NX.go ?_
  refine WP.ret ?_
  refine NX.blkRet ?_
  refine NX.thenRet ?_
  refine NX.done (l := [.tmp 8]) rfl rfl ?_
  have hr : spoilF V i at_ b = (2, V) := by unfold spoilF; rw [if_neg (by omega), Int.toNat_natCast, hpv]; show (if _ then _ else if _ then _ else if _ then _ else _) = _; rw [if_pos (by omega)]
  rw [hr]
  exact ⟨rfl, refP_shut hlen hS3⟩
 ·
  refine WO.on rfl rfl (decide_eq_false g27) ?_
  refine WO.val (run_move rfl) rfl rfl rfl ?_
  refine WO.on rfl rfl (decide_eq_false g27) ?_
  refine WO.val (run_move rfl) rfl rfl rfl ?_
  refine WO.on rfl rfl (decide_eq_false g27) ?_
  refine WO.val (run_lenS rfl Try.underlying9 rfl) rfl rfl rfl ?_
  refine WO.on rfl rfl (decide_eq_false g27) ?_
  refine WO.val (run_geq rfl rfl) rfl rfl rfl ?_
  refine WO.val (run_pickF rfl (decide_eq_false g27) rfl) rfl rfl rfl ?_
  refine WO.val (run_assign rfl) rfl rfl rfl ?_
  refine WO.nil ?_
  refine NX.go ?_
  refine WP.condP rfl (fun g24 => ?_) (fun g24 => ?_)
  ·
   refine WP.seq ?_
   refine WP.region rfl ?_
   refine WO.val (run_assign rfl) rfl rfl rfl ?_
   refine WO.nil ?_
   refine NX.go ?_
   refine WP.ret ?_
   refine NX.blkRet ?_
   refine NX.thenRet ?_
   refine NX.done (l := [.tmp 8]) rfl rfl ?_
   have hr : spoilF V i at_ b = (2, V) := by unfold spoilF; rw [if_neg (by omega), Int.toNat_natCast, hpv]; show (if _ then _ else if _ then _ else if _ then _ else _) = _; rw [if_pos (by omega)]
   rw [hr]
   exact ⟨rfl, refP_shut hlen hS3⟩
  ·
   refine WP.seq ?_
   refine WP.region rfl ?_
   refine WO.val (run_move rfl) rfl rfl rfl ?_
   refine WO.val (run_eql rfl rfl) rfl rfl rfl ?_
   refine WO.val (run_assign rfl) rfl rfl rfl ?_
   refine WO.nil ?_
   refine NX.go ?_
   refine WP.condP rfl (fun g33 => ?_) (fun g33 => ?_)
   ·
    refine WP.seq ?_
    refine WP.region rfl ?_
    refine WO.val (run_assign rfl) rfl rfl rfl ?_
    refine WO.nil ?_
    refine NX.go ?_
    refine WP.ret ?_
    refine NX.blkRet ?_
    refine NX.thenRet ?_
    refine NX.done (l := [.tmp 8]) rfl rfl ?_
    have hr : spoilF V i at_ b = (3, V) := by unfold spoilF; rw [if_neg (by omega), Int.toNat_natCast, hpv]; show (if _ then _ else if _ then _ else if _ then _ else _) = _; rw [if_neg (by omega), if_pos ((u8_eq0 b).1 g33)]
    rw [hr]
    exact ⟨rfl, refP_shut hlen hS3⟩
   ·
    refine WP.seq ?_
    refine WP.region rfl ?_
    refine WO.val (run_move rfl) rfl rfl rfl ?_
    refine WO.val (run_nilCheck rfl) rfl rfl rfl ?_
    refine WO.val (run_fieldAddr (q := ⟨g, 0, none⟩) (show fieldB Try.prog 43 0 = some 0 from by kernel_rfl) rfl rfl) rfl rfl rfl ?_
    refine WO.val (run_load Ty.ag41 rfl ((hS3.cel_at 0 rfl 0).trans rfl)) rfl rfl rfl ?_
    refine WO.val (run_move rfl) rfl rfl rfl ?_
    refine WO.val (run_indexAddr (q := adr a (i * 3)) Try.underlying41 Ty.sz55 rfl rfl (by omega) (by omega) ((hS3.own_rd_i 1 rfl).2.1 (by omega)) rfl) rfl rfl rfl ?_
    refine WO.val (run_fieldAddr (q := (adr a (i * 3 + 2))) (show fieldB Try.prog 55 2 = some 2 from by kernel_rfl) rfl (adr_add _ (by assumption) _ _)) rfl rfl rfl ?_
    refine WO.val (run_load Ty.ag4 rfl ((hS3.own_rd_i 1 rfl).cell ((flat_get rcell_len hpv (j := 2) (by decide)).trans rfl))) rfl rfl rfl ?_
    refine WO.val (run_assign rfl) rfl rfl rfl ?_
    refine WO.nil ?_
    refine NX.go ?_
    refine WP.condB rfl (fun g36 => ?_) (fun g36 => ?_)
    ·
     refine WP.seq ?_
     refine WP.region rfl ?_
     refine WO.val (run_assign rfl) rfl rfl rfl ?_
     refine WO.nil ?_
     refine NX.go ?_
     refine WP.ret ?_
     refine NX.blkRet ?_
     refine NX.thenRet ?_
     refine NX.done (l := [.tmp 8]) rfl rfl ?_
     have hr : spoilF V i at_ b = (13, V) := by unfold spoilF; rw [if_neg (by omega), Int.toNat_natCast, hpv]; show (if _ then _ else if _ then _ else if _ then _ else _) = _; rw [if_neg (by omega), if_neg (fun h => g33 ((u8_eq0 b).2 h)), if_pos g36]
     rw [hr]
     exact ⟨rfl, refP_shut hlen hS3⟩
    ·
     refine WP.skip ?_
     refine NX.blk ?_
     refine NX.go ?_
     refine WP.seq ?_
     refine WP.region rfl ?_
     refine WO.val (run_move rfl) rfl rfl rfl ?_
     refine WO.strToBytes Try.underlying28 Try.underlying5 Try.underlying9 rfl hS3 rfl (fun a5 c6 w4 hS4 => ?_)
     clear hS3
     refine WO.val (run_assign rfl) rfl rfl rfl ?_
     refine WO.nil ?_
     refine NX.go ?_
     refine WP.seq ?_
     refine WP.region rfl ?_
     obtain ⟨c, hc⟩ : ∃ c, pv.s[at_.toNat]? = some c := ⟨_, List.getElem?_eq_getElem (by omega)⟩
     refine WO.val (run_move rfl) rfl rfl rfl ?_
     refine WO.val (run_move rfl) rfl rfl rfl ?_
     refine WO.val (run_move rfl) rfl rfl rfl ?_
     refine WO.val (run_move rfl) rfl rfl rfl ?_
     refine WO.val (run_indexAddr (q := adr a5 ((at_).toNat)) Try.underlying28 Ty.sz5 rfl rfl (by omega) (by omega) ((hS4.own_rd_i 0 rfl).2.1 (by omega)) (by simp)) rfl rfl rfl ?_
     refine WO.val (run_load Ty.ag5 rfl ((hS4.own_rd_i 0 rfl).cell (by rw [List.getElem?_map, hc]; rfl))) rfl rfl rfl ?_
     refine WO.val (run_move rfl) rfl rfl rfl ?_
     refine WO.val (run_xor rfl rfl (u8x c b)) rfl rfl rfl ?_
     refine WO.val (run_indexAddr (q := adr a5 ((at_).toNat)) Try.underlying28 Ty.sz5 rfl rfl (by omega) (by omega) ((hS4.own_rd_i 0 rfl).2.1 (by omega)) (by simp)) rfl rfl rfl ?_
     refine WO.storeOwnAt 0 hS4 rfl Ty.sz5 rfl rfl rfl rfl (by simp; omega) (fun w7 hS7 => ?_)
     replace hS7 : St B (own a5 pv.s.length c6 5 1 (u8s (xorAt pv.s at_.toNat b)) :: cel g [Value.slice a V.length cap, Value.int .i64 gone] 43 :: own a V.length cap 55 3 (V.flatMap rcell) :: L) w7 := (by rw [show (pv.s.map fun b => Value.int .u8 b.toNat) = u8s pv.s from rfl, u8s_xor hc] at hS7; exact hS7)
     clear hS4
     refine WO.nil ?_
     refine NX.go ?_
     refine WP.seq ?_
     refine WD.start (fun w => Rd w a5 pv.s.length 1 (u8s (xorAt pv.s at_.toNat b)) ∧ (∀ j, World.cell? w ⟨g, j, none⟩ = [Value.slice a V.length cap, Value.int .i64 gone][j]?) ∧ Rd w a V.length 3 (V.flatMap rcell)) [17] #[false, false, false, false, false, false, false, false, false, false, false, false, false, false, false, false, false, false] Ty.mo rfl (by kernel_rfl) hS7 (fun _ h => ⟨h.own_rd_i 0 rfl, h.cel_at 1 rfl, h.own_rd_i 2 rfl⟩) (fun w8 hS8 s9 => ?_)
     clear hS7
     refine WD.pure (i := 0) rspoil_some_t12 #[true, false, false, false, false, false, false, false, false, false, false, false, false, false, false, false, false, false] rfl rfl rfl (by kernel_rfl) (PQ.then PQ.body) rfl (fun w => run_move rfl) ?_
     refine WD.pure (i := 1) rspoil_some_t12 #[true, true, false, false, false, false, false, false, false, false, false, false, false, false, false, false, false, false] rfl rfl rfl (by kernel_rfl) (PQ.then PQ.body) rfl (fun w => run_nilCheck rfl) ?_
     refine WD.pure (i := 2) rspoil_some_t12 #[true, true, true, false, false, false, false, false, false, false, false, false, false, false, false, false, false, false] rfl rfl rfl (by kernel_rfl) (PQ.then PQ.body) rfl (fun w => run_fieldAddr (q := ⟨g, 0, none⟩) (show fieldB Try.prog 43 0 = some 0 from by kernel_rfl) rfl rfl) ?_
     refine WD.take (i := 3) rspoil_some_t12 #[true, true, true, true, false, false, false, false, false, false, false, false, false, false, false, false, false, false] s9 rfl rfl rfl (by kernel_rfl) (PQ.then PQ.body) rfl (fun w hs => run_load Ty.ag41 rfl ((hs.2.1 0).trans rfl)) ?_
     refine WD.pure (i := 4) rspoil_some_t12 #[true, true, true, true, true, false, false, false, false, false, false, false, false, false, false, false, false, false] rfl rfl rfl (by kernel_rfl) (PQ.then PQ.body) rfl (fun w => run_move rfl) ?_
     refine WD.pure (i := 5) rspoil_some_t12 #[true, true, true, true, true, true, false, false, false, false, false, false, false, false, false, false, false, false] rfl rfl rfl (by kernel_rfl) (PQ.then PQ.body) rfl (fun w => run_move rfl) ?_
     refine WD.pure (i := 6) rspoil_some_t12 #[true, true, true, true, true, true, true, false, false, false, false, false, false, false, false, false, false, false] rfl rfl rfl (by kernel_rfl) (PQ.then PQ.body) rfl (fun w => run_nilCheck rfl) ?_
     refine WD.pure (i := 7) rspoil_some_t12 #[true, true, true, true, true, true, true, true, false, false, false, false, false, false, false, false, false, false] rfl rfl rfl (by kernel_rfl) (PQ.then PQ.body) rfl (fun w => run_fieldAddr (q := ⟨g, 0, none⟩) (show fieldB Try.prog 43 0 = some 0 from by kernel_rfl) rfl rfl) ?_
     refine WD.take (i := 8) rspoil_some_t12 #[true, true, true, true, true, true, true, true, true, false, false, false, false, false, false, false, false, false] s9 rfl rfl rfl (by kernel_rfl) (PQ.then PQ.body) rfl (fun w hs => run_load Ty.ag41 rfl ((hs.2.1 0).trans rfl)) ?_
     refine WD.pure (i := 9) rspoil_some_t12 #[true, true, true, true, true, true, true, true, true, true, false, false, false, false, false, false, false, false] rfl rfl rfl (by kernel_rfl) (PQ.then PQ.body) rfl (fun w => run_move rfl) ?_
     refine WD.take (i := 10) rspoil_some_t12 #[true, true, true, true, true, true, true, true, true, true, true, false, false, false, false, false, false, false] s9 rfl rfl rfl (by kernel_rfl) (PQ.then PQ.body) rfl (fun w hs => run_indexAddr (q := adr a (i * 3)) Try.underlying41 Ty.sz55 rfl rfl (by omega) (by omega) ((hs.2.2).2.1 (by omega)) rfl) ?_
     refine WD.pure (i := 11) rspoil_some_t12 #[true, true, true, true, true, true, true, true, true, true, true, true, false, false, false, false, false, false] rfl rfl rfl (by kernel_rfl) (PQ.then PQ.body) rfl (fun w => run_fieldAddr (q := (adr a (i * 3 + 0))) (show fieldB Try.prog 55 0 = some 0 from by kernel_rfl) rfl (adr_add _ (by assumption) _ _)) ?_
     refine WD.take (i := 12) rspoil_some_t12 #[true, true, true, true, true, true, true, true, true, true, true, true, true, false, false, false, false, false] s9 rfl rfl rfl (by kernel_rfl) (PQ.then PQ.body) rfl (fun w hs => run_load Ty.ag3 rfl ((hs.2.2).cell ((flat_get rcell_len hpv (j := 0) (by decide)).trans rfl))) ?_
     refine WD.pure (i := 13) rspoil_some_t12 #[true, true, true, true, true, true, true, true, true, true, true, true, true, true, false, false, false, false] rfl rfl rfl (by kernel_rfl) (PQ.then PQ.body) rfl (fun w => run_move rfl) ?_
     refine WD.take (i := 14) rspoil_some_t12 #[true, true, true, true, true, true, true, true, true, true, true, true, true, true, true, false, false, false] s9 rfl rfl rfl (by kernel_rfl) (PQ.then PQ.body) rfl (fun w hs => run_bytesToStr Try.underlying28 Try.underlying5 Try.underlying9 rfl (hs.1)) ?_
     refine WD.pure (i := 15) rspoil_some_t12 #[true, true, true, true, true, true, true, true, true, true, true, true, true, true, true, true, false, false] rfl rfl rfl (by kernel_rfl) (PQ.then PQ.body) rfl (fun w => run_build (v := Value.agg #[Value.int .i64 pv.who, str (xorAt pv.s at_.toNat b), Value.bool true]) rfl (fun w => by kernel_rfl)) ?_
     refine WD.take (i := 16) rspoil_some_t12 #[true, true, true, true, true, true, true, true, true, true, true, true, true, true, true, true, true, false] s9 rfl rfl rfl (by kernel_rfl) (PQ.then PQ.body) rfl (fun w hs => run_indexAddr (q := adr a (i * 3)) Try.underlying41 Ty.sz55 rfl rfl (by omega) (by omega) ((hs.2.2).2.1 (by omega)) rfl) ?_
     refine WD.one (i := 17) rspoil_some_t12 #[true, true, true, true, true, true, true, true, true, true, true, true, true, true, true, true, true, true] rfl (by kernel_rfl) ?_
     refine WO.storeOwn (l' := ((V.set i ⟨pv.who, xorAt pv.s at_.toNat b, true⟩).flatMap rcell)) 2 hS8 rfl Ty.sz55 rfl rfl rfl rfl rfl (by decide) (by rw [flat_len rcell_len]; omega) (flat_splice rcell_len ⟨pv.who, xorAt pv.s at_.toNat b, true⟩ hil) (fun w10 (hS10 : St B (own a5 pv.s.length c6 5 1 (u8s (xorAt pv.s at_.toNat b)) :: cel g [Value.slice a V.length cap, Value.int .i64 gone] 43 :: own a V.length cap 55 3 ((V.set i ⟨pv.who, xorAt pv.s at_.toNat b, true⟩).flatMap rcell) :: L) w10) => ?_)
     clear hS8
     refine WO.nil ?_
     refine NX.last (by decide) ?_
     refine WD.done rspoil_some_t12 (by kernel_rfl) ?_
     refine NX.go ?_
     refine WP.seq ?_
     refine WP.region rfl ?_
     refine WO.val (run_assign rfl) rfl rfl rfl ?_
     refine WO.nil ?_
     refine NX.go ?_
     refine WP.ret ?_
     refine NX.done (l := [.tmp 8]) rfl rfl ?_
     have hr : spoilF V i at_ b = (0, V.set i ⟨pv.who, xorAt pv.s at_.toNat b, true⟩) := by unfold spoilF; rw [if_neg (by omega), Int.toNat_natCast, hpv]; show (if _ then _ else if _ then _ else if _ then _ else _) = _; rw [if_neg (by omega), if_neg (fun h => g33 ((u8_eq0 b).2 h)), if_neg (by rw [g36]; decide)]
     rw [hr]
     exact ⟨rfl, refP_shut (by simpa using hlen) (by rw [List.length_set]; exact hS10.drop)⟩
end Go.Proofs.Ytcdbnbdeinhokaa.SL
