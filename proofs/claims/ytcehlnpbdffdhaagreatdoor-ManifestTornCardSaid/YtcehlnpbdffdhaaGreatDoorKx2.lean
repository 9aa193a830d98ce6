/- Manifests: what is wrong with one. -/
import Derived.Test.YtcehlnpbdffdhaaGreatDoorKx
import Derived.Test.YtcehlnpbdffdhaaGreatDoorKw3
namespace Go.Proofs.YtcehlnpbdffdhaaGreatDoor.SL
open Go.RowKit Go.Proofs.YtcehlnpbdffdhaaGreatDoor
open Go.Proofs.YtcehlnpbdffdhaaGreatDoorW.PrintLast (rtab opsOf)
set_option linter.unusedVariables false
set_option linter.unusedSimpArgs false

/-- The four numbers, by their places. -/
def nthM (m : Man) : Nat → Int
  | 0 => m.e
  | 1 => m.b
  | 2 => m.p
  | _ => m.c
theorem chk_next {m : Man} {i : Nat} {x : Int} (hi : i ≤ 4) (h4 : i < 4) (hx : nthM m i = x) (h1 : 0 ≤ x) (h2 : x ≤ 99999999) (h3 : ¬ m.e = 0) (h : (0 < i → inM m.e ∧ ¬ m.e = 0) ∧ (1 < i → inM m.b) ∧ (2 < i → inM m.p) ∧ (3 < i → inM m.c)) :
    i + 1 ≤ 4 ∧ (0 < i + 1 → inM m.e ∧ ¬ m.e = 0) ∧ (1 < i + 1 → inM m.b) ∧ (2 < i + 1 → inM m.p) ∧ (3 < i + 1 → inM m.c) := by
  obtain ⟨q0, q1, q2, q3⟩ := h
  match i, hx, h4 with
  | 0, hx, _ => exact ⟨by decide, fun _ => ⟨⟨by rw [show m.e = x from hx]; exact h1, by rw [show m.e = x from hx]; exact h2⟩, h3⟩, fun h => absurd h (by decide), fun h => absurd h (by decide), fun h => absurd h (by decide)⟩
  | 1, hx, _ => exact ⟨by decide, fun _ => q0 (by decide), fun _ => ⟨by rw [show m.b = x from hx]; exact h1, by rw [show m.b = x from hx]; exact h2⟩, fun h => absurd h (by decide), fun h => absurd h (by decide)⟩
  | 2, hx, _ => exact ⟨by decide, fun _ => q0 (by decide), fun _ => q1 (by decide), fun _ => ⟨by rw [show m.p = x from hx]; exact h1, by rw [show m.p = x from hx]; exact h2⟩, fun h => absurd h (by decide)⟩
  | 3, hx, _ => exact ⟨by decide, fun _ => q0 (by decide), fun _ => q1 (by decide), fun _ => q2 (by decide), fun _ => ⟨by rw [show m.c = x from hx]; exact h1, by rw [show m.c = x from hx]; exact h2⟩⟩
theorem chk_bad {m : Man} {i : Nat} {x : Int} (hx : nthM m i = x) (h : x < 0 ∨ 99999999 < x ∨ m.e = 0) : ¬ (inM m.e ∧ inM m.b ∧ inM m.p ∧ inM m.c ∧ ¬ m.e = 0) := by
  rintro ⟨⟨a1, a2⟩, ⟨b1, b2⟩, ⟨c1, c2⟩, ⟨d1, d2⟩, e⟩
  match i, hx with
  | 0, hx => have : m.e = x := hx
             omega
  | 1, hx => have : m.b = x := hx
             omega
  | 2, hx => have : m.p = x := hx
             omega
  | n + 3, hx => have : m.c = x := hx
                 omega
theorem nthM_at (m : Man) {i : Nat} (h : i < 4) : [Value.int .i64 m.e, .int .i64 m.b, .int .i64 m.p, .int .i64 m.c][i]? = some (.int .i64 (nthM m i)) := by
  match i, h with
  | 0, _ => rfl
  | 1, _ => rfl
  | 2, _ => rfl
  | 3, _ => rfl
theorem run_at4 {n : Nat} {D : List Deferred} {T : Tm} {w : World} {dst : Option Nat} {ty : TypeId} {pos : String} {aft : Array Edge} {x y : Operand} {m : Man} {i : Nat} (hx : ev T x = some (.agg #[.int .i64 m.e, .int .i64 m.b, .int .i64 m.p, .int .i64 m.c])) (hy : ev T y = some (.int .i64 (i : Int))) (h : i < 4) :
    Run Tryz.prog n D T w ⟨dst, .index 117 x y, ty, pos, aft, none⟩ (.int .i64 (nthM m i)) w := by
  match i, h with
  | 0, _ => exact run_indexA hx hy (fun w => by kernel_rfl)
  | 1, _ => exact run_indexA hx hy (fun w => by kernel_rfl)
  | 2, _ => exact run_indexA hx hy (fun w => by kernel_rfl)
  | 3, _ => exact run_indexA hx hy (fun w => by kernel_rfl)
theorem checkM_spec {B w : World} {L : List HP} {X : HP} {a : Option Addr} {cap : Nat} {m : Man} (hX : ∀ {L : List HP} {w : World}, St B (X :: L) w → Rd w a m.bl.length 1 (m.bl.map str)) (hr : RngM m) (hS : St B (X :: L) w) : Does Tryz.prog 34 [Value.agg #[Value.int .i64 m.e, Value.int .i64 m.b, Value.int .i64 m.p, Value.int .i64 m.k, Value.int .i64 m.c, Value.slice a m.bl.length cap]] w (fun v w1 => v = .int .i64 (checkM m) ∧ St B (X :: L) w1) := by
 refine enter (n := 53) Tryz.func34 rfl rfl [Value.agg #[Value.int .i64 m.e, Value.int .i64 m.b, Value.int .i64 m.p, Value.int .i64 m.k, Value.int .i64 m.c, Value.slice a m.bl.length cap]] rfl ?_
 refine WP.seq ?_
 refine WP.region rfl ?_
 refine WO.box (l := [Value.int .i64 m.e, Value.int .i64 m.b, Value.int .i64 m.p, Value.int .i64 m.k, Value.int .i64 m.c, Value.slice a m.bl.length cap]) hS rfl rfl rfl (fun g2 w1 lg2 hS1 => ?_)
 clear hS
 refine WO.val (run_assign rfl) rfl rfl rfl ?_
 refine WO.nil ?_
 refine NX.go ?_
 refine WP.seq ?_
 refine WP.seq ?_
 refine WP.region rfl ?_
 refine WO.val (run_fieldAddr (q := ⟨g2, 0, none⟩) (show fieldB Tryz.prog 30 0 = some 0 from by kernel_rfl) rfl rfl) rfl rfl rfl ?_
 refine WO.val (run_load Ty.ag3 rfl ((hS1.cel_at 0 rfl 0).trans rfl)) rfl rfl rfl ?_
 refine WO.val (run_fieldAddr (q := ⟨g2, 1, none⟩) (show fieldB Tryz.prog 30 1 = some 1 from by kernel_rfl) rfl rfl) rfl rfl rfl ?_
 refine WO.val (run_load Ty.ag3 rfl ((hS1.cel_at 0 rfl 1).trans rfl)) rfl rfl rfl ?_
 refine WO.val (run_fieldAddr (q := ⟨g2, 2, none⟩) (show fieldB Tryz.prog 30 2 = some 2 from by kernel_rfl) rfl rfl) rfl rfl rfl ?_
 refine WO.val (run_load Ty.ag3 rfl ((hS1.cel_at 0 rfl 2).trans rfl)) rfl rfl rfl ?_
 refine WO.val (run_fieldAddr (q := ⟨g2, 4, none⟩) (show fieldB Tryz.prog 30 4 = some 4 from by kernel_rfl) rfl rfl) rfl rfl rfl ?_
 refine WO.val (run_load Ty.ag3 rfl ((hS1.cel_at 0 rfl 4).trans rfl)) rfl rfl rfl ?_
 refine WO.val (run_build (v := Value.agg #[Value.int .i64 m.e, Value.int .i64 m.b, Value.int .i64 m.p, Value.int .i64 m.c]) rfl (fun w => by kernel_rfl)) rfl rfl rfl ?_
 refine WO.val (run_move rfl) rfl rfl rfl ?_
 refine WO.nil ?_
 refine NX.go ?_
 refine WP.block ?_
 refine WP.loop (α := Nat) (fun x => match x with | i => [(1, Value.pointer (some ⟨g2, 0, none⟩)), (15, Value.agg #[Value.int .i64 m.e, Value.int .i64 m.b, Value.int .i64 m.p, Value.int .i64 m.c]), (16, Value.int .i64 (i : Int))]) (fun x w => match x with | i => (i ≤ 4 ∧ (0 < i → inM m.e ∧ ¬ m.e = 0) ∧ (1 < i → inM m.b) ∧ (2 < i → inM m.p) ∧ (3 < i → inM m.c)) ∧ St B (cel g2 [Value.int .i64 m.e, Value.int .i64 m.b, Value.int .i64 m.p, Value.int .i64 m.k, Value.int .i64 m.c, Value.slice a m.bl.length cap] 30 :: X :: L) w) (fun x => match x with | i => 4 - i) 0 ⟨⟨by decide, fun h => absurd h (by decide), fun h => absurd h (by decide), fun h => absurd h (by decide), fun h => absurd h (by decide)⟩, hS1⟩ (Sub.cons rfl (Sub.cons rfl (Sub.consE rfl (by first | rfl | first | rfl | (congr 1; omega) | (simp; done) | (simp; omega)) (Sub.nil _)))) ?_
 rintro i w3 ⟨⟨hi, q0, q1, q2, q3⟩, hS3⟩
 clear hS1
 refine WP.seq ?_
 refine WP.region rfl ?_
 refine WO.val (run_lss rfl rfl) rfl rfl rfl ?_
 refine WO.nil ?_
 refine NX.go ?_
 refine WP.seq ?_
 refine WP.condP rfl (fun g17 => ?_) (fun g17 => ?_)
 ·
  refine WP.skip ?_
  refine NX.go ?_
  refine WP.seq ?_
  refine WP.block ?_
  refine WP.seq ?_
  refine WP.region rfl ?_
  have hxi : nthM m i = nthM m i := rfl
  refine WO.val (run_at4 (i := i) rfl rfl (by omega)) rfl rfl rfl ?_
  refine WO.val (run_assign rfl) rfl rfl rfl ?_
  refine WO.nil ?_
  refine NX.go ?_
  refine WP.seq ?_
  refine WP.region rfl ?_
  refine WO.val (run_move rfl) rfl rfl rfl ?_
  refine WO.val (run_lss rfl rfl) rfl rfl rfl ?_
  refine WO.val (run_move rfl) rfl rfl rfl ?_
  by_cases g21 : (nthM m i) < 0
  ·
   refine WO.off rfl rfl (decide_eq_true g21) rfl ?_
   refine WO.off rfl rfl (decide_eq_true g21) rfl ?_
   refine WO.val (run_pickT rfl (decide_eq_true g21) rfl) rfl rfl rfl ?_
   refine WO.val (run_move rfl) rfl rfl rfl ?_
   refine WO.off rfl rfl rfl rfl ?_
   refine WO.off rfl rfl rfl rfl ?_
   refine WO.off rfl rfl rfl rfl ?_
   refine WO.val (run_pickT rfl rfl rfl) rfl rfl rfl ?_
   refine WO.nil ?_
   refine NX.go ?_
   refine WP.condT rfl rfl ?_
   refine WP.seq ?_
   refine WP.region rfl ?_
   refine WO.val (run_assign rfl) rfl rfl rfl ?_
   refine WO.nil ?_
   refine NX.go ?_
   refine WP.ret ?_
   refine NX.blkRet ?_
   refine NX.thenRet ?_
   refine NX.thenRet ?_
   refine NX.blkRet ?_
   refine NX.thenRet ?_
   refine NX.done (l := [.tmp 2]) rfl rfl ?_
   exact ⟨congrArg (Value.int .i64) (by rw [checkM, if_pos (fun h => chk_bad hxi (by omega) h)]), hS3.drop⟩
  ·
   refine WO.on rfl rfl (decide_eq_false g21) ?_
   refine WO.val (run_move rfl) rfl rfl rfl ?_
   refine WO.on rfl rfl (decide_eq_false g21) ?_
   refine WO.val (run_gtr rfl rfl) rfl rfl rfl ?_
   refine WO.val (run_pickF rfl (decide_eq_false g21) rfl) rfl rfl rfl ?_
   refine WO.val (run_move rfl) rfl rfl rfl ?_
   by_cases g25 : 99999999 < (nthM m i)
   ·
    refine WO.off rfl rfl (decide_eq_true g25) rfl ?_
    refine WO.off rfl rfl (decide_eq_true g25) rfl ?_
    refine WO.off rfl rfl (decide_eq_true g25) rfl ?_
    refine WO.val (run_pickT rfl (decide_eq_true g25) rfl) rfl rfl rfl ?_
    refine WO.nil ?_
    refine NX.go ?_
    refine WP.condT rfl rfl ?_
    refine WP.seq ?_
    refine WP.region rfl ?_
    refine WO.val (run_assign rfl) rfl rfl rfl ?_
    refine WO.nil ?_
    refine NX.go ?_
    refine WP.ret ?_
    refine NX.blkRet ?_
    refine NX.thenRet ?_
    refine NX.thenRet ?_
    refine NX.blkRet ?_
    refine NX.thenRet ?_
    refine NX.done (l := [.tmp 2]) rfl rfl ?_
    exact ⟨congrArg (Value.int .i64) (by rw [checkM, if_pos (fun h => chk_bad hxi (by omega) h)]), hS3.drop⟩
   ·
    refine WO.on rfl rfl (decide_eq_false g25) ?_
    refine WO.val (run_fieldAddr (q := ⟨g2, 0, none⟩) (show fieldB Tryz.prog 30 0 = some 0 from by kernel_rfl) rfl rfl) rfl rfl rfl ?_
    refine WO.on rfl rfl (decide_eq_false g25) ?_
    refine WO.val (run_load Ty.ag3 rfl ((hS3.cel_at 0 rfl 0).trans rfl)) rfl rfl rfl ?_
    refine WO.on rfl rfl (decide_eq_false g25) ?_
    refine WO.val (run_eql rfl rfl) rfl rfl rfl ?_
    refine WO.val (run_pickF rfl (decide_eq_false g25) rfl) rfl rfl rfl ?_
    refine WO.nil ?_
    refine NX.go ?_
    refine WP.condP rfl (fun g29 => ?_) (fun g29 => ?_)
    ·
     refine WP.seq ?_
     refine WP.region rfl ?_
     refine WO.val (run_assign rfl) rfl rfl rfl ?_
     refine WO.nil ?_
     refine NX.go ?_
     refine WP.ret ?_
     refine NX.blkRet ?_
     refine NX.thenRet ?_
     refine NX.thenRet ?_
     refine NX.blkRet ?_
     refine NX.thenRet ?_
     refine NX.done (l := [.tmp 2]) rfl rfl ?_
     exact ⟨congrArg (Value.int .i64) (by rw [checkM, if_pos (fun h => chk_bad hxi (by omega) h)]), hS3.drop⟩
    ·
     refine WP.skip ?_
     refine NX.blk ?_
     refine NX.go ?_
     refine WP.region rfl ?_
     refine WO.val (run_add rfl rfl (IntWalk.i64_in _ (by omega))) rfl rfl rfl ?_
     refine WO.val (run_move rfl) rfl rfl rfl ?_
     refine WO.nil ?_
     exact NX.again (i + 1) ⟨chk_next hi (by omega) hxi (by omega) (by omega) (by omega) ⟨q0, q1, q2, q3⟩, hS3⟩ (by show 4 - (i + 1) < 4 - i; omega) (Sub.cons rfl (Sub.cons rfl (Sub.consE rfl (by congr 1) (Sub.nil _))))
 ·
  refine WP.exit ?_
  refine NX.thenExit ?_
  refine NX.thenExit ?_
  refine NX.blkExit ?_
  refine NX.go ?_
  refine WP.seq ?_
  refine WP.block ?_
  refine WP.seq ?_
  have hall : ¬ ¬ (inM m.e ∧ inM m.b ∧ inM m.p ∧ inM m.c ∧ ¬ m.e = 0) := fun h => h ⟨(q0 (by omega)).1, q1 (by omega), q2 (by omega), q3 (by omega), (q0 (by omega)).2⟩
  refine WP.region rfl ?_
  refine WO.val (run_fieldAddr (q := ⟨g2, 2, none⟩) (show fieldB Tryz.prog 30 2 = some 2 from by kernel_rfl) rfl rfl) rfl rfl rfl ?_
  refine WO.val (run_load Ty.ag3 rfl ((hS3.cel_at 0 rfl 2).trans rfl)) rfl rfl rfl ?_
  refine WO.val (run_fieldAddr (q := ⟨g2, 0, none⟩) (show fieldB Tryz.prog 30 0 = some 0 from by kernel_rfl) rfl rfl) rfl rfl rfl ?_
  refine WO.val (run_load Ty.ag3 rfl ((hS3.cel_at 0 rfl 0).trans rfl)) rfl rfl rfl ?_
  refine WO.val (run_lss rfl rfl) rfl rfl rfl ?_
  refine WO.val (run_assign rfl) rfl rfl rfl ?_
  refine WO.nil ?_
  refine NX.go ?_
  refine WP.condP rfl (fun g31 => ?_) (fun g31 => ?_)
  ·
   refine WP.seq ?_
   refine WP.region rfl ?_
   refine WO.val (run_assign rfl) rfl rfl rfl ?_
   refine WO.nil ?_
   refine NX.go ?_
   refine WP.ret ?_
   refine NX.blkRet ?_
   refine NX.thenRet ?_
   refine NX.done (l := [.tmp 2]) rfl rfl ?_
   exact ⟨congrArg (Value.int .i64) (by rw [checkM, if_neg hall, if_pos (by omega)]), hS3.drop⟩
  ·
   refine WP.seq ?_
   refine WP.region rfl ?_
   refine WO.val (run_fieldAddr (q := ⟨g2, 5, none⟩) (show fieldB Tryz.prog 30 5 = some 5 from by kernel_rfl) rfl rfl) rfl rfl rfl ?_
   refine WO.val (run_load Ty.ag22 rfl ((hS3.cel_at 0 rfl 5).trans rfl)) rfl rfl rfl ?_
   refine WO.val (run_len rfl Tryz.underlying22 rfl) rfl rfl rfl ?_
   refine WO.val (run_gtr rfl rfl) rfl rfl rfl ?_
   refine WO.val (run_assign rfl) rfl rfl rfl ?_
   refine WO.nil ?_
   refine NX.go ?_
   refine WP.condP rfl (fun g37 => ?_) (fun g37 => ?_)
   ·
    refine WP.seq ?_
    refine WP.region rfl ?_
    refine WO.val (run_assign rfl) rfl rfl rfl ?_
    refine WO.nil ?_
    refine NX.go ?_
    refine WP.ret ?_
    refine NX.blkRet ?_
    refine NX.thenRet ?_
    refine NX.done (l := [.tmp 2]) rfl rfl ?_
    exact ⟨congrArg (Value.int .i64) (by rw [checkM, if_neg hall, if_neg (by omega), if_pos (by omega)]), hS3.drop⟩
   ·
    refine WP.skip ?_
    refine NX.blk ?_
    refine NX.go ?_
    refine WP.seq ?_
    refine WP.seq ?_
    have hn := hr.n
    refine WP.region rfl ?_
    refine WO.val (run_fieldAddr (q := ⟨g2, 5, none⟩) (show fieldB Tryz.prog 30 5 = some 5 from by kernel_rfl) rfl rfl) rfl rfl rfl ?_
    refine WO.val (run_load Ty.ag22 rfl ((hS3.cel_at 0 rfl 5).trans rfl)) rfl rfl rfl ?_
    refine WO.val (run_len rfl Tryz.underlying22 rfl) rfl rfl rfl ?_
    refine WO.val (run_move rfl) rfl rfl rfl ?_
    refine WO.nil ?_
    refine NX.go ?_
    refine WP.block ?_
    refine WP.loop (α := Nat) (fun x => match x with | i => [(1, Value.pointer (some ⟨g2, 0, none⟩)), (43, Value.slice a m.bl.length cap), (44, Value.int .i64 ((m.bl.length : Nat) : Int)), (45, Value.int .i64 (i : Int))]) (fun x w => match x with | i => (i ≤ m.bl.length ∧ (m.bl.take i).all fileF = true) ∧ St B (cel g2 [Value.int .i64 m.e, Value.int .i64 m.b, Value.int .i64 m.p, Value.int .i64 m.k, Value.int .i64 m.c, Value.slice a m.bl.length cap] 30 :: X :: L) w) (fun x => match x with | i => m.bl.length - i) 0 ⟨⟨Nat.zero_le _, rfl⟩, hS3⟩ (Sub.cons rfl (Sub.cons rfl (Sub.cons rfl (Sub.consE rfl (by first | rfl | first | rfl | (congr 1; omega) | (simp; done) | (simp; omega)) (Sub.nil _))))) ?_
    rintro i w4 ⟨⟨hi, hok⟩, hS4⟩
    clear hS3
    refine WP.seq ?_
    refine WP.region rfl ?_
    refine WO.val (run_lss rfl rfl) rfl rfl rfl ?_
    refine WO.nil ?_
    refine NX.go ?_
    refine WP.seq ?_
    refine WP.condP rfl (fun g46 => ?_) (fun g46 => ?_)
    ·
     refine WP.skip ?_
     refine NX.go ?_
     refine WP.seq ?_
     refine WP.block ?_
     refine WP.seq ?_
     refine WP.region rfl ?_
     obtain ⟨t, ht⟩ : ∃ t, m.bl[i]? = some t := ⟨_, List.getElem?_eq_getElem (by omega)⟩
     refine WO.val (run_indexAddr (q := adr a i) Tryz.underlying22 Ty.sz9 rfl rfl (by omega) (by omega) ((hX (hS4.focus 1 rfl)).2.1 (by omega)) (by simp)) rfl rfl rfl ?_
     refine WO.val (run_load Ty.ag9 rfl ((hX (hS4.focus 1 rfl)).cell (str_at ht))) rfl rfl rfl ?_
     refine WO.val (run_assign rfl) rfl rfl rfl ?_
     refine WO.nil ?_
     refine NX.go ?_
     refine WP.seq ?_
     refine WP.region rfl ?_
     refine WO.val (run_move rfl) rfl rfl rfl ?_
     refine WO.call rfl rfl Ty.hd76 rfl (mname_spec t (by have := hr.t t (List.mem_of_getElem? ht); omega) hS4) (fun v6 w5 pv6 => ?_)
     obtain ⟨rfl, hS5⟩ := pv6
     clear hS4
     refine WO.val (run_not rfl rfl) rfl rfl rfl ?_
     refine WO.nil ?_
     refine NX.go ?_
     refine WP.condB rfl (fun g51 => ?_) (fun g51 => ?_)
     ·
      refine WP.seq ?_
      refine WP.region rfl ?_
      refine WO.val (run_assign rfl) rfl rfl rfl ?_
      refine WO.nil ?_
      refine NX.go ?_
      refine WP.ret ?_
      refine NX.blkRet ?_
      refine NX.thenRet ?_
      refine NX.thenRet ?_
      refine NX.blkRet ?_
      refine NX.thenRet ?_
      refine NX.done (l := [.tmp 2]) rfl rfl ?_
      exact ⟨congrArg (Value.int .i64) (by rw [checkM, if_neg hall, if_neg (by omega), if_neg (by omega), if_neg (all_not ht (by simpa using g51))]), hS5.drop⟩
     ·
      refine WP.skip ?_
      refine NX.blk ?_
      refine NX.go ?_
      refine WP.region rfl ?_
      refine WO.val (run_add rfl rfl (IntWalk.i64_in _ (by omega))) rfl rfl rfl ?_
      refine WO.val (run_move rfl) rfl rfl rfl ?_
      refine WO.nil ?_
      exact NX.again (i + 1) ⟨⟨by omega, all_next hok ht (by simpa using g51)⟩, hS5⟩ (by show m.bl.length - (i + 1) < m.bl.length - i; omega) (Sub.cons rfl (Sub.cons rfl (Sub.cons rfl (Sub.consE rfl (by congr 1) (Sub.nil _)))))
    ·
     refine WP.exit ?_
     refine NX.thenExit ?_
     refine NX.thenExit ?_
     refine NX.blkExit ?_
     refine NX.go ?_
     refine WP.seq ?_
     refine WP.region rfl ?_
     refine WO.val (run_assign rfl) rfl rfl rfl ?_
     refine WO.nil ?_
     refine NX.go ?_
     refine WP.ret ?_
     refine NX.done (l := [.tmp 2]) rfl rfl ?_
     exact ⟨congrArg (Value.int .i64) (by rw [checkM, if_neg hall, if_neg (by omega), if_neg (by omega), if_pos (by rw [List.take_of_length_le (by omega)] at hok; exact hok)]), hS4.drop⟩
end Go.Proofs.YtcehlnpbdffdhaaGreatDoor.SL
