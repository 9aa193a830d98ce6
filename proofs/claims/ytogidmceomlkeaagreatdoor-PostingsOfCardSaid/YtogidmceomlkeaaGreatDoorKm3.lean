/- Matchers: what is wrong with one. -/
import Derived.Test.YtogidmceomlkeaaGreatDoorKm2
namespace Go.Proofs.YtogidmceomlkeaaGreatDoor.SL
open Go.RowKit Go.Proofs.YtogidmceomlkeaaGreatDoor
open Go.Proofs.YtogidmceomlkeaaGreatDoorW.PrintLast (rtab opsOf)
set_option linter.unusedVariables false
set_option linter.unusedSimpArgs false

theorem chk_one (n v : List UInt8) : chk [⟨n, v⟩] = (nameF n && valueF v) := by
  simp only [chk, chkGo, List.length_singleton]
  cases h : nameF n with
  | false => simp
  | true => simp [gt_nil (nameF_ne h)]
def orDash (v : List UInt8) : List UInt8 := if v = [] then [45] else v
theorem value_dash : valueF [45] = true := by decide
theorem chk_dash (n v : List UInt8) : (chk [⟨n, orDash v⟩] = true) ↔ ¬ (nameF n = false ∨ (¬ v = [] ∧ valueF v = false)) := by
  rw [chk_one]; unfold orDash
  by_cases h : v = []
  · simp [h, value_dash]
  · simp [h]
theorem lright_spec {B w : World} {L : List HP} (m : Mt) (h1 : m.n.length ≤ 140737488355328 ∧ m.v.length ≤ 140737488355328) (hS : St B L w) : Does Tryz.prog 35 [Value.agg #[Value.int .i64 m.k, str m.n, str m.v]] w (fun v w1 => v = .int .i64 (rightF m) ∧ St B L w1) := by
 refine enter (n := 33) Tryz.func35 rfl rfl [Value.agg #[Value.int .i64 m.k, str m.n, str m.v]] rfl ?_
 refine WP.seq ?_
 refine WP.region rfl ?_
 refine WO.box (l := [Value.int .i64 m.k, str m.n, str m.v]) hS rfl rfl rfl (fun g2 w1 lg2 hS1 => ?_)
 clear hS
 refine WO.val (run_assign rfl) rfl rfl rfl ?_
 refine WO.nil ?_
 refine NX.go ?_
 refine WP.seq ?_
 refine WP.seq ?_
 refine WP.region rfl ?_
 refine WO.val (run_fieldAddr (q := ⟨g2, 0, none⟩) (show fieldB Tryz.prog 37 0 = some 0 from by kernel_rfl) rfl rfl) rfl rfl rfl ?_
 refine WO.val (run_load Ty.ag3 rfl ((hS1.cel_at 0 rfl 0).trans rfl)) rfl rfl rfl ?_
 refine WO.val (run_lss rfl rfl) rfl rfl rfl ?_
 refine WO.val (run_move rfl) rfl rfl rfl ?_
 by_cases g7 : m.k < 1
 ·
  refine WO.off rfl rfl (decide_eq_true g7) rfl ?_
  refine WO.off rfl rfl (decide_eq_true g7) rfl ?_
  refine WO.off rfl rfl (decide_eq_true g7) rfl ?_
  refine WO.val (run_pickT rfl (decide_eq_true g7) rfl) rfl rfl rfl ?_
  refine WO.nil ?_
  refine NX.go ?_
  refine WP.condT rfl rfl ?_
  refine WP.seq ?_
  refine WP.region rfl ?_
  refine WO.val (run_assign rfl) rfl rfl rfl ?_
  refine WO.nil ?_
  refine NX.go ?_
  refine WP.ret ?_
  refine NX.thenRet ?_
  refine NX.done (l := [.tmp 2]) rfl rfl ?_
  exact ⟨congrArg (Value.int .i64) (right_5 (by omega)).symm, hS1.drop⟩
 ·
  refine WO.on rfl rfl (decide_eq_false g7) ?_
  refine WO.val (run_fieldAddr (q := ⟨g2, 0, none⟩) (show fieldB Tryz.prog 37 0 = some 0 from by kernel_rfl) rfl rfl) rfl rfl rfl ?_
  refine WO.on rfl rfl (decide_eq_false g7) ?_
  refine WO.val (run_load Ty.ag3 rfl ((hS1.cel_at 0 rfl 0).trans rfl)) rfl rfl rfl ?_
  refine WO.on rfl rfl (decide_eq_false g7) ?_
  refine WO.val (run_gtr rfl rfl) rfl rfl rfl ?_
  refine WO.val (run_pickF rfl (decide_eq_false g7) rfl) rfl rfl rfl ?_
  refine WO.nil ?_
  refine NX.go ?_
  refine WP.condP rfl (fun g11 => ?_) (fun g11 => ?_)
  ·
   refine WP.seq ?_
   refine WP.region rfl ?_
   refine WO.val (run_assign rfl) rfl rfl rfl ?_
   refine WO.nil ?_
   refine NX.go ?_
   refine WP.ret ?_
   refine NX.thenRet ?_
   refine NX.done (l := [.tmp 2]) rfl rfl ?_
   exact ⟨congrArg (Value.int .i64) (right_5 (by omega)).symm, hS1.drop⟩
  ·
   refine WP.skip ?_
   refine NX.go ?_
   refine WP.seq ?_
   refine WP.region rfl ?_
   refine WO.val (run_fieldAddr (q := ⟨g2, 2, none⟩) (show fieldB Tryz.prog 37 2 = some 2 from by kernel_rfl) rfl rfl) rfl rfl rfl ?_
   refine WO.val (run_load Ty.ag9 rfl ((hS1.cel_at 0 rfl 2).trans rfl)) rfl rfl rfl ?_
   refine WO.val (run_assign rfl) rfl rfl rfl ?_
   refine WO.nil ?_
   refine NX.go ?_
   refine WP.seq ?_
   refine WP.seq ?_
   refine WP.region rfl ?_
   refine WO.val (run_move rfl) rfl rfl rfl ?_
   refine WO.val (run_eqlS rfl rfl) rfl rfl rfl ?_
   refine WO.nil ?_
   refine NX.go ?_
   refine WP.meet (α := Unit) (fun x => match x with | _ => [(1, Value.pointer (some ⟨g2, 0, none⟩)), (3, str (orDash m.v))]) (fun x w => match x with | _ => St B (cel g2 [Value.int .i64 m.k, str m.n, str m.v] 37 :: L) w) ?_ (fun K3 => ?_)
   ·
    rintro _ w4 hS4
    clear hS1
    refine NX.go ?_
    refine WP.seq ?_
    refine WP.seq ?_
    refine WP.region rfl ?_
    refine WO.val (run_fieldAddr (q := ⟨g2, 1, none⟩) (show fieldB Tryz.prog 37 1 = some 1 from by kernel_rfl) rfl rfl) rfl rfl rfl ?_
    refine WO.val (run_load Ty.ag9 rfl ((hS4.cel_at 0 rfl 1).trans rfl)) rfl rfl rfl ?_
    refine WO.val (run_move rfl) rfl rfl rfl ?_
    refine WO.val (run_build (v := Value.agg #[str m.n, str (orDash m.v)]) rfl (fun w => by kernel_rfl)) rfl rfl rfl ?_
    refine WO.buildSlice (l := [str m.n, str (orDash m.v)]) hS4 Tryz.underlying29 rfl (fun w => by kernel_rfl) rfl (fun g6 w5 lg6 hS5 => ?_)
    clear hS4
    have hS5 := hS5.own_of_cel (m := 1) (k := 2) rfl
    refine WO.call rfl rfl Ty.hd49 rfl (lcheck_spec (a := some ⟨g6, 0, none⟩) (cap := 1) (l := [⟨m.n, orDash m.v⟩]) (fun h => h.own_rd.1) (by intro p hp; simp only [List.mem_singleton] at hp; subst hp; exact ⟨h1.1, by show (orDash m.v).length ≤ _; unfold orDash; split; (· simp); exact h1.2⟩) (by simp) hS5) (fun v8 w7 pv8 => ?_)
    obtain ⟨rfl, hS7⟩ := pv8
    clear hS5
    refine WO.val (run_neq rfl rfl) rfl rfl rfl ?_
    refine WO.val (run_move rfl) rfl rfl rfl ?_
    by_cases g23 : ¬ (if chk [⟨m.n, orDash m.v⟩] = true then (0 : Int) else 16) = 0
    ·
     refine WO.off rfl rfl (decide_eq_true g23) rfl ?_
     refine WO.off rfl rfl (decide_eq_true g23) rfl ?_
     refine WO.off rfl rfl (decide_eq_true g23) rfl ?_
     refine WO.off rfl rfl (decide_eq_true g23) rfl ?_
     refine WO.offU rfl rfl rfl ?_
     refine WO.offU rfl rfl rfl ?_
     refine WO.offU rfl rfl rfl ?_
     refine WO.off rfl rfl (decide_eq_true g23) rfl ?_
     refine WO.val (run_pickT rfl (decide_eq_true g23) rfl) rfl rfl rfl ?_
     refine WO.nil ?_
     refine NX.go ?_
     refine WP.condT rfl rfl ?_
     refine WP.seq ?_
     refine WP.region rfl ?_
     refine WO.val (run_assign rfl) rfl rfl rfl ?_
     refine WO.nil ?_
     refine NX.go ?_
     refine WP.ret ?_
     refine NX.thenRet ?_
     refine NX.done (l := [.tmp 2]) rfl rfl ?_
     have hck := chk_dash m.n m.v
     exact ⟨congrArg (Value.int .i64) (right_3 (by omega) (by clear hS7; by_cases hcc : chk [⟨m.n, orDash m.v⟩] = true <;> cases hnn : nameF m.n <;> simp_all)).symm, hS7.drop.drop⟩
    ·
     refine WO.on rfl rfl (decide_eq_false g23) ?_
     refine WO.val (run_fieldAddr (q := ⟨g2, 0, none⟩) (show fieldB Tryz.prog 37 0 = some 0 from by kernel_rfl) rfl rfl) rfl rfl rfl ?_
     refine WO.on rfl rfl (decide_eq_false g23) ?_
     refine WO.val (run_load Ty.ag3 rfl ((hS7.cel_at 1 rfl 0).trans rfl)) rfl rfl rfl ?_
     refine WO.on rfl rfl (decide_eq_false g23) ?_
     refine WO.val (run_eql rfl rfl) rfl rfl rfl ?_
     refine WO.on rfl rfl (decide_eq_false g23) ?_
     refine WO.val (run_move rfl) rfl rfl rfl ?_
     by_cases g27 : m.k = 4
     ·
      refine WO.on rfl rfl (decide_eq_true g27) ?_
      refine WO.val (run_fieldAddr (q := ⟨g2, 2, none⟩) (show fieldB Tryz.prog 37 2 = some 2 from by kernel_rfl) rfl rfl) rfl rfl rfl ?_
      refine WO.on rfl rfl (decide_eq_true g27) ?_
      refine WO.val (run_load Ty.ag9 rfl ((hS7.cel_at 1 rfl 2).trans rfl)) rfl rfl rfl ?_
      refine WO.on rfl rfl (decide_eq_true g27) ?_
      refine WO.val (run_neqS rfl rfl) rfl rfl rfl ?_
      refine WO.on rfl rfl (decide_eq_false g23) ?_
      refine WO.val (run_pickT rfl (decide_eq_true g27) rfl) rfl rfl rfl ?_
      refine WO.val (run_pickF rfl (decide_eq_false g23) rfl) rfl rfl rfl ?_
      refine WO.nil ?_
      refine NX.go ?_
      refine WP.condP rfl (fun g32 => ?_) (fun g32 => ?_)
      ·
       refine WP.seq ?_
       refine WP.region rfl ?_
       refine WO.val (run_assign rfl) rfl rfl rfl ?_
       refine WO.nil ?_
       refine NX.go ?_
       refine WP.ret ?_
       refine NX.thenRet ?_
       refine NX.done (l := [.tmp 2]) rfl rfl ?_
       have hck := chk_dash m.n m.v
       exact ⟨congrArg (Value.int .i64) (right_3 (by omega) (by clear hS7; by_cases hcc : chk [⟨m.n, orDash m.v⟩] = true <;> cases hnn : nameF m.n <;> simp_all)).symm, hS7.drop.drop⟩
      ·
       refine WP.skip ?_
       refine NX.go ?_
       refine WP.seq ?_
       refine WP.region rfl ?_
       refine WO.val (run_assign rfl) rfl rfl rfl ?_
       refine WO.nil ?_
       refine NX.go ?_
       refine WP.ret ?_
       refine NX.done (l := [.tmp 2]) rfl rfl ?_
       have hck := chk_dash m.n m.v
       exact ⟨congrArg (Value.int .i64) (right_0 (by omega) (by clear hS7; by_cases hcc : chk [⟨m.n, orDash m.v⟩] = true <;> cases hnn : nameF m.n <;> simp_all)).symm, hS7.drop.drop⟩
     ·
      refine WO.off rfl rfl (decide_eq_false g27) rfl ?_
      refine WO.off rfl rfl (decide_eq_false g27) rfl ?_
      refine WO.off rfl rfl (decide_eq_false g27) rfl ?_
      refine WO.on rfl rfl (decide_eq_false g23) ?_
      refine WO.val (run_pickF rfl (decide_eq_false g27) rfl) rfl rfl rfl ?_
      refine WO.val (run_pickF rfl (decide_eq_false g23) rfl) rfl rfl rfl ?_
      refine WO.nil ?_
      refine NX.go ?_
      refine WP.condF rfl rfl ?_
      refine WP.skip ?_
      refine NX.go ?_
      refine WP.seq ?_
      refine WP.region rfl ?_
      refine WO.val (run_assign rfl) rfl rfl rfl ?_
      refine WO.nil ?_
      refine NX.go ?_
      refine WP.ret ?_
      refine NX.done (l := [.tmp 2]) rfl rfl ?_
      have hck := chk_dash m.n m.v
      exact ⟨congrArg (Value.int .i64) (right_0 (by omega) (by clear hS7; by_cases hcc : chk [⟨m.n, orDash m.v⟩] = true <;> cases hnn : nameF m.n <;> simp_all)).symm, hS7.drop.drop⟩
   ·
    refine WP.condP rfl (fun g15 => ?_) (fun g15 => ?_)
    ·
     refine WP.region rfl ?_
     refine WO.val (run_assign rfl) rfl rfl rfl ?_
     refine WO.nil ?_
     exact K3 () _ _ hS1 (Sub.cons rfl (Sub.consE rfl (by unfold orDash; rw [if_pos g15]) (Sub.nil _)))
    ·
     refine WP.skip ?_
     exact K3 () _ _ hS1 (Sub.cons rfl (Sub.consE rfl (by unfold orDash; rw [if_neg g15]) (Sub.nil _)))
end Go.Proofs.YtogidmceomlkeaaGreatDoor.SL
