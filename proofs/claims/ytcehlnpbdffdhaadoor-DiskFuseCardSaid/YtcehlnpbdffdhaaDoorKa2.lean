/- Behind the fuse no write goes. -/
import Derived.Test.YtcehlnpbdffdhaaDoorKa
namespace Go.Proofs.YtcehlnpbdffdhaaDoor.SL
open Go.RowKit Go.Proofs.YtcehlnpbdffdhaaDoor
open Go.Proofs.YtcehlnpbdffdhaaDoorW.PrintLast (rtab opsOf)
set_option linter.unusedVariables false
set_option linter.unusedSimpArgs false
theorem diskFuse_core {B w : World} {L : List HP} (a b : Int) (hS : St B L w) : Does Tryd.prog 4 [Value.int .i64 a, Value.int .i64 b] w (fun v w1 => v = .bool true ∧ St B L w1) := by
 refine enter (n := 59) Tryd.func4 rfl rfl [Value.int .i64 a, Value.int .i64 b] rfl ?_
 refine WP.seq ?_
 refine WP.region rfl ?_
 refine WO.val (run_assign rfl) rfl rfl rfl ?_
 refine WO.nil ?_
 refine NX.go ?_
 refine WP.seq ?_
 refine WP.seq ?_
 refine WP.region rfl ?_
 refine WO.call rfl rfl Ty.hd21 rfl (dworks_spec hS) (fun v2 w1 pv2 => ?_)
 obtain ⟨rfl, hS1⟩ := pv2
 clear hS
 refine WO.val (run_not rfl rfl) rfl rfl rfl ?_
 refine WO.nil ?_
 refine NX.go ?_
 refine WP.condF rfl (notB_t rfl) ?_
 refine WP.skip ?_
 refine NX.go ?_
 refine WP.seq ?_
 refine WP.region rfl ?_
 refine WO.val (run_move rfl) rfl rfl rfl ?_
 refine WO.val (run_convI Tryd.underlying44 (by kernel_rfl) rfl (IntKind.wrap_u64 _)) rfl rfl rfl ?_
 refine WO.val (run_rem rfl rfl (by omega) (IntWalk.rem_in _ _ (by omega))) rfl rfl rfl ?_
 obtain ⟨n, hn⟩ : ∃ n : Nat, (n : Int) = (a % 18446744073709551616) % 30 := ⟨((a % 18446744073709551616) % 30).toNat, by omega⟩
 refine WO.val (run_convI Tryd.underlying3 (by kernel_rfl) rfl (show IntKind.i64.wrap ((a % 18446744073709551616) % 30) = (n : Int) by rw [← hn]; exact IntWalk.i64_in _ (by omega))) rfl rfl rfl ?_
 refine WO.val (run_move rfl) rfl rfl rfl ?_
 refine WO.val (run_convI Tryd.underlying44 (by kernel_rfl) rfl (IntKind.wrap_u64 _)) rfl rfl rfl ?_
 refine WO.val (run_rem rfl rfl (by omega) (IntWalk.rem_in _ _ (by omega))) rfl rfl rfl ?_
 obtain ⟨m, hm⟩ : ∃ m : Nat, (m : Int) = (b % 18446744073709551616) % 40 := ⟨((b % 18446744073709551616) % 40).toNat, by omega⟩
 refine WO.val (run_convI Tryd.underlying3 (by kernel_rfl) rfl (show IntKind.i64.wrap ((b % 18446744073709551616) % 40) = (m : Int) by rw [← hm]; exact IntWalk.i64_in _ (by omega))) rfl rfl rfl ?_
 refine WO.val (run_assign rfl) rfl rfl rfl ?_
 refine WO.val (run_assign rfl) rfl rfl rfl ?_
 refine WO.nil ?_
 refine NX.go ?_
 refine WP.seq ?_
 refine WP.region rfl ?_
 refine WO.call rfl rfl Ty.hd22 rfl (dnew_spec 1000 hS1) (fun v6 w5 pv6 => ?_)
 obtain ⟨g4, rfl, hS5⟩ := pv6
 clear hS1
 obtain ⟨D3, eD3⟩ : ∃ qq, qq = newD 1000 := ⟨_, rfl⟩
 rw [← eD3] at hS5
 have kD3 : OkD D3 0 0 := by rw [eD3]; exact OkD.new (by omega)
 refine WO.val (run_assign rfl) rfl rfl rfl ?_
 refine WO.nil ?_
 refine NX.go ?_
 refine WP.seq ?_
 refine WP.region rfl ?_
 refine WO.val (run_move rfl) rfl rfl rfl ?_
 refine WO.val (run_move rfl) rfl rfl rfl ?_
 refine WO.call rfl rfl Ty.hd23 rfl (dfuse_spec (n : Int) hS5) (fun v9 w8 pv9 => ?_)
 obtain ⟨hv, hS8⟩ := pv9
 clear hS5
 obtain ⟨D7, eD7⟩ : ∃ qq, qq = fuseD D3 (n : Int) := ⟨_, rfl⟩
 rw [← eD7] at hS8
 have kD7 : OkD D7 (0) (0) := by rw [eD7]; exact kD3.fuse (by omega)
 subst hv
 refine WO.nil ?_
 refine NX.go ?_
 refine WP.seq ?_
 refine WP.seq ?_
 refine WP.region rfl ?_
 refine WO.val (run_assign rfl) rfl rfl rfl ?_
 refine WO.nil ?_
 refine NX.go ?_
 refine WP.block ?_
 refine WP.loop (α := Nat × Dk) (fun x => match x with | ⟨i, D⟩ => [(0, Value.int .i64 (n : Int)), (1, Value.int .i64 (m : Int)), (4, Value.bool false), (5, Value.pointer (some ⟨g4, 0, none⟩)), (6, Value.int .i64 (i : Int))]) (fun x w => match x with | ⟨i, D⟩ => (FI D (n : Int) i ∧ OkD D i i ∧ i ≤ m) ∧ St B (dkA g4 D :: L) w) (fun x => match x with | ⟨i, D⟩ => m - i) (0, D7) ⟨⟨by rw [eD7, eD3]; exact FI.new (by omega), kD7, Nat.zero_le _⟩, hS8⟩ (Sub.cons rfl (Sub.cons rfl (Sub.cons rfl (Sub.cons rfl (Sub.consE rfl (by first | rfl | first | rfl | (congr 1; omega) | (simp; done) | (simp; omega)) (Sub.nil _)))))) ?_
 rintro ⟨i, D⟩ w10 ⟨⟨hf, kD, him⟩, hS10⟩
 clear hS8
 refine WP.seq ?_
 refine WP.seq ?_
 refine WP.region rfl ?_
 refine WO.val (run_move rfl) rfl rfl rfl ?_
 refine WO.val (run_move rfl) rfl rfl rfl ?_
 refine WO.val (run_lss rfl rfl) rfl rfl rfl ?_
 refine WO.nil ?_
 refine NX.go ?_
 refine WP.condP rfl (fun g24 => ?_) (fun g24 => ?_)
 ·
  refine WP.skip ?_
  refine NX.go ?_
  refine WP.seq ?_
  refine WP.block ?_
  refine WP.seq ?_
  refine WP.region rfl ?_
  refine WO.val (run_move rfl) rfl rfl rfl ?_
  refine WO.call rfl rfl Ty.hd24 rfl (dappend_spec kD.w kD.b (by omega) (by omega) [97] [120] (by first | exact Nat.le_of_ble_eq_true rfl | omega | (simp; omega) | assumption) (by first | exact Nat.le_of_ble_eq_true rfl | omega | (simp; omega) | assumption) hS10) (fun v14 w13 pv14 => ?_)
  obtain ⟨hv, hS13⟩ := pv14
  clear hS10
  obtain ⟨r12, er12⟩ : ∃ qq, qq = (appendD D [97] [120]).2 := ⟨_, rfl⟩
  rw [← er12] at hv
  obtain ⟨D11, eD11⟩ : ∃ qq, qq = (appendD D [97] [120]).1 := ⟨_, rfl⟩
  rw [← eD11] at hS13
  have kD11 : OkD D11 (i + 1) (i + 1) := by rw [eD11]; exact kD.append
  subst hv
  refine WO.val (run_assign rfl) rfl rfl rfl ?_
  refine WO.nil ?_
  refine NX.go ?_
  refine WP.seq ?_
  refine WP.region rfl ?_
  refine WO.val (run_move rfl) rfl rfl rfl ?_
  have hr : r12 = if (i : Int) < (n : Int) then 0 else 11 := by rw [er12]; exact (hf.step kD (by omega)).2
  refine WO.val (run_eql rfl rfl) rfl rfl rfl ?_
  refine WO.val (run_move rfl) rfl rfl rfl ?_
  refine WO.val (run_move rfl) rfl rfl rfl ?_
  refine WO.val (run_lss rfl rfl) rfl rfl rfl ?_
  refine WO.val (run_neqB Tryd.underlying4 rfl rfl rfl) rfl rfl rfl ?_
  refine WO.val (run_move rfl) rfl rfl rfl ?_
  rcases Bool.eq_false_or_eq_true (!(decide (r12 = 0) == decide ((i : Int) < (n : Int)))) with g35 | g35
  ·
   exfalso; rw [hr] at g35; by_cases hin : (i : Int) < (n : Int) <;> simp [hin] at g35
  ·
   refine WO.on rfl rfl g35 ?_
   refine WO.val (run_move rfl) rfl rfl rfl ?_
   refine WO.on rfl rfl g35 ?_
   refine WO.val (run_neq rfl rfl) rfl rfl rfl ?_
   refine WO.on rfl rfl g35 ?_
   refine WO.val (run_move rfl) rfl rfl rfl ?_
   by_cases g38 : ¬ r12 = 0
   ·
    refine WO.on rfl rfl (decide_eq_true g38) ?_
    refine WO.val (run_move rfl) rfl rfl rfl ?_
    refine WO.on rfl rfl (decide_eq_true g38) ?_
    refine WO.val (run_neq rfl rfl) rfl rfl rfl ?_
    refine WO.on rfl rfl g35 ?_
    refine WO.val (run_pickT rfl (decide_eq_true g38) rfl) rfl rfl rfl ?_
    refine WO.val (run_pickF rfl g35 rfl) rfl rfl rfl ?_
    refine WO.nil ?_
    refine NX.go ?_
    refine WP.condP rfl (fun g42 => ?_) (fun g42 => ?_)
    ·
     exfalso; rw [hr] at g42; by_cases hin : (i : Int) < (n : Int)
     · rw [if_pos hin] at hr; omega
     · rw [if_neg hin] at g42; exact g42 rfl
    ·
     refine WP.skip ?_
     refine NX.blk ?_
     refine NX.go ?_
     refine WP.region rfl ?_
     refine WO.val (run_move rfl) rfl rfl rfl ?_
     refine WO.val (run_add rfl rfl (IntWalk.i64_in _ (by omega))) rfl rfl rfl ?_
     refine WO.val (run_assign rfl) rfl rfl rfl ?_
     refine WO.nil ?_
     exact NX.again (i + 1, D11) ⟨⟨by rw [eD11]; exact (hf.step kD (by omega)).1, kD11, by omega⟩, hS13⟩ (by show m - (i + 1) < m - i; omega) (Sub.cons rfl (Sub.cons rfl (Sub.cons rfl (Sub.cons rfl (Sub.consE rfl (by congr 1) (Sub.nil _))))))
   ·
    refine WO.off rfl rfl (decide_eq_false g38) rfl ?_
    refine WO.off rfl rfl (decide_eq_false g38) rfl ?_
    refine WO.on rfl rfl g35 ?_
    refine WO.val (run_pickF rfl (decide_eq_false g38) rfl) rfl rfl rfl ?_
    refine WO.val (run_pickF rfl g35 rfl) rfl rfl rfl ?_
    refine WO.nil ?_
    refine NX.go ?_
    refine WP.condF rfl rfl ?_
    refine WP.skip ?_
    refine NX.blk ?_
    refine NX.go ?_
    refine WP.region rfl ?_
    refine WO.val (run_move rfl) rfl rfl rfl ?_
    refine WO.val (run_add rfl rfl (IntWalk.i64_in _ (by omega))) rfl rfl rfl ?_
    refine WO.val (run_assign rfl) rfl rfl rfl ?_
    refine WO.nil ?_
    exact NX.again (i + 1, D11) ⟨⟨by rw [eD11]; exact (hf.step kD (by omega)).1, kD11, by omega⟩, hS13⟩ (by show m - (i + 1) < m - i; omega) (Sub.cons rfl (Sub.cons rfl (Sub.cons rfl (Sub.cons rfl (Sub.consE rfl (by congr 1) (Sub.nil _))))))
 ·
  refine WP.exit ?_
  refine NX.thenExit ?_
  refine NX.thenExit ?_
  refine NX.blkExit ?_
  refine NX.go ?_
  refine WP.seq ?_
  refine WP.seq ?_
  refine WP.region rfl ?_
  refine WO.val (run_move rfl) rfl rfl rfl ?_
  refine WO.call rfl rfl Ty.hd25 rfl (dup_spec hS10) (fun v16 w15 pv16 => ?_)
  obtain ⟨rfl, hS15⟩ := pv16
  clear hS10
  refine WO.val (run_move rfl) rfl rfl rfl ?_
  refine WO.val (run_move rfl) rfl rfl rfl ?_
  refine WO.val (run_leq rfl rfl) rfl rfl rfl ?_
  refine WO.val (run_neqB Tryd.underlying4 rfl rfl rfl) rfl rfl rfl ?_
  refine WO.nil ?_
  refine NX.go ?_
  refine WP.condB rfl (fun g48 => ?_) (fun g48 => ?_)
  ·
   exfalso; have hd := hf.dead; rw [show i = m by omega] at hd; rw [hd] at g48; simp at g48
  ·
   refine WP.skip ?_
   refine NX.go ?_
   refine WP.seq ?_
   refine WP.region rfl ?_
   refine WO.val (run_move rfl) rfl rfl rfl ?_
   refine WO.buildSlice (l := [Value.int .i64 1, Value.int .i64 999]) hS15 Tryd.underlying50 rfl (fun w => by kernel_rfl) rfl (fun g18 w17 lg18 hS17 => ?_)
   clear hS15
   have hS17 := hS17.own_of_cel (m := 2) (k := 1) rfl
   replace hS17 : St B (own (some ⟨g18, 0, none⟩) 2 2 3 1 (ri [1, 999]) :: dkA g4 D :: L) w17 := hS17
   have hS20 := hS17.permT [1, 0] (L' := dkA g4 D :: own (some ⟨g18, 0, none⟩) 2 2 3 1 (ri [1, 999]) :: L) rfl
   clear hS17
   refine WO.call rfl rfl Ty.hd26 rfl (dcrash_spec (zs := [1, 999]) kD.w kD.b (by omega) (by omega) (fun h => h.own_rd.1) (by first | decide | omega) (by first | decide | omega) hS20) (fun v22 w21 pv22 => ?_)
   obtain ⟨hv, hS21⟩ := pv22
   clear hS20
   obtain ⟨D19, eD19⟩ : ∃ qq, qq = crashD D [1, 999] := ⟨_, rfl⟩
   rw [← eD19] at hS21
   have kD19 : OkD D19 (i) (i) := by rw [eD19]; exact kD.crash
   subst hv
   refine WO.nil ?_
   refine NX.go ?_
   refine WP.seq ?_
   refine WP.region rfl ?_
   refine WO.val (run_move rfl) rfl rfl rfl ?_
   refine WO.call rfl rfl Ty.hd25 rfl (dup_spec hS21) (fun v24 w23 pv24 => ?_)
   obtain ⟨rfl, hS23⟩ := pv24
   clear hS21
   refine WO.val (run_move rfl) rfl rfl rfl ?_
   rcases Bool.eq_false_or_eq_true (!D19.dead) with g54 | g54
   ·
    refine WO.on rfl rfl g54 ?_
    refine WO.val (run_move rfl) rfl rfl rfl ?_
    refine WO.on rfl rfl g54 ?_
    refine WO.call rfl rfl Ty.hd24 rfl (dappend_spec kD19.w kD19.b (by omega) (by omega) [97] [120] (by first | exact Nat.le_of_ble_eq_true rfl | omega | (simp; omega) | assumption) (by first | exact Nat.le_of_ble_eq_true rfl | omega | (simp; omega) | assumption) hS23) (fun v28 w27 pv28 => ?_)
    obtain ⟨hv, hS27⟩ := pv28
    clear hS23
    obtain ⟨r26, er26⟩ : ∃ qq, qq = (appendD D19 [97] [120]).2 := ⟨_, rfl⟩
    rw [← er26] at hv
    obtain ⟨D25, eD25⟩ : ∃ qq, qq = (appendD D19 [97] [120]).1 := ⟨_, rfl⟩
    rw [← eD25] at hS27
    have kD25 : OkD D25 (i + 1) (i + 1) := by rw [eD25]; exact kD19.append
    subst hv
    refine WO.on rfl rfl g54 ?_
    refine WO.val (run_eql rfl rfl) rfl rfl rfl ?_
    refine WO.val (run_pickT rfl g54 rfl) rfl rfl rfl ?_
    refine WO.val (run_assign rfl) rfl rfl rfl ?_
    refine WO.nil ?_
    refine NX.go ?_
    refine WP.ret ?_
    refine NX.done (l := [.tmp 4]) rfl rfl ?_
    exact ⟨congrArg Value.bool (decide_eq_true (by rw [er26, eD19]; exact hf.crash kD (by omega))), hS27.drop.drop⟩
   ·
    exfalso; rw [eD19] at g54; exact Bool.noConfusion g54
end Go.Proofs.YtcehlnpbdffdhaaDoor.SL
