/- One file over another one. -/
import Derived.Test.YtcehlnpbdffdhaaDoorKa
import Derived.Test.YtcehlnpbdffdhaaDoorDk4
namespace Go.Proofs.YtcehlnpbdffdhaaDoor.SL
open Go.RowKit Go.Proofs.YtcehlnpbdffdhaaDoor
open Go.Proofs.YtcehlnpbdffdhaaDoorW.PrintLast (rtab opsOf)
set_option linter.unusedVariables false
set_option linter.unusedSimpArgs false
theorem diskSwaps_core {B w : World} {L : List HP} (x y : List UInt8) (a : Int) {ka : Option Addr} {kc : Nat} {l : List Int} (hA : Rd B ka l.length 1 (ri l)) (hS : St B L w) : Does Tryd.prog 6 [str x, str y, Value.int .i64 a, Value.slice ka l.length kc] w (fun v w1 => v = .bool true ∧ St B L w1) := by
 replace hS := hS.addPure (p := True) trivial
 refine enter (n := 94) Tryd.func6 rfl rfl [str x, str y, Value.int .i64 a, Value.slice ka l.length kc] rfl ?_
 refine WP.seq ?_
 refine WP.region rfl ?_
 refine WO.val (run_assign rfl) rfl rfl rfl ?_
 refine WO.nil ?_
 refine NX.go ?_
 refine WP.seq ?_
 refine WP.seq ?_
 refine WP.region rfl ?_
 refine WO.call rfl rfl Ty.hd21 rfl (dworks_spec hS) (fun v2 w1 pv2 => ?_)
 obtain ⟨rfl, hS1⟩ := pv2
 clear hS
 refine WO.val (run_not rfl rfl) rfl rfl rfl ?_
 refine WO.nil ?_
 refine NX.go ?_
 refine WP.condF rfl (notB_t rfl) ?_
 refine WP.skip ?_
 refine NX.go ?_
 refine WP.seq ?_
 refine WP.seq ?_
 refine WP.region rfl ?_
 refine WO.val (run_move rfl) rfl rfl rfl ?_
 refine WO.val (run_lenS rfl Tryd.underlying9 rfl) rfl rfl rfl ?_
 refine WO.val (run_gtr rfl rfl) rfl rfl rfl ?_
 refine WO.val (run_move rfl) rfl rfl rfl ?_
 by_cases g18 : 1000 < (x.length : Int)
 ·
  refine WO.off rfl rfl (decide_eq_true g18) rfl ?_
  refine WO.off rfl rfl (decide_eq_true g18) rfl ?_
  refine WO.off rfl rfl (decide_eq_true g18) rfl ?_
  refine WO.val (run_pickT rfl (decide_eq_true g18) rfl) rfl rfl rfl ?_
  refine WO.val (run_move rfl) rfl rfl rfl ?_
  refine WO.off rfl rfl rfl rfl ?_
  refine WO.off rfl rfl rfl rfl ?_
  refine WO.off rfl rfl rfl rfl ?_
  refine WO.val (run_pickT rfl rfl rfl) rfl rfl rfl ?_
  refine WO.nil ?_
  refine NX.go ?_
  refine WP.condT rfl rfl ?_
  refine WP.seq ?_
  refine WP.region rfl ?_
  refine WO.val (run_assign rfl) rfl rfl rfl ?_
  refine WO.nil ?_
  refine NX.go ?_
  refine WP.ret ?_
  refine NX.thenRet ?_
  refine NX.done (l := [.tmp 8]) rfl rfl ?_
  exact ⟨rfl, hS1.drop⟩
 ·
  refine WO.on rfl rfl (decide_eq_false g18) ?_
  refine WO.val (run_move rfl) rfl rfl rfl ?_
  refine WO.on rfl rfl (decide_eq_false g18) ?_
  refine WO.val (run_lenS rfl Tryd.underlying9 rfl) rfl rfl rfl ?_
  refine WO.on rfl rfl (decide_eq_false g18) ?_
  refine WO.val (run_gtr rfl rfl) rfl rfl rfl ?_
  refine WO.val (run_pickF rfl (decide_eq_false g18) rfl) rfl rfl rfl ?_
  refine WO.val (run_move rfl) rfl rfl rfl ?_
  by_cases g23 : 1000 < (y.length : Int)
  ·
   refine WO.off rfl rfl (decide_eq_true g23) rfl ?_
   refine WO.off rfl rfl (decide_eq_true g23) rfl ?_
   refine WO.off rfl rfl (decide_eq_true g23) rfl ?_
   refine WO.val (run_pickT rfl (decide_eq_true g23) rfl) rfl rfl rfl ?_
   refine WO.nil ?_
   refine NX.go ?_
   refine WP.condT rfl rfl ?_
   refine WP.seq ?_
   refine WP.region rfl ?_
   refine WO.val (run_assign rfl) rfl rfl rfl ?_
   refine WO.nil ?_
   refine NX.go ?_
   refine WP.ret ?_
   refine NX.thenRet ?_
   refine NX.done (l := [.tmp 8]) rfl rfl ?_
   exact ⟨rfl, hS1.drop⟩
  ·
   refine WO.on rfl rfl (decide_eq_false g23) ?_
   refine WO.val (run_move rfl) rfl rfl rfl ?_
   refine WO.on rfl rfl (decide_eq_false g23) ?_
   refine WO.val (run_len rfl Tryd.underlying50 rfl) rfl rfl rfl ?_
   refine WO.on rfl rfl (decide_eq_false g23) ?_
   refine WO.val (run_gtr rfl rfl) rfl rfl rfl ?_
   refine WO.val (run_pickF rfl (decide_eq_false g23) rfl) rfl rfl rfl ?_
   refine WO.nil ?_
   refine NX.go ?_
   refine WP.condP rfl (fun g27 => ?_) (fun g27 => ?_)
   ·
    refine WP.seq ?_
    refine WP.region rfl ?_
    refine WO.val (run_assign rfl) rfl rfl rfl ?_
    refine WO.nil ?_
    refine NX.go ?_
    refine WP.ret ?_
    refine NX.thenRet ?_
    refine NX.done (l := [.tmp 8]) rfl rfl ?_
    exact ⟨rfl, hS1.drop⟩
   ·
    refine WP.skip ?_
    refine NX.go ?_
    refine WP.seq ?_
    refine WP.region rfl ?_
    refine WO.call rfl rfl Ty.hd22 rfl (dnew_spec 1048576 hS1) (fun v6 w5 pv6 => ?_)
    obtain ⟨g4, rfl, hS5⟩ := pv6
    clear hS1
    obtain ⟨D3, eD3⟩ : ∃ qq, qq = newD 1048576 := ⟨_, rfl⟩
    rw [← eD3] at hS5
    have kD3 : OkD D3 0 0 := by rw [eD3]; exact OkD.new (by omega)
    have fD3 : D3 = (newD 1048576) := eD3
    refine WO.val (run_assign rfl) rfl rfl rfl ?_
    refine WO.nil ?_
    refine NX.go ?_
    refine WP.seq ?_
    refine WP.seq ?_
    refine WP.region rfl ?_
    refine WO.val (run_move rfl) rfl rfl rfl ?_
    refine WO.val (run_move rfl) rfl rfl rfl ?_
    refine WO.call rfl rfl Ty.hd24 rfl (dappend_spec kD3.w kD3.b (by omega) (by omega) [109] x (by first | exact Nat.le_of_ble_eq_true rfl | omega | (simp; omega) | assumption) (by first | exact Nat.le_of_ble_eq_true rfl | omega | (simp; omega) | assumption) hS5) (fun v10 w9 pv10 => ?_)
    obtain ⟨hv, hS9⟩ := pv10
    clear hS5
    obtain ⟨r8, er8⟩ : ∃ qq, qq = (appendD D3 [109] x).2 := ⟨_, rfl⟩
    rw [← er8] at hv
    obtain ⟨D7, eD7⟩ : ∃ qq, qq = (appendD D3 [109] x).1 := ⟨_, rfl⟩
    rw [← eD7] at hS9
    have kD7 : OkD D7 (0 + 1) (0 + x.length) := by rw [eD7]; exact kD3.append
    have fD7 : D7 = (⟨1048576, [(x, 0)], [([109], 0)], [], [⟨[], [109], 0⟩], false, -1⟩ : Dk) := by rw [eD7, fD3, sw_1 (by omega)]
    have fr8 : r8 = 0 := by rw [er8, fD3, sw_1 (by omega)]
    rw [fr8] at hv
    subst hv
    refine WO.val (run_neq rfl rfl) rfl rfl rfl ?_
    refine WO.val (run_move rfl) rfl rfl rfl ?_
    refine WO.on rfl rfl (by decide) ?_
    refine WO.val (run_move rfl) rfl rfl rfl ?_
    refine WO.on rfl rfl (by decide) ?_
    refine WO.call rfl rfl Ty.hd28 rfl (dsync_spec kD7.w [109] hS9) (fun v14 w13 pv14 => ?_)
    obtain ⟨hv, hS13⟩ := pv14
    clear hS9
    obtain ⟨r12, er12⟩ : ∃ qq, qq = (syncD D7 [109]).2 := ⟨_, rfl⟩
    rw [← er12] at hv
    obtain ⟨D11, eD11⟩ : ∃ qq, qq = (syncD D7 [109]).1 := ⟨_, rfl⟩
    rw [← eD11] at hS13
    have kD11 : OkD D11 (0 + 1) (0 + x.length) := by rw [eD11]; exact kD7.sync
    have fD11 : D11 = (⟨1048576, [(x, x.length)], [([109], 0)], [], [⟨[], [109], 0⟩], false, -1⟩ : Dk) := by rw [eD11, fD7, sw_2]
    have fr12 : r12 = 0 := by rw [er12, fD7, sw_2]
    rw [fr12] at hv
    subst hv
    refine WO.on rfl rfl (by decide) ?_
    refine WO.val (run_neq rfl rfl) rfl rfl rfl ?_
    refine WO.val (run_pickF rfl (by decide) rfl) rfl rfl rfl ?_
    refine WO.val (run_move rfl) rfl rfl rfl ?_
    refine WO.on rfl rfl (by decide) ?_
    refine WO.val (run_move rfl) rfl rfl rfl ?_
    refine WO.on rfl rfl (by decide) ?_
    refine WO.call rfl rfl Ty.hd29 rfl (dsyncNames_spec kD11.w hS13) (fun v18 w17 pv18 => ?_)
    obtain ⟨hv, hS17⟩ := pv18
    clear hS13
    obtain ⟨r16, er16⟩ : ∃ qq, qq = (syncNamesD D11).2 := ⟨_, rfl⟩
    rw [← er16] at hv
    obtain ⟨D15, eD15⟩ : ∃ qq, qq = (syncNamesD D11).1 := ⟨_, rfl⟩
    rw [← eD15] at hS17
    have kD15 : OkD D15 (0 + 1) (0 + x.length) := by rw [eD15]; exact kD11.syncNames
    have fD15 : D15 = (sw0 x (-1)) := by rw [eD15, fD11, sw_3]
    have fr16 : r16 = 0 := by rw [er16, fD11, sw_3]
    rw [fr16] at hv
    subst hv
    refine WO.on rfl rfl (by decide) ?_
    refine WO.val (run_neq rfl rfl) rfl rfl rfl ?_
    refine WO.val (run_pickF rfl (by decide) rfl) rfl rfl rfl ?_
    refine WO.nil ?_
    refine NX.go ?_
    refine WP.condF rfl (by decide) ?_
    refine WP.skip ?_
    refine NX.go ?_
    refine WP.seq ?_
    refine WP.region rfl ?_
    refine WO.val (run_move rfl) rfl rfl rfl ?_
    refine WO.val (run_move rfl) rfl rfl rfl ?_
    refine WO.val (run_convI Tryd.underlying44 (by kernel_rfl) rfl (IntKind.wrap_u64 _)) rfl rfl rfl ?_
    refine WO.val (run_rem rfl rfl (by omega) (IntWalk.rem_in _ _ (by omega))) rfl rfl rfl ?_
    obtain ⟨k, hk⟩ : ∃ k : Nat, (k : Int) = (a % 18446744073709551616) % 6 := ⟨((a % 18446744073709551616) % 6).toNat, by omega⟩
    refine WO.val (run_convI Tryd.underlying3 (by kernel_rfl) rfl (show IntKind.i64.wrap ((a % 18446744073709551616) % 6) = (k : Int) by rw [← hk]; exact IntWalk.i64_in _ (by omega))) rfl rfl rfl ?_
    refine WO.call rfl rfl Ty.hd23 rfl (dfuse_spec (k : Int) hS17) (fun v21 w20 pv21 => ?_)
    obtain ⟨hv, hS20⟩ := pv21
    clear hS17
    obtain ⟨D19, eD19⟩ : ∃ qq, qq = fuseD D15 (k : Int) := ⟨_, rfl⟩
    rw [← eD19] at hS20
    have kD19 : OkD D19 (0 + 1) (0 + x.length) := by rw [eD19]; exact kD15.fuse (by omega)
    have fD19 : D19 = (sw0 x (k : Int)) := by rw [eD19, fD15, sw_4]
    subst hv
    refine WO.nil ?_
    refine NX.go ?_
    refine WP.seq ?_
    refine WP.region rfl ?_
    refine WO.val (run_move rfl) rfl rfl rfl ?_
    refine WO.val (run_move rfl) rfl rfl rfl ?_
    refine WO.call rfl rfl Ty.hd24 rfl (dappend_spec kD19.w kD19.b (by omega) (by omega) [110] y (by first | exact Nat.le_of_ble_eq_true rfl | omega | (simp; omega) | assumption) (by first | exact Nat.le_of_ble_eq_true rfl | omega | (simp; omega) | assumption) hS20) (fun v25 w24 pv25 => ?_)
    obtain ⟨hv, hS24⟩ := pv25
    clear hS20
    obtain ⟨r23, er23⟩ : ∃ qq, qq = (appendD D19 [110] y).2 := ⟨_, rfl⟩
    rw [← er23] at hv
    obtain ⟨D22, eD22⟩ : ∃ qq, qq = (appendD D19 [110] y).1 := ⟨_, rfl⟩
    rw [← eD22] at hS24
    have kD22 : OkD D22 (0 + 1 + 1) (0 + x.length + y.length) := by rw [eD22]; exact kD19.append
    subst hv
    refine WO.val (run_eql rfl rfl) rfl rfl rfl ?_
    refine WO.val (run_move rfl) rfl rfl rfl ?_
    by_cases g53 : r23 = 0
    ·
     obtain ⟨k1, fD22⟩ := sw_go1 (x := x) (y := y) (k := k) (D1 := D22) (by omega) (by omega) (by rw [← fD19]; exact eD22) (by rw [← fD19, ← er23]; exact g53)
     refine WO.on rfl rfl (decide_eq_true g53) ?_
     refine WO.val (run_move rfl) rfl rfl rfl ?_
     refine WO.on rfl rfl (decide_eq_true g53) ?_
     refine WO.call rfl rfl Ty.hd28 rfl (dsync_spec kD22.w [110] hS24) (fun v29 w28 pv29 => ?_)
     obtain ⟨hv, hS28⟩ := pv29
     clear hS24
     obtain ⟨r27, er27⟩ : ∃ qq, qq = (syncD D22 [110]).2 := ⟨_, rfl⟩
     rw [← er27] at hv
     obtain ⟨D26, eD26⟩ : ∃ qq, qq = (syncD D22 [110]).1 := ⟨_, rfl⟩
     rw [← eD26] at hS28
     have kD26 : OkD D26 (0 + 1 + 1) (0 + x.length + y.length) := by rw [eD26]; exact kD22.sync
     subst hv
     refine WO.on rfl rfl (decide_eq_true g53) ?_
     refine WO.val (run_eql rfl rfl) rfl rfl rfl ?_
     refine WO.val (run_pickT rfl (decide_eq_true g53) rfl) rfl rfl rfl ?_
     refine WO.val (run_move rfl) rfl rfl rfl ?_
     by_cases g58 : r27 = 0
     ·
      obtain ⟨k2, fD26⟩ := sw_go2 (x := x) (y := y) (k := k1) (D1 := D26)  (by rw [← fD22]; exact eD26) (by rw [← fD22, ← er27]; exact g58)
      refine WO.on rfl rfl (decide_eq_true g58) ?_
      refine WO.val (run_move rfl) rfl rfl rfl ?_
      refine WO.on rfl rfl (decide_eq_true g58) ?_
      refine WO.call rfl rfl Ty.hd30 rfl (drename_spec kD26.w kD26.b (by omega) [110] [109] (by first | exact Nat.le_of_ble_eq_true rfl | omega | (simp; omega) | assumption) hS28) (fun v33 w32 pv33 => ?_)
      obtain ⟨hv, hS32⟩ := pv33
      clear hS28
      obtain ⟨r31, er31⟩ : ∃ qq, qq = (renameD D26 [110] [109]).2 := ⟨_, rfl⟩
      rw [← er31] at hv
      obtain ⟨D30, eD30⟩ : ∃ qq, qq = (renameD D26 [110] [109]).1 := ⟨_, rfl⟩
      rw [← eD30] at hS32
      have kD30 : OkD D30 (0 + 1 + 1 + 1) (0 + x.length + y.length) := by rw [eD30]; exact kD26.rename
      subst hv
      refine WO.on rfl rfl (decide_eq_true g58) ?_
      refine WO.val (run_eql rfl rfl) rfl rfl rfl ?_
      refine WO.val (run_pickT rfl (decide_eq_true g58) rfl) rfl rfl rfl ?_
      refine WO.val (run_move rfl) rfl rfl rfl ?_
      by_cases g63 : r31 = 0
      ·
       obtain ⟨k3, fD30⟩ := sw_go3 (x := x) (y := y) (k := k2) (D1 := D30)  (by rw [← fD26]; exact eD30) (by rw [← fD26, ← er31]; exact g63)
       refine WO.on rfl rfl (decide_eq_true g63) ?_
       refine WO.val (run_move rfl) rfl rfl rfl ?_
       refine WO.on rfl rfl (decide_eq_true g63) ?_
       refine WO.call rfl rfl Ty.hd29 rfl (dsyncNames_spec kD30.w hS32) (fun v37 w36 pv37 => ?_)
       obtain ⟨hv, hS36⟩ := pv37
       clear hS32
       obtain ⟨r35, er35⟩ : ∃ qq, qq = (syncNamesD D30).2 := ⟨_, rfl⟩
       rw [← er35] at hv
       obtain ⟨D34, eD34⟩ : ∃ qq, qq = (syncNamesD D30).1 := ⟨_, rfl⟩
       rw [← eD34] at hS36
       have kD34 : OkD D34 (0 + 1 + 1 + 1) (0 + x.length + y.length) := by rw [eD34]; exact kD30.syncNames
       subst hv
       refine WO.on rfl rfl (decide_eq_true g63) ?_
       refine WO.val (run_eql rfl rfl) rfl rfl rfl ?_
       refine WO.val (run_pickT rfl (decide_eq_true g63) rfl) rfl rfl rfl ?_
       refine WO.val (run_assign rfl) rfl rfl rfl ?_
       refine WO.nil ?_
       refine NX.go ?_
       refine WP.seq ?_
       have hend : ∀ zs, (r35 = 0 ∧ readD (crashD D34 zs) [109] = (y, 0)) ∨ (¬ r35 = 0 ∧ (readD (crashD D34 zs) [109] = (x, 0) ∨ readD (crashD D34 zs) [109] = (y, 0))) := fun zs => by rw [er35, fD30]; exact sw_end (x := x) (y := y) (k := k3) (D1 := D34) (by rw [← fD30]; exact eD34)
       refine WP.region rfl ?_
       refine WO.val (run_move rfl) rfl rfl rfl ?_
       refine WO.buildSlice (l := []) hS36 Tryd.underlying50 rfl (fun w => by kernel_rfl) rfl (fun g39 w38 lg39 hS38 => ?_)
       clear hS36
       have hS38 := hS38.own_of_cel (m := 0) (k := 1) rfl
       refine WO.val (run_move rfl) rfl rfl rfl ?_
       refine WO.append (news := (ri l)) 0 rfl Tryd.underlying50 Tryd.underlying50 (fun _ h => by cases h) Ty.sz3 (by decide) Ty.by3 Ty.zr3 rfl rfl rfl rfl hS38 rfl (((fun h => St.rdB h hA) (hS38.focus 2 rfl)).src) (ri_noAgg l) (by omega) (by omega) (fun a41 c42 w40 hS40 => ?_)
       replace hS40 : St B (own a41 l.length c42 3 1 (ri l) :: dkA g4 D34 :: (.pure True) :: L) w40 := (by have z := hS40; rw [Nat.zero_add] at z; exact z)
       refine WO.as (d := 71) (v := Value.slice a41 l.length c42) rfl (by rw [Nat.zero_add]) ?_
       clear hS38
       have hcap := hS40.own_le_i 0 rfl
       have hS44 := hS40.permT [1, 0, 0] (L' := dkA g4 D34 :: own a41 l.length c42 3 1 (ri l) :: (.pure True) :: L) rfl
       clear hS40
       refine WO.call rfl rfl Ty.hd26 rfl (dcrash_spec (zs := l) kD34.w kD34.b (by omega) (by omega) (fun h => h.own_rd.1) (by first | decide | omega) (by first | decide | omega) hS44) (fun v46 w45 pv46 => ?_)
       obtain ⟨hv, hS45⟩ := pv46
       clear hS44
       obtain ⟨D43, eD43⟩ : ∃ qq, qq = crashD D34 l := ⟨_, rfl⟩
       rw [← eD43] at hS45
       have kD43 : OkD D43 (0 + 1 + 1 + 1) (0 + x.length + y.length) := by rw [eD43]; exact kD34.crash
       subst hv
       refine WO.nil ?_
       refine NX.go ?_
       refine WP.seq ?_
       refine WP.region rfl ?_
       refine WO.val (run_move rfl) rfl rfl rfl ?_
       refine WO.call rfl rfl Ty.hd31 rfl (dread_spec kD43.w [109] hS45) (fun v50 w49 pv50 => ?_)
       obtain ⟨hv, hS49⟩ := pv50
       clear hS45
       obtain ⟨t48, et48⟩ : ∃ qq, qq = (readD D43 [109]).1 := ⟨_, rfl⟩
       obtain ⟨r47, er47⟩ : ∃ qq, qq = (readD D43 [109]).2 := ⟨_, rfl⟩
       rw [← et48, ← er47] at hv
       subst hv
       refine WO.val (run_move rfl) rfl rfl rfl ?_
       refine WO.val (run_extract rfl rfl) rfl rfl rfl ?_
       refine WO.val (run_extract rfl rfl) rfl rfl rfl ?_
       refine WO.val (run_assign rfl) rfl rfl rfl ?_
       refine WO.val (run_assign rfl) rfl rfl rfl ?_
       refine WO.nil ?_
       refine NX.go ?_
       refine WP.seq ?_
       have hcr : readD D43 [109] = (t48, r47) := by rw [et48, er47]
       rw [eD43] at hcr
       have hend2 := hend l
       rw [hcr] at hend2
       have hr0 : r47 = 0 := by rcases hend2 with ⟨_, h⟩ | ⟨_, h | h⟩ <;> exact (Prod.mk.inj h).2
       refine WP.region rfl ?_
       refine WO.val (run_move rfl) rfl rfl rfl ?_
       refine WO.val (run_eql rfl rfl) rfl rfl rfl ?_
       refine WO.val (run_move rfl) rfl rfl rfl ?_
       by_cases g80 : r47 = 0
       ·
        refine WO.on rfl rfl (decide_eq_true g80) ?_
        refine WO.val (run_move rfl) rfl rfl rfl ?_
        refine WO.on rfl rfl (decide_eq_true g80) ?_
        refine WO.val (run_move rfl) rfl rfl rfl ?_
        refine WO.on rfl rfl (decide_eq_true g80) ?_
        refine WO.val (run_eqlS rfl rfl) rfl rfl rfl ?_
        refine WO.on rfl rfl (decide_eq_true g80) ?_
        refine WO.val (run_move rfl) rfl rfl rfl ?_
        by_cases g84 : t48 = y
        ·
         refine WO.off rfl rfl (decide_eq_true g84) rfl ?_
         refine WO.off rfl rfl (decide_eq_true g84) rfl ?_
         refine WO.off rfl rfl (decide_eq_true g84) rfl ?_
         refine WO.offU rfl rfl rfl ?_
         refine WO.offU rfl rfl rfl ?_
         refine WO.offU rfl rfl rfl ?_
         refine WO.off rfl rfl (decide_eq_true g84) rfl ?_
         refine WO.on rfl rfl (decide_eq_true g80) ?_
         refine WO.val (run_pickT rfl (decide_eq_true g84) rfl) rfl rfl rfl ?_
         refine WO.val (run_pickT rfl (decide_eq_true g80) rfl) rfl rfl rfl ?_
         refine WO.val (run_assign rfl) rfl rfl rfl ?_
         refine WO.nil ?_
         refine NX.go ?_
         refine WP.ret ?_
         refine NX.done (l := [.tmp 8]) rfl rfl ?_
         exact ⟨rfl, hS49.drop.drop.drop⟩
        ·
         refine WO.on rfl rfl (decide_eq_false g84) ?_
         refine WO.val (run_move rfl) rfl rfl rfl ?_
         refine WO.on rfl rfl (decide_eq_false g84) ?_
         refine WO.val (run_notP rfl) rfl rfl rfl ?_
         refine WO.on rfl rfl (decide_eq_false g84) ?_
         refine WO.val (run_move rfl) rfl rfl rfl ?_
         by_cases g87 : ¬ (r35 = 0)
         ·
          refine WO.on rfl rfl (decide_eq_true g87) ?_
          refine WO.val (run_move rfl) rfl rfl rfl ?_
          refine WO.on rfl rfl (decide_eq_true g87) ?_
          refine WO.val (run_move rfl) rfl rfl rfl ?_
          refine WO.on rfl rfl (decide_eq_true g87) ?_
          refine WO.val (run_eqlS rfl rfl) rfl rfl rfl ?_
          refine WO.on rfl rfl (decide_eq_false g84) ?_
          refine WO.val (run_pickT rfl (decide_eq_true g87) rfl) rfl rfl rfl ?_
          refine WO.on rfl rfl (decide_eq_true g80) ?_
          refine WO.val (run_pickF rfl (decide_eq_false g84) rfl) rfl rfl rfl ?_
          refine WO.val (run_pickT rfl (decide_eq_true g80) rfl) rfl rfl rfl ?_
          refine WO.val (run_assign rfl) rfl rfl rfl ?_
          refine WO.nil ?_
          refine NX.go ?_
          refine WP.ret ?_
          refine NX.done (l := [.tmp 8]) rfl rfl ?_
          have hx2 : t48 = x := by rcases hend2 with ⟨_, h⟩ | ⟨_, h | h⟩ <;> first | exact absurd (Prod.mk.inj h).1 g84 | exact (Prod.mk.inj h).1
          exact ⟨congrArg Value.bool (decide_eq_true hx2), hS49.drop.drop.drop⟩
         ·
          refine WO.off rfl rfl (decide_eq_false g87) rfl ?_
          refine WO.off rfl rfl (decide_eq_false g87) rfl ?_
          refine WO.off rfl rfl (decide_eq_false g87) rfl ?_
          refine WO.on rfl rfl (decide_eq_false g84) ?_
          refine WO.val (run_pickF rfl (decide_eq_false g87) rfl) rfl rfl rfl ?_
          refine WO.on rfl rfl (decide_eq_true g80) ?_
          refine WO.val (run_pickF rfl (decide_eq_false g84) rfl) rfl rfl rfl ?_
          refine WO.val (run_pickT rfl (decide_eq_true g80) rfl) rfl rfl rfl ?_
          refine WO.val (run_assign rfl) rfl rfl rfl ?_
          refine WO.nil ?_
          refine NX.go ?_
          refine WP.ret ?_
          refine NX.done (l := [.tmp 8]) rfl rfl ?_
          exfalso
          rcases hend2 with ⟨_, h⟩ | ⟨h0, _⟩
          · exact absurd (Prod.mk.inj h).1 g84
          · exact g87 h0
       ·
        exfalso; exact g80 hr0
      ·
       have hstop : ∀ zs, readD (crashD D30 zs) [109] = (x, 0) := fun zs => sw_stop3 (x := x) (y := y) (k := k2) (D1 := D30)  (by rw [← fD26]; exact eD30) (by rw [← fD26, ← er31]; exact g63)
       refine WO.off rfl rfl (decide_eq_false g63) rfl ?_
       refine WO.off rfl rfl (decide_eq_false g63) rfl ?_
       refine WO.off rfl rfl (decide_eq_false g63) rfl ?_
       refine WO.val (run_pickF rfl (decide_eq_false g63) rfl) rfl rfl rfl ?_
       refine WO.val (run_assign rfl) rfl rfl rfl ?_
       refine WO.nil ?_
       refine NX.go ?_
       refine WP.seq ?_
       refine WP.region rfl ?_
       refine WO.val (run_move rfl) rfl rfl rfl ?_
       refine WO.buildSlice (l := []) hS32 Tryd.underlying50 rfl (fun w => by kernel_rfl) rfl (fun g52 w51 lg52 hS51 => ?_)
       clear hS32
       have hS51 := hS51.own_of_cel (m := 0) (k := 1) rfl
       refine WO.val (run_move rfl) rfl rfl rfl ?_
       refine WO.append (news := (ri l)) 0 rfl Tryd.underlying50 Tryd.underlying50 (fun _ h => by cases h) Ty.sz3 (by decide) Ty.by3 Ty.zr3 rfl rfl rfl rfl hS51 rfl (((fun h => St.rdB h hA) (hS51.focus 2 rfl)).src) (ri_noAgg l) (by omega) (by omega) (fun a54 c55 w53 hS53 => ?_)
       replace hS53 : St B (own a54 l.length c55 3 1 (ri l) :: dkA g4 D30 :: (.pure True) :: L) w53 := (by have z := hS53; rw [Nat.zero_add] at z; exact z)
       refine WO.as (d := 71) (v := Value.slice a54 l.length c55) rfl (by rw [Nat.zero_add]) ?_
       clear hS51
       have hcap := hS53.own_le_i 0 rfl
       have hS57 := hS53.permT [1, 0, 0] (L' := dkA g4 D30 :: own a54 l.length c55 3 1 (ri l) :: (.pure True) :: L) rfl
       clear hS53
       refine WO.call rfl rfl Ty.hd26 rfl (dcrash_spec (zs := l) kD30.w kD30.b (by omega) (by omega) (fun h => h.own_rd.1) (by first | decide | omega) (by first | decide | omega) hS57) (fun v59 w58 pv59 => ?_)
       obtain ⟨hv, hS58⟩ := pv59
       clear hS57
       obtain ⟨D56, eD56⟩ : ∃ qq, qq = crashD D30 l := ⟨_, rfl⟩
       rw [← eD56] at hS58
       have kD56 : OkD D56 (0 + 1 + 1 + 1) (0 + x.length + y.length) := by rw [eD56]; exact kD30.crash
       subst hv
       refine WO.nil ?_
       refine NX.go ?_
       refine WP.seq ?_
       refine WP.region rfl ?_
       refine WO.val (run_move rfl) rfl rfl rfl ?_
       refine WO.call rfl rfl Ty.hd31 rfl (dread_spec kD56.w [109] hS58) (fun v63 w62 pv63 => ?_)
       obtain ⟨hv, hS62⟩ := pv63
       clear hS58
       obtain ⟨t61, et61⟩ : ∃ qq, qq = (readD D56 [109]).1 := ⟨_, rfl⟩
       obtain ⟨r60, er60⟩ : ∃ qq, qq = (readD D56 [109]).2 := ⟨_, rfl⟩
       rw [← et61, ← er60] at hv
       subst hv
       refine WO.val (run_move rfl) rfl rfl rfl ?_
       refine WO.val (run_extract rfl rfl) rfl rfl rfl ?_
       refine WO.val (run_extract rfl rfl) rfl rfl rfl ?_
       refine WO.val (run_assign rfl) rfl rfl rfl ?_
       refine WO.val (run_assign rfl) rfl rfl rfl ?_
       refine WO.nil ?_
       refine NX.go ?_
       refine WP.seq ?_
       have hcr : readD D56 [109] = (t61, r60) := by rw [et61, er60]
       rw [eD56] at hcr
       have hst2 := hstop l
       rw [hcr] at hst2
       have hr0 : r60 = 0 := (Prod.mk.inj hst2).2
       have ht0 : t61 = x := (Prod.mk.inj hst2).1
       refine WP.region rfl ?_
       refine WO.val (run_move rfl) rfl rfl rfl ?_
       refine WO.val (run_eql rfl rfl) rfl rfl rfl ?_
       refine WO.val (run_move rfl) rfl rfl rfl ?_
       by_cases g80 : r60 = 0
       ·
        refine WO.on rfl rfl (decide_eq_true g80) ?_
        refine WO.val (run_move rfl) rfl rfl rfl ?_
        refine WO.on rfl rfl (decide_eq_true g80) ?_
        refine WO.val (run_move rfl) rfl rfl rfl ?_
        refine WO.on rfl rfl (decide_eq_true g80) ?_
        refine WO.val (run_eqlS rfl rfl) rfl rfl rfl ?_
        refine WO.on rfl rfl (decide_eq_true g80) ?_
        refine WO.val (run_move rfl) rfl rfl rfl ?_
        by_cases g84 : t61 = y
        ·
         refine WO.off rfl rfl (decide_eq_true g84) rfl ?_
         refine WO.off rfl rfl (decide_eq_true g84) rfl ?_
         refine WO.off rfl rfl (decide_eq_true g84) rfl ?_
         refine WO.offU rfl rfl rfl ?_
         refine WO.offU rfl rfl rfl ?_
         refine WO.offU rfl rfl rfl ?_
         refine WO.off rfl rfl (decide_eq_true g84) rfl ?_
         refine WO.on rfl rfl (decide_eq_true g80) ?_
         refine WO.val (run_pickT rfl (decide_eq_true g84) rfl) rfl rfl rfl ?_
         refine WO.val (run_pickT rfl (decide_eq_true g80) rfl) rfl rfl rfl ?_
         refine WO.val (run_assign rfl) rfl rfl rfl ?_
         refine WO.nil ?_
         refine NX.go ?_
         refine WP.ret ?_
         refine NX.done (l := [.tmp 8]) rfl rfl ?_
         exact ⟨rfl, hS62.drop.drop.drop⟩
        ·
         refine WO.on rfl rfl (decide_eq_false g84) ?_
         refine WO.val (run_move rfl) rfl rfl rfl ?_
         refine WO.on rfl rfl (decide_eq_false g84) ?_
         refine WO.val (run_not rfl rfl) rfl rfl rfl ?_
         refine WO.on rfl rfl (decide_eq_false g84) ?_
         refine WO.val (run_move rfl) rfl rfl rfl ?_
         refine WO.on rfl rfl (notB_f rfl) ?_
         refine WO.val (run_move rfl) rfl rfl rfl ?_
         refine WO.on rfl rfl (notB_f rfl) ?_
         refine WO.val (run_move rfl) rfl rfl rfl ?_
         refine WO.on rfl rfl (notB_f rfl) ?_
         refine WO.val (run_eqlS rfl rfl) rfl rfl rfl ?_
         refine WO.on rfl rfl (decide_eq_false g84) ?_
         refine WO.val (run_pickT rfl (notB_f rfl) rfl) rfl rfl rfl ?_
         refine WO.on rfl rfl (decide_eq_true g80) ?_
         refine WO.val (run_pickF rfl (decide_eq_false g84) rfl) rfl rfl rfl ?_
         refine WO.val (run_pickT rfl (decide_eq_true g80) rfl) rfl rfl rfl ?_
         refine WO.val (run_assign rfl) rfl rfl rfl ?_
         refine WO.nil ?_
         refine NX.go ?_
         refine WP.ret ?_
         refine NX.done (l := [.tmp 8]) rfl rfl ?_
         exact ⟨congrArg Value.bool (decide_eq_true ht0), hS62.drop.drop.drop⟩
       ·
        exfalso; exact g80 hr0
     ·
      have hstop : ∀ zs, readD (crashD D26 zs) [109] = (x, 0) := fun zs => sw_stop2 (x := x) (y := y) (k := k1) (D1 := D26)  (by rw [← fD22]; exact eD26) (by rw [← fD22, ← er27]; exact g58)
      refine WO.off rfl rfl (decide_eq_false g58) rfl ?_
      refine WO.off rfl rfl (decide_eq_false g58) rfl ?_
      refine WO.off rfl rfl (decide_eq_false g58) rfl ?_
      refine WO.val (run_pickF rfl (decide_eq_false g58) rfl) rfl rfl rfl ?_
      refine WO.val (run_move rfl) rfl rfl rfl ?_
      refine WO.off rfl rfl rfl rfl ?_
      refine WO.off rfl rfl rfl rfl ?_
      refine WO.off rfl rfl rfl rfl ?_
      refine WO.val (run_pickF rfl rfl rfl) rfl rfl rfl ?_
      refine WO.val (run_assign rfl) rfl rfl rfl ?_
      refine WO.nil ?_
      refine NX.go ?_
      refine WP.seq ?_
      refine WP.region rfl ?_
      refine WO.val (run_move rfl) rfl rfl rfl ?_
      refine WO.buildSlice (l := []) hS28 Tryd.underlying50 rfl (fun w => by kernel_rfl) rfl (fun g65 w64 lg65 hS64 => ?_)
      clear hS28
      have hS64 := hS64.own_of_cel (m := 0) (k := 1) rfl
      refine WO.val (run_move rfl) rfl rfl rfl ?_
      refine WO.append (news := (ri l)) 0 rfl Tryd.underlying50 Tryd.underlying50 (fun _ h => by cases h) Ty.sz3 (by decide) Ty.by3 Ty.zr3 rfl rfl rfl rfl hS64 rfl (((fun h => St.rdB h hA) (hS64.focus 2 rfl)).src) (ri_noAgg l) (by omega) (by omega) (fun a67 c68 w66 hS66 => ?_)
      replace hS66 : St B (own a67 l.length c68 3 1 (ri l) :: dkA g4 D26 :: (.pure True) :: L) w66 := (by have z := hS66; rw [Nat.zero_add] at z; exact z)
      refine WO.as (d := 71) (v := Value.slice a67 l.length c68) rfl (by rw [Nat.zero_add]) ?_
      clear hS64
      have hcap := hS66.own_le_i 0 rfl
      have hS70 := hS66.permT [1, 0, 0] (L' := dkA g4 D26 :: own a67 l.length c68 3 1 (ri l) :: (.pure True) :: L) rfl
      clear hS66
      refine WO.call rfl rfl Ty.hd26 rfl (dcrash_spec (zs := l) kD26.w kD26.b (by omega) (by omega) (fun h => h.own_rd.1) (by first | decide | omega) (by first | decide | omega) hS70) (fun v72 w71 pv72 => ?_)
      obtain ⟨hv, hS71⟩ := pv72
      clear hS70
      obtain ⟨D69, eD69⟩ : ∃ qq, qq = crashD D26 l := ⟨_, rfl⟩
      rw [← eD69] at hS71
      have kD69 : OkD D69 (0 + 1 + 1) (0 + x.length + y.length) := by rw [eD69]; exact kD26.crash
      subst hv
      refine WO.nil ?_
      refine NX.go ?_
      refine WP.seq ?_
      refine WP.region rfl ?_
      refine WO.val (run_move rfl) rfl rfl rfl ?_
      refine WO.call rfl rfl Ty.hd31 rfl (dread_spec kD69.w [109] hS71) (fun v76 w75 pv76 => ?_)
      obtain ⟨hv, hS75⟩ := pv76
      clear hS71
      obtain ⟨t74, et74⟩ : ∃ qq, qq = (readD D69 [109]).1 := ⟨_, rfl⟩
      obtain ⟨r73, er73⟩ : ∃ qq, qq = (readD D69 [109]).2 := ⟨_, rfl⟩
      rw [← et74, ← er73] at hv
      subst hv
      refine WO.val (run_move rfl) rfl rfl rfl ?_
      refine WO.val (run_extract rfl rfl) rfl rfl rfl ?_
      refine WO.val (run_extract rfl rfl) rfl rfl rfl ?_
      refine WO.val (run_assign rfl) rfl rfl rfl ?_
      refine WO.val (run_assign rfl) rfl rfl rfl ?_
      refine WO.nil ?_
      refine NX.go ?_
      refine WP.seq ?_
      have hcr : readD D69 [109] = (t74, r73) := by rw [et74, er73]
      rw [eD69] at hcr
      have hst2 := hstop l
      rw [hcr] at hst2
      have hr0 : r73 = 0 := (Prod.mk.inj hst2).2
      have ht0 : t74 = x := (Prod.mk.inj hst2).1
      refine WP.region rfl ?_
      refine WO.val (run_move rfl) rfl rfl rfl ?_
      refine WO.val (run_eql rfl rfl) rfl rfl rfl ?_
      refine WO.val (run_move rfl) rfl rfl rfl ?_
      by_cases g80 : r73 = 0
      ·
       refine WO.on rfl rfl (decide_eq_true g80) ?_
       refine WO.val (run_move rfl) rfl rfl rfl ?_
       refine WO.on rfl rfl (decide_eq_true g80) ?_
       refine WO.val (run_move rfl) rfl rfl rfl ?_
       refine WO.on rfl rfl (decide_eq_true g80) ?_
       refine WO.val (run_eqlS rfl rfl) rfl rfl rfl ?_
       refine WO.on rfl rfl (decide_eq_true g80) ?_
       refine WO.val (run_move rfl) rfl rfl rfl ?_
       by_cases g84 : t74 = y
       ·
        refine WO.off rfl rfl (decide_eq_true g84) rfl ?_
        refine WO.off rfl rfl (decide_eq_true g84) rfl ?_
        refine WO.off rfl rfl (decide_eq_true g84) rfl ?_
        refine WO.offU rfl rfl rfl ?_
        refine WO.offU rfl rfl rfl ?_
        refine WO.offU rfl rfl rfl ?_
        refine WO.off rfl rfl (decide_eq_true g84) rfl ?_
        refine WO.on rfl rfl (decide_eq_true g80) ?_
        refine WO.val (run_pickT rfl (decide_eq_true g84) rfl) rfl rfl rfl ?_
        refine WO.val (run_pickT rfl (decide_eq_true g80) rfl) rfl rfl rfl ?_
        refine WO.val (run_assign rfl) rfl rfl rfl ?_
        refine WO.nil ?_
        refine NX.go ?_
        refine WP.ret ?_
        refine NX.done (l := [.tmp 8]) rfl rfl ?_
        exact ⟨rfl, hS75.drop.drop.drop⟩
       ·
        refine WO.on rfl rfl (decide_eq_false g84) ?_
        refine WO.val (run_move rfl) rfl rfl rfl ?_
        refine WO.on rfl rfl (decide_eq_false g84) ?_
        refine WO.val (run_not rfl rfl) rfl rfl rfl ?_
        refine WO.on rfl rfl (decide_eq_false g84) ?_
        refine WO.val (run_move rfl) rfl rfl rfl ?_
        refine WO.on rfl rfl (notB_f rfl) ?_
        refine WO.val (run_move rfl) rfl rfl rfl ?_
        refine WO.on rfl rfl (notB_f rfl) ?_
        refine WO.val (run_move rfl) rfl rfl rfl ?_
        refine WO.on rfl rfl (notB_f rfl) ?_
        refine WO.val (run_eqlS rfl rfl) rfl rfl rfl ?_
        refine WO.on rfl rfl (decide_eq_false g84) ?_
        refine WO.val (run_pickT rfl (notB_f rfl) rfl) rfl rfl rfl ?_
        refine WO.on rfl rfl (decide_eq_true g80) ?_
        refine WO.val (run_pickF rfl (decide_eq_false g84) rfl) rfl rfl rfl ?_
        refine WO.val (run_pickT rfl (decide_eq_true g80) rfl) rfl rfl rfl ?_
        refine WO.val (run_assign rfl) rfl rfl rfl ?_
        refine WO.nil ?_
        refine NX.go ?_
        refine WP.ret ?_
        refine NX.done (l := [.tmp 8]) rfl rfl ?_
        exact ⟨congrArg Value.bool (decide_eq_true ht0), hS75.drop.drop.drop⟩
      ·
       exfalso; exact g80 hr0
    ·
     have hstop : ∀ zs, readD (crashD D22 zs) [109] = (x, 0) := fun zs => sw_stop1 (x := x) (y := y) (k := k) (D1 := D22) (by omega) (by omega) (by rw [← fD19]; exact eD22) (by rw [← fD19, ← er23]; exact g53)
     refine WO.off rfl rfl (decide_eq_false g53) rfl ?_
     refine WO.off rfl rfl (decide_eq_false g53) rfl ?_
     refine WO.off rfl rfl (decide_eq_false g53) rfl ?_
     refine WO.val (run_pickF rfl (decide_eq_false g53) rfl) rfl rfl rfl ?_
     refine WO.val (run_move rfl) rfl rfl rfl ?_
     refine WO.off rfl rfl rfl rfl ?_
     refine WO.off rfl rfl rfl rfl ?_
     refine WO.off rfl rfl rfl rfl ?_
     refine WO.val (run_pickF rfl rfl rfl) rfl rfl rfl ?_
     refine WO.val (run_move rfl) rfl rfl rfl ?_
     refine WO.off rfl rfl rfl rfl ?_
     refine WO.off rfl rfl rfl rfl ?_
     refine WO.off rfl rfl rfl rfl ?_
     refine WO.val (run_pickF rfl rfl rfl) rfl rfl rfl ?_
     refine WO.val (run_assign rfl) rfl rfl rfl ?_
     refine WO.nil ?_
     refine NX.go ?_
     refine WP.seq ?_
     refine WP.region rfl ?_
     refine WO.val (run_move rfl) rfl rfl rfl ?_
     refine WO.buildSlice (l := []) hS24 Tryd.underlying50 rfl (fun w => by kernel_rfl) rfl (fun g78 w77 lg78 hS77 => ?_)
     clear hS24
     have hS77 := hS77.own_of_cel (m := 0) (k := 1) rfl
     refine WO.val (run_move rfl) rfl rfl rfl ?_
     refine WO.append (news := (ri l)) 0 rfl Tryd.underlying50 Tryd.underlying50 (fun _ h => by cases h) Ty.sz3 (by decide) Ty.by3 Ty.zr3 rfl rfl rfl rfl hS77 rfl (((fun h => St.rdB h hA) (hS77.focus 2 rfl)).src) (ri_noAgg l) (by omega) (by omega) (fun a80 c81 w79 hS79 => ?_)
     replace hS79 : St B (own a80 l.length c81 3 1 (ri l) :: dkA g4 D22 :: (.pure True) :: L) w79 := (by have z := hS79; rw [Nat.zero_add] at z; exact z)
     refine WO.as (d := 71) (v := Value.slice a80 l.length c81) rfl (by rw [Nat.zero_add]) ?_
     clear hS77
     have hcap := hS79.own_le_i 0 rfl
     have hS83 := hS79.permT [1, 0, 0] (L' := dkA g4 D22 :: own a80 l.length c81 3 1 (ri l) :: (.pure True) :: L) rfl
     clear hS79
     refine WO.call rfl rfl Ty.hd26 rfl (dcrash_spec (zs := l) kD22.w kD22.b (by omega) (by omega) (fun h => h.own_rd.1) (by first | decide | omega) (by first | decide | omega) hS83) (fun v85 w84 pv85 => ?_)
     obtain ⟨hv, hS84⟩ := pv85
     clear hS83
     obtain ⟨D82, eD82⟩ : ∃ qq, qq = crashD D22 l := ⟨_, rfl⟩
     rw [← eD82] at hS84
     have kD82 : OkD D82 (0 + 1 + 1) (0 + x.length + y.length) := by rw [eD82]; exact kD22.crash
     subst hv
     refine WO.nil ?_
     refine NX.go ?_
     refine WP.seq ?_
     refine WP.region rfl ?_
     refine WO.val (run_move rfl) rfl rfl rfl ?_
     refine WO.call rfl rfl Ty.hd31 rfl (dread_spec kD82.w [109] hS84) (fun v89 w88 pv89 => ?_)
     obtain ⟨hv, hS88⟩ := pv89
     clear hS84
     obtain ⟨t87, et87⟩ : ∃ qq, qq = (readD D82 [109]).1 := ⟨_, rfl⟩
     obtain ⟨r86, er86⟩ : ∃ qq, qq = (readD D82 [109]).2 := ⟨_, rfl⟩
     rw [← et87, ← er86] at hv
     subst hv
     refine WO.val (run_move rfl) rfl rfl rfl ?_
     refine WO.val (run_extract rfl rfl) rfl rfl rfl ?_
     refine WO.val (run_extract rfl rfl) rfl rfl rfl ?_
     refine WO.val (run_assign rfl) rfl rfl rfl ?_
     refine WO.val (run_assign rfl) rfl rfl rfl ?_
     refine WO.nil ?_
     refine NX.go ?_
     refine WP.seq ?_
     have hcr : readD D82 [109] = (t87, r86) := by rw [et87, er86]
     rw [eD82] at hcr
     have hst2 := hstop l
     rw [hcr] at hst2
     have hr0 : r86 = 0 := (Prod.mk.inj hst2).2
     have ht0 : t87 = x := (Prod.mk.inj hst2).1
     refine WP.region rfl ?_
     refine WO.val (run_move rfl) rfl rfl rfl ?_
     refine WO.val (run_eql rfl rfl) rfl rfl rfl ?_
     refine WO.val (run_move rfl) rfl rfl rfl ?_
     by_cases g80 : r86 = 0
     ·
      refine WO.on rfl rfl (decide_eq_true g80) ?_
      refine WO.val (run_move rfl) rfl rfl rfl ?_
      refine WO.on rfl rfl (decide_eq_true g80) ?_
      refine WO.val (run_move rfl) rfl rfl rfl ?_
      refine WO.on rfl rfl (decide_eq_true g80) ?_
      refine WO.val (run_eqlS rfl rfl) rfl rfl rfl ?_
      refine WO.on rfl rfl (decide_eq_true g80) ?_
      refine WO.val (run_move rfl) rfl rfl rfl ?_
      by_cases g84 : t87 = y
      ·
       refine WO.off rfl rfl (decide_eq_true g84) rfl ?_
       refine WO.off rfl rfl (decide_eq_true g84) rfl ?_
       refine WO.off rfl rfl (decide_eq_true g84) rfl ?_
       refine WO.offU rfl rfl rfl ?_
       refine WO.offU rfl rfl rfl ?_
       refine WO.offU rfl rfl rfl ?_
       refine WO.off rfl rfl (decide_eq_true g84) rfl ?_
       refine WO.on rfl rfl (decide_eq_true g80) ?_
       refine WO.val (run_pickT rfl (decide_eq_true g84) rfl) rfl rfl rfl ?_
       refine WO.val (run_pickT rfl (decide_eq_true g80) rfl) rfl rfl rfl ?_
       refine WO.val (run_assign rfl) rfl rfl rfl ?_
       refine WO.nil ?_
       refine NX.go ?_
       refine WP.ret ?_
       refine NX.done (l := [.tmp 8]) rfl rfl ?_
       exact ⟨rfl, hS88.drop.drop.drop⟩
      ·
       refine WO.on rfl rfl (decide_eq_false g84) ?_
       refine WO.val (run_move rfl) rfl rfl rfl ?_
       refine WO.on rfl rfl (decide_eq_false g84) ?_
       refine WO.val (run_not rfl rfl) rfl rfl rfl ?_
       refine WO.on rfl rfl (decide_eq_false g84) ?_
       refine WO.val (run_move rfl) rfl rfl rfl ?_
       refine WO.on rfl rfl (notB_f rfl) ?_
       refine WO.val (run_move rfl) rfl rfl rfl ?_
       refine WO.on rfl rfl (notB_f rfl) ?_
       refine WO.val (run_move rfl) rfl rfl rfl ?_
       refine WO.on rfl rfl (notB_f rfl) ?_
       refine WO.val (run_eqlS rfl rfl) rfl rfl rfl ?_
       refine WO.on rfl rfl (decide_eq_false g84) ?_
       refine WO.val (run_pickT rfl (notB_f rfl) rfl) rfl rfl rfl ?_
       refine WO.on rfl rfl (decide_eq_true g80) ?_
       refine WO.val (run_pickF rfl (decide_eq_false g84) rfl) rfl rfl rfl ?_
       refine WO.val (run_pickT rfl (decide_eq_true g80) rfl) rfl rfl rfl ?_
       refine WO.val (run_assign rfl) rfl rfl rfl ?_
       refine WO.nil ?_
       refine NX.go ?_
       refine WP.ret ?_
       refine NX.done (l := [.tmp 8]) rfl rfl ?_
       exact ⟨congrArg Value.bool (decide_eq_true ht0), hS88.drop.drop.drop⟩
     ·
      exfalso; exact g80 hr0
end Go.Proofs.YtcehlnpbdffdhaaDoor.SL
