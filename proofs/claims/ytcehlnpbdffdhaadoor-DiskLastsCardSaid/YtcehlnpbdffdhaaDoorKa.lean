/- The disk, as used to be. -/
import Derived.Test.YtcehlnpbdffdhaaDoorDk3
import Derived.Test.YtcehlnpbdffdhaaDoorDr8
namespace Go.Proofs.YtcehlnpbdffdhaaDoor.SL
open Go.RowKit Go.Proofs.YtcehlnpbdffdhaaDoor
open Go.Proofs.YtcehlnpbdffdhaaDoorW.PrintLast (rtab opsOf)
set_option linter.unusedVariables false
set_option linter.unusedSimpArgs false
theorem dworks_spec {B w : World} {L : List HP} (hS : St B L w) : Does Tryd.prog 21 [] w (fun v w1 => v = .bool true ∧ St B L w1) := by
 refine enter (n := 59) Tryd.func21 rfl rfl [] rfl ?_
 refine WP.seq ?_
 refine WP.region rfl ?_
 refine WO.val (run_assign rfl) rfl rfl rfl ?_
 refine WO.nil ?_
 refine NX.go ?_
 refine WP.seq ?_
 refine WP.region rfl ?_
 refine WO.call rfl rfl Ty.hd22 rfl (dnew_spec 100 hS) (fun v4 w3 pv4 => ?_)
 obtain ⟨g2, rfl, hS3⟩ := pv4
 clear hS
 obtain ⟨D1, eD1⟩ : ∃ qq, qq = newD 100 := ⟨_, rfl⟩
 rw [← eD1] at hS3
 have kD1 : OkD D1 0 0 := by rw [eD1]; exact OkD.new (by omega)
 have fD1 : D1 = (⟨100, [], [], [], [], false, -1⟩ : Dk) := eD1
 refine WO.val (run_assign rfl) rfl rfl rfl ?_
 refine WO.nil ?_
 refine NX.go ?_
 refine WP.seq ?_
 refine WP.seq ?_
 refine WP.region rfl ?_
 refine WO.val (run_move rfl) rfl rfl rfl ?_
 refine WO.val (run_eqlNilP Tryd.underlying45 rfl rfl) rfl rfl rfl ?_
 refine WO.nil ?_
 refine NX.go ?_
 refine WP.condF rfl rfl ?_
 refine WP.skip ?_
 refine NX.go ?_
 refine WP.seq ?_
 refine WP.region rfl ?_
 refine WO.val (run_move rfl) rfl rfl rfl ?_
 refine WO.call rfl rfl Ty.hd24 rfl (dappend_spec kD1.w kD1.b (by omega) (by omega) [97] [120, 121] (by first | exact Nat.le_of_ble_eq_true rfl | omega | (simp; omega) | assumption) (by first | exact Nat.le_of_ble_eq_true rfl | omega | (simp; omega) | assumption) hS3) (fun v8 w7 pv8 => ?_)
 obtain ⟨hv, hS7⟩ := pv8
 clear hS3
 obtain ⟨r6, er6⟩ : ∃ qq, qq = (appendD D1 [97] [120, 121]).2 := ⟨_, rfl⟩
 rw [← er6] at hv
 obtain ⟨D5, eD5⟩ : ∃ qq, qq = (appendD D1 [97] [120, 121]).1 := ⟨_, rfl⟩
 rw [← eD5] at hS7
 have kD5 : OkD D5 (0 + 1) (0 + 2) := by rw [eD5]; exact kD1.append
 have fD5 : D5 = (⟨100, [([120, 121], 0)], [([97], 0)], [], [⟨[], [97], 0⟩], false, -1⟩ : Dk) := by rw [eD5, fD1]; exact rfl
 have fr6 : r6 = 0 := by rw [er6, fD1]; exact rfl
 rw [fr6] at hv
 subst hv
 refine WO.nil ?_
 refine NX.go ?_
 refine WP.seq ?_
 refine WP.region rfl ?_
 refine WO.val (run_move rfl) rfl rfl rfl ?_
 refine WO.call rfl rfl Ty.hd28 rfl (dsync_spec kD5.w [97] hS7) (fun v12 w11 pv12 => ?_)
 obtain ⟨hv, hS11⟩ := pv12
 clear hS7
 obtain ⟨r10, er10⟩ : ∃ qq, qq = (syncD D5 [97]).2 := ⟨_, rfl⟩
 rw [← er10] at hv
 obtain ⟨D9, eD9⟩ : ∃ qq, qq = (syncD D5 [97]).1 := ⟨_, rfl⟩
 rw [← eD9] at hS11
 have kD9 : OkD D9 (0 + 1) (0 + 2) := by rw [eD9]; exact kD5.sync
 have fD9 : D9 = (⟨100, [([120, 121], 2)], [([97], 0)], [], [⟨[], [97], 0⟩], false, -1⟩ : Dk) := by rw [eD9, fD5]; exact rfl
 have fr10 : r10 = 0 := by rw [er10, fD5]; exact rfl
 rw [fr10] at hv
 subst hv
 refine WO.nil ?_
 refine NX.go ?_
 refine WP.seq ?_
 refine WP.region rfl ?_
 refine WO.val (run_move rfl) rfl rfl rfl ?_
 refine WO.call rfl rfl Ty.hd29 rfl (dsyncNames_spec kD9.w hS11) (fun v16 w15 pv16 => ?_)
 obtain ⟨hv, hS15⟩ := pv16
 clear hS11
 obtain ⟨r14, er14⟩ : ∃ qq, qq = (syncNamesD D9).2 := ⟨_, rfl⟩
 rw [← er14] at hv
 obtain ⟨D13, eD13⟩ : ∃ qq, qq = (syncNamesD D9).1 := ⟨_, rfl⟩
 rw [← eD13] at hS15
 have kD13 : OkD D13 (0 + 1) (0 + 2) := by rw [eD13]; exact kD9.syncNames
 have fD13 : D13 = (⟨100, [([120, 121], 2)], [([97], 0)], [([97], 0)], [], false, -1⟩ : Dk) := by rw [eD13, fD9]; exact rfl
 have fr14 : r14 = 0 := by rw [er14, fD9]; exact rfl
 rw [fr14] at hv
 subst hv
 refine WO.nil ?_
 refine NX.go ?_
 refine WP.seq ?_
 refine WP.region rfl ?_
 refine WO.val (run_move rfl) rfl rfl rfl ?_
 refine WO.call rfl rfl Ty.hd24 rfl (dappend_spec kD13.w kD13.b (by omega) (by omega) [97] [122] (by first | exact Nat.le_of_ble_eq_true rfl | omega | (simp; omega) | assumption) (by first | exact Nat.le_of_ble_eq_true rfl | omega | (simp; omega) | assumption) hS15) (fun v20 w19 pv20 => ?_)
 obtain ⟨hv, hS19⟩ := pv20
 clear hS15
 obtain ⟨r18, er18⟩ : ∃ qq, qq = (appendD D13 [97] [122]).2 := ⟨_, rfl⟩
 rw [← er18] at hv
 obtain ⟨D17, eD17⟩ : ∃ qq, qq = (appendD D13 [97] [122]).1 := ⟨_, rfl⟩
 rw [← eD17] at hS19
 have kD17 : OkD D17 (0 + 1 + 1) (0 + 2 + 1) := by rw [eD17]; exact kD13.append
 have fD17 : D17 = (⟨100, [([120, 121, 122], 2)], [([97], 0)], [([97], 0)], [], false, -1⟩ : Dk) := by rw [eD17, fD13]; exact rfl
 have fr18 : r18 = 0 := by rw [er18, fD13]; exact rfl
 rw [fr18] at hv
 subst hv
 refine WO.nil ?_
 refine NX.go ?_
 refine WP.seq ?_
 refine WP.region rfl ?_
 refine WO.val (run_move rfl) rfl rfl rfl ?_
 refine WO.buildSlice (l := [Value.int .i64 0, Value.int .i64 1]) hS19 Tryd.underlying50 rfl (fun w => by kernel_rfl) rfl (fun g22 w21 lg22 hS21 => ?_)
 clear hS19
 have hS21 := hS21.own_of_cel (m := 2) (k := 1) rfl
 replace hS21 : St B (own (some ⟨g22, 0, none⟩) 2 2 3 1 (ri [0, 1]) :: dkA g2 D17 :: L) w21 := hS21
 have hS24 := hS21.permT [1, 0] (L' := dkA g2 D17 :: own (some ⟨g22, 0, none⟩) 2 2 3 1 (ri [0, 1]) :: L) rfl
 clear hS21
 refine WO.call rfl rfl Ty.hd26 rfl (dcrash_spec (zs := [0, 1]) kD17.w kD17.b (by omega) (by omega) (fun h => h.own_rd.1) (by first | decide | omega) (by first | decide | omega) hS24) (fun v26 w25 pv26 => ?_)
 obtain ⟨hv, hS25⟩ := pv26
 clear hS24
 obtain ⟨D23, eD23⟩ : ∃ qq, qq = crashD D17 [0, 1] := ⟨_, rfl⟩
 rw [← eD23] at hS25
 have kD23 : OkD D23 (0 + 1 + 1) (0 + 2 + 1) := by rw [eD23]; exact kD17.crash
 have fD23 : D23 = (⟨100, [([120, 121, 122], 3)], [([97], 0)], [([97], 0)], [], false, -1⟩ : Dk) := by rw [eD23, fD17]; exact rfl
 subst hv
 refine WO.nil ?_
 refine NX.go ?_
 refine WP.seq ?_
 refine WP.region rfl ?_
 refine WO.val (run_move rfl) rfl rfl rfl ?_
 refine WO.call rfl rfl Ty.hd31 rfl (dread_spec kD23.w [97] hS25) (fun v30 w29 pv30 => ?_)
 obtain ⟨hv, hS29⟩ := pv30
 clear hS25
 obtain ⟨t28, et28⟩ : ∃ qq, qq = (readD D23 [97]).1 := ⟨_, rfl⟩
 obtain ⟨r27, er27⟩ : ∃ qq, qq = (readD D23 [97]).2 := ⟨_, rfl⟩
 rw [← et28, ← er27] at hv
 have ft28 : t28 = [120, 121, 122] := by rw [et28, fD23]; exact rfl
 have fr27 : r27 = 0 := by rw [er27, fD23]; exact rfl
 rw [ft28, fr27] at hv
 subst hv
 refine WO.val (run_move rfl) rfl rfl rfl ?_
 refine WO.val (run_extract rfl rfl) rfl rfl rfl ?_
 refine WO.val (run_extract rfl rfl) rfl rfl rfl ?_
 refine WO.val (run_assign rfl) rfl rfl rfl ?_
 refine WO.val (run_assign rfl) rfl rfl rfl ?_
 refine WO.nil ?_
 refine NX.go ?_
 refine WP.seq ?_
 refine WP.region rfl ?_
 refine WO.val (run_move rfl) rfl rfl rfl ?_
 refine WO.call rfl rfl Ty.hd24 rfl (dappend_spec kD23.w kD23.b (by omega) (by omega) [98] [49] (by first | exact Nat.le_of_ble_eq_true rfl | omega | (simp; omega) | assumption) (by first | exact Nat.le_of_ble_eq_true rfl | omega | (simp; omega) | assumption) hS29) (fun v34 w33 pv34 => ?_)
 obtain ⟨hv, hS33⟩ := pv34
 clear hS29
 obtain ⟨r32, er32⟩ : ∃ qq, qq = (appendD D23 [98] [49]).2 := ⟨_, rfl⟩
 rw [← er32] at hv
 obtain ⟨D31, eD31⟩ : ∃ qq, qq = (appendD D23 [98] [49]).1 := ⟨_, rfl⟩
 rw [← eD31] at hS33
 have kD31 : OkD D31 (0 + 1 + 1 + 1) (0 + 2 + 1 + 1) := by rw [eD31]; exact kD23.append
 have fD31 : D31 = (⟨100, [([120, 121, 122], 3), ([49], 0)], [([97], 0), ([98], 1)], [([97], 0)], [⟨[], [98], 1⟩], false, -1⟩ : Dk) := by rw [eD31, fD23]; exact rfl
 have fr32 : r32 = 0 := by rw [er32, fD23]; exact rfl
 rw [fr32] at hv
 subst hv
 refine WO.nil ?_
 refine NX.go ?_
 refine WP.seq ?_
 refine WP.region rfl ?_
 refine WO.val (run_move rfl) rfl rfl rfl ?_
 refine WO.call rfl rfl Ty.hd23 rfl (dfuse_spec 0 hS33) (fun v37 w36 pv37 => ?_)
 obtain ⟨hv, hS36⟩ := pv37
 clear hS33
 obtain ⟨D35, eD35⟩ : ∃ qq, qq = fuseD D31 0 := ⟨_, rfl⟩
 rw [← eD35] at hS36
 have kD35 : OkD D35 (0 + 1 + 1 + 1) (0 + 2 + 1 + 1) := by rw [eD35]; exact kD31.fuse (by omega)
 have fD35 : D35 = (⟨100, [([120, 121, 122], 3), ([49], 0)], [([97], 0), ([98], 1)], [([97], 0)], [⟨[], [98], 1⟩], false, 0⟩ : Dk) := by rw [eD35, fD31]; exact rfl
 subst hv
 refine WO.nil ?_
 refine NX.go ?_
 refine WP.seq ?_
 refine WP.region rfl ?_
 refine WO.val (run_move rfl) rfl rfl rfl ?_
 refine WO.call rfl rfl Ty.hd28 rfl (dsync_spec kD35.w [98] hS36) (fun v41 w40 pv41 => ?_)
 obtain ⟨hv, hS40⟩ := pv41
 clear hS36
 obtain ⟨r39, er39⟩ : ∃ qq, qq = (syncD D35 [98]).2 := ⟨_, rfl⟩
 rw [← er39] at hv
 obtain ⟨D38, eD38⟩ : ∃ qq, qq = (syncD D35 [98]).1 := ⟨_, rfl⟩
 rw [← eD38] at hS40
 have kD38 : OkD D38 (0 + 1 + 1 + 1) (0 + 2 + 1 + 1) := by rw [eD38]; exact kD35.sync
 have fD38 : D38 = (⟨100, [([120, 121, 122], 3), ([49], 0)], [([97], 0), ([98], 1)], [([97], 0)], [⟨[], [98], 1⟩], true, 0⟩ : Dk) := by rw [eD38, fD35]; exact rfl
 have fr39 : r39 = 11 := by rw [er39, fD35]; exact rfl
 rw [fr39] at hv
 subst hv
 refine WO.val (run_assign rfl) rfl rfl rfl ?_
 refine WO.nil ?_
 refine NX.go ?_
 refine WP.seq ?_
 refine WP.region rfl ?_
 refine WO.val (run_move rfl) rfl rfl rfl ?_
 refine WO.call rfl rfl Ty.hd25 rfl (dup_spec hS40) (fun v43 w42 pv43 => ?_)
 obtain ⟨hv, hS42⟩ := pv43
 clear hS40
 rw [fD38] at hv
 subst hv
 refine WO.val (run_assign rfl) rfl rfl rfl ?_
 refine WO.nil ?_
 refine NX.go ?_
 refine WP.seq ?_
 refine WP.region rfl ?_
 refine WO.val (run_move rfl) rfl rfl rfl ?_
 replace hS42 := hS42.own_nil 3 1
 have hS45 := hS42.permT [1, 0, 0] (L' := dkA g2 D38 :: own none 0 0 3 1 [] :: own (some ⟨g22, 0, none⟩) 2 2 3 1 (ri [0, 1]) :: L) rfl
 clear hS42
 refine WO.call rfl rfl Ty.hd26 rfl (dcrash_spec (zs := []) kD38.w kD38.b (by omega) (by omega) (fun h => h.own_rd.1) (by first | decide | omega) (by first | decide | omega) hS45) (fun v47 w46 pv47 => ?_)
 obtain ⟨hv, hS46⟩ := pv47
 clear hS45
 obtain ⟨D44, eD44⟩ : ∃ qq, qq = crashD D38 [] := ⟨_, rfl⟩
 rw [← eD44] at hS46
 have kD44 : OkD D44 (0 + 1 + 1 + 1) (0 + 2 + 1 + 1) := by rw [eD44]; exact kD38.crash
 have fD44 : D44 = (⟨100, [([120, 121, 122], 3), ([49], 0)], [([97], 0)], [([97], 0)], [], false, -1⟩ : Dk) := by rw [eD44, fD38]; exact rfl
 subst hv
 refine WO.nil ?_
 refine NX.go ?_
 refine WP.seq ?_
 refine WP.region rfl ?_
 refine WO.val (run_move rfl) rfl rfl rfl ?_
 refine WO.val (run_eqlS rfl rfl) rfl rfl rfl ?_
 refine WO.val (run_move rfl) rfl rfl rfl ?_
 refine WO.on rfl rfl (by decide) ?_
 refine WO.val (run_move rfl) rfl rfl rfl ?_
 refine WO.on rfl rfl (by decide) ?_
 refine WO.val (run_eql rfl rfl) rfl rfl rfl ?_
 refine WO.val (run_pickT rfl (by decide) rfl) rfl rfl rfl ?_
 refine WO.val (run_move rfl) rfl rfl rfl ?_
 refine WO.on rfl rfl (by decide) ?_
 refine WO.val (run_move rfl) rfl rfl rfl ?_
 refine WO.on rfl rfl (by decide) ?_
 refine WO.val (run_eql rfl rfl) rfl rfl rfl ?_
 refine WO.val (run_pickT rfl (by decide) rfl) rfl rfl rfl ?_
 refine WO.val (run_move rfl) rfl rfl rfl ?_
 refine WO.on rfl rfl (by decide) ?_
 refine WO.val (run_move rfl) rfl rfl rfl ?_
 refine WO.on rfl rfl (by decide) ?_
 refine WO.val (run_not rfl rfl) rfl rfl rfl ?_
 refine WO.val (run_pickT rfl (by decide) rfl) rfl rfl rfl ?_
 refine WO.val (run_move rfl) rfl rfl rfl ?_
 refine WO.on rfl rfl (notB_f rfl) ?_
 refine WO.val (run_move rfl) rfl rfl rfl ?_
 refine WO.on rfl rfl (notB_f rfl) ?_
 refine WO.call rfl rfl Ty.hd25 rfl (dup_spec hS46) (fun v49 w48 pv49 => ?_)
 obtain ⟨hv, hS48⟩ := pv49
 clear hS46
 rw [fD44] at hv
 subst hv
 refine WO.val (run_pickT rfl (notB_f rfl) rfl) rfl rfl rfl ?_
 refine WO.val (run_move rfl) rfl rfl rfl ?_
 refine WO.on rfl rfl rfl ?_
 refine WO.val (run_move rfl) rfl rfl rfl ?_
 refine WO.on rfl rfl rfl ?_
 refine WO.call rfl rfl Ty.hd36 rfl (dnames_spec kD44.w hS48) (fun v53 w52 pv53 => ?_)
 obtain ⟨a50, c51, hv, hS52⟩ := pv53
 clear hS48
 have fna50 : namesD D44 = [[97]] := by rw [fD44]; exact rfl
 rw [fna50] at hS52
 rw [fna50] at hv
 subst hv
 refine WO.on rfl rfl rfl ?_
 refine WO.val (run_len rfl Tryd.underlying22 rfl) rfl rfl rfl ?_
 refine WO.on rfl rfl rfl ?_
 refine WO.val (run_eql rfl rfl) rfl rfl rfl ?_
 refine WO.val (run_pickT rfl rfl rfl) rfl rfl rfl ?_
 refine WO.val (run_assign rfl) rfl rfl rfl ?_
 refine WO.nil ?_
 refine NX.go ?_
 refine WP.ret ?_
 refine NX.done (l := [.tmp 0]) rfl rfl ?_
 exact ⟨by rfl, hS52.drop.drop.drop.drop⟩
end Go.Proofs.YtcehlnpbdffdhaaDoor.SL
