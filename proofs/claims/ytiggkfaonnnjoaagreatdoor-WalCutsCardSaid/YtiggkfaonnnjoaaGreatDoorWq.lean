/- The log, as used to be. -/
import Derived.Test.YtiggkfaonnnjoaaGreatDoorWpM
import Derived.Test.YtiggkfaonnnjoaaGreatDoorWb7M
namespace Go.Proofs.YtiggkfaonnnjoaaGreatDoor.SL
open Go.RowKit Go.Proofs.YtiggkfaonnnjoaaGreatDoor
open Go.Proofs.YtiggkfaonnnjoaaGreatDoorW.PrintLast (rtab opsOf)
set_option linter.unusedVariables false
set_option linter.unusedSimpArgs false
theorem works05_spec {B w : World} {L : List HP} (hS : St B L w) : Does Tryz.prog 4 [] w (fun v w1 => v = .bool true ∧ St B L w1) := by
 refine enter (n := 69) Tryz.func4 rfl rfl [] rfl ?_
 refine WP.seq (WP.region rfl ?_)
 refine WO.asg rfl rfl ?_
 refine WO.nil (NX.go (WP.seq (WP.region rfl ?_)))
 refine WO.call rfl rfl Ty.hd5 rfl (dnew_spec 1000 hS) (fun v2 w1 pv2 => ?_)
 obtain ⟨gd, rfl, hS1⟩ := pv2
 clear hS
 have k0 : OkD (newD 1000) 0 0 := OkD.new (by omega)
 refine WO.asg rfl rfl ?_
 refine WO.nil (NX.go (WP.seq (WP.region rfl ?_)))
 refine WO.mv rfl rfl ?_
 have hW0 : ∀ q ∈ namesD (newD 1000), ¬ numW q = 0 ∧ numW q ≤ 99999999 := fun q hq => (by cases hq)
 refine WO.call rfl rfl Ty.hd6 rfl (lopen_spec 0 (by omega) k0 (by omega) (by omega) rfl (fun q hq => (hW0 q hq).1) (fun q hq => (hW0 q hq).2) (by rw [openL_none (base := 0) (D := newD 1000) rfl]) hS1) (fun v4 w3 pv4 => ?_)
 obtain ⟨g, hv, hS3⟩ := pv4
 clear hS1
 rw [openL_none (base := 0) (D := newD 1000) rfl] at hS3
 subst hv
 replace hS3 : St B (lgA g gd (⟨[], false, false, 0, 0⟩ : Lg) :: dkA gd (newD 1000) :: L) w3 := hS3
 refine WO.mv rfl rfl ?_
 refine WO.val (run_extract rfl rfl) rfl rfl rfl ?_
 refine WO.val (run_extract rfl rfl) rfl rfl rfl ?_
 refine WO.asg rfl rfl ?_
 refine WO.asg rfl rfl ?_
 refine WO.nil (NX.go (WP.seq (WP.seq (WP.region rfl ?_))))
 refine WO.mv rfl rfl ?_
 refine WO.val (run_neq rfl rfl) rfl rfl rfl ?_
 refine WO.mv rfl rfl ?_
 refine WO.on rfl rfl (by decide) ?_
 refine WO.mv rfl rfl ?_
 refine WO.on rfl rfl (by decide) ?_
 refine WO.val (run_eqlNilP Tryz.underlying27 rfl rfl) rfl rfl rfl ?_
 refine WO.val (run_pickF rfl (by decide) rfl) rfl rfl rfl ?_
 refine WO.nil (NX.go ?_)
 refine WP.condF rfl rfl ?_
 refine WP.skip (NX.go (WP.seq (WP.region rfl ?_)))
 refine WO.mv rfl rfl ?_
 refine WO.call rfl rfl Ty.hd7 rfl (lappend_spec (lg := (⟨[], false, false, 0, 0⟩ : Lg)) (D := (newD 1000)) OkL.nil k0 (by omega) (by omega) [97] (by first | decide | omega) hS3) (fun v6 w5 pv6 => ?_)
 obtain ⟨hv, hS5⟩ := pv6
 clear hS3
 rw [(show appendL (⟨[], false, false, 0, 0⟩ : Lg) (newD 1000) [97] = _ from wko1)] at hv
 rw [(show appendL (⟨[], false, false, 0, 0⟩ : Lg) (newD 1000) [97] = _ from wko1)] at hS5
 change _ = Value.tuple #[Value.int .i64 1, Value.int .i64 0] at hv
 subst hv
 replace hS5 : St B (lgA g gd (lgW [wa] true true 1 0) :: dkA gd (dW (frB wa) 0 [] [c1]) :: L) w5 := hS5
 refine WO.nil (NX.go (WP.seq (WP.region rfl ?_)))
 refine WO.mv rfl rfl ?_
 refine WO.call rfl rfl Ty.hd7 rfl (lappend_spec (lg := (lgW [wa] true true 1 0)) (D := (dW (frB wa) 0 [] [c1])) (wok [wa] wok1 (by simp) (by decide) true true true 1 0 (by decide)) wkd1 (by omega) (by omega) [98] (by first | decide | omega) hS5) (fun v8 w7 pv8 => ?_)
 obtain ⟨hv, hS7⟩ := pv8
 clear hS5
 rw [(show appendL (lgW [wa] true true 1 0) (dW (frB wa) 0 [] [c1]) [98] = _ from wko2)] at hv
 rw [(show appendL (lgW [wa] true true 1 0) (dW (frB wa) 0 [] [c1]) [98] = _ from wko2)] at hS7
 change _ = Value.tuple #[Value.int .i64 2, Value.int .i64 0] at hv
 subst hv
 replace hS7 : St B (lgA g gd (lgW [wa, wb] true true 2 0) :: dkA gd (dW (frB wa ++ frB wb) 0 [] [c1]) :: L) w7 := hS7
 refine WO.mv rfl rfl ?_
 refine WO.val (run_extract rfl rfl) rfl rfl rfl ?_
 refine WO.val (run_extract rfl rfl) rfl rfl rfl ?_
 refine WO.asg rfl rfl ?_
 refine WO.asg rfl rfl ?_
 refine WO.nil (NX.go (WP.seq (WP.region rfl ?_)))
 refine WO.mv rfl rfl ?_
 refine WO.call rfl rfl Ty.hd8 rfl (lsync_spec (lg := lgW [wa, wb] true true 2 0) (wok [wa, wb] okR2 (by simp) (by decide) true true true 2 0 (by decide)) wkd2 hS7) (fun v10 w9 pv10 => ?_)
 obtain ⟨hv, hS9⟩ := pv10
 clear hS7
 rw [wko3] at hv
 rw [wko3] at hS9
 change _ = Value.int .i64 0 at hv
 subst hv
 replace hS9 : St B (lgA g gd (lgW [wa, wb] false false 2 2) :: dkA gd dWE :: L) w9 := hS9
 refine WO.asg rfl rfl ?_
 refine WO.nil (NX.go (WP.seq (WP.region rfl ?_)))
 refine WO.mv rfl rfl ?_
 refine WO.call rfl rfl Ty.hd7 rfl (lappend_spec (lg := (lgW [wa, wb] false false 2 2)) (D := dWE) (wok [wa, wb] okR2 (by simp) (by decide) true false false 2 2 (by decide)) wkd3 (by omega) (by omega) [99] (by first | decide | omega) hS9) (fun v12 w11 pv12 => ?_)
 obtain ⟨hv, hS11⟩ := pv12
 clear hS9
 rw [(show appendL (lgW [wa, wb] false false 2 2) dWE [99] = _ from wko4)] at hv
 rw [(show appendL (lgW [wa, wb] false false 2 2) dWE [99] = _ from wko4)] at hS11
 change _ = Value.tuple #[Value.int .i64 3, Value.int .i64 0] at hv
 subst hv
 replace hS11 : St B (lgA g gd (lgW [wa, wb, wc] true false 3 2) :: dkA gd (dW ((frB wa ++ frB wb) ++ frB wc) (frB wa ++ frB wb).length [(nm1, 0)] []) :: L) w11 := hS11
 refine WO.nil (NX.go (WP.seq (WP.region rfl ?_)))
 refine WO.mv rfl rfl ?_
 replace hS11 := hS11.own_nil 3 1
 have hS13 := hS11.permT [2, 0, 0] (L' := dkA gd (dW ((frB wa ++ frB wb) ++ frB wc) (frB wa ++ frB wb).length [(nm1, 0)] []) :: own none 0 0 3 1 [] :: lgA g gd (lgW [wa, wb, wc] true false 3 2) :: L) rfl
 clear hS11
 refine WO.call rfl rfl Ty.hd11 rfl (dcrash_spec (zs := []) wkd4.w wkd4.b (by omega) (by omega) (fun h => h.own_rd.1) (by decide) (by decide) hS13) (fun v15 w14 pv15 => ?_)
 obtain ⟨rfl, hS14⟩ := pv15
 clear hS13
 rw [wrk6] at hS14
 refine WO.nil (NX.go (WP.seq (WP.region rfl ?_)))
 refine WO.mv rfl rfl ?_
 refine WO.call rfl rfl Ty.hd6 rfl (lopen_spec 0 (by omega) wkd3 (by omega) (by omega) rfl (fun q hq => (wnms q hq).1) (fun q hq => (wnms q hq).2) (by rw [wko5]) hS14) (fun v17 w16 pv17 => ?_)
 obtain ⟨g2, hv, hS16⟩ := pv17
 clear hS14
 rw [wko5] at hS16
 subst hv
 replace hS16 : St B (lgA g2 gd (⟨[⟨1, [wa, wb], false⟩], false, false, 2, 2⟩ : Lg) :: dkA gd dWE :: own none 0 0 3 1 [] :: lgA g gd (lgW [wa, wb, wc] true false 3 2) :: L) w16 := hS16
 refine WO.mv rfl rfl ?_
 refine WO.val (run_extract rfl rfl) rfl rfl rfl ?_
 refine WO.val (run_extract rfl rfl) rfl rfl rfl ?_
 refine WO.asg rfl rfl ?_
 refine WO.asg rfl rfl ?_
 refine WO.nil (NX.go (WP.seq (WP.seq (WP.region rfl ?_))))
 refine WO.mv rfl rfl ?_
 refine WO.val (run_neq rfl rfl) rfl rfl rfl ?_
 refine WO.mv rfl rfl ?_
 refine WO.on rfl rfl (by decide) ?_
 refine WO.mv rfl rfl ?_
 refine WO.on rfl rfl (by decide) ?_
 refine WO.val (run_eqlNilP Tryz.underlying27 rfl rfl) rfl rfl rfl ?_
 refine WO.val (run_pickF rfl (by decide) rfl) rfl rfl rfl ?_
 refine WO.nil (NX.go ?_)
 refine WP.condF rfl rfl ?_
 refine WP.skip (NX.go (WP.seq (WP.region rfl ?_)))
 refine WO.mv rfl rfl ?_
 refine WO.call rfl rfl Ty.hd12 rfl (lread_spec 2 (lg := (⟨[⟨1, [wa, wb], false⟩], false, false, 2, 2⟩ : Lg)) (wok [wa, wb] okR2 (by simp) (by decide) false false false 2 2 (by decide)) wkd3 (by omega) wfl hS16) (fun v19 w18 pv19 => ?_)
 obtain ⟨hv, hS18⟩ := pv19
 clear hS16
 change _ = Value.tuple #[str [98], Value.int .i64 0] at hv
 subst hv
 refine WO.mv rfl rfl ?_
 refine WO.val (run_extract rfl rfl) rfl rfl rfl ?_
 refine WO.val (run_extract rfl rfl) rfl rfl rfl ?_
 refine WO.asg rfl rfl ?_
 refine WO.asg rfl rfl ?_
 refine WO.nil (NX.go (WP.seq (WP.region rfl ?_)))
 refine WO.mv rfl rfl ?_
 refine WO.val (run_eql rfl rfl) rfl rfl rfl ?_
 refine WO.mv rfl rfl ?_
 refine WO.on rfl rfl (by decide) ?_
 refine WO.mv rfl rfl ?_
 refine WO.on rfl rfl (by decide) ?_
 refine WO.val (run_eql rfl rfl) rfl rfl rfl ?_
 refine WO.val (run_pickT rfl (by decide) rfl) rfl rfl rfl ?_
 refine WO.mv rfl rfl ?_
 refine WO.on rfl rfl (by decide) ?_
 refine WO.mv rfl rfl ?_
 refine WO.on rfl rfl (by decide) ?_
 refine WO.call rfl rfl Ty.hd10 rfl (llast_spec hS18) (fun v21 w20 pv21 => ?_)
 obtain ⟨hv, hS20⟩ := pv21
 clear hS18
 change _ = Value.int .i64 2 at hv
 subst hv
 refine WO.on rfl rfl (by decide) ?_
 refine WO.val (run_eql rfl rfl) rfl rfl rfl ?_
 refine WO.val (run_pickT rfl (by decide) rfl) rfl rfl rfl ?_
 refine WO.mv rfl rfl ?_
 refine WO.on rfl rfl (by decide) ?_
 refine WO.mv rfl rfl ?_
 refine WO.on rfl rfl (by decide) ?_
 refine WO.val (run_eqlS rfl rfl) rfl rfl rfl ?_
 refine WO.val (run_pickT rfl (by decide) rfl) rfl rfl rfl ?_
 refine WO.mv rfl rfl ?_
 refine WO.on rfl rfl (by decide) ?_
 refine WO.mv rfl rfl ?_
 refine WO.on rfl rfl (by decide) ?_
 refine WO.val (run_eql rfl rfl) rfl rfl rfl ?_
 refine WO.val (run_pickT rfl (by decide) rfl) rfl rfl rfl ?_
 refine WO.asg rfl rfl ?_
 refine WO.nil (NX.go (WP.ret ?_))
 refine NX.done (l := [.tmp 0]) rfl rfl ?_
 exact ⟨by rfl, hS20.drop.drop.drop.drop⟩
end Go.Proofs.YtiggkfaonnnjoaaGreatDoor.SL
