/- A log that is begun anew. -/
import Derived.Test.YtiggkfaonnnjoaaDoorWpM
import Derived.Test.YtiggkfaonnnjoaaDoorWq
namespace Go.Proofs.YtiggkfaonnnjoaaDoor.SL
open Go.RowKit Go.Proofs.YtiggkfaonnnjoaaDoor
open Go.Proofs.YtiggkfaonnnjoaaDoorW.PrintLast (rtab opsOf)
set_option linter.unusedVariables false
set_option linter.unusedSimpArgs false
theorem llast0_spec {B w : World} {L : List HP} {g gd c at_ : Nat} {a : Option Addr} (hat : at_ < 99999999) (hS : St B (cel g [Value.pointer (some ⟨gd, 0, none⟩), Value.slice a 0 c, Value.pointer none, Value.bool false, Value.int .i64 (at_ : Int), Value.int .i64 (at_ : Int)] 55 :: L) w) : Does Tryd.prog 15 [Value.pointer (some ⟨g, 0, none⟩)] w (fun v w1 => v = .int .i64 (at_ : Int) ∧ St B (cel g [Value.pointer (some ⟨gd, 0, none⟩), Value.slice a 0 c, Value.pointer none, Value.bool false, Value.int .i64 (at_ : Int), Value.int .i64 (at_ : Int)] 55 :: L) w1) := by
 refine enter (n := 7) Tryd.func15 rfl rfl [Value.pointer (some ⟨g, 0, none⟩)] rfl ?_
 refine WP.seq (WP.region rfl ?_)
 refine WO.asg rfl rfl ?_
 refine WO.nil (NX.go (WP.seq (WP.region rfl ?_)))
 refine WO.mv rfl rfl ?_
 refine WO.val (run_nilCheck rfl) rfl rfl rfl ?_
 refine WO.val (run_fieldAddr (q := ⟨g, 4, none⟩) (show fieldB Tryd.prog 55 4 = some 4 from by kernel_rfl) rfl rfl) rfl rfl rfl ?_
 refine WO.val (run_load Ty.ag3 rfl ((hS.cel_at 0 rfl 4).trans rfl)) rfl rfl rfl ?_
 refine WO.asg rfl rfl ?_
 refine WO.nil (NX.go (WP.ret ?_))
 refine NX.done (l := [.tmp 2]) rfl rfl ?_
 exact ⟨rfl, hS⟩
theorem ldur0_spec {B w : World} {L : List HP} {g gd c at_ : Nat} {a : Option Addr} (hat : at_ < 99999999) (hS : St B (cel g [Value.pointer (some ⟨gd, 0, none⟩), Value.slice a 0 c, Value.pointer none, Value.bool false, Value.int .i64 (at_ : Int), Value.int .i64 (at_ : Int)] 55 :: L) w) : Does Tryd.prog 13 [Value.pointer (some ⟨g, 0, none⟩)] w (fun v w1 => v = .int .i64 (at_ : Int) ∧ St B (cel g [Value.pointer (some ⟨gd, 0, none⟩), Value.slice a 0 c, Value.pointer none, Value.bool false, Value.int .i64 (at_ : Int), Value.int .i64 (at_ : Int)] 55 :: L) w1) := by
 refine enter (n := 7) Tryd.func13 rfl rfl [Value.pointer (some ⟨g, 0, none⟩)] rfl ?_
 refine WP.seq (WP.region rfl ?_)
 refine WO.asg rfl rfl ?_
 refine WO.nil (NX.go (WP.seq (WP.region rfl ?_)))
 refine WO.mv rfl rfl ?_
 refine WO.val (run_nilCheck rfl) rfl rfl rfl ?_
 refine WO.val (run_fieldAddr (q := ⟨g, 5, none⟩) (show fieldB Tryd.prog 55 5 = some 5 from by kernel_rfl) rfl rfl) rfl rfl rfl ?_
 refine WO.val (run_load Ty.ag3 rfl ((hS.cel_at 0 rfl 5).trans rfl)) rfl rfl rfl ?_
 refine WO.asg rfl rfl ?_
 refine WO.nil (NX.go (WP.ret ?_))
 refine NX.done (l := [.tmp 2]) rfl rfl ?_
 exact ⟨rfl, hS⟩
theorem lfirst0_spec {B w : World} {L : List HP} {g gd c at_ : Nat} {a : Option Addr} (hat : at_ < 99999999) (hS : St B (cel g [Value.pointer (some ⟨gd, 0, none⟩), Value.slice a 0 c, Value.pointer none, Value.bool false, Value.int .i64 (at_ : Int), Value.int .i64 (at_ : Int)] 55 :: L) w) : Does Tryd.prog 17 [Value.pointer (some ⟨g, 0, none⟩)] w (fun v w1 => v = .int .i64 ((at_ : Int) + 1) ∧ St B (cel g [Value.pointer (some ⟨gd, 0, none⟩), Value.slice a 0 c, Value.pointer none, Value.bool false, Value.int .i64 (at_ : Int), Value.int .i64 (at_ : Int)] 55 :: L) w1) := by
 refine enter (n := 23) Tryd.func17 rfl rfl [Value.pointer (some ⟨g, 0, none⟩)] rfl ?_
 refine WP.seq (WP.region rfl ?_)
 refine WO.asg rfl rfl ?_
 refine WO.nil (NX.go (WP.seq (WP.seq (WP.region rfl ?_))))
 refine WO.mv rfl rfl ?_
 refine WO.val (run_nilCheck rfl) rfl rfl rfl ?_
 refine WO.val (run_fieldAddr (q := ⟨g, 1, none⟩) (show fieldB Tryd.prog 55 1 = some 1 from by kernel_rfl) rfl rfl) rfl rfl rfl ?_
 refine WO.val (run_load Ty.ag52 rfl ((hS.cel_at 0 rfl 1).trans rfl)) rfl rfl rfl ?_
 refine WO.val (run_len rfl Tryd.underlying52 rfl) rfl rfl rfl ?_
 refine WO.val (run_eql rfl rfl) rfl rfl rfl ?_
 refine WO.nil (NX.go ?_)
 refine WP.condP rfl (fun g8 => ?_) (fun g8 => ?_)
 ·
  refine WP.seq (WP.region rfl ?_)
  refine WO.mv rfl rfl ?_
  refine WO.val (run_nilCheck rfl) rfl rfl rfl ?_
  refine WO.val (run_fieldAddr (q := ⟨g, 4, none⟩) (show fieldB Tryd.prog 55 4 = some 4 from by kernel_rfl) rfl rfl) rfl rfl rfl ?_
  refine WO.val (run_load Ty.ag3 rfl ((hS.cel_at 0 rfl 4).trans rfl)) rfl rfl rfl ?_
  refine WO.val (run_add rfl rfl (IntWalk.i64_in _ (by omega))) rfl rfl rfl ?_
  refine WO.asg rfl rfl ?_
  refine WO.nil (NX.go (WP.ret (NX.thenRet ?_)))
  refine NX.done (l := [.tmp 2]) rfl rfl ?_
  exact ⟨rfl, hS⟩
 ·
  exfalso; exact g8 rfl
theorem walReset_core {B w : World} {L : List HP} (n0 a0 : Int) {ka : Option Addr} {kc : Nat} {zs : List Int} (hK : Rd B ka zs.length 1 (ri zs)) (hkl : zs.length ≤ 17592186043904) (hS : St B L w) : Does Tryd.prog 6 [Value.int .i64 n0, Value.int .i64 a0, Value.slice ka zs.length kc] w (fun v w1 => v = .bool true ∧ St B L w1) := by
 replace hS := hS.addPure (p := True) trivial
 refine enter (n := 118) Tryd.func6 rfl rfl [Value.int .i64 n0, Value.int .i64 a0, Value.slice ka zs.length kc] rfl ?_
 refine WP.seq (WP.region rfl ?_)
 refine WO.asg rfl rfl ?_
 refine WO.nil (NX.go (WP.seq (WP.seq (WP.region rfl ?_))))
 refine WO.call rfl rfl Ty.hd7 rfl (works05_spec hS) (fun v2 w1 pv2 => ?_)
 obtain ⟨rfl, hS1⟩ := pv2
 clear hS
 refine WO.val (run_not rfl rfl) rfl rfl rfl ?_
 refine WO.nil (NX.go ?_)
 refine WP.condF rfl (notB_t rfl) ?_
 refine WP.skip (NX.go (WP.seq (WP.region rfl ?_)))
 refine WO.mv rfl rfl ?_
 refine WO.val (run_convI Tryd.underlying33 (by kernel_rfl) rfl (IntKind.wrap_u64 _)) rfl rfl rfl ?_
 refine WO.val (run_rem rfl rfl (by omega) (IntWalk.rem_in _ _ (by omega))) rfl rfl rfl ?_
 obtain ⟨nn, hnn⟩ : ∃ nn : Nat, (nn : Int) = (n0 % 18446744073709551616) % 40 := ⟨((n0 % 18446744073709551616) % 40).toNat, by omega⟩
 refine WO.val (run_convI Tryd.underlying3 (by kernel_rfl) rfl (show IntKind.i64.wrap ((n0 % 18446744073709551616) % 40) = (nn : Int) by rw [← hnn]; exact IntWalk.i64_in _ (by omega))) rfl rfl rfl ?_
 refine WO.mv rfl rfl ?_
 refine WO.val (run_convI Tryd.underlying33 (by kernel_rfl) rfl (IntKind.wrap_u64 _)) rfl rfl rfl ?_
 refine WO.val (run_rem rfl rfl (by omega) (IntWalk.rem_in _ _ (by omega))) rfl rfl rfl ?_
 obtain ⟨at_, hat_⟩ : ∃ at_ : Nat, (at_ : Int) = (a0 % 18446744073709551616) % 99999998 := ⟨((a0 % 18446744073709551616) % 99999998).toNat, by omega⟩
 refine WO.val (run_convI Tryd.underlying3 (by kernel_rfl) rfl (show IntKind.i64.wrap ((a0 % 18446744073709551616) % 99999998) = (at_ : Int) by rw [← hat_]; exact IntWalk.i64_in _ (by omega))) rfl rfl rfl ?_
 refine WO.asg rfl rfl ?_
 refine WO.asg rfl rfl ?_
 refine WO.nil (NX.go (WP.seq (WP.region rfl ?_)))
 refine WO.call rfl rfl Ty.hd8 rfl (dnew_spec 1048576 hS1) (fun v4 w3 pv4 => ?_)
 obtain ⟨gd, rfl, hS3⟩ := pv4
 clear hS1
 have k0 : OkD (newD 1048576) 0 0 := OkD.new (by omega)
 refine WO.asg rfl rfl ?_
 refine WO.nil (NX.go (WP.seq (WP.region rfl ?_)))
 refine WO.mv rfl rfl ?_
 have hW0 : ∀ q ∈ namesD (newD 1048576), ¬ numW q = 0 ∧ numW q ≤ 99999999 := fun q hq => (by cases hq)
 refine WO.call rfl rfl Ty.hd9 rfl (lopen_spec 0 (by omega) k0 (by omega) (by omega) rfl (fun q hq => (hW0 q hq).1) (fun q hq => (hW0 q hq).2) (by rw [openL_none (base := 0) (D := newD 1048576) rfl]) hS3) (fun v6 w5 pv6 => ?_)
 obtain ⟨g, hv, hS5⟩ := pv6
 clear hS3
 rw [openL_none (base := 0) (D := newD 1048576) rfl] at hS5
 subst hv
 replace hS5 : St B (lgA g gd (lg0 []) :: dkA gd (newD 1048576) :: (.pure True) :: L) w5 := hS5
 refine WO.mv rfl rfl ?_
 refine WO.val (run_extract rfl rfl) rfl rfl rfl ?_
 refine WO.val (run_extract rfl rfl) rfl rfl rfl ?_
 refine WO.asg rfl rfl ?_
 refine WO.asg rfl rfl ?_
 refine WO.nil (NX.go (WP.seq (WP.seq (WP.region rfl ?_))))
 refine WO.mv rfl rfl ?_
 refine WO.val (run_neq rfl rfl) rfl rfl rfl ?_
 refine WO.mv rfl rfl ?_
 refine WO.on rfl rfl (by decide) ?_
 refine WO.mv rfl rfl ?_
 refine WO.on rfl rfl (by decide) ?_
 refine WO.val (run_eqlNilP Tryd.underlying28 rfl rfl) rfl rfl rfl ?_
 refine WO.val (run_pickF rfl (by decide) rfl) rfl rfl rfl ?_
 refine WO.nil (NX.go ?_)
 refine WP.condF rfl rfl ?_
 refine WP.skip (NX.go (WP.seq (WP.seq (WP.region rfl ?_))))
 refine WO.asg rfl rfl ?_
 refine WO.nil (NX.go (WP.block ?_))
 refine WP.loop (α := Nat × Lg × Dk) (fun x => match x with | ⟨i, lg, D⟩ => [(0, Value.int .i64 (nn : Int)), (1, Value.int .i64 (at_ : Int)), (2, Value.slice ka zs.length kc), (7, Value.pointer (some ⟨gd, 0, none⟩)), (8, Value.pointer (some ⟨g, 0, none⟩)), (10, Value.int .i64 (i : Int))]) (fun x w => match x with | ⟨i, lg, D⟩ => (i ≤ nn ∧ LWell lg D i (15 * i) (15 * i) ∧ lg.last = i ∧ lg.l.length ≤ i) ∧ St B (lgA g gd lg :: dkA gd D :: (.pure True) :: L) w) (fun x => match x with | ⟨i, lg, D⟩ => nn - i) (0, lg0 [], (newD 1048576)) ⟨⟨Nat.zero_le _, LWell.new, rfl, Nat.le_refl _⟩, hS5⟩ (Sub.cons rfl (Sub.cons rfl (Sub.cons rfl (Sub.cons rfl (Sub.cons rfl (Sub.consE rfl (by first | rfl | first | rfl | (congr 1; omega) | (simp; done) | (simp; omega)) (Sub.nil _))))))) ?_
 rintro ⟨i, lg, D⟩ w7 ⟨⟨hi, hw, hla, hll⟩, hS7⟩
 clear hS5
 refine WP.seq (WP.seq (WP.region rfl ?_))
 refine WO.mv rfl rfl ?_
 refine WO.mv rfl rfl ?_
 refine WO.val (run_lss rfl rfl) rfl rfl rfl ?_
 refine WO.nil (NX.go ?_)
 refine WP.condP rfl (fun g39 => ?_) (fun g39 => ?_)
 ·
  refine WP.skip (NX.go (WP.seq (WP.block (WP.region rfl ?_))))
  refine WO.mv rfl rfl ?_
  obtain ⟨D1, eqA, hw1⟩ := hw.append (s := [120]) (by decide) (by simp; omega) (by omega) (by omega)
  refine WO.call rfl rfl Ty.hd11 rfl (lappend_spec (lg := lg) (D := D) hw.ok hw.dk (by omega) (by omega) [120] (by first | decide | omega) hS7) (fun v9 w8 pv9 => ?_)
  obtain ⟨hv, hS8⟩ := pv9
  clear hS7
  rw [eqA] at hv
  rw [eqA] at hS8
  change _ = Value.tuple #[Value.int .i64 ((lg.last + 1 : Nat) : Int), Value.int .i64 0] at hv
  subst hv
  replace hS8 : St B (lgA g gd (appG lg [120]) :: dkA gd D1 :: (.pure True) :: L) w8 := hS8
  refine WO.nil (NX.blk (NX.go (WP.region rfl ?_)))
  refine WO.mv rfl rfl ?_
  refine WO.val (run_add rfl rfl (IntWalk.i64_in _ (by omega))) rfl rfl rfl ?_
  refine WO.asg rfl rfl ?_
  refine WO.nil ?_
  exact NX.again (i + 1, appG lg [120], D1) ⟨⟨by omega, hw1.mono (by simp) (by simp; omega) (by simp; omega), by rw [(appG_last lg [120]).1]; omega, by have := (appG_last lg [120]).2.1; omega⟩, hS8⟩ (by show nn - (i + 1) < nn - i; omega) (Sub.cons rfl (Sub.cons rfl (Sub.cons rfl (Sub.cons rfl (Sub.cons rfl (Sub.consE rfl (by congr 1) (Sub.nil _)))))))
 ·
  refine WP.exit (NX.thenExit (NX.thenExit ?_))
  refine NX.blkExit ?_
  refine NX.go (WP.seq (WP.seq ?_))
  obtain ⟨hra, hrb, hrk, hrc⟩ := hw.reset
  refine WP.region rfl ?_
  refine WO.mv rfl rfl ?_
  refine WO.mv rfl rfl ?_
  refine WO.call rfl rfl Ty.hd19 rfl (lreset_spec at_ (by omega) hw.ok hw.dk (by omega) hra hrb hS7) (fun v11 w10 pv11 => ?_)
  obtain ⟨rfl, ra, rc, hS10⟩ := pv11
  clear hS7
  have hr3 := hrc zs
  have hw3 : LWell (⟨[], false, false, at_, at_⟩ : Lg) (crashD (syncNamesD (rmAll (nmsW lg.l) D).1).1 zs) (40 + 40) 600 0 := LWell.empty hr3.1 hr3.2.1 ((hrk.crash (zs := zs)).mono (by omega) (by omega)) hr3.2.2.1 hr3.2.2.2.1 hr3.2.2.2.2 (by omega)
  refine WO.val (run_neq rfl rfl) rfl rfl rfl ?_
  refine WO.mv rfl rfl ?_
  refine WO.on rfl rfl (by decide) ?_
  refine WO.mv rfl rfl ?_
  refine WO.on rfl rfl (by decide) ?_
  refine WO.call rfl rfl Ty.hd15 rfl (llast0_spec (by omega) hS10) (fun v13 w12 pv13 => ?_)
  obtain ⟨rfl, hS12⟩ := pv13
  clear hS10
  refine WO.on rfl rfl (by decide) ?_
  refine WO.mv rfl rfl ?_
  refine WO.on rfl rfl (by decide) ?_
  refine WO.val (run_neq rfl rfl) rfl rfl rfl ?_
  refine WO.val (run_pickF rfl (by decide) rfl) rfl rfl rfl ?_
  refine WO.mv rfl rfl ?_
  refine WO.on rfl rfl (decide_eq_false (fun h => h rfl)) ?_
  refine WO.mv rfl rfl ?_
  refine WO.on rfl rfl (decide_eq_false (fun h => h rfl)) ?_
  refine WO.call rfl rfl Ty.hd17 rfl (lfirst0_spec (by omega) hS12) (fun v15 w14 pv15 => ?_)
  obtain ⟨rfl, hS14⟩ := pv15
  clear hS12
  refine WO.on rfl rfl (decide_eq_false (fun h => h rfl)) ?_
  refine WO.mv rfl rfl ?_
  refine WO.on rfl rfl (decide_eq_false (fun h => h rfl)) ?_
  refine WO.val (run_add rfl rfl (IntWalk.i64_in _ (by omega))) rfl rfl rfl ?_
  refine WO.on rfl rfl (decide_eq_false (fun h => h rfl)) ?_
  refine WO.val (run_neq rfl rfl) rfl rfl rfl ?_
  refine WO.val (run_pickF rfl (decide_eq_false (fun h => h rfl)) rfl) rfl rfl rfl ?_
  refine WO.mv rfl rfl ?_
  refine WO.on rfl rfl (decide_eq_false (fun h => h rfl)) ?_
  refine WO.mv rfl rfl ?_
  refine WO.on rfl rfl (decide_eq_false (fun h => h rfl)) ?_
  refine WO.call rfl rfl Ty.hd13 rfl (ldur0_spec (by omega) hS14) (fun v17 w16 pv17 => ?_)
  obtain ⟨rfl, hS16⟩ := pv17
  clear hS14
  refine WO.on rfl rfl (decide_eq_false (fun h => h rfl)) ?_
  refine WO.mv rfl rfl ?_
  refine WO.on rfl rfl (decide_eq_false (fun h => h rfl)) ?_
  refine WO.val (run_neq rfl rfl) rfl rfl rfl ?_
  refine WO.val (run_pickF rfl (decide_eq_false (fun h => h rfl)) rfl) rfl rfl rfl ?_
  refine WO.nil (NX.go ?_)
  refine WP.condF rfl (decide_eq_false (fun h => h rfl)) ?_
  refine WP.skip (NX.go (WP.seq (WP.region rfl ?_)))
  refine WO.mv rfl rfl ?_
  refine WO.buildSlice (l := []) hS16 Tryd.underlying24 rfl (fun w => by kernel_rfl) rfl (fun g19 w18 lg19 hS18 => ?_)
  clear hS16
  have hS18 := hS18.own_of_cel (m := 0) (k := 1) rfl
  refine WO.mv rfl rfl ?_
  refine WO.append (news := (ri zs)) 0 rfl Tryd.underlying24 Tryd.underlying24 (fun _ h => by cases h) Ty.sz3 (by decide) Ty.by3 Ty.zr3 rfl rfl rfl rfl hS18 rfl (((fun h => St.rdB h hK) (hS18.focus 3 rfl)).src) (ri_noAgg _) (by omega) (by omega) (fun a21 c22 w20 hS20 => ?_)
  replace hS20 : St B (own a21 zs.length c22 3 1 (ri zs) :: cel g [Value.pointer (some ⟨gd, 0, none⟩), Value.slice ra 0 rc, Value.pointer none, Value.bool false, Value.int .i64 (at_ : Int), Value.int .i64 (at_ : Int)] 55 :: dkA gd ((syncNamesD (rmAll (nmsW lg.l) D).1).1) :: (.pure True) :: L) w20 := (by have z := hS20; rw [Nat.zero_add] at z; exact z)
  refine WO.as (d := 70) (v := Value.slice a21 zs.length c22) rfl (by rw [Nat.zero_add]) ?_
  clear hS18
  have hcap := hS20.own_le_i 0 rfl
  have hS23 := hS20.permT [2, 0, 0, 0] (L' := dkA gd ((syncNamesD (rmAll (nmsW lg.l) D).1).1) :: own a21 zs.length c22 3 1 (ri zs) :: cel g [Value.pointer (some ⟨gd, 0, none⟩), Value.slice ra 0 rc, Value.pointer none, Value.bool false, Value.int .i64 (at_ : Int), Value.int .i64 (at_ : Int)] 55 :: (.pure True) :: L) rfl
  clear hS20
  refine WO.call rfl rfl Ty.hd14 rfl (dcrash_spec (zs := zs) hrk.w hrk.b (by omega) (by omega) (fun h => h.own_rd.1) (by omega) (by omega) hS23) (fun v25 w24 pv25 => ?_)
  obtain ⟨rfl, hS24⟩ := pv25
  clear hS23
  refine WO.nil (NX.go (WP.seq (WP.region rfl ?_)))
  refine WO.mv rfl rfl ?_
  refine WO.mv rfl rfl ?_
  have hW1 : ∀ q ∈ namesD (crashD (syncNamesD (rmAll (nmsW lg.l) D).1).1 zs), ¬ numW q = 0 ∧ numW q ≤ 99999999 := fun q hq => by unfold namesD at hq; rw [hr3.2.2.1] at hq; split at hq <;> cases hq
  refine WO.call rfl rfl Ty.hd9 rfl (lopen_spec at_ (by omega) (hrk.crash (zs := zs)) (by omega) (by omega) hr3.1.dead (fun q hq => (hW1 q hq).1) (fun q hq => (hW1 q hq).2) (by rw [openL_none (base := at_) (D := (crashD (syncNamesD (rmAll (nmsW lg.l) D).1).1 zs)) hr3.2.2.1]) hS24) (fun v27 w26 pv27 => ?_)
  obtain ⟨g2, hv, hS26⟩ := pv27
  clear hS24
  rw [openL_none (base := at_) (D := (crashD (syncNamesD (rmAll (nmsW lg.l) D).1).1 zs)) hr3.2.2.1] at hS26
  subst hv
  replace hS26 : St B (lgA g2 gd (⟨[], false, false, at_, at_⟩ : Lg) :: dkA gd (crashD (syncNamesD (rmAll (nmsW lg.l) D).1).1 zs) :: own a21 zs.length c22 3 1 (ri zs) :: cel g [Value.pointer (some ⟨gd, 0, none⟩), Value.slice ra 0 rc, Value.pointer none, Value.bool false, Value.int .i64 (at_ : Int), Value.int .i64 (at_ : Int)] 55 :: (.pure True) :: L) w26 := hS26
  refine WO.mv rfl rfl ?_
  refine WO.val (run_extract rfl rfl) rfl rfl rfl ?_
  refine WO.val (run_extract rfl rfl) rfl rfl rfl ?_
  refine WO.asg rfl rfl ?_
  refine WO.asg rfl rfl ?_
  refine WO.nil (NX.go (WP.seq (WP.seq (WP.region rfl ?_))))
  refine WO.mv rfl rfl ?_
  refine WO.val (run_neq rfl rfl) rfl rfl rfl ?_
  refine WO.mv rfl rfl ?_
  refine WO.on rfl rfl (by decide) ?_
  refine WO.mv rfl rfl ?_
  refine WO.on rfl rfl (by decide) ?_
  refine WO.val (run_eqlNilP Tryd.underlying28 rfl rfl) rfl rfl rfl ?_
  refine WO.val (run_pickF rfl (by decide) rfl) rfl rfl rfl ?_
  refine WO.mv rfl rfl ?_
  refine WO.on rfl rfl rfl ?_
  refine WO.mv rfl rfl ?_
  refine WO.on rfl rfl rfl ?_
  refine WO.call rfl rfl Ty.hd15 rfl (llast_spec hS26) (fun v29 w28 pv29 => ?_)
  obtain ⟨hv, hS28⟩ := pv29
  clear hS26
  change _ = Value.int .i64 (at_ : Int) at hv
  subst hv
  refine WO.on rfl rfl rfl ?_
  refine WO.mv rfl rfl ?_
  refine WO.on rfl rfl rfl ?_
  refine WO.val (run_neq rfl rfl) rfl rfl rfl ?_
  refine WO.val (run_pickF rfl rfl rfl) rfl rfl rfl ?_
  refine WO.nil (NX.go ?_)
  refine WP.condF rfl (decide_eq_false (fun h => h rfl)) ?_
  refine WP.skip (NX.go (WP.seq (WP.region rfl ?_)))
  refine WO.mv rfl rfl ?_
  obtain ⟨D4, eqY, hw4⟩ := reset_go hw3 (by omega)
  refine WO.call rfl rfl Ty.hd11 rfl (lappend_spec (lg := (⟨[], false, false, at_, at_⟩ : Lg)) (D := (crashD (syncNamesD (rmAll (nmsW lg.l) D).1).1 zs)) hw3.ok hw3.dk (by omega) (by omega) [121] (by first | decide | omega) hS28) (fun v31 w30 pv31 => ?_)
  obtain ⟨hv, hS30⟩ := pv31
  clear hS28
  rw [(show appendL (⟨[], false, false, at_, at_⟩ : Lg) _ [121] = _ from eqY)] at hv
  rw [(show appendL (⟨[], false, false, at_, at_⟩ : Lg) _ [121] = _ from eqY)] at hS30
  change _ = Value.tuple #[Value.int .i64 ((at_ : Int) + 1), Value.int .i64 0] at hv
  subst hv
  replace hS30 : St B (lgA g2 gd (⟨[newS (at_ + 1) wy], true, true, at_ + 1, at_⟩ : Lg) :: dkA gd D4 :: own a21 zs.length c22 3 1 (ri zs) :: cel g [Value.pointer (some ⟨gd, 0, none⟩), Value.slice ra 0 rc, Value.pointer none, Value.bool false, Value.int .i64 (at_ : Int), Value.int .i64 (at_ : Int)] 55 :: (.pure True) :: L) w30 := hS30
  refine WO.mv rfl rfl ?_
  refine WO.val (run_extract rfl rfl) rfl rfl rfl ?_
  refine WO.val (run_extract rfl rfl) rfl rfl rfl ?_
  refine WO.asg rfl rfl ?_
  refine WO.asg rfl rfl ?_
  refine WO.nil (NX.go (WP.seq (WP.region rfl ?_)))
  refine WO.mv rfl rfl ?_
  refine WO.mv rfl rfl ?_
  refine WO.val (run_add rfl rfl (IntWalk.i64_in _ (by omega))) rfl rfl rfl ?_
  refine WO.call rfl rfl Ty.hd16 rfl (lread_spec (lg := (⟨[newS (at_ + 1) wy], true, true, at_ + 1, at_⟩ : Lg)) ((at_ : Int) + 1) hw4.ok hw4.dk (by omega) hw4.files hS30) (fun v33 w32 pv33 => ?_)
  obtain ⟨hv, hS32⟩ := pv33
  clear hS30
  rw [show readL ((⟨[newS (at_ + 1) wy], true, true, at_ + 1, at_⟩ : Lg) : Lg).l ((at_ : Int) + 1) = ([121], 0) from reset_read at_] at hv
  change _ = Value.tuple #[str [121], Value.int .i64 0] at hv
  subst hv
  refine WO.mv rfl rfl ?_
  refine WO.val (run_extract rfl rfl) rfl rfl rfl ?_
  refine WO.val (run_extract rfl rfl) rfl rfl rfl ?_
  refine WO.asg rfl rfl ?_
  refine WO.asg rfl rfl ?_
  refine WO.nil (NX.go (WP.seq (WP.region rfl ?_)))
  refine WO.mv rfl rfl ?_
  refine WO.mv rfl rfl ?_
  refine WO.val (run_add rfl rfl (IntWalk.i64_in _ (by omega))) rfl rfl rfl ?_
  refine WO.val (run_eql rfl rfl) rfl rfl rfl ?_
  refine WO.mv rfl rfl ?_
  by_cases g106 : ((at_ : Int) + 1) = ((at_ : Int) + 1)
  ·
   refine WO.on rfl rfl (decide_eq_true g106) ?_
   refine WO.mv rfl rfl ?_
   refine WO.on rfl rfl (decide_eq_true g106) ?_
   refine WO.val (run_eql rfl rfl) rfl rfl rfl ?_
   refine WO.val (run_pickT rfl (decide_eq_true g106) rfl) rfl rfl rfl ?_
   refine WO.mv rfl rfl ?_
   refine WO.on rfl rfl (by decide) ?_
   refine WO.mv rfl rfl ?_
   refine WO.on rfl rfl (by decide) ?_
   refine WO.val (run_eqlS rfl rfl) rfl rfl rfl ?_
   refine WO.val (run_pickT rfl (by decide) rfl) rfl rfl rfl ?_
   refine WO.mv rfl rfl ?_
   refine WO.on rfl rfl (by decide) ?_
   refine WO.mv rfl rfl ?_
   refine WO.on rfl rfl (by decide) ?_
   refine WO.val (run_eql rfl rfl) rfl rfl rfl ?_
   refine WO.val (run_pickT rfl (by decide) rfl) rfl rfl rfl ?_
   refine WO.asg rfl rfl ?_
   refine WO.nil (NX.go (WP.ret ?_))
   refine NX.done (l := [.tmp 6]) rfl rfl ?_
   exact ⟨rfl, hS32.drop.drop.drop.drop.drop⟩
  ·
   exfalso; exact g106 rfl
end Go.Proofs.YtiggkfaonnnjoaaDoor.SL
