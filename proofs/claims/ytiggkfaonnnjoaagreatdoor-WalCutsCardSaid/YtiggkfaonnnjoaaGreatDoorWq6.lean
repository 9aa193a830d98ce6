/- A log that is cut goes on from there. -/
import Derived.Test.YtiggkfaonnnjoaaGreatDoorWc1M
import Derived.Test.YtiggkfaonnnjoaaGreatDoorWq
namespace Go.Proofs.YtiggkfaonnnjoaaGreatDoor.SL
open Go.RowKit Go.Proofs.YtiggkfaonnnjoaaGreatDoor
open Go.Proofs.YtiggkfaonnnjoaaGreatDoorW.PrintLast (rtab opsOf)
set_option linter.unusedVariables false
set_option linter.unusedSimpArgs false
theorem walCuts_core {B w : World} {L : List HP} (n0 a0 : Int) {ka : Option Addr} {kc : Nat} {zs : List Int} (hK : Rd B ka zs.length 1 (ri zs)) (hkl : zs.length ≤ 17592186043904) (hS : St B L w) : Does Tryz.prog 3 [Value.int .i64 n0, Value.int .i64 a0, Value.slice ka zs.length kc] w (fun v w1 => v = .bool true ∧ St B L w1) := by
 replace hS := hS.addPure (p := True) trivial
 refine enter (n := 124) Tryz.func3 rfl rfl [Value.int .i64 n0, Value.int .i64 a0, Value.slice ka zs.length kc] rfl ?_
 refine WP.seq (WP.region rfl ?_)
 refine WO.asg rfl rfl ?_
 refine WO.nil (NX.go (WP.seq (WP.seq (WP.region rfl ?_))))
 refine WO.call rfl rfl Ty.hd4 rfl (works05_spec hS) (fun v2 w1 pv2 => ?_)
 obtain ⟨rfl, hS1⟩ := pv2
 clear hS
 refine WO.val (run_not rfl rfl) rfl rfl rfl ?_
 refine WO.nil (NX.go ?_)
 refine WP.condF rfl (notB_t rfl) ?_
 refine WP.skip (NX.go (WP.seq (WP.region rfl ?_)))
 refine WO.mv rfl rfl ?_
 refine WO.val (run_convI Tryz.underlying24 (by kernel_rfl) rfl (IntKind.wrap_u64 _)) rfl rfl rfl ?_
 refine WO.val (run_rem rfl rfl (by omega) (IntWalk.rem_in _ _ (by omega))) rfl rfl rfl ?_
 obtain ⟨n1, hn1⟩ : ∃ n1 : Nat, (n1 : Int) = (n0 % 18446744073709551616) % 50 := ⟨((n0 % 18446744073709551616) % 50).toNat, by omega⟩
 refine WO.val (run_convI Tryz.underlying3 (by kernel_rfl) rfl (show IntKind.i64.wrap ((n0 % 18446744073709551616) % 50) = (n1 : Int) by rw [← hn1]; exact IntWalk.i64_in _ (by omega))) rfl rfl rfl ?_
 obtain ⟨nn, hnn⟩ : ∃ nn, nn = n1 + 1 := ⟨_, rfl⟩
 refine WO.val (run_add rfl rfl (show IntKind.i64.wrap (1 + (n1 : Int)) = (nn : Int) from by rw [IntWalk.i64_in _ (by omega)]; omega)) rfl rfl rfl ?_
 refine WO.asg rfl rfl ?_
 refine WO.nil (NX.go (WP.seq (WP.region rfl ?_)))
 refine WO.mv rfl rfl ?_
 refine WO.val (run_convI Tryz.underlying24 (by kernel_rfl) rfl (IntKind.wrap_u64 _)) rfl rfl rfl ?_
 refine WO.mv rfl rfl ?_
 refine WO.val (run_add rfl rfl (IntWalk.i64_in _ (by omega))) rfl rfl rfl ?_
 refine WO.val (run_convI Tryz.underlying24 (by kernel_rfl) rfl (show IntKind.u64.wrap ((nn : Int) + 1) = (nn : Int) + 1 from by rw [IntKind.wrap_u64]; omega)) rfl rfl rfl ?_
 refine WO.val (run_rem rfl rfl (by omega) (IntWalk.rem_in _ _ (by omega))) rfl rfl rfl ?_
 have ha1 := Int.emod_nonneg (a0 % 18446744073709551616) (show (nn : Int) + 1 ≠ 0 by omega)
 have ha2 := Int.emod_lt_of_pos (a0 % 18446744073709551616) (show (0 : Int) < (nn : Int) + 1 by omega)
 obtain ⟨aa, haa⟩ : ∃ aa : Nat, (aa : Int) = ((a0 % 18446744073709551616) % ((nn : Int) + 1)) := ⟨_, Int.toNat_of_nonneg ha1⟩
 have haa2 : aa ≤ nn := by rw [← haa] at ha2; omega
 refine WO.val (run_convI Tryz.underlying3 (by kernel_rfl) rfl (show IntKind.i64.wrap ((a0 % 18446744073709551616) % ((nn : Int) + 1)) = (aa : Int) from by rw [← haa]; exact IntWalk.i64_in _ (by omega))) rfl rfl rfl ?_
 refine WO.asg rfl rfl ?_
 refine WO.nil (NX.go (WP.seq (WP.region rfl ?_)))
 refine WO.call rfl rfl Ty.hd5 rfl (dnew_spec 1048576 hS1) (fun v4 w3 pv4 => ?_)
 obtain ⟨gd, rfl, hS3⟩ := pv4
 clear hS1
 have k0 : OkD (newD 1048576) 0 0 := OkD.new (by omega)
 refine WO.asg rfl rfl ?_
 refine WO.nil (NX.go (WP.seq (WP.region rfl ?_)))
 refine WO.mv rfl rfl ?_
 have hW0 : ∀ q ∈ namesD (newD 1048576), ¬ numW q = 0 ∧ numW q ≤ 99999999 := fun q hq => (by cases hq)
 refine WO.call rfl rfl Ty.hd6 rfl (lopen_spec 0 (by omega) k0 (by omega) (by omega) rfl (fun q hq => (hW0 q hq).1) (fun q hq => (hW0 q hq).2) (by rw [openL_none (base := 0) (D := newD 1048576) rfl]) hS3) (fun v6 w5 pv6 => ?_)
 obtain ⟨g, hv, hS5⟩ := pv6
 clear hS3
 rw [openL_none (base := 0) (D := newD 1048576) rfl] at hS5
 subst hv
 replace hS5 : St B (lgA g gd (lg0 []) :: dkA gd (newD 1048576) :: (.pure True) :: L) w5 := hS5
 refine WO.mv rfl rfl ?_
 refine WO.val (run_extract rfl rfl) rfl rfl rfl ?_
 refine WO.val (run_extract rfl rfl) rfl rfl rfl ?_
 refine WO.asg rfl rfl ?_
 refine WO.asg rfl rfl ?_
 refine WO.nil (NX.go (WP.seq (WP.seq (WP.region rfl ?_))))
 refine WO.mv rfl rfl ?_
 refine WO.val (run_neq rfl rfl) rfl rfl rfl ?_
 refine WO.mv rfl rfl ?_
 refine WO.on rfl rfl (by decide) ?_
 refine WO.mv rfl rfl ?_
 refine WO.on rfl rfl (by decide) ?_
 refine WO.val (run_eqlNilP Tryz.underlying27 rfl rfl) rfl rfl rfl ?_
 refine WO.val (run_pickF rfl (by decide) rfl) rfl rfl rfl ?_
 refine WO.nil (NX.go ?_)
 refine WP.condF rfl rfl ?_
 refine WP.skip (NX.go (WP.seq (WP.seq (WP.region rfl ?_))))
 refine WO.asg rfl rfl ?_
 refine WO.nil (NX.go (WP.block ?_))
 refine WP.loop (α := Nat × Lg × Dk) (fun x => match x with | ⟨i, lg, D⟩ => [(0, Value.int .i64 (nn : Int)), (1, Value.int .i64 (aa : Int)), (2, Value.slice ka zs.length kc), (7, Value.pointer (some ⟨gd, 0, none⟩)), (8, Value.pointer (some ⟨g, 0, none⟩)), (10, Value.int .i64 ((i : Int) + 1))]) (fun x w => match x with | ⟨i, lg, D⟩ => (i ≤ nn ∧ GW lg D i (15 * i) (15 * i) (bws i) ∧ FW lg ∧ lg.last = i ∧ lg.l.length ≤ i) ∧ St B (lgA g gd lg :: dkA gd D :: (.pure True) :: L) w) (fun x => match x with | ⟨i, lg, D⟩ => nn - i) (0, lg0 [], (newD 1048576)) ⟨⟨Nat.zero_le _, GW.new, FW.new, rfl, Nat.le_refl _⟩, hS5⟩ (Sub.cons rfl (Sub.cons rfl (Sub.cons rfl (Sub.cons rfl (Sub.cons rfl (Sub.consE rfl (by congr 1) (Sub.nil _))))))) ?_
 rintro ⟨i, lg, D⟩ w7 ⟨⟨hi, hgw, hfw, hla, hll⟩, hS7⟩
 clear hS5
 refine WP.seq (WP.seq (WP.region rfl ?_))
 refine WO.mv rfl rfl ?_
 refine WO.mv rfl rfl ?_
 refine WO.val (run_leq rfl rfl) rfl rfl rfl ?_
 refine WO.nil (NX.go ?_)
 refine WP.condP rfl (fun g44 => ?_) (fun g44 => ?_)
 ·
  refine WP.skip (NX.go (WP.seq (WP.block (WP.region rfl ?_))))
  refine WO.mv rfl rfl ?_
  refine WO.mv rfl rfl ?_
  refine WO.val (run_convI Tryz.underlying5 (by kernel_rfl) rfl (show IntKind.u8.wrap ((i : Int) + 1) = ((UInt8.ofNat (i + 1)).toNat : Int) from by rw [IntKind.wrap_u8, UInt8.toNat_ofNat']; omega)) rfl rfl rfl ?_
  refine WO.buildSlice (l := [Value.int .u8 ((UInt8.ofNat (i + 1)).toNat : Int)]) hS7 Tryz.underlying33 rfl (fun w => by kernel_rfl) rfl (fun g9 w8 lg9 hS8 => ?_)
  clear hS7
  have hS8 := hS8.own_of_cel (m := 1) (k := 1) rfl
  refine WO.val (run_bytesToStr Tryz.underlying33 Tryz.underlying5 Tryz.underlying9 rfl (show Rd w8 (some ⟨g9, 0, none⟩) 1 1 (List.map (fun b : UInt8 => Value.int .u8 (b.toNat : Int)) (bw i)) from hS8.own_rd_i 0 rfl)) rfl rfl rfl ?_
  have hbl : (bw i).length = 1 := rfl
  have hcn := hgw.count hfw.full
  obtain ⟨D1, eqA, hg1⟩ := hgw.append (s := bw i) (by omega) (by omega) (by omega) (by omega)
  have hfa := hfw.append (s := bw i) hgw.w
  have hS10 := hS8.permT [1, 1, 0, 0] (L' := lgA g gd lg :: dkA gd D :: own (some ⟨g9, 0, none⟩) 1 1 5 1 [Value.int .u8 ((UInt8.ofNat (i + 1)).toNat : Int)] :: (.pure True) :: L) rfl
  clear hS8
  refine WO.call rfl rfl Ty.hd7 rfl (lappend_spec (lg := lg) (D := D) hgw.w.ok hgw.w.dk (by omega) (by omega) (bw i) (by first | decide | omega) hS10) (fun v12 w11 pv12 => ?_)
  obtain ⟨hv, hS11⟩ := pv12
  clear hS10
  rw [eqA] at hv
  rw [eqA] at hS11
  change _ = Value.tuple #[Value.int .i64 ((lg.last + 1 : Nat) : Int), Value.int .i64 0] at hv
  subst hv
  replace hS11 : St B (lgA g gd (appG lg (bw i)) :: dkA gd D1 :: own (some ⟨g9, 0, none⟩) 1 1 5 1 [Value.int .u8 ((UInt8.ofNat (i + 1)).toNat : Int)] :: (.pure True) :: L) w11 := hS11
  refine WO.nil (NX.blk (NX.go (WP.region rfl ?_)))
  refine WO.mv rfl rfl ?_
  refine WO.val (run_add rfl rfl (IntWalk.i64_in _ (by omega))) rfl rfl rfl ?_
  refine WO.asg rfl rfl ?_
  refine WO.nil ?_
  exact NX.again (i + 1, appG lg (bw i), D1) ⟨⟨by omega, by rw [bws_succ]; exact hg1.mono (by omega) (by simp [bw]; omega) (by simp [bw]; omega), hfa, by rw [(appG_last lg (bw i)).1]; omega, by have := (appG_last lg (bw i)).2.1; omega⟩, (hS11.permT [2, 0, 0, 0] (L' := own (some ⟨g9, 0, none⟩) 1 1 5 1 [Value.int .u8 ((UInt8.ofNat (i + 1)).toNat : Int)] :: lgA g gd (appG lg (bw i)) :: dkA gd D1 :: (.pure True) :: L) rfl).drop⟩ (by show nn - (i + 1) < nn - i; omega) (Sub.cons rfl (Sub.cons rfl (Sub.cons rfl (Sub.cons rfl (Sub.cons rfl (Sub.consE rfl (by congr 1) (Sub.nil _)))))))
 ·
  refine WP.exit (NX.thenExit (NX.thenExit ?_))
  refine NX.blkExit ?_
  refine NX.go (WP.seq (WP.seq ?_))
  have hin : i = nn := by omega
  refine WP.region rfl ?_
  refine WO.mv rfl rfl ?_
  obtain ⟨D2, eqS, hg2⟩ := hgw.sync
  have hst := syncedL_still lg
  have hcn := hgw.count hfw.full
  refine WO.call rfl rfl Ty.hd8 rfl (lsync_spec (lg := lg) hgw.w.ok hgw.w.dk hS7) (fun v14 w13 pv14 => ?_)
  obtain ⟨hv, hS13⟩ := pv14
  clear hS7
  rw [eqS] at hv
  rw [eqS] at hS13
  change _ = Value.int .i64 0 at hv
  subst hv
  replace hS13 : St B (lgA g gd (syncedL lg) :: dkA gd D2 :: (.pure True) :: L) w13 := hS13
  refine WO.val (run_neq rfl rfl) rfl rfl rfl ?_
  refine WO.mv rfl rfl ?_
  refine WO.on rfl rfl (by decide) ?_
  refine WO.mv rfl rfl ?_
  refine WO.on rfl rfl (by decide) ?_
  refine WO.mv rfl rfl ?_
  refine WO.on rfl rfl (by decide) ?_
  refine WO.call rfl rfl Ty.hd9 rfl (lcut_spec (lg := syncedL lg) (D := D2) aa hg2 hst (by show aa ≤ lg.last; omega) (by omega) (by show (lg.l.map clean).length < 60; rw [List.length_map]; omega) (by omega) (by omega) hS13) (fun v16 w15 pv16 => ?_)
  obtain ⟨hv, lg3, D3, hla3, hll3, hg3, hst3, hS15⟩ := pv16
  clear hS13
  subst hv
  have hll3 : lg3.l.length ≤ lg.l.length := by have z : lg3.l.length ≤ (lg.l.map clean).length := hll3; rwa [List.length_map] at z
  have hlc : (syncedL lg).l.length = lg.l.length := List.length_map ..
  have hro := hg3.reopen hst3
  refine WO.on rfl rfl (by decide) ?_
  refine WO.val (run_neq rfl rfl) rfl rfl rfl ?_
  refine WO.val (run_pickF rfl (by decide) rfl) rfl rfl rfl ?_
  refine WO.mv rfl rfl ?_
  refine WO.on rfl rfl (by decide) ?_
  refine WO.mv rfl rfl ?_
  refine WO.on rfl rfl (by decide) ?_
  refine WO.call rfl rfl Ty.hd10 rfl (llast_spec (lg := lg3) hS15) (fun v18 w17 pv18 => ?_)
  obtain ⟨hv, hS17⟩ := pv18
  clear hS15
  replace hv : _ = Value.int .i64 (aa : Int) := hv.trans (by show Value.int .i64 ((lg3.last : Nat) : Int) = _; rw [hla3])
  subst hv
  refine WO.on rfl rfl (by decide) ?_
  refine WO.mv rfl rfl ?_
  refine WO.on rfl rfl (by decide) ?_
  refine WO.val (run_neq rfl rfl) rfl rfl rfl ?_
  refine WO.val (run_pickF rfl (by decide) rfl) rfl rfl rfl ?_
  refine WO.nil (NX.go ?_)
  refine WP.condF rfl (decide_eq_false (fun h => h rfl)) ?_
  refine WP.skip (NX.go (WP.seq (WP.region rfl ?_)))
  refine WO.mv rfl rfl ?_
  refine WO.buildSlice (l := []) hS17 Tryz.underlying22 rfl (fun w => by kernel_rfl) rfl (fun g20 w19 lg20 hS19 => ?_)
  clear hS17
  have hS19 := hS19.own_of_cel (m := 0) (k := 1) rfl
  refine WO.mv rfl rfl ?_
  refine WO.append (news := (ri zs)) 0 rfl Tryz.underlying22 Tryz.underlying22 (fun _ h => by cases h) Ty.sz3 (by decide) Ty.by3 Ty.zr3 rfl rfl rfl rfl hS19 rfl (((fun h => St.rdB h hK) (hS19.focus 3 rfl)).src) (ri_noAgg _) (by omega) (by omega) (fun a22 c23 w21 hS21 => ?_)
  replace hS21 : St B (own a22 zs.length c23 3 1 (ri zs) :: lgA g gd lg3 :: dkA gd D3 :: (.pure True) :: L) w21 := (by have z := hS21; rw [Nat.zero_add] at z; exact z)
  refine WO.as (d := 71) (v := Value.slice a22 zs.length c23) rfl (by rw [Nat.zero_add]) ?_
  clear hS19
  have hcap := hS21.own_le_i 0 rfl
  have hS24 := hS21.permT [2, 0, 0, 0] (L' := dkA gd D3 :: own a22 zs.length c23 3 1 (ri zs) :: lgA g gd lg3 :: (.pure True) :: L) rfl
  clear hS21
  refine WO.call rfl rfl Ty.hd11 rfl (dcrash_spec (zs := zs) hg3.w.dk.w hg3.w.dk.b (by omega) (by omega) (fun h => h.own_rd.1) (by omega) (by omega) hS24) (fun v26 w25 pv26 => ?_)
  obtain ⟨rfl, hS25⟩ := pv26
  clear hS24
  rw [hg3.crash hst3 zs] at hS25
  refine WO.nil (NX.go (WP.seq (WP.region rfl ?_)))
  refine WO.mv rfl rfl ?_
  refine WO.call rfl rfl Ty.hd6 rfl (lopen_spec 0 (by omega) hg3.w.dk (by omega) (by omega) hg3.w.up.dead (fun q hq => (hro.2.2 q hq).1) (fun q hq => (hro.2.2 q hq).2) (by rw [hro.1]) hS25) (fun v28 w27 pv28 => ?_)
  obtain ⟨g2, hv, hS27⟩ := pv28
  clear hS25
  rw [hro.1] at hS27
  subst hv
  replace hS27 : St B (lgA g2 gd (⟨lg3.l, false, false, lg3.last, lg3.last⟩ : Lg) :: dkA gd D3 :: own a22 zs.length c23 3 1 (ri zs) :: lgA g gd lg3 :: (.pure True) :: L) w27 := hS27
  refine WO.mv rfl rfl ?_
  refine WO.val (run_extract rfl rfl) rfl rfl rfl ?_
  refine WO.val (run_extract rfl rfl) rfl rfl rfl ?_
  refine WO.asg rfl rfl ?_
  refine WO.asg rfl rfl ?_
  refine WO.nil (NX.go (WP.seq (WP.seq (WP.region rfl ?_))))
  refine WO.mv rfl rfl ?_
  refine WO.val (run_neq rfl rfl) rfl rfl rfl ?_
  refine WO.mv rfl rfl ?_
  refine WO.on rfl rfl (by decide) ?_
  refine WO.mv rfl rfl ?_
  refine WO.on rfl rfl (by decide) ?_
  refine WO.val (run_eqlNilP Tryz.underlying27 rfl rfl) rfl rfl rfl ?_
  refine WO.val (run_pickF rfl (by decide) rfl) rfl rfl rfl ?_
  refine WO.mv rfl rfl ?_
  refine WO.on rfl rfl rfl ?_
  refine WO.mv rfl rfl ?_
  refine WO.on rfl rfl rfl ?_
  refine WO.call rfl rfl Ty.hd10 rfl (llast_spec (lg := (⟨lg3.l, false, false, lg3.last, lg3.last⟩ : Lg)) hS27) (fun v30 w29 pv30 => ?_)
  obtain ⟨hv, hS29⟩ := pv30
  clear hS27
  replace hv : _ = Value.int .i64 (aa : Int) := hv.trans (by show Value.int .i64 ((lg3.last : Nat) : Int) = _; rw [hla3])
  subst hv
  refine WO.on rfl rfl rfl ?_
  refine WO.mv rfl rfl ?_
  refine WO.on rfl rfl rfl ?_
  refine WO.val (run_neq rfl rfl) rfl rfl rfl ?_
  refine WO.val (run_pickF rfl rfl rfl) rfl rfl rfl ?_
  refine WO.nil (NX.go ?_)
  refine WP.condF rfl (decide_eq_false (fun h => h rfl)) ?_
  refine WP.skip (NX.go (WP.seq (WP.region rfl ?_)))
  refine WO.mv rfl rfl ?_
  have hl4 : ([110, 101, 120, 116] : List UInt8).length = 4 := rfl
  obtain ⟨D5, eqN0, hg5⟩ := hro.2.1.append (s := [110, 101, 120, 116]) (by decide) (by show 15 * i + (4 + 14) ≤ _; omega) (by show lg3.last < _; omega) (by show lg3.l.length < 64; omega)
  have eqN : appendL (⟨lg3.l, false, false, lg3.last, lg3.last⟩ : Lg) D3 [110, 101, 120, 116] = ⟨(appG (⟨lg3.l, false, false, lg3.last, lg3.last⟩ : Lg) [110, 101, 120, 116]), D5, aa + 1, 0⟩ := by rw [eqN0, show ((⟨lg3.l, false, false, lg3.last, lg3.last⟩ : Lg)).last = aa from hla3]
  refine WO.call rfl rfl Ty.hd7 rfl (lappend_spec (lg := (⟨lg3.l, false, false, lg3.last, lg3.last⟩ : Lg)) (D := D3) hro.2.1.w.ok hro.2.1.w.dk (by omega) (by omega) [110, 101, 120, 116] (by first | decide | omega) hS29) (fun v32 w31 pv32 => ?_)
  obtain ⟨hv, hS31⟩ := pv32
  clear hS29
  rw [eqN] at hv
  rw [eqN] at hS31
  change _ = Value.tuple #[Value.int .i64 ((aa : Int) + 1), Value.int .i64 0] at hv
  subst hv
  replace hS31 : St B (lgA g2 gd (appG (⟨lg3.l, false, false, lg3.last, lg3.last⟩ : Lg) [110, 101, 120, 116]) :: dkA gd D5 :: own a22 zs.length c23 3 1 (ri zs) :: lgA g gd lg3 :: (.pure True) :: L) w31 := hS31
  refine WO.mv rfl rfl ?_
  refine WO.val (run_extract rfl rfl) rfl rfl rfl ?_
  refine WO.val (run_extract rfl rfl) rfl rfl rfl ?_
  refine WO.asg rfl rfl ?_
  refine WO.asg rfl rfl ?_
  refine WO.nil (NX.go (WP.seq (WP.seq (WP.region rfl ?_))))
  refine WO.mv rfl rfl ?_
  refine WO.mv rfl rfl ?_
  refine WO.val (run_add rfl rfl (IntWalk.i64_in _ (by omega))) rfl rfl rfl ?_
  refine WO.val (run_neq rfl rfl) rfl rfl rfl ?_
  refine WO.mv rfl rfl ?_
  by_cases g99 : ¬ ((aa : Int) + 1) = ((aa : Int) + 1)
  ·
   exfalso; exact g99 rfl
  ·
   refine WO.on rfl rfl (decide_eq_false g99) ?_
   refine WO.mv rfl rfl ?_
   refine WO.on rfl rfl (decide_eq_false g99) ?_
   refine WO.val (run_neq rfl rfl) rfl rfl rfl ?_
   refine WO.val (run_pickF rfl (decide_eq_false g99) rfl) rfl rfl rfl ?_
   refine WO.nil (NX.go ?_)
   refine WP.condF rfl (by decide) ?_
   refine WP.skip (NX.go (WP.seq (WP.seq (WP.region rfl ?_))))
   refine WO.asg rfl rfl ?_
   refine WO.nil (NX.go (WP.block ?_))
   refine WP.loop (α := Nat) (fun x => match x with | kk => [(1, Value.int .i64 (aa : Int)), (8, Value.pointer (some ⟨g2, 0, none⟩)), (13, Value.int .i64 ((kk : Int) + 1))]) (fun x w => match x with | kk => (kk ≤ aa) ∧ St B (lgA g2 gd (appG (⟨lg3.l, false, false, lg3.last, lg3.last⟩ : Lg) [110, 101, 120, 116]) :: dkA gd D5 :: own a22 zs.length c23 3 1 (ri zs) :: lgA g gd lg3 :: (.pure True) :: L) w) (fun x => match x with | kk => aa - kk) 0 ⟨Nat.zero_le _, hS31⟩ (Sub.cons rfl (Sub.cons rfl (Sub.consE rfl (by congr 1) (Sub.nil _)))) ?_
   rintro kk w33 ⟨hk2, hS33⟩
   clear hS31
   refine WP.seq (WP.seq (WP.region rfl ?_))
   refine WO.mv rfl rfl ?_
   refine WO.mv rfl rfl ?_
   refine WO.val (run_leq rfl rfl) rfl rfl rfl ?_
   refine WO.nil (NX.go ?_)
   refine WP.condP rfl (fun g105 => ?_) (fun g105 => ?_)
   ·
    refine WP.skip (NX.go (WP.seq (WP.block (WP.seq (WP.region rfl ?_)))))
    refine WO.mv rfl rfl ?_
    refine WO.mv rfl rfl ?_
    refine WO.call rfl rfl Ty.hd12 rfl (lread_spec (lg := (appG (⟨lg3.l, false, false, lg3.last, lg3.last⟩ : Lg) [110, 101, 120, 116])) ((kk : Int) + 1) hg5.w.ok hg5.w.dk (by omega) hg5.w.files hS33) (fun v35 w34 pv35 => ?_)
    obtain ⟨hv, hS34⟩ := pv35
    clear hS33
    rw [hg5.read (k := kk) (r := bw kk) (by rw [List.getElem?_append_left (by rw [List.length_take, bws_length]; omega), List.getElem?_take, if_pos (by omega)]; exact bws_get (by omega))] at hv
    change _ = Value.tuple #[str (bw kk), Value.int .i64 0] at hv
    subst hv
    refine WO.mv rfl rfl ?_
    refine WO.val (run_extract rfl rfl) rfl rfl rfl ?_
    refine WO.val (run_extract rfl rfl) rfl rfl rfl ?_
    refine WO.asg rfl rfl ?_
    refine WO.asg rfl rfl ?_
    refine WO.nil (NX.go (WP.seq (WP.region rfl ?_)))
    refine WO.mv rfl rfl ?_
    refine WO.val (run_neq rfl rfl) rfl rfl rfl ?_
    refine WO.mv rfl rfl ?_
    refine WO.on rfl rfl (by decide) ?_
    refine WO.mv rfl rfl ?_
    refine WO.on rfl rfl (by decide) ?_
    refine WO.mv rfl rfl ?_
    refine WO.on rfl rfl (by decide) ?_
    refine WO.val (run_convI Tryz.underlying5 (by kernel_rfl) rfl (show IntKind.u8.wrap ((kk : Int) + 1) = ((UInt8.ofNat (kk + 1)).toNat : Int) from by rw [IntKind.wrap_u8, UInt8.toNat_ofNat']; omega)) rfl rfl rfl ?_
    refine WO.on rfl rfl (by decide) ?_
    refine WO.buildSlice (l := [Value.int .u8 ((UInt8.ofNat (kk + 1)).toNat : Int)]) hS34 Tryz.underlying33 rfl (fun w => by kernel_rfl) rfl (fun g37 w36 lg37 hS36 => ?_)
    clear hS34
    have hS36 := hS36.own_of_cel (m := 1) (k := 1) rfl
    refine WO.on rfl rfl (by decide) ?_
    refine WO.val (run_bytesToStr Tryz.underlying33 Tryz.underlying5 Tryz.underlying9 rfl (show Rd w36 (some ⟨g37, 0, none⟩) 1 1 (List.map (fun b : UInt8 => Value.int .u8 (b.toNat : Int)) (bw kk)) from hS36.own_rd_i 0 rfl)) rfl rfl rfl ?_
    refine WO.on rfl rfl (by decide) ?_
    refine WO.val (run_neqS rfl rfl) rfl rfl rfl ?_
    refine WO.val (run_pickF rfl (by decide) rfl) rfl rfl rfl ?_
    refine WO.nil (NX.go ?_)
    refine WP.condF rfl (decide_eq_false (fun h => h rfl)) ?_
    refine WP.skip (NX.blk (NX.go (WP.region rfl ?_)))
    refine WO.mv rfl rfl ?_
    refine WO.val (run_add rfl rfl (IntWalk.i64_in _ (by omega))) rfl rfl rfl ?_
    refine WO.asg rfl rfl ?_
    refine WO.nil ?_
    exact NX.again (kk + 1) ⟨by omega, hS36.drop⟩ (by show aa - (kk + 1) < aa - kk; omega) (Sub.cons rfl (Sub.cons rfl (Sub.consE rfl (by congr 1) (Sub.nil _))))
   ·
    refine WP.exit (NX.thenExit (NX.thenExit ?_))
    refine NX.blkExit ?_
    refine NX.go (WP.seq (WP.region rfl ?_))
    refine WO.asg rfl rfl ?_
    refine WO.nil (NX.go (WP.ret ?_))
    refine NX.done (l := [.tmp 6]) rfl rfl ?_
    exact ⟨by rfl, hS33.drop.drop.drop.drop.drop⟩
end Go.Proofs.YtiggkfaonnnjoaaGreatDoor.SL
