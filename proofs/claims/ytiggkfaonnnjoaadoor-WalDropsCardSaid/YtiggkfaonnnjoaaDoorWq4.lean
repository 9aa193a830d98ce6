/- What is let go is whole segments. -/
import Derived.Test.YtiggkfaonnnjoaaDoorWv
import Derived.Test.YtiggkfaonnnjoaaDoorWb14
import Derived.Test.YtiggkfaonnnjoaaDoorWq
namespace Go.Proofs.YtiggkfaonnnjoaaDoor.SL
open Go.RowKit Go.Proofs.YtiggkfaonnnjoaaDoor
open Go.Proofs.YtiggkfaonnnjoaaDoorW.PrintLast (rtab opsOf)
set_option linter.unusedVariables false
set_option linter.unusedSimpArgs false
theorem walDrops_core {B w : World} {L : List HP} (n0 b0 : Int) (hS : St B L w) : Does Tryd.prog 5 [Value.int .i64 n0, Value.int .i64 b0] w (fun v w1 => v = .bool true ∧ St B L w1) := by
 refine enter (n := 115) Tryd.func5 rfl rfl [Value.int .i64 n0, Value.int .i64 b0] rfl ?_
 refine WP.seq (WP.region rfl ?_)
 refine WO.asg rfl rfl ?_
 refine WO.nil (NX.go (WP.seq (WP.seq (WP.region rfl ?_))))
 refine WO.call rfl rfl Ty.hd7 rfl (works05_spec hS) (fun v2 w1 pv2 => ?_)
 obtain ⟨rfl, hS1⟩ := pv2
 clear hS
 refine WO.val (run_not rfl rfl) rfl rfl rfl ?_
 refine WO.nil (NX.go ?_)
 refine WP.condF rfl (notB_t rfl) ?_
 refine WP.skip (NX.go (WP.seq (WP.region rfl ?_)))
 refine WO.mv rfl rfl ?_
 refine WO.val (run_convI Tryd.underlying33 (by kernel_rfl) rfl (IntKind.wrap_u64 _)) rfl rfl rfl ?_
 refine WO.val (run_rem rfl rfl (by omega) (IntWalk.rem_in _ _ (by omega))) rfl rfl rfl ?_
 obtain ⟨n1, hn1⟩ : ∃ n1 : Nat, (n1 : Int) = (n0 % 18446744073709551616) % 80 := ⟨((n0 % 18446744073709551616) % 80).toNat, by omega⟩
 refine WO.val (run_convI Tryd.underlying3 (by kernel_rfl) rfl (show IntKind.i64.wrap ((n0 % 18446744073709551616) % 80) = (n1 : Int) by rw [← hn1]; exact IntWalk.i64_in _ (by omega))) rfl rfl rfl ?_
 obtain ⟨nn, hnn⟩ : ∃ nn, nn = n1 + 1 := ⟨_, rfl⟩
 refine WO.val (run_add rfl rfl (show IntKind.i64.wrap (1 + (n1 : Int)) = (nn : Int) from by rw [IntWalk.i64_in _ (by omega)]; omega)) rfl rfl rfl ?_
 refine WO.asg rfl rfl ?_
 refine WO.nil (NX.go (WP.seq (WP.region rfl ?_)))
 refine WO.mv rfl rfl ?_
 refine WO.val (run_convI Tryd.underlying33 (by kernel_rfl) rfl (IntKind.wrap_u64 _)) rfl rfl rfl ?_
 refine WO.val (run_rem rfl rfl (by omega) (IntWalk.rem_in _ _ (by omega))) rfl rfl rfl ?_
 obtain ⟨bb, hbb⟩ : ∃ bb : Nat, (bb : Int) = (b0 % 18446744073709551616) % 90 := ⟨((b0 % 18446744073709551616) % 90).toNat, by omega⟩
 refine WO.val (run_convI Tryd.underlying3 (by kernel_rfl) rfl (show IntKind.i64.wrap ((b0 % 18446744073709551616) % 90) = (bb : Int) by rw [← hbb]; exact IntWalk.i64_in _ (by omega))) rfl rfl rfl ?_
 refine WO.asg rfl rfl ?_
 refine WO.nil (NX.go (WP.seq (WP.region rfl ?_)))
 refine WO.call rfl rfl Ty.hd8 rfl (dnew_spec 1048576 hS1) (fun v4 w3 pv4 => ?_)
 obtain ⟨gd, rfl, hS3⟩ := pv4
 clear hS1
 have k0 : OkD (newD 1048576) 0 0 := OkD.new (by omega)
 refine WO.asg rfl rfl ?_
 refine WO.nil (NX.go (WP.seq (WP.region rfl ?_)))
 refine WO.mv rfl rfl ?_
 have hW0 : ∀ q ∈ namesD (newD 1048576), ¬ numW q = 0 ∧ numW q ≤ 99999999 := fun q hq => (by cases hq)
 refine WO.call rfl rfl Ty.hd9 rfl (lopen_spec 0 (by omega) k0 (by omega) (by omega) rfl (fun q hq => (hW0 q hq).1) (fun q hq => (hW0 q hq).2) (by rw [openL_none (base := 0) (D := newD 1048576) rfl]) hS3) (fun v6 w5 pv6 => ?_)
 obtain ⟨g, hv, hS5⟩ := pv6
 clear hS3
 rw [openL_none (base := 0) (D := newD 1048576) rfl] at hS5
 subst hv
 replace hS5 : St B (lgA g gd (lg0 []) :: dkA gd (newD 1048576) :: L) w5 := hS5
 refine WO.mv rfl rfl ?_
 refine WO.val (run_extract rfl rfl) rfl rfl rfl ?_
 refine WO.val (run_extract rfl rfl) rfl rfl rfl ?_
 refine WO.asg rfl rfl ?_
 refine WO.asg rfl rfl ?_
 refine WO.nil (NX.go (WP.seq (WP.seq (WP.region rfl ?_))))
 refine WO.mv rfl rfl ?_
 refine WO.val (run_neq rfl rfl) rfl rfl rfl ?_
 refine WO.mv rfl rfl ?_
 refine WO.on rfl rfl (by decide) ?_
 refine WO.mv rfl rfl ?_
 refine WO.on rfl rfl (by decide) ?_
 refine WO.val (run_eqlNilP Tryd.underlying28 rfl rfl) rfl rfl rfl ?_
 refine WO.val (run_pickF rfl (by decide) rfl) rfl rfl rfl ?_
 refine WO.nil (NX.go ?_)
 refine WP.condF rfl rfl ?_
 refine WP.skip (NX.go (WP.seq (WP.seq (WP.region rfl ?_))))
 refine WO.asg rfl rfl ?_
 refine WO.nil (NX.go (WP.block ?_))
 refine WP.loop (α := Nat × Lg × Dk) (fun x => match x with | ⟨i, lg, D⟩ => [(0, Value.int .i64 (nn : Int)), (1, Value.int .i64 (bb : Int)), (5, Value.pointer (some ⟨gd, 0, none⟩)), (6, Value.pointer (some ⟨g, 0, none⟩)), (8, Value.int .i64 ((i : Int) + 1))]) (fun x w => match x with | ⟨i, lg, D⟩ => (i ≤ nn ∧ GW lg D i (15 * i) (15 * i) (bws i) ∧ FW lg ∧ lg.last = i ∧ lg.l.length ≤ i) ∧ St B (lgA g gd lg :: dkA gd D :: L) w) (fun x => match x with | ⟨i, lg, D⟩ => nn - i) (0, lg0 [], (newD 1048576)) ⟨⟨Nat.zero_le _, GW.new, FW.new, rfl, Nat.le_refl _⟩, hS5⟩ (Sub.cons rfl (Sub.cons rfl (Sub.cons rfl (Sub.cons rfl (Sub.consE rfl (by congr 1) (Sub.nil _)))))) ?_
 rintro ⟨i, lg, D⟩ w7 ⟨⟨hi, hgw, hfw, hla, hll⟩, hS7⟩
 clear hS5
 refine WP.seq (WP.seq (WP.region rfl ?_))
 refine WO.mv rfl rfl ?_
 refine WO.mv rfl rfl ?_
 refine WO.val (run_leq rfl rfl) rfl rfl rfl ?_
 refine WO.nil (NX.go ?_)
 refine WP.condP rfl (fun g39 => ?_) (fun g39 => ?_)
 ·
  refine WP.skip (NX.go (WP.seq (WP.block (WP.region rfl ?_))))
  refine WO.mv rfl rfl ?_
  refine WO.mv rfl rfl ?_
  refine WO.val (run_convI Tryd.underlying5 (by kernel_rfl) rfl (show IntKind.u8.wrap ((i : Int) + 1) = ((UInt8.ofNat (i + 1)).toNat : Int) from by rw [IntKind.wrap_u8, UInt8.toNat_ofNat']; omega)) rfl rfl rfl ?_
  refine WO.buildSlice (l := [Value.int .u8 ((UInt8.ofNat (i + 1)).toNat : Int)]) hS7 Tryd.underlying43 rfl (fun w => by kernel_rfl) rfl (fun g9 w8 lg9 hS8 => ?_)
  clear hS7
  have hS8 := hS8.own_of_cel (m := 1) (k := 1) rfl
  refine WO.val (run_bytesToStr Tryd.underlying43 Tryd.underlying5 Tryd.underlying9 rfl (show Rd w8 (some ⟨g9, 0, none⟩) 1 1 (List.map (fun b : UInt8 => Value.int .u8 (b.toNat : Int)) (bw i)) from hS8.own_rd_i 0 rfl)) rfl rfl rfl ?_
  have hbl : (bw i).length = 1 := rfl
  have hcn := hgw.count hfw.full
  obtain ⟨D1, eqA, hg1⟩ := hgw.append (s := bw i) (by omega) (by omega) (by omega) (by omega)
  have hfa := hfw.append (s := bw i) hgw.w
  have hS10 := hS8.permT [1, 1, 0] (L' := lgA g gd lg :: dkA gd D :: own (some ⟨g9, 0, none⟩) 1 1 5 1 [Value.int .u8 ((UInt8.ofNat (i + 1)).toNat : Int)] :: L) rfl
  clear hS8
  refine WO.call rfl rfl Ty.hd11 rfl (lappend_spec (lg := lg) (D := D) hgw.w.ok hgw.w.dk (by omega) (by omega) (bw i) (by first | decide | omega) hS10) (fun v12 w11 pv12 => ?_)
  obtain ⟨hv, hS11⟩ := pv12
  clear hS10
  rw [eqA] at hv
  rw [eqA] at hS11
  change _ = Value.tuple #[Value.int .i64 ((lg.last + 1 : Nat) : Int), Value.int .i64 0] at hv
  subst hv
  replace hS11 : St B (lgA g gd (appG lg (bw i)) :: dkA gd D1 :: own (some ⟨g9, 0, none⟩) 1 1 5 1 [Value.int .u8 ((UInt8.ofNat (i + 1)).toNat : Int)] :: L) w11 := hS11
  refine WO.nil (NX.blk (NX.go (WP.region rfl ?_)))
  refine WO.mv rfl rfl ?_
  refine WO.val (run_add rfl rfl (IntWalk.i64_in _ (by omega))) rfl rfl rfl ?_
  refine WO.asg rfl rfl ?_
  refine WO.nil ?_
  exact NX.again (i + 1, appG lg (bw i), D1) ⟨⟨by omega, by rw [bws_succ]; exact hg1.mono (by omega) (by simp [bw]; omega) (by simp [bw]; omega), hfa, by rw [(appG_last lg (bw i)).1]; omega, by have := (appG_last lg (bw i)).2.1; omega⟩, (hS11.permT [2, 0, 0] (L' := own (some ⟨g9, 0, none⟩) 1 1 5 1 [Value.int .u8 ((UInt8.ofNat (i + 1)).toNat : Int)] :: lgA g gd (appG lg (bw i)) :: dkA gd D1 :: L) rfl).drop⟩ (by show nn - (i + 1) < nn - i; omega) (Sub.cons rfl (Sub.cons rfl (Sub.cons rfl (Sub.cons rfl (Sub.consE rfl (by congr 1) (Sub.nil _))))))
 ·
  refine WP.exit (NX.thenExit (NX.thenExit ?_))
  refine NX.blkExit ?_
  refine NX.go (WP.seq (WP.seq ?_))
  have hin : i = nn := by omega
  refine WP.region rfl ?_
  refine WO.mv rfl rfl ?_
  obtain ⟨D2, eqS, hg2⟩ := hgw.sync
  have hfs := hfw.sync
  have hne : (syncedL lg).l ≠ [] := fun h0 => by have z1 := hg2.r; have z2 := hg2.la; rw [h0] at z1; rw [← z1] at z2; have z3 : (syncedL lg).last = 0 := z2; have z4 : (syncedL lg).last = lg.last := rfl; omega
  obtain ⟨qa, qb, qok, qdk, qfi, fr, q1, q2, q3, q4, q5, q6, q7⟩ := hg2.drop hfs (bb : Int) hne
  rw [bws_length] at q3
  refine WO.call rfl rfl Ty.hd12 rfl (lsync_spec (lg := lg) hgw.w.ok hgw.w.dk hS7) (fun v14 w13 pv14 => ?_)
  obtain ⟨hv, hS13⟩ := pv14
  clear hS7
  rw [eqS] at hv
  rw [eqS] at hS13
  change _ = Value.int .i64 0 at hv
  subst hv
  replace hS13 : St B (lgA g gd (syncedL lg) :: dkA gd D2 :: L) w13 := hS13
  refine WO.val (run_neq rfl rfl) rfl rfl rfl ?_
  refine WO.mv rfl rfl ?_
  refine WO.on rfl rfl (by decide) ?_
  refine WO.mv rfl rfl ?_
  refine WO.on rfl rfl (by decide) ?_
  refine WO.mv rfl rfl ?_
  refine WO.on rfl rfl (by decide) ?_
  refine WO.call rfl rfl Ty.hd18 rfl (ldrop_spec (lg := syncedL lg) (D := D2) (bb : Int) hg2.w.ok hg2.w.dk (by omega) qa (fun _ => qb) hS13) (fun v16 w15 pv16 => ?_)
  obtain ⟨rfl, hS15⟩ := pv16
  clear hS13
  replace hS15 : St B (lgA g gd (restL (syncedL lg) (bb : Int)) :: dkA gd (restD (syncedL lg) D2 (bb : Int)) :: L) w15 := hS15
  refine WO.on rfl rfl (by decide) ?_
  refine WO.val (run_neq rfl rfl) rfl rfl rfl ?_
  refine WO.val (run_pickF rfl (by decide) rfl) rfl rfl rfl ?_
  refine WO.mv rfl rfl ?_
  refine WO.on rfl rfl (by decide) ?_
  refine WO.mv rfl rfl ?_
  refine WO.on rfl rfl (by decide) ?_
  refine WO.call rfl rfl Ty.hd17 rfl (lfirst_spec (lg := restL (syncedL lg) (bb : Int)) (by show lg.last ≤ _; omega) hS15) (fun v18 w17 pv18 => ?_)
  obtain ⟨hv, hS17⟩ := pv18
  clear hS15
  rw [q1] at hv
  subst hv
  refine WO.on rfl rfl (by decide) ?_
  refine WO.mv rfl rfl ?_
  refine WO.on rfl rfl (by decide) ?_
  refine WO.val (run_max rfl rfl) rfl rfl rfl ?_
  refine WO.on rfl rfl (by decide) ?_
  refine WO.val (run_gtr rfl rfl) rfl rfl rfl ?_
  refine WO.val (run_pickF rfl (by decide) rfl) rfl rfl rfl ?_
  refine WO.mv rfl rfl ?_
  by_cases g64 : (if (bb : Int) > 1 then (bb : Int) else 1) < (fr : Int)
  ·
   exfalso; split at g64 <;> omega
  ·
   refine WO.on rfl rfl (decide_eq_false g64) ?_
   refine WO.mv rfl rfl ?_
   refine WO.on rfl rfl (decide_eq_false g64) ?_
   refine WO.call rfl rfl Ty.hd17 rfl (lfirst_spec (lg := restL (syncedL lg) (bb : Int)) (by show lg.last ≤ _; omega) hS17) (fun v20 w19 pv20 => ?_)
   obtain ⟨hv, hS19⟩ := pv20
   clear hS17
   rw [q1] at hv
   subst hv
   refine WO.on rfl rfl (decide_eq_false g64) ?_
   refine WO.mv rfl rfl ?_
   refine WO.on rfl rfl (decide_eq_false g64) ?_
   refine WO.val (run_gtr rfl rfl) rfl rfl rfl ?_
   refine WO.val (run_pickF rfl (decide_eq_false g64) rfl) rfl rfl rfl ?_
   refine WO.mv rfl rfl ?_
   by_cases g70 : (nn : Int) < (fr : Int)
   ·
    exfalso; omega
   ·
    refine WO.on rfl rfl (decide_eq_false g70) ?_
    refine WO.mv rfl rfl ?_
    refine WO.on rfl rfl (decide_eq_false g70) ?_
    refine WO.call rfl rfl Ty.hd17 rfl (lfirst_spec (lg := restL (syncedL lg) (bb : Int)) (by show lg.last ≤ _; omega) hS19) (fun v22 w21 pv22 => ?_)
    obtain ⟨hv, hS21⟩ := pv22
    clear hS19
    rw [q1] at hv
    subst hv
    refine WO.on rfl rfl (decide_eq_false g70) ?_
    refine WO.val (run_rem rfl rfl (by omega) (IntWalk.rem_in _ _ (by omega))) rfl rfl rfl ?_
    refine WO.on rfl rfl (decide_eq_false g70) ?_
    refine WO.val (run_neq rfl rfl) rfl rfl rfl ?_
    refine WO.val (run_pickF rfl (decide_eq_false g70) rfl) rfl rfl rfl ?_
    refine WO.mv rfl rfl ?_
    by_cases g76 : ¬ ((fr : Int) % 16) = 1
    ·
     exfalso; omega
    ·
     refine WO.on rfl rfl (decide_eq_false g76) ?_
     refine WO.mv rfl rfl ?_
     refine WO.on rfl rfl (decide_eq_false g76) ?_
     refine WO.call rfl rfl Ty.hd15 rfl (llast_spec (lg := restL (syncedL lg) (bb : Int)) hS21) (fun v24 w23 pv24 => ?_)
     obtain ⟨hv, hS23⟩ := pv24
     clear hS21
     replace hv : _ = Value.int .i64 (nn : Int) := hv.trans (by show Value.int .i64 ((lg.last : Nat) : Int) = _; rw [hla, hin])
     subst hv
     refine WO.on rfl rfl (decide_eq_false g76) ?_
     refine WO.mv rfl rfl ?_
     refine WO.on rfl rfl (decide_eq_false g76) ?_
     refine WO.val (run_neq rfl rfl) rfl rfl rfl ?_
     refine WO.val (run_pickF rfl (decide_eq_false g76) rfl) rfl rfl rfl ?_
     refine WO.nil (NX.go ?_)
     refine WP.condF rfl (decide_eq_false (fun h => h rfl)) ?_
     refine WP.skip (NX.go (WP.seq (WP.seq (WP.region rfl ?_))))
     refine WO.mv rfl rfl ?_
     refine WO.call rfl rfl Ty.hd17 rfl (lfirst_spec (lg := restL (syncedL lg) (bb : Int)) (by show lg.last ≤ _; omega) hS23) (fun v26 w25 pv26 => ?_)
     obtain ⟨hv, hS25⟩ := pv26
     clear hS23
     rw [q1] at hv
     subst hv
     refine WO.asg rfl rfl ?_
     refine WO.nil (NX.go (WP.block ?_))
     refine WP.loop (α := Nat) (fun x => match x with | kk => [(0, Value.int .i64 (nn : Int)), (6, Value.pointer (some ⟨g, 0, none⟩)), (9, Value.int .i64 ((kk : Int) + 1))]) (fun x w => match x with | kk => (fr ≤ kk + 1 ∧ kk ≤ nn) ∧ St B (lgA g gd (restL (syncedL lg) (bb : Int)) :: dkA gd (restD (syncedL lg) D2 (bb : Int)) :: L) w) (fun x => match x with | kk => nn - kk) (fr - 1) ⟨⟨by omega, by omega⟩, hS25⟩ (Sub.cons rfl (Sub.cons rfl (Sub.consE rfl (by congr 1; omega) (Sub.nil _)))) ?_
     rintro kk w27 ⟨⟨hk1, hk2⟩, hS27⟩
     clear hS25
     refine WP.seq (WP.seq (WP.region rfl ?_))
     refine WO.mv rfl rfl ?_
     refine WO.mv rfl rfl ?_
     refine WO.val (run_leq rfl rfl) rfl rfl rfl ?_
     refine WO.nil (NX.go ?_)
     refine WP.condP rfl (fun g86 => ?_) (fun g86 => ?_)
     ·
      refine WP.skip (NX.go (WP.seq (WP.block (WP.seq (WP.region rfl ?_)))))
      refine WO.mv rfl rfl ?_
      refine WO.mv rfl rfl ?_
      refine WO.call rfl rfl Ty.hd16 rfl (lread_spec (lg := restL (syncedL lg) (bb : Int)) ((kk : Int) + 1) qok qdk (by omega) qfi hS27) (fun v29 w28 pv29 => ?_)
      obtain ⟨hv, hS28⟩ := pv29
      clear hS27
      rw [(q6 kk (bw kk) (by omega) (bws_get (by omega)))] at hv
      change _ = Value.tuple #[str (bw kk), Value.int .i64 0] at hv
      subst hv
      refine WO.mv rfl rfl ?_
      refine WO.val (run_extract rfl rfl) rfl rfl rfl ?_
      refine WO.val (run_extract rfl rfl) rfl rfl rfl ?_
      refine WO.asg rfl rfl ?_
      refine WO.asg rfl rfl ?_
      refine WO.nil (NX.go (WP.seq (WP.region rfl ?_)))
      refine WO.mv rfl rfl ?_
      refine WO.val (run_neq rfl rfl) rfl rfl rfl ?_
      refine WO.mv rfl rfl ?_
      refine WO.on rfl rfl (by decide) ?_
      refine WO.mv rfl rfl ?_
      refine WO.on rfl rfl (by decide) ?_
      refine WO.mv rfl rfl ?_
      refine WO.on rfl rfl (by decide) ?_
      refine WO.val (run_convI Tryd.underlying5 (by kernel_rfl) rfl (show IntKind.u8.wrap ((kk : Int) + 1) = ((UInt8.ofNat (kk + 1)).toNat : Int) from by rw [IntKind.wrap_u8, UInt8.toNat_ofNat']; omega)) rfl rfl rfl ?_
      refine WO.on rfl rfl (by decide) ?_
      refine WO.buildSlice (l := [Value.int .u8 ((UInt8.ofNat (kk + 1)).toNat : Int)]) hS28 Tryd.underlying43 rfl (fun w => by kernel_rfl) rfl (fun g31 w30 lg31 hS30 => ?_)
      clear hS28
      have hS30 := hS30.own_of_cel (m := 1) (k := 1) rfl
      refine WO.on rfl rfl (by decide) ?_
      refine WO.val (run_bytesToStr Tryd.underlying43 Tryd.underlying5 Tryd.underlying9 rfl (show Rd w30 (some ⟨g31, 0, none⟩) 1 1 (List.map (fun b : UInt8 => Value.int .u8 (b.toNat : Int)) (bw kk)) from hS30.own_rd_i 0 rfl)) rfl rfl rfl ?_
      refine WO.on rfl rfl (by decide) ?_
      refine WO.val (run_neqS rfl rfl) rfl rfl rfl ?_
      refine WO.val (run_pickF rfl (by decide) rfl) rfl rfl rfl ?_
      refine WO.nil (NX.go ?_)
      refine WP.condF rfl (decide_eq_false (fun h => h rfl)) ?_
      refine WP.skip (NX.blk (NX.go (WP.region rfl ?_)))
      refine WO.mv rfl rfl ?_
      refine WO.val (run_add rfl rfl (IntWalk.i64_in _ (by omega))) rfl rfl rfl ?_
      refine WO.asg rfl rfl ?_
      refine WO.nil ?_
      exact NX.again (kk + 1) ⟨⟨by omega, by omega⟩, hS30.drop⟩ (by show nn - (kk + 1) < nn - kk; omega) (Sub.cons rfl (Sub.cons rfl (Sub.consE rfl (by congr 1) (Sub.nil _))))
     ·
      refine WP.exit (NX.thenExit (NX.thenExit ?_))
      refine NX.blkExit ?_
      refine NX.go (WP.seq (WP.region rfl ?_))
      refine WO.mv rfl rfl ?_
      refine WO.mv rfl rfl ?_
      refine WO.call rfl rfl Ty.hd17 rfl (lfirst_spec (lg := restL (syncedL lg) (bb : Int)) (by show lg.last ≤ _; omega) hS27) (fun v33 w32 pv33 => ?_)
      obtain ⟨hv, hS32⟩ := pv33
      clear hS27
      rw [q1] at hv
      subst hv
      refine WO.val (run_sub rfl rfl (IntWalk.i64_in _ (by omega))) rfl rfl rfl ?_
      refine WO.call rfl rfl Ty.hd16 rfl (lread_spec (lg := restL (syncedL lg) (bb : Int)) ((fr : Int) - 1) qok qdk (by omega) qfi hS32) (fun v35 w34 pv35 => ?_)
      obtain ⟨hv, hS34⟩ := pv35
      clear hS32
      rw [q7] at hv
      change _ = Value.tuple #[str [], Value.int .i64 12] at hv
      subst hv
      refine WO.mv rfl rfl ?_
      refine WO.val (run_extract rfl rfl) rfl rfl rfl ?_
      refine WO.val (run_extract rfl rfl) rfl rfl rfl ?_
      refine WO.asg rfl rfl ?_
      refine WO.asg rfl rfl ?_
      refine WO.nil (NX.go (WP.seq (WP.region rfl ?_)))
      refine WO.mv rfl rfl ?_
      refine WO.val (run_eql rfl rfl) rfl rfl rfl ?_
      refine WO.asg rfl rfl ?_
      refine WO.nil (NX.go (WP.ret ?_))
      refine NX.done (l := [.tmp 4]) rfl rfl ?_
      exact ⟨by rfl, hS34.drop.drop⟩
end Go.Proofs.YtiggkfaonnnjoaaDoor.SL
