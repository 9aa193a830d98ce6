/- HeadWhole: the law. -/
import Derived.Test.YtidoidoelgfnaaaDoorHl1M
import Derived.Test.YtidoidoelgfnaaaDoorHk1M
import Derived.Test.YtidoidoelgfnaaaDoorHt
import Derived.Test.YtidoidoelgfnaaaDoorKg6
namespace Go.Proofs.YtidoidoelgfnaaaDoor.SL
open Go.RowKit Go.Proofs.YtidoidoelgfnaaaDoor
open Go.Proofs.YtidoidoelgfnaaaDoorW.PrintLast (rtab opsOf)
set_option linter.unusedVariables false
set_option linter.unusedSimpArgs false
theorem t3_15 : rtab .any (opsOf Tryd.f3 15) = (true, [([], []), ([0], [0]), ([], []), ([2], [2]), ([], []), ([3, 4], [3, 4]), ([5], [5]), ([6], [6]), ([1, 7], [1, 7]), ([0, 1, 2, 3, 4, 5, 6, 7, 8], []), ([9, 8, 8, 0, 1, 2, 3, 4, 5, 6, 7, 8], [8, 9])]) := by kernel_rfl
theorem headWhole_core {B w : World} {L : List HP} {a : Option Addr} {cap : Nat} {rs : List Rcd} (hrz : ∀ r ∈ rs, SzR r) (hrn : rs.length ≤ 2814749767106) (d0 : Rcd) (hz0 : SzR d0) (at9 : Int) (hS : St B ((rdH a rs.length 5 (rs.flatMap rcc)) :: allA recA rs :: recA d0 :: L) w) : Does Tryd.prog 3 [Value.slice a rs.length cap, Value.agg #[Value.int .i64 d0.k, Value.slice d0.ss.a d0.ss.l.length d0.ss.cap, Value.slice d0.ms.a d0.ms.l.length d0.ms.cap, Value.int .i64 d0.fr, Value.int .i64 d0.to], Value.int .i64 at9] w (fun v w1 => v = .bool true ∧ St B L w1) := by
 refine enter (n := 134) Tryd.func3 rfl rfl [Value.slice a rs.length cap, Value.agg #[Value.int .i64 d0.k, Value.slice d0.ss.a d0.ss.l.length d0.ss.cap, Value.slice d0.ms.a d0.ms.l.length d0.ms.cap, Value.int .i64 d0.fr, Value.int .i64 d0.to], Value.int .i64 at9] rfl ?_
 refine WP.seq (WP.region rfl ?_)
 refine WO.box (l := (rcc d0)) hS rfl rfl rfl (fun g2 w1 lg2 hS1 => ?_)
 clear hS
 refine WO.asg rfl rfl ?_
 refine WO.nil (NX.go (WP.seq (WP.seq (WP.region rfl ?_))))
 refine WO.call rfl rfl Ty.hd5 rfl (hworks_spec hS1) (fun v4 w3 pv4 => ?_)
 obtain ⟨rfl, hS3⟩ := pv4
 clear hS1
 refine WO.V (run_not rfl rfl) ?_
 refine WO.nil (NX.go ?_)
 refine WP.condF rfl (notB_t rfl) ?_
 refine WP.skip (NX.go (WP.seq (WP.seq (WP.region rfl ?_))))
 refine WO.mv rfl rfl ?_
 have hS5 := hS3.permT [1, 1] (L' := (rdH a rs.length 5 (rs.flatMap rcc)) :: allA recA rs :: cel g2 (rcc d0) 26 :: recA d0 :: L) rfl
 clear hS3
 refine WO.call rfl rfl Ty.hd6 rfl (g13_spec rdH_rd hrz hrn hS5) (fun v7 w6 pv7 => ?_)
 obtain ⟨⟨qg, rfl, hqg⟩, hS6⟩ := pv7
 clear hS5
 refine WO.mv rfl rfl ?_
 rcases Bool.eq_false_or_eq_true qg with g23 | g23
 ·
  refine WO.off rfl rfl g23 rfl ?_
  refine WO.off rfl rfl g23 rfl ?_
  refine WO.V (run_pickT rfl g23 rfl) ?_
  refine WO.mv rfl rfl ?_
  refine WO.off rfl rfl rfl rfl ?_
  refine WO.off rfl rfl rfl rfl ?_
  refine WO.off rfl rfl rfl rfl ?_
  refine WO.V (run_pickT rfl rfl rfl) ?_
  refine WO.nil (NX.go ?_)
  refine WP.condT rfl rfl ?_
  refine WP.seq (WP.region rfl ?_)
  refine WO.asg rfl rfl ?_
  refine WO.nil (NX.go (WP.ret (NX.thenRet ?_)))
  refine NX.done (l := [.tmp 6]) rfl rfl ?_
  exact ⟨rfl, hS6.drop.drop.drop.drop⟩
 ·
  refine WO.on rfl rfl g23 ?_
  refine WO.V (run_loadAgg (vs := (rcc d0)) Ty.ag26 Ty.sz26 rfl rfl (cell_all (hS6.cel_at 2 rfl) 0 rfl)) ?_
  refine WO.on rfl rfl g23 ?_
  have hS8 := hS6.permT [3] (L' := recA d0 :: (rdH a rs.length 5 (rs.flatMap rcc)) :: allA recA rs :: cel g2 (rcc d0) 26 :: L) rfl
  clear hS6
  refine WO.call rfl rfl Ty.hd7 rfl (g12_spec d0 hz0 hS8) (fun v10 w9 pv10 => ?_)
  obtain ⟨⟨q0, rfl⟩, hS9⟩ := pv10
  clear hS8
  refine WO.V (run_pickF rfl g23 rfl) ?_
  refine WO.mv rfl rfl ?_
  rcases Bool.eq_false_or_eq_true q0 with g27 | g27
  ·
   refine WO.off rfl rfl g27 rfl ?_
   refine WO.off rfl rfl g27 rfl ?_
   refine WO.off rfl rfl g27 rfl ?_
   refine WO.V (run_pickT rfl g27 rfl) ?_
   refine WO.nil (NX.go ?_)
   refine WP.condT rfl rfl ?_
   refine WP.seq (WP.region rfl ?_)
   refine WO.asg rfl rfl ?_
   refine WO.nil (NX.go (WP.ret (NX.thenRet ?_)))
   refine NX.done (l := [.tmp 6]) rfl rfl ?_
   exact ⟨rfl, hS9.drop.drop.drop.drop⟩
  ·
   refine WO.on rfl rfl g27 ?_
   refine WO.V (run_fa 0 ⟨g2, 0, none⟩ rfl rfl) ?_
   refine WO.on rfl rfl g27 ?_
   refine WO.V (run_load Ty.ag3 rfl ((hS9.cel_at 3 rfl 0).trans rfl)) ?_
   refine WO.on rfl rfl g27 ?_
   refine WO.V (run_neq rfl rfl) ?_
   refine WO.V (run_pickF rfl g27 rfl) ?_
   refine WO.nil (NX.go ?_)
   refine WP.condP rfl (fun g31 => ?_) (fun g31 => ?_)
   ·
    refine WP.seq (WP.region rfl ?_)
    refine WO.asg rfl rfl ?_
    refine WO.nil (NX.go (WP.ret (NX.thenRet ?_)))
    refine NX.done (l := [.tmp 6]) rfl rfl ?_
    exact ⟨rfl, hS9.drop.drop.drop.drop⟩
   ·
    refine WP.skip (NX.go (WP.seq (WP.region rfl ?_)))
    refine WO.call rfl rfl Ty.hd8 rfl (new_spec hS9) (fun v12 w11 pv12 => ?_)
    obtain ⟨gh, rfl, hS11⟩ := pv12
    clear hS9
    refine WO.asg rfl rfl ?_
    refine WO.nil (NX.go (WP.seq (WP.seq (WP.region rfl ?_))))
    refine WO.asg rfl rfl ?_
    refine WO.nil (NX.go (WP.block ?_))
    refine WP.loop (α := Nat × List RowP) (fun x => match x with | ⟨i, A⟩ => [(0, Value.slice a rs.length cap), (2, Value.int .i64 at9), (4, Value.pointer (some ⟨g2, 0, none⟩)), (7, Value.pointer (some ⟨gh, 0, none⟩)), (8, Value.int .i64 (i : Int))]) (fun x w => match x with | ⟨i, A⟩ => (i ≤ rs.length ∧ i ≤ 30 ∧ WfH A (32 * i) ∧ A.length ≤ 256) ∧ St B (hdA 56 61 51 gh A :: (rdH a rs.length 5 (rs.flatMap rcc)) :: allA recA rs :: recA d0 :: cel g2 (rcc d0) 26 :: L) w) (fun x => match x with | ⟨i, A⟩ => rs.length - i) (0, []) ⟨⟨Nat.zero_le _, Nat.zero_le _, wf_nil _, Nat.zero_le _⟩, (hS11.permT [0, 1, 1] (L' := hdA 56 61 51 gh [] :: (rdH a rs.length 5 (rs.flatMap rcc)) :: allA recA rs :: recA d0 :: cel g2 (rcc d0) 26 :: L) rfl)⟩ (Sub.cons rfl (Sub.cons rfl (Sub.cons rfl (Sub.cons rfl (Sub.consE rfl (by first | rfl | first | rfl | (congr 1; omega) | (simp; done) | (simp; omega)) (Sub.nil _)))))) ?_
    rintro ⟨i, A⟩ w13 ⟨⟨hi, hi3, hA, hAl⟩, hS13⟩
    clear hS11
    refine WP.seq (WP.seq (WP.region rfl ?_))
    refine WO.mv rfl rfl ?_
    refine WO.mv rfl rfl ?_
    refine WO.V (run_len rfl Tryd.underlying22 rfl) ?_
    refine WO.V (run_lss rfl rfl) ?_
    refine WO.mv rfl rfl ?_
    refine dcase (p := (i : Int) < ((rs.length : Nat) : Int)) (fun g37 d37 => ?_) (fun g37 d37 => ?_)
    ·
     refine WO.on rfl rfl d37 ?_
     refine WO.mv rfl rfl ?_
     refine WO.on rfl rfl d37 ?_
     refine WO.V (run_lss rfl rfl) ?_
     refine WO.V (run_pickT rfl d37 rfl) ?_
     refine WO.nil (NX.go ?_)
     refine WP.condP rfl (fun g40 => ?_) (fun g40 => ?_)
     ·
      refine WP.skip (NX.go (WP.seq (WP.block ?_)))
      obtain ⟨d1, hd1⟩ : ∃ qq, rs[i]? = some qq := ⟨_, List.getElem?_eq_getElem (by omega)⟩
      have hzd := hrz d1 (List.mem_of_getElem? hd1)
      have hS14 := allA_get recA_pers (List.mem_of_getElem? hd1) (hS13.permT [2] (L' := allA recA rs :: hdA 56 61 51 gh A :: (rdH a rs.length 5 (rs.flatMap rcc)) :: recA d0 :: cel g2 (rcc d0) 26 :: L) rfl)
      clear hS13
      have hsa : a.isSome = true := rd_isSome ((rdH_rd (hS14.focus 3 rfl))) (by omega)
      refine WP.region rfl ?_
      refine WO.mv rfl rfl ?_
      refine WO.mv rfl rfl ?_
      refine WO.mv rfl rfl ?_
      refine WO.V (run_indexAddr (q := adr a (i * 5)) Tryd.underlying22 Ty.sz26 rfl rfl (by omega) (by omega) ((rdH_rd (hS14.focus 3 rfl)).2.1 (by omega)) rfl) ?_
      refine WO.V (run_loadAgg (vs := (rcc d1)) Ty.ag26 Ty.sz26 rfl ((rdH_rd (hS14.focus 3 rfl)).cells (by rw [flat_len rcc_len]; omega) (flat_part rcc_len hd1)).1 ((rdH_rd (hS14.focus 3 rfl)).cells (by rw [flat_len rcc_len]; omega) (flat_part rcc_len hd1)).2) ?_
      refine WO.call rfl rfl Ty.hd10 rfl (own12_spec d1 hzd hS14) (fun v16 w15 pv16 => ?_)
      obtain ⟨r1, rfl, hr1, hS15⟩ := pv16
      clear hS14
      have hS17 := hS15.permT [3] (L' := hdA 56 61 51 gh A :: recA r1 :: recA d1 :: allA recA rs :: (rdH a rs.length 5 (rs.flatMap rcc)) :: recA d0 :: cel g2 (rcc d0) 26 :: L) rfl
      clear hS15
      refine WO.call rfl rfl Ty.hd9 rfl ((by have z := happlyP_spec (g := gh) hA (by omega) (by omega) r1 (SzR.of_p hr1 hzd) hS17; rw [hr1] at z; exact z)) (fun v19 w18 pv19 => ?_)
      obtain ⟨rfl, hS18⟩ := pv19
      clear hS17
      refine WO.nil (NX.blk (NX.go (WP.region rfl ?_)))
      refine WO.mv rfl rfl ?_
      refine WO.V (run_add rfl rfl (IntWalk.i64_in _ (by omega))) ?_
      refine WO.asg rfl rfl ?_
      refine WO.nil ?_
      exact NX.again (i + 1, applyP A d1.p) ⟨⟨by omega, by omega, wf_applyP hA, applyP_len hAl⟩, ((hS18.mask [true, false, false] (L' := hdA 56 61 51 gh (applyP A d1.p) :: allA recA rs :: (rdH a rs.length 5 (rs.flatMap rcc)) :: recA d0 :: cel g2 (rcc d0) 26 :: L) rfl).permT [0, 1] (L' := hdA 56 61 51 gh (applyP A d1.p) :: (rdH a rs.length 5 (rs.flatMap rcc)) :: allA recA rs :: recA d0 :: cel g2 (rcc d0) 26 :: L) rfl)⟩ (by show rs.length - (i + 1) < rs.length - i; omega) (Sub.cons rfl (Sub.cons rfl (Sub.cons rfl (Sub.cons rfl (Sub.consE rfl (by congr 1) (Sub.nil _))))))
     ·
      refine WP.exit (NX.thenExit (NX.thenExit ?_))
      refine NX.blkExit ?_
      refine NX.go (WP.seq ?_)
      have hpts : ptsN A ≤ 1000000000000000 := Nat.le_trans (ptsN_le hA.pts) (Nat.le_trans (Nat.mul_le_mul hAl (show 32 * i ≤ 1600 by omega)) (by decide))
      refine WP.region rfl ?_
      refine WO.mv rfl rfl ?_
      refine WO.call rfl rfl Ty.hd11 rfl (hcounts_spec (g := gh) hpts hS13) (fun v21 w20 pv21 => ?_)
      obtain ⟨rfl, hS20⟩ := pv21
      clear hS13
      refine WO.mv rfl rfl ?_
      refine WO.V (run_extract rfl rfl) ?_
      refine WO.V (run_extract rfl rfl) ?_
      refine WO.asg rfl rfl ?_
      refine WO.asg rfl rfl ?_
      refine WO.nil (NX.go (WP.seq (WP.region rfl ?_)))
      refine WO.V (run_loadAgg (vs := (rcc d0)) Ty.ag26 Ty.sz26 rfl rfl (cell_all (hS20.cel_at 4 rfl) 0 rfl)) ?_
      have hS22 := hS20.permT [3] (L' := recA d0 :: hdA 56 61 51 gh A :: (rdH a rs.length 5 (rs.flatMap rcc)) :: allA recA rs :: cel g2 (rcc d0) 26 :: L) rfl
      clear hS20
      refine WO.call rfl rfl Ty.hd10 rfl (own12o_spec d0 hz0 hS22) (fun v24 w23 pv24 => ?_)
      obtain ⟨r1, rfl, hr1, hS23⟩ := pv24
      clear hS22
      refine WO.alloc (l := [Value.int .i64 0, Value.slice none 0 0, Value.slice none 0 0, Value.int .i64 0, Value.int .i64 0]) hS23 Ty.zr26 rfl rfl (fun g26 w25 lg26 hS25 => ?_)
      clear hS23
      refine WO.store (l' := (rcc r1)) 0 hS25 rfl Ty.sz26 rfl rfl rfl rfl rfl (Nat.le_of_ble_eq_true rfl) rfl (fun w27 (hS27 : St B (cel g26 (rcc r1) 26 :: own r1.ss.a r1.ss.l.length r1.ss.cap 40 3 (r1.ss.l.flatMap smc) :: (rdH r1.ms.a r1.ms.l.length 3 (r1.ms.l.flatMap mtc)) :: smsA r1.ss.l :: recA d0 :: hdA 56 61 51 gh A :: (rdH a rs.length 5 (rs.flatMap rcc)) :: allA recA rs :: cel g2 (rcc d0) 26 :: L) w27) => ?_)
      clear hS25
      refine WO.nil (NX.go (WP.seq (WP.seq ?_)))
      have hnn : r1.ss.l.length = d0.ss.l.length := by have h9 := congrArg (fun z => z.ss.length) hr1; simpa [Rcd.p] using h9
      have hns0 := hz0.ns
      refine WP.region rfl ?_
      refine WO.V (run_fa 1 ⟨g26, 1, none⟩ rfl rfl) ?_
      refine WO.V (run_load Ty.ag23 rfl ((hS27.cel_at 0 rfl 1).trans rfl)) ?_
      refine WO.V (run_len rfl Tryd.underlying23 rfl) ?_
      refine WO.V (run_lss rfl rfl) ?_
      refine WO.mv rfl rfl ?_
      refine dcase (p := ((r1.ss.l.length : Nat) : Int) < 1) (fun g61 d61 => ?_) (fun g61 d61 => ?_)
      ·
       refine WO.off rfl rfl d61 rfl ?_
       refine WO.off rfl rfl d61 rfl ?_
       refine WO.off rfl rfl d61 rfl ?_
       refine WO.off rfl rfl d61 rfl ?_
       refine WO.V (run_pickT rfl d61 rfl) ?_
       refine WO.mv rfl rfl ?_
       refine WO.off rfl rfl rfl rfl ?_
       refine WO.off rfl rfl rfl rfl ?_
       refine WO.off rfl rfl rfl rfl ?_
       refine WO.off rfl rfl rfl rfl ?_
       refine WO.off rfl rfl rfl rfl ?_
       refine WO.V (run_pickT rfl rfl rfl) ?_
       refine WO.nil (NX.go ?_)
       refine WP.condT rfl rfl ?_
       refine WP.seq (WP.region rfl ?_)
       refine WO.asg rfl rfl ?_
       refine WO.nil (NX.go (WP.ret (NX.thenRet ?_)))
       refine NX.done (l := [.tmp 6]) rfl rfl ?_
       exact ⟨rfl, hS27.drop.drop.drop.drop.drop.drop.drop.drop.drop⟩
      ·
       refine WO.on rfl rfl d61 ?_
       refine WO.V (run_fa 1 ⟨g26, 1, none⟩ rfl rfl) ?_
       refine WO.on rfl rfl d61 ?_
       refine WO.V (run_load Ty.ag23 rfl ((hS27.cel_at 0 rfl 1).trans rfl)) ?_
       refine WO.on rfl rfl d61 ?_
       refine WO.V (run_len rfl Tryd.underlying23 rfl) ?_
       refine WO.on rfl rfl d61 ?_
       refine WO.V (run_geq rfl rfl) ?_
       refine WO.V (run_pickF rfl d61 rfl) ?_
       refine WO.mv rfl rfl ?_
       refine dcase (p := 32 ≤ ((r1.ss.l.length : Nat) : Int)) (fun g67 d67 => ?_) (fun g67 d67 => ?_)
       ·
        refine WO.off rfl rfl d67 rfl ?_
        refine WO.off rfl rfl d67 rfl ?_
        refine WO.off rfl rfl d67 rfl ?_
        refine WO.off rfl rfl d67 rfl ?_
        refine WO.off rfl rfl d67 rfl ?_
        refine WO.V (run_pickT rfl d67 rfl) ?_
        refine WO.nil (NX.go ?_)
        refine WP.condT rfl rfl ?_
        refine WP.seq (WP.region rfl ?_)
        refine WO.asg rfl rfl ?_
        refine WO.nil (NX.go (WP.ret (NX.thenRet ?_)))
        refine NX.done (l := [.tmp 6]) rfl rfl ?_
        exact ⟨rfl, hS27.drop.drop.drop.drop.drop.drop.drop.drop.drop⟩
       ·
        refine WO.on rfl rfl d67 ?_
        refine WO.mv rfl rfl ?_
        refine WO.on rfl rfl d67 ?_
        refine WO.V (run_loadAgg (vs := (rcc d0)) Ty.ag26 Ty.sz26 rfl rfl (cell_all (hS27.cel_at 8 rfl) 0 rfl)) ?_
        refine WO.on rfl rfl d67 ?_
        have hS28 := hS27.permT [4] (L' := recA d0 :: cel g26 (rcc r1) 26 :: own r1.ss.a r1.ss.l.length r1.ss.cap 40 3 (r1.ss.l.flatMap smc) :: (rdH r1.ms.a r1.ms.l.length 3 (r1.ms.l.flatMap mtc)) :: smsA r1.ss.l :: hdA 56 61 51 gh A :: (rdH a rs.length 5 (rs.flatMap rcc)) :: allA recA rs :: cel g2 (rcc d0) 26 :: L) rfl
        clear hS27
        refine WO.call rfl rfl Ty.hd10 rfl (own12_spec d0 hz0 hS28) (fun v30 w29 pv30 => ?_)
        obtain ⟨r2, rfl, hr2, hS29⟩ := pv30
        clear hS28
        refine WO.on rfl rfl d67 ?_
        have hS31 := hS29.permT [6] (L' := hdA 56 61 51 gh A :: recA r2 :: recA d0 :: cel g26 (rcc r1) 26 :: own r1.ss.a r1.ss.l.length r1.ss.cap 40 3 (r1.ss.l.flatMap smc) :: (rdH r1.ms.a r1.ms.l.length 3 (r1.ms.l.flatMap mtc)) :: smsA r1.ss.l :: (rdH a rs.length 5 (rs.flatMap rcc)) :: allA recA rs :: cel g2 (rcc d0) 26 :: L) rfl
        clear hS29
        refine WO.call rfl rfl Ty.hd12 rfl ((by have z := htryP_spec (g := gh) hA (by omega) (by omega) r2 (SzR.of_p hr2 hz0) hS31; rw [hr2] at z; exact z)) (fun v33 w32 pv33 => ?_)
        obtain ⟨rfl, hS32⟩ := pv33
        clear hS31
        refine WO.on rfl rfl d67 ?_
        refine WO.V (run_neq rfl rfl) ?_
        refine WO.V (run_pickF rfl d67 rfl) ?_
        refine WO.nil (NX.go ?_)
        refine WP.condP rfl (fun g73 => ?_) (fun g73 => ?_)
        ·
         refine WP.seq (WP.region rfl ?_)
         refine WO.asg rfl rfl ?_
         refine WO.nil (NX.go (WP.ret (NX.thenRet ?_)))
         refine NX.done (l := [.tmp 6]) rfl rfl ?_
         exact ⟨rfl, hS32.drop.drop.drop.drop.drop.drop.drop.drop.drop.drop⟩
        ·
         refine WP.skip (NX.go (WP.seq ?_))
         have ht0 : tryP A d0.p = 0 := by simpa using g73
         have hk1 : d0.p.k = 1 := by show d0.k = 1; simpa using g31
         obtain ⟨kk, hkk, hkl⟩ : ∃ kk : Nat, (at9 % 18446744073709551616).tmod ((r1.ss.l.length : Nat) : Int) = ((kk : Nat) : Int) ∧ kk < r1.ss.l.length := ⟨((at9 % 18446744073709551616).tmod ((r1.ss.l.length : Nat) : Int)).toNat, (Int.toNat_of_nonneg (Int.tmod_nonneg _ (Int.emod_nonneg _ (by decide)))).symm, by have h2 := Int.tmod_nonneg ((r1.ss.l.length : Nat) : Int) (Int.emod_nonneg at9 (show (18446744073709551616 : Int) ≠ 0 by decide)); have h3 := Int.tmod_lt_of_pos (at9 % 18446744073709551616) (show (0 : Int) < ((r1.ss.l.length : Nat) : Int) by omega); omega⟩
         obtain ⟨z1, hz1⟩ : ∃ qq, r1.ss.l[kk]? = some qq := ⟨_, List.getElem?_eq_getElem (by omega)⟩
         refine WP.region rfl ?_
         refine WO.mv rfl rfl ?_
         refine WO.V (run_convI Tryd.underlying37 (by kernel_rfl) rfl (IntKind.wrap_u64 _)) ?_
         refine WO.V (run_fa 1 ⟨g26, 1, none⟩ rfl rfl) ?_
         refine WO.V (run_load Ty.ag23 rfl ((hS32.cel_at 3 rfl 1).trans rfl)) ?_
         refine WO.V (run_len rfl Tryd.underlying23 rfl) ?_
         refine WO.V (run_convI Tryd.underlying37 (by kernel_rfl) rfl (IntWalk.u64_in _ (by omega))) ?_
         refine WO.V (run_rem rfl rfl (by omega) hkk) ?_
         refine WO.V (run_convI Tryd.underlying3 (by kernel_rfl) rfl (IntWalk.i64_in _ (by omega))) ?_
         refine WO.asg rfl rfl ?_
         refine WO.nil (NX.go (WP.seq ?_))
         have hso : r1.ss.a.isSome = true := rd_isSome ((hS32.own_rd_i 4 rfl)) (by omega)
         refine WD.start (fun w => (∀ jz, World.cell? w ⟨g26, jz, none⟩ = (rcc r1)[jz]?) ∧ (∀ jz, World.cell? w ⟨g2, jz, none⟩ = (rcc d0)[jz]?) ∧ Rd w r1.ss.a r1.ss.l.length 3 (r1.ss.l.flatMap smc)) [8, 10] (bt 11 0) Ty.mo rfl (by kernel_rfl) hS32 (fun _ h => ⟨h.cel_at 3 rfl, h.cel_at 9 rfl, (h.own_rd_i 4 rfl)⟩) (fun w34 hS34 s35 => ?_)
         clear hS32
         refine DP (i := 0) t3_15 (bt 11 1) rfl rfl rfl rfl (fun w => run_fa 1 ⟨g26, 1, none⟩ rfl rfl) ?_
         refine DT (i := 1) t3_15 (bt 11 3) s35 rfl rfl rfl rfl (fun w hs => run_load Ty.ag23 rfl ((hs.1 1).trans rfl)) ?_
         refine DP (i := 2) t3_15 (bt 11 7) rfl rfl rfl rfl (fun w => run_fa 1 ⟨g26, 1, none⟩ rfl rfl) ?_
         refine DT (i := 3) t3_15 (bt 11 15) s35 rfl rfl rfl rfl (fun w hs => run_load Ty.ag23 rfl ((hs.1 1).trans rfl)) ?_
         refine DP (i := 4) t3_15 (bt 11 31) rfl rfl rfl rfl (fun w => run_move rfl) ?_
         refine DT (i := 5) t3_15 (bt 11 63) s35 rfl rfl rfl rfl (fun w hs => run_indexAddr (q := adr r1.ss.a (kk * 3)) Tryd.underlying23 Ty.sz40 rfl rfl (by omega) (by omega) ((hs.2.2).2.1 (by omega)) rfl) ?_
         refine DT (i := 6) t3_15 (bt 11 127) s35 rfl rfl rfl rfl (fun w hs => run_loadAgg (vs := (smc z1)) Ty.ag40 Ty.sz40 rfl ((hs.2.2).cells (by rw [flat_len smc_len]; omega) (flat_part smc_len hz1)).1 ((hs.2.2).cells (by rw [flat_len smc_len]; omega) (flat_part smc_len hz1)).2) ?_
         refine WD.one (i := 7) t3_15 (bt 11 255) rfl (by kernel_rfl) ?_
         refine WO.buildSlice (l := (smc z1)) hS34 Tryd.underlying23 rfl (fun w => by kernel_rfl) rfl (fun g38 w36 lg38 hS36 => ?_)
         clear hS34
         refine WO.nil ?_
         have s39 : (∀ jz, World.cell? w36 ⟨g26, jz, none⟩ = (rcc r1)[jz]?) ∧ (∀ jz, World.cell? w36 ⟨g2, jz, none⟩ = (rcc d0)[jz]?) ∧ Rd w36 r1.ss.a r1.ss.l.length 3 (r1.ss.l.flatMap smc) := ⟨hS36.cel_at 4 rfl, hS36.cel_at 10 rfl, (hS36.own_rd_i 5 rfl)⟩
         refine NX.held s39 ?_
         refine WD.one (i := 8) t3_15 (bt 11 511) rfl (by kernel_rfl) ?_
         refine WO.append (news := (smc z1)) 5 rfl Tryd.underlying23 Tryd.underlying23 (fun _ h => by cases h) Ty.sz40 (by decide) Ty.by40 Ty.zr40 rfl rfl rfl rfl hS36 rfl ((hS36.cel_rd 0 rfl (o := 0) (m := 1) (k := 3) rfl (Nat.le_of_ble_eq_true rfl)).src) rfl (by omega) (by omega) (fun a41 c42 w40 hS40 => ?_)
         replace hS40 : St B (cel g38 (smc z1) 40 :: hdA 56 61 51 gh A :: recA r2 :: recA d0 :: cel g26 (rcc r1) 26 :: own a41 (r1.ss.l.length + 1) c42 40 3 ((r1.ss.l.flatMap smc) ++ (smc z1)) :: (rdH r1.ms.a r1.ms.l.length 3 (r1.ms.l.flatMap mtc)) :: smsA r1.ss.l :: (rdH a rs.length 5 (rs.flatMap rcc)) :: allA recA rs :: cel g2 (rcc d0) 26 :: L) w40 := hS40
         clear hS36
         refine WO.nil ?_
         refine NX.last (by decide) ?_
         refine DP (i := 9) t3_15 (bt 11 1023) rfl rfl rfl rfl (fun w => run_fa 1 ⟨g26, 1, none⟩ rfl rfl) ?_
         refine WD.one (i := 10) t3_15 (bt 11 2047) rfl (by kernel_rfl) ?_
         refine WO.store (l' := [Value.int .i64 r1.k, Value.slice a41 (r1.ss.l.length + 1) c42, Value.slice r1.ms.a r1.ms.l.length r1.ms.cap, Value.int .i64 r1.fr, Value.int .i64 r1.to]) 4 hS40 rfl Ty.sz23 rfl rfl rfl rfl rfl (Nat.le_of_ble_eq_true rfl) rfl (fun w43 (hS43 : St B (cel g38 (smc z1) 40 :: hdA 56 61 51 gh A :: recA r2 :: recA d0 :: cel g26 [Value.int .i64 r1.k, Value.slice a41 (r1.ss.l.length + 1) c42, Value.slice r1.ms.a r1.ms.l.length r1.ms.cap, Value.int .i64 r1.fr, Value.int .i64 r1.to] 26 :: own a41 (r1.ss.l.length + 1) c42 40 3 ((r1.ss.l.flatMap smc) ++ (smc z1)) :: (rdH r1.ms.a r1.ms.l.length 3 (r1.ms.l.flatMap mtc)) :: smsA r1.ss.l :: (rdH a rs.length 5 (rs.flatMap rcc)) :: allA recA rs :: cel g2 (rcc d0) 26 :: L) w43) => ?_)
         clear hS40
         refine WO.nil ?_
         refine NX.last (by decide) ?_
         refine WD.done t3_15 (by kernel_rfl) ?_
         refine NX.go (WP.seq ?_)
         obtain ⟨r4, hr4, hz4, hS44⟩ : ∃ r4 : Rcd, r4.p = (⟨d0.p.k, d0.p.ss ++ [z1.p], d0.p.ms, d0.p.fr, d0.p.to⟩ : RcP) ∧ SzR r4 ∧ St B (recA r4 :: cel g26 (rcc r4) 26 :: hdA 56 61 51 gh A :: (rdH a rs.length 5 (rs.flatMap rcc)) :: allA recA rs :: recA d0 :: cel g38 (smc z1) 40 :: cel g2 (rcc d0) 26 :: L) w43 := by
          have hz1r := SzR.of_p hr1 hz0
          have y1 := smsA_get hz1 (hS43.permT [7] (L' := smsA r1.ss.l :: cel g38 (smc z1) 40 :: hdA 56 61 51 gh A :: recA r2 :: recA d0 :: cel g26 [Value.int .i64 r1.k, Value.slice a41 (r1.ss.l.length + 1) c42, Value.slice r1.ms.a r1.ms.l.length r1.ms.cap, Value.int .i64 r1.fr, Value.int .i64 r1.to] 26 :: own a41 (r1.ss.l.length + 1) c42 40 3 ((r1.ss.l.flatMap smc) ++ (smc z1)) :: (rdH r1.ms.a r1.ms.l.length 3 (r1.ms.l.flatMap mtc)) :: (rdH a rs.length 5 (rs.flatMap rcc)) :: allA recA rs :: cel g2 (rcc d0) 26 :: L) rfl)
          have y2 := smsA_snoc (y1.permT [1, 0] (L' := smsA r1.ss.l :: labA z1.lb :: cel g38 (smc z1) 40 :: hdA 56 61 51 gh A :: recA r2 :: recA d0 :: cel g26 [Value.int .i64 r1.k, Value.slice a41 (r1.ss.l.length + 1) c42, Value.slice r1.ms.a r1.ms.l.length r1.ms.cap, Value.int .i64 r1.fr, Value.int .i64 r1.to] 26 :: own a41 (r1.ss.l.length + 1) c42 40 3 ((r1.ss.l.flatMap smc) ++ (smc z1)) :: (rdH r1.ms.a r1.ms.l.length 3 (r1.ms.l.flatMap mtc)) :: (rdH a rs.length 5 (rs.flatMap rcc)) :: allA recA rs :: cel g2 (rcc d0) 26 :: L) rfl)
          have e9 : r1.ss.l.length + 1 = (r1.ss.l ++ [z1]).length := by rw [List.length_append]; rfl
          have y3 := own_eqM (l' := (r1.ss.l ++ [z1]).flatMap smc) (((y2.mask [true, true, true, false] (L' := smsA (r1.ss.l ++ [z1]) :: cel g38 (smc z1) 40 :: hdA 56 61 51 gh A :: recA d0 :: cel g26 [Value.int .i64 r1.k, Value.slice a41 (r1.ss.l.length + 1) c42, Value.slice r1.ms.a r1.ms.l.length r1.ms.cap, Value.int .i64 r1.fr, Value.int .i64 r1.to] 26 :: own a41 (r1.ss.l.length + 1) c42 40 3 ((r1.ss.l.flatMap smc) ++ (smc z1)) :: (rdH r1.ms.a r1.ms.l.length 3 (r1.ms.l.flatMap mtc)) :: (rdH a rs.length 5 (rs.flatMap rcc)) :: allA recA rs :: cel g2 (rcc d0) 26 :: L) rfl).permT [5, 5, 0, 3, 1, 2, 2, 1] (L' := own a41 (r1.ss.l.length + 1) c42 40 3 ((r1.ss.l.flatMap smc) ++ (smc z1)) :: (rdH r1.ms.a r1.ms.l.length 3 (r1.ms.l.flatMap mtc)) :: smsA (r1.ss.l ++ [z1]) :: cel g26 [Value.int .i64 r1.k, Value.slice a41 (r1.ss.l.length + 1) c42, Value.slice r1.ms.a r1.ms.l.length r1.ms.cap, Value.int .i64 r1.fr, Value.int .i64 r1.to] 26 :: hdA 56 61 51 gh A :: (rdH a rs.length 5 (rs.flatMap rcc)) :: allA recA rs :: recA d0 :: cel g38 (smc z1) 40 :: cel g2 (rcc d0) 26 :: L) rfl)) rfl (by rw [List.flatMap_append]; simp [smc])
          rw [e9] at y3
          have y4 := rdH_own y3
          refine ⟨(⟨r1.k, ⟨a41, r1.ss.l ++ [z1], c42⟩, r1.ms, r1.fr, r1.to⟩ : Rcd), ?_, ⟨by show (r1.ss.l ++ [z1]).length ≤ _; rw [List.length_append]; simp; omega, hz1r.nm, hz1r.m, fun s hs => ?_⟩, ?_⟩
          · (rw [← hr1]; show RcP.mk _ ((r1.ss.l ++ [z1]).map Smp.p) _ _ _ = RcP.mk _ (r1.ss.l.map Smp.p ++ [z1.p]) _ _ _; rw [List.map_append]; rfl)
          · (rcases List.mem_append.1 hs with hs | hs; (· exact hz1r.s s hs); (· rw [List.mem_singleton.1 hs]; exact hz1r.s z1 (List.mem_of_getElem? hz1)))
          · exact ((((y4 : St B (rdH (⟨r1.k, ⟨a41, r1.ss.l ++ [z1], c42⟩, r1.ms, r1.fr, r1.to⟩ : Rcd).ss.a (⟨r1.k, ⟨a41, r1.ss.l ++ [z1], c42⟩, r1.ms, r1.fr, r1.to⟩ : Rcd).ss.l.length 3 ((⟨r1.k, ⟨a41, r1.ss.l ++ [z1], c42⟩, r1.ms, r1.fr, r1.to⟩ : Rcd).ss.l.flatMap smc) :: rdH (⟨r1.k, ⟨a41, r1.ss.l ++ [z1], c42⟩, r1.ms, r1.fr, r1.to⟩ : Rcd).ms.a (⟨r1.k, ⟨a41, r1.ss.l ++ [z1], c42⟩, r1.ms, r1.fr, r1.to⟩ : Rcd).ms.l.length 3 ((⟨r1.k, ⟨a41, r1.ss.l ++ [z1], c42⟩, r1.ms, r1.fr, r1.to⟩ : Rcd).ms.l.flatMap mtc) :: smsA (⟨r1.k, ⟨a41, r1.ss.l ++ [z1], c42⟩, r1.ms, r1.fr, r1.to⟩ : Rcd).ss.l :: cel g26 (rcc (⟨r1.k, ⟨a41, r1.ss.l ++ [z1], c42⟩, r1.ms, r1.fr, r1.to⟩ : Rcd)) 26 :: hdA 56 61 51 gh A :: (rdH a rs.length 5 (rs.flatMap rcc)) :: allA recA rs :: recA d0 :: cel g38 (smc z1) 40 :: cel g2 (rcc d0) 26 :: L) w43).permT [1, 1, 0] (L' := rdH (⟨r1.k, ⟨a41, r1.ss.l ++ [z1], c42⟩, r1.ms, r1.fr, r1.to⟩ : Rcd).ms.a (⟨r1.k, ⟨a41, r1.ss.l ++ [z1], c42⟩, r1.ms, r1.fr, r1.to⟩ : Rcd).ms.l.length 3 ((⟨r1.k, ⟨a41, r1.ss.l ++ [z1], c42⟩, r1.ms, r1.fr, r1.to⟩ : Rcd).ms.l.flatMap mtc) :: smsA (⟨r1.k, ⟨a41, r1.ss.l ++ [z1], c42⟩, r1.ms, r1.fr, r1.to⟩ : Rcd).ss.l :: rdH (⟨r1.k, ⟨a41, r1.ss.l ++ [z1], c42⟩, r1.ms, r1.fr, r1.to⟩ : Rcd).ss.a (⟨r1.k, ⟨a41, r1.ss.l ++ [z1], c42⟩, r1.ms, r1.fr, r1.to⟩ : Rcd).ss.l.length 3 ((⟨r1.k, ⟨a41, r1.ss.l ++ [z1], c42⟩, r1.ms, r1.fr, r1.to⟩ : Rcd).ss.l.flatMap smc) :: cel g26 (rcc (⟨r1.k, ⟨a41, r1.ss.l ++ [z1], c42⟩, r1.ms, r1.fr, r1.to⟩ : Rcd)) 26 :: hdA 56 61 51 gh A :: (rdH a rs.length 5 (rs.flatMap rcc)) :: allA recA rs :: recA d0 :: cel g38 (smc z1) 40 :: cel g2 (rcc d0) 26 :: L) rfl).join).permT [1, 0] (L' := rdH (⟨r1.k, ⟨a41, r1.ss.l ++ [z1], c42⟩, r1.ms, r1.fr, r1.to⟩ : Rcd).ss.a (⟨r1.k, ⟨a41, r1.ss.l ++ [z1], c42⟩, r1.ms, r1.fr, r1.to⟩ : Rcd).ss.l.length 3 ((⟨r1.k, ⟨a41, r1.ss.l ++ [z1], c42⟩, r1.ms, r1.fr, r1.to⟩ : Rcd).ss.l.flatMap smc) :: .sep (rdH (⟨r1.k, ⟨a41, r1.ss.l ++ [z1], c42⟩, r1.ms, r1.fr, r1.to⟩ : Rcd).ms.a (⟨r1.k, ⟨a41, r1.ss.l ++ [z1], c42⟩, r1.ms, r1.fr, r1.to⟩ : Rcd).ms.l.length 3 ((⟨r1.k, ⟨a41, r1.ss.l ++ [z1], c42⟩, r1.ms, r1.fr, r1.to⟩ : Rcd).ms.l.flatMap mtc)) (smsA (⟨r1.k, ⟨a41, r1.ss.l ++ [z1], c42⟩, r1.ms, r1.fr, r1.to⟩ : Rcd).ss.l) :: cel g26 (rcc (⟨r1.k, ⟨a41, r1.ss.l ++ [z1], c42⟩, r1.ms, r1.fr, r1.to⟩ : Rcd)) 26 :: hdA 56 61 51 gh A :: (rdH a rs.length 5 (rs.flatMap rcc)) :: allA recA rs :: recA d0 :: cel g38 (smc z1) 40 :: cel g2 (rcc d0) 26 :: L) rfl).join
         have hm1 : z1.p ∈ d0.p.ss := by rw [← hr1]; exact List.mem_map.2 ⟨z1, List.mem_of_getElem? hz1, rfl⟩
         have htx : tryP A (⟨d0.p.k, d0.p.ss ++ [z1.p], d0.p.ms, d0.p.fr, d0.p.to⟩ : RcP) = 14 := try_again hA.srt hk1 ht0 hm1 (by show (d0.ss.l.map Smp.p).length < 32; rw [List.length_map]; omega)
         refine WP.region rfl ?_
         refine WO.mv rfl rfl ?_
         refine WO.V (run_loadAgg (vs := (rcc r4)) Ty.ag26 Ty.sz26 rfl rfl (cell_all (hS44.cel_at 1 rfl) 0 rfl)) ?_
         have hS45 := hS44.permT [2] (L' := hdA 56 61 51 gh A :: recA r4 :: cel g26 (rcc r4) 26 :: (rdH a rs.length 5 (rs.flatMap rcc)) :: allA recA rs :: recA d0 :: cel g38 (smc z1) 40 :: cel g2 (rcc d0) 26 :: L) rfl
         clear hS44
         refine WO.call rfl rfl Ty.hd9 rfl (happlyP_spec (g := gh) hA (by omega) (by omega) r4 hz4 hS45) (fun v47 w46 pv47 => ?_)
         obtain ⟨hv, hS46⟩ := pv47
         clear hS45
         replace hv : v47 = Value.int .i64 14 := (hv.trans (congrArg (Value.int .i64) (by rw [hr4]; exact htx)))
         subst hv
         replace hS46 : St B (hdA 56 61 51 gh A :: recA r4 :: cel g26 (rcc r4) 26 :: (rdH a rs.length 5 (rs.flatMap rcc)) :: allA recA rs :: recA d0 :: cel g38 (smc z1) 40 :: cel g2 (rcc d0) 26 :: L) w46 := (by have z := hS46; rw [applyP_bad (by rw [hr4, htx]; decide)] at z; exact z)
         refine WO.asg rfl rfl ?_
         refine WO.nil (NX.go (WP.seq (WP.region rfl ?_)))
         refine WO.mv rfl rfl ?_
         refine WO.call rfl rfl Ty.hd11 rfl (hcounts_spec (g := gh) hpts hS46) (fun v49 w48 pv49 => ?_)
         obtain ⟨rfl, hS48⟩ := pv49
         clear hS46
         refine WO.mv rfl rfl ?_
         refine WO.V (run_extract rfl rfl) ?_
         refine WO.V (run_extract rfl rfl) ?_
         refine WO.asg rfl rfl ?_
         refine WO.asg rfl rfl ?_
         refine WO.nil (NX.go (WP.seq (WP.region rfl ?_)))
         refine WO.mv rfl rfl ?_
         refine WO.V (run_loadAgg (vs := (rcc d0)) Ty.ag26 Ty.sz26 rfl rfl (cell_all (hS48.cel_at 7 rfl) 0 rfl)) ?_
         have hS50 := hS48.permT [5] (L' := recA d0 :: hdA 56 61 51 gh A :: recA r4 :: cel g26 (rcc r4) 26 :: (rdH a rs.length 5 (rs.flatMap rcc)) :: allA recA rs :: cel g38 (smc z1) 40 :: cel g2 (rcc d0) 26 :: L) rfl
         clear hS48
         refine WO.call rfl rfl Ty.hd10 rfl (own12_spec d0 hz0 hS50) (fun v52 w51 pv52 => ?_)
         obtain ⟨r3, rfl, hr3, hS51⟩ := pv52
         clear hS50
         have hS53 := hS51.permT [2] (L' := hdA 56 61 51 gh A :: recA r3 :: recA d0 :: recA r4 :: cel g26 (rcc r4) 26 :: (rdH a rs.length 5 (rs.flatMap rcc)) :: allA recA rs :: cel g38 (smc z1) 40 :: cel g2 (rcc d0) 26 :: L) rfl
         clear hS51
         refine WO.call rfl rfl Ty.hd9 rfl (happlyP_spec (g := gh) hA (by omega) (by omega) r3 (SzR.of_p hr3 hz0) hS53) (fun v55 w54 pv55 => ?_)
         obtain ⟨hv, hS54⟩ := pv55
         clear hS53
         replace hv : v55 = Value.int .i64 0 := (hv.trans (congrArg (Value.int .i64) (by rw [hr3]; exact ht0)))
         subst hv
         replace hS54 : St B (hdA 56 61 51 gh (applyP A d0.p) :: recA r3 :: recA d0 :: recA r4 :: cel g26 (rcc r4) 26 :: (rdH a rs.length 5 (rs.flatMap rcc)) :: allA recA rs :: cel g38 (smc z1) 40 :: cel g2 (rcc d0) 26 :: L) w54 := (by have z := hS54; rw [hr3] at z; exact z)
         refine WO.asg rfl rfl ?_
         refine WO.nil (NX.go (WP.seq ?_))
         have hap := apply_pts hk1 ht0
         have hpl : d0.p.ss.length = d0.ss.l.length := List.length_map ..
         have hpts2 : ptsN (applyP A d0.p) ≤ 1000000000000000 := by rw [hap, hpl]; have h8 := Nat.le_trans (ptsN_le hA.pts) (Nat.mul_le_mul hAl (show 32 * i ≤ 960 by omega)); omega
         refine WP.region rfl ?_
         refine WO.mv rfl rfl ?_
         refine WO.call rfl rfl Ty.hd11 rfl (hcounts_spec (g := gh) hpts2 hS54) (fun v57 w56 pv57 => ?_)
         obtain ⟨rfl, hS56⟩ := pv57
         clear hS54
         refine WO.mv rfl rfl ?_
         refine WO.V (run_extract rfl rfl) ?_
         refine WO.V (run_extract rfl rfl) ?_
         refine WO.asg rfl rfl ?_
         refine WO.asg rfl rfl ?_
         refine WO.nil (NX.go (WP.seq (WP.region rfl ?_)))
         refine WO.mv rfl rfl ?_
         refine WO.V (run_eql rfl rfl) ?_
         refine WO.mv rfl rfl ?_
         refine WO.on rfl rfl (by decide) ?_
         refine WO.mv rfl rfl ?_
         refine WO.on rfl rfl (by decide) ?_
         refine WO.mv rfl rfl ?_
         refine WO.on rfl rfl (by decide) ?_
         refine WO.V (run_eql rfl rfl) ?_
         refine WO.V (run_pickT rfl (by decide) rfl) ?_
         refine WO.mv rfl rfl ?_
         refine WO.on rfl rfl (decide_eq_true rfl) ?_
         refine WO.mv rfl rfl ?_
         refine WO.on rfl rfl (decide_eq_true rfl) ?_
         refine WO.mv rfl rfl ?_
         refine WO.on rfl rfl (decide_eq_true rfl) ?_
         refine WO.V (run_eql rfl rfl) ?_
         refine WO.V (run_pickT rfl (decide_eq_true rfl) rfl) ?_
         refine WO.mv rfl rfl ?_
         refine WO.on rfl rfl (decide_eq_true rfl) ?_
         refine WO.mv rfl rfl ?_
         refine WO.on rfl rfl (decide_eq_true rfl) ?_
         refine WO.V (run_eql rfl rfl) ?_
         refine WO.V (run_pickT rfl (decide_eq_true rfl) rfl) ?_
         refine WO.mv rfl rfl ?_
         refine WO.on rfl rfl (by decide) ?_
         refine WO.mv rfl rfl ?_
         refine WO.on rfl rfl (by decide) ?_
         refine WO.mv rfl rfl ?_
         refine WO.on rfl rfl (by decide) ?_
         refine WO.V (run_fa 1 ⟨g2, 1, none⟩ rfl rfl) ?_
         refine WO.on rfl rfl (by decide) ?_
         refine WO.V (run_load Ty.ag23 rfl ((hS56.cel_at 8 rfl 1).trans rfl)) ?_
         refine WO.on rfl rfl (by decide) ?_
         refine WO.V (run_len rfl Tryd.underlying23 rfl) ?_
         refine WO.on rfl rfl (by decide) ?_
         refine WO.V (run_add rfl rfl (IntWalk.i64_in _ (by omega))) ?_
         refine WO.on rfl rfl (by decide) ?_
         refine WO.V (run_eql rfl rfl) ?_
         refine WO.V (run_pickT rfl (by decide) rfl) ?_
         refine WO.asg rfl rfl ?_
         refine WO.nil (NX.go (WP.ret ?_))
         refine NX.done (l := [.tmp 6]) rfl rfl ?_
         rw [hpl] at hap
         exact ⟨congrArg Value.bool (decide_eq_true (by omega)), hS56.drop.drop.drop.drop.drop.drop.drop.drop.drop⟩
    ·
     refine WO.off rfl rfl d37 rfl ?_
     refine WO.off rfl rfl d37 rfl ?_
     refine WO.V (run_pickF rfl d37 rfl) ?_
     refine WO.nil (NX.go ?_)
     refine WP.condF rfl rfl ?_
     refine WP.exit (NX.thenExit (NX.thenExit ?_))
     refine NX.blkExit ?_
     refine NX.go (WP.seq ?_)
     have hpts : ptsN A ≤ 1000000000000000 := Nat.le_trans (ptsN_le hA.pts) (Nat.le_trans (Nat.mul_le_mul hAl (show 32 * i ≤ 1600 by omega)) (by decide))
     refine WP.region rfl ?_
     refine WO.mv rfl rfl ?_
     refine WO.call rfl rfl Ty.hd11 rfl (hcounts_spec (g := gh) hpts hS13) (fun v59 w58 pv59 => ?_)
     obtain ⟨rfl, hS58⟩ := pv59
     clear hS13
     refine WO.mv rfl rfl ?_
     refine WO.V (run_extract rfl rfl) ?_
     refine WO.V (run_extract rfl rfl) ?_
     refine WO.asg rfl rfl ?_
     refine WO.asg rfl rfl ?_
     refine WO.nil (NX.go (WP.seq (WP.region rfl ?_)))
     refine WO.V (run_loadAgg (vs := (rcc d0)) Ty.ag26 Ty.sz26 rfl rfl (cell_all (hS58.cel_at 4 rfl) 0 rfl)) ?_
     have hS60 := hS58.permT [3] (L' := recA d0 :: hdA 56 61 51 gh A :: (rdH a rs.length 5 (rs.flatMap rcc)) :: allA recA rs :: cel g2 (rcc d0) 26 :: L) rfl
     clear hS58
     refine WO.call rfl rfl Ty.hd10 rfl (own12o_spec d0 hz0 hS60) (fun v62 w61 pv62 => ?_)
     obtain ⟨r1, rfl, hr1, hS61⟩ := pv62
     clear hS60
     refine WO.alloc (l := [Value.int .i64 0, Value.slice none 0 0, Value.slice none 0 0, Value.int .i64 0, Value.int .i64 0]) hS61 Ty.zr26 rfl rfl (fun g64 w63 lg64 hS63 => ?_)
     clear hS61
     refine WO.store (l' := (rcc r1)) 0 hS63 rfl Ty.sz26 rfl rfl rfl rfl rfl (Nat.le_of_ble_eq_true rfl) rfl (fun w65 (hS65 : St B (cel g64 (rcc r1) 26 :: own r1.ss.a r1.ss.l.length r1.ss.cap 40 3 (r1.ss.l.flatMap smc) :: (rdH r1.ms.a r1.ms.l.length 3 (r1.ms.l.flatMap mtc)) :: smsA r1.ss.l :: recA d0 :: hdA 56 61 51 gh A :: (rdH a rs.length 5 (rs.flatMap rcc)) :: allA recA rs :: cel g2 (rcc d0) 26 :: L) w65) => ?_)
     clear hS63
     refine WO.nil (NX.go (WP.seq (WP.seq ?_)))
     have hnn : r1.ss.l.length = d0.ss.l.length := by have h9 := congrArg (fun z => z.ss.length) hr1; simpa [Rcd.p] using h9
     have hns0 := hz0.ns
     refine WP.region rfl ?_
     refine WO.V (run_fa 1 ⟨g64, 1, none⟩ rfl rfl) ?_
     refine WO.V (run_load Ty.ag23 rfl ((hS65.cel_at 0 rfl 1).trans rfl)) ?_
     refine WO.V (run_len rfl Tryd.underlying23 rfl) ?_
     refine WO.V (run_lss rfl rfl) ?_
     refine WO.mv rfl rfl ?_
     refine dcase (p := ((r1.ss.l.length : Nat) : Int) < 1) (fun g61 d61 => ?_) (fun g61 d61 => ?_)
     ·
      refine WO.off rfl rfl d61 rfl ?_
      refine WO.off rfl rfl d61 rfl ?_
      refine WO.off rfl rfl d61 rfl ?_
      refine WO.off rfl rfl d61 rfl ?_
      refine WO.V (run_pickT rfl d61 rfl) ?_
      refine WO.mv rfl rfl ?_
      refine WO.off rfl rfl rfl rfl ?_
      refine WO.off rfl rfl rfl rfl ?_
      refine WO.off rfl rfl rfl rfl ?_
      refine WO.off rfl rfl rfl rfl ?_
      refine WO.off rfl rfl rfl rfl ?_
      refine WO.V (run_pickT rfl rfl rfl) ?_
      refine WO.nil (NX.go ?_)
      refine WP.condT rfl rfl ?_
      refine WP.seq (WP.region rfl ?_)
      refine WO.asg rfl rfl ?_
      refine WO.nil (NX.go (WP.ret (NX.thenRet ?_)))
      refine NX.done (l := [.tmp 6]) rfl rfl ?_
      exact ⟨rfl, hS65.drop.drop.drop.drop.drop.drop.drop.drop.drop⟩
     ·
      refine WO.on rfl rfl d61 ?_
      refine WO.V (run_fa 1 ⟨g64, 1, none⟩ rfl rfl) ?_
      refine WO.on rfl rfl d61 ?_
      refine WO.V (run_load Ty.ag23 rfl ((hS65.cel_at 0 rfl 1).trans rfl)) ?_
      refine WO.on rfl rfl d61 ?_
      refine WO.V (run_len rfl Tryd.underlying23 rfl) ?_
      refine WO.on rfl rfl d61 ?_
      refine WO.V (run_geq rfl rfl) ?_
      refine WO.V (run_pickF rfl d61 rfl) ?_
      refine WO.mv rfl rfl ?_
      refine dcase (p := 32 ≤ ((r1.ss.l.length : Nat) : Int)) (fun g67 d67 => ?_) (fun g67 d67 => ?_)
      ·
       refine WO.off rfl rfl d67 rfl ?_
       refine WO.off rfl rfl d67 rfl ?_
       refine WO.off rfl rfl d67 rfl ?_
       refine WO.off rfl rfl d67 rfl ?_
       refine WO.off rfl rfl d67 rfl ?_
       refine WO.V (run_pickT rfl d67 rfl) ?_
       refine WO.nil (NX.go ?_)
       refine WP.condT rfl rfl ?_
       refine WP.seq (WP.region rfl ?_)
       refine WO.asg rfl rfl ?_
       refine WO.nil (NX.go (WP.ret (NX.thenRet ?_)))
       refine NX.done (l := [.tmp 6]) rfl rfl ?_
       exact ⟨rfl, hS65.drop.drop.drop.drop.drop.drop.drop.drop.drop⟩
      ·
       refine WO.on rfl rfl d67 ?_
       refine WO.mv rfl rfl ?_
       refine WO.on rfl rfl d67 ?_
       refine WO.V (run_loadAgg (vs := (rcc d0)) Ty.ag26 Ty.sz26 rfl rfl (cell_all (hS65.cel_at 8 rfl) 0 rfl)) ?_
       refine WO.on rfl rfl d67 ?_
       have hS66 := hS65.permT [4] (L' := recA d0 :: cel g64 (rcc r1) 26 :: own r1.ss.a r1.ss.l.length r1.ss.cap 40 3 (r1.ss.l.flatMap smc) :: (rdH r1.ms.a r1.ms.l.length 3 (r1.ms.l.flatMap mtc)) :: smsA r1.ss.l :: hdA 56 61 51 gh A :: (rdH a rs.length 5 (rs.flatMap rcc)) :: allA recA rs :: cel g2 (rcc d0) 26 :: L) rfl
       clear hS65
       refine WO.call rfl rfl Ty.hd10 rfl (own12_spec d0 hz0 hS66) (fun v68 w67 pv68 => ?_)
       obtain ⟨r2, rfl, hr2, hS67⟩ := pv68
       clear hS66
       refine WO.on rfl rfl d67 ?_
       have hS69 := hS67.permT [6] (L' := hdA 56 61 51 gh A :: recA r2 :: recA d0 :: cel g64 (rcc r1) 26 :: own r1.ss.a r1.ss.l.length r1.ss.cap 40 3 (r1.ss.l.flatMap smc) :: (rdH r1.ms.a r1.ms.l.length 3 (r1.ms.l.flatMap mtc)) :: smsA r1.ss.l :: (rdH a rs.length 5 (rs.flatMap rcc)) :: allA recA rs :: cel g2 (rcc d0) 26 :: L) rfl
       clear hS67
       refine WO.call rfl rfl Ty.hd12 rfl ((by have z := htryP_spec (g := gh) hA (by omega) (by omega) r2 (SzR.of_p hr2 hz0) hS69; rw [hr2] at z; exact z)) (fun v71 w70 pv71 => ?_)
       obtain ⟨rfl, hS70⟩ := pv71
       clear hS69
       refine WO.on rfl rfl d67 ?_
       refine WO.V (run_neq rfl rfl) ?_
       refine WO.V (run_pickF rfl d67 rfl) ?_
       refine WO.nil (NX.go ?_)
       refine WP.condP rfl (fun g73 => ?_) (fun g73 => ?_)
       ·
        refine WP.seq (WP.region rfl ?_)
        refine WO.asg rfl rfl ?_
        refine WO.nil (NX.go (WP.ret (NX.thenRet ?_)))
        refine NX.done (l := [.tmp 6]) rfl rfl ?_
        exact ⟨rfl, hS70.drop.drop.drop.drop.drop.drop.drop.drop.drop.drop⟩
       ·
        refine WP.skip (NX.go (WP.seq ?_))
        have ht0 : tryP A d0.p = 0 := by simpa using g73
        have hk1 : d0.p.k = 1 := by show d0.k = 1; simpa using g31
        obtain ⟨kk, hkk, hkl⟩ : ∃ kk : Nat, (at9 % 18446744073709551616).tmod ((r1.ss.l.length : Nat) : Int) = ((kk : Nat) : Int) ∧ kk < r1.ss.l.length := ⟨((at9 % 18446744073709551616).tmod ((r1.ss.l.length : Nat) : Int)).toNat, (Int.toNat_of_nonneg (Int.tmod_nonneg _ (Int.emod_nonneg _ (by decide)))).symm, by have h2 := Int.tmod_nonneg ((r1.ss.l.length : Nat) : Int) (Int.emod_nonneg at9 (show (18446744073709551616 : Int) ≠ 0 by decide)); have h3 := Int.tmod_lt_of_pos (at9 % 18446744073709551616) (show (0 : Int) < ((r1.ss.l.length : Nat) : Int) by omega); omega⟩
        obtain ⟨z1, hz1⟩ : ∃ qq, r1.ss.l[kk]? = some qq := ⟨_, List.getElem?_eq_getElem (by omega)⟩
        refine WP.region rfl ?_
        refine WO.mv rfl rfl ?_
        refine WO.V (run_convI Tryd.underlying37 (by kernel_rfl) rfl (IntKind.wrap_u64 _)) ?_
        refine WO.V (run_fa 1 ⟨g64, 1, none⟩ rfl rfl) ?_
        refine WO.V (run_load Ty.ag23 rfl ((hS70.cel_at 3 rfl 1).trans rfl)) ?_
        refine WO.V (run_len rfl Tryd.underlying23 rfl) ?_
        refine WO.V (run_convI Tryd.underlying37 (by kernel_rfl) rfl (IntWalk.u64_in _ (by omega))) ?_
        refine WO.V (run_rem rfl rfl (by omega) hkk) ?_
        refine WO.V (run_convI Tryd.underlying3 (by kernel_rfl) rfl (IntWalk.i64_in _ (by omega))) ?_
        refine WO.asg rfl rfl ?_
        refine WO.nil (NX.go (WP.seq ?_))
        have hso : r1.ss.a.isSome = true := rd_isSome ((hS70.own_rd_i 4 rfl)) (by omega)
        refine WD.start (fun w => (∀ jz, World.cell? w ⟨g64, jz, none⟩ = (rcc r1)[jz]?) ∧ (∀ jz, World.cell? w ⟨g2, jz, none⟩ = (rcc d0)[jz]?) ∧ Rd w r1.ss.a r1.ss.l.length 3 (r1.ss.l.flatMap smc)) [8, 10] (bt 11 0) Ty.mo rfl (by kernel_rfl) hS70 (fun _ h => ⟨h.cel_at 3 rfl, h.cel_at 9 rfl, (h.own_rd_i 4 rfl)⟩) (fun w72 hS72 s73 => ?_)
        clear hS70
        refine DP (i := 0) t3_15 (bt 11 1) rfl rfl rfl rfl (fun w => run_fa 1 ⟨g64, 1, none⟩ rfl rfl) ?_
        refine DT (i := 1) t3_15 (bt 11 3) s73 rfl rfl rfl rfl (fun w hs => run_load Ty.ag23 rfl ((hs.1 1).trans rfl)) ?_
        refine DP (i := 2) t3_15 (bt 11 7) rfl rfl rfl rfl (fun w => run_fa 1 ⟨g64, 1, none⟩ rfl rfl) ?_
        refine DT (i := 3) t3_15 (bt 11 15) s73 rfl rfl rfl rfl (fun w hs => run_load Ty.ag23 rfl ((hs.1 1).trans rfl)) ?_
        refine DP (i := 4) t3_15 (bt 11 31) rfl rfl rfl rfl (fun w => run_move rfl) ?_
        refine DT (i := 5) t3_15 (bt 11 63) s73 rfl rfl rfl rfl (fun w hs => run_indexAddr (q := adr r1.ss.a (kk * 3)) Tryd.underlying23 Ty.sz40 rfl rfl (by omega) (by omega) ((hs.2.2).2.1 (by omega)) rfl) ?_
        refine DT (i := 6) t3_15 (bt 11 127) s73 rfl rfl rfl rfl (fun w hs => run_loadAgg (vs := (smc z1)) Ty.ag40 Ty.sz40 rfl ((hs.2.2).cells (by rw [flat_len smc_len]; omega) (flat_part smc_len hz1)).1 ((hs.2.2).cells (by rw [flat_len smc_len]; omega) (flat_part smc_len hz1)).2) ?_
        refine WD.one (i := 7) t3_15 (bt 11 255) rfl (by kernel_rfl) ?_
        refine WO.buildSlice (l := (smc z1)) hS72 Tryd.underlying23 rfl (fun w => by kernel_rfl) rfl (fun g75 w74 lg75 hS74 => ?_)
        clear hS72
        refine WO.nil ?_
        have s76 : (∀ jz, World.cell? w74 ⟨g64, jz, none⟩ = (rcc r1)[jz]?) ∧ (∀ jz, World.cell? w74 ⟨g2, jz, none⟩ = (rcc d0)[jz]?) ∧ Rd w74 r1.ss.a r1.ss.l.length 3 (r1.ss.l.flatMap smc) := ⟨hS74.cel_at 4 rfl, hS74.cel_at 10 rfl, (hS74.own_rd_i 5 rfl)⟩
        refine NX.held s76 ?_
        refine WD.one (i := 8) t3_15 (bt 11 511) rfl (by kernel_rfl) ?_
        refine WO.append (news := (smc z1)) 5 rfl Tryd.underlying23 Tryd.underlying23 (fun _ h => by cases h) Ty.sz40 (by decide) Ty.by40 Ty.zr40 rfl rfl rfl rfl hS74 rfl ((hS74.cel_rd 0 rfl (o := 0) (m := 1) (k := 3) rfl (Nat.le_of_ble_eq_true rfl)).src) rfl (by omega) (by omega) (fun a78 c79 w77 hS77 => ?_)
        replace hS77 : St B (cel g75 (smc z1) 40 :: hdA 56 61 51 gh A :: recA r2 :: recA d0 :: cel g64 (rcc r1) 26 :: own a78 (r1.ss.l.length + 1) c79 40 3 ((r1.ss.l.flatMap smc) ++ (smc z1)) :: (rdH r1.ms.a r1.ms.l.length 3 (r1.ms.l.flatMap mtc)) :: smsA r1.ss.l :: (rdH a rs.length 5 (rs.flatMap rcc)) :: allA recA rs :: cel g2 (rcc d0) 26 :: L) w77 := hS77
        clear hS74
        refine WO.nil ?_
        refine NX.last (by decide) ?_
        refine DP (i := 9) t3_15 (bt 11 1023) rfl rfl rfl rfl (fun w => run_fa 1 ⟨g64, 1, none⟩ rfl rfl) ?_
        refine WD.one (i := 10) t3_15 (bt 11 2047) rfl (by kernel_rfl) ?_
        refine WO.store (l' := [Value.int .i64 r1.k, Value.slice a78 (r1.ss.l.length + 1) c79, Value.slice r1.ms.a r1.ms.l.length r1.ms.cap, Value.int .i64 r1.fr, Value.int .i64 r1.to]) 4 hS77 rfl Ty.sz23 rfl rfl rfl rfl rfl (Nat.le_of_ble_eq_true rfl) rfl (fun w80 (hS80 : St B (cel g75 (smc z1) 40 :: hdA 56 61 51 gh A :: recA r2 :: recA d0 :: cel g64 [Value.int .i64 r1.k, Value.slice a78 (r1.ss.l.length + 1) c79, Value.slice r1.ms.a r1.ms.l.length r1.ms.cap, Value.int .i64 r1.fr, Value.int .i64 r1.to] 26 :: own a78 (r1.ss.l.length + 1) c79 40 3 ((r1.ss.l.flatMap smc) ++ (smc z1)) :: (rdH r1.ms.a r1.ms.l.length 3 (r1.ms.l.flatMap mtc)) :: smsA r1.ss.l :: (rdH a rs.length 5 (rs.flatMap rcc)) :: allA recA rs :: cel g2 (rcc d0) 26 :: L) w80) => ?_)
        clear hS77
        refine WO.nil ?_
        refine NX.last (by decide) ?_
        refine WD.done t3_15 (by kernel_rfl) ?_
        refine NX.go (WP.seq ?_)
        obtain ⟨r4, hr4, hz4, hS81⟩ : ∃ r4 : Rcd, r4.p = (⟨d0.p.k, d0.p.ss ++ [z1.p], d0.p.ms, d0.p.fr, d0.p.to⟩ : RcP) ∧ SzR r4 ∧ St B (recA r4 :: cel g64 (rcc r4) 26 :: hdA 56 61 51 gh A :: (rdH a rs.length 5 (rs.flatMap rcc)) :: allA recA rs :: recA d0 :: cel g75 (smc z1) 40 :: cel g2 (rcc d0) 26 :: L) w80 := by
         have hz1r := SzR.of_p hr1 hz0
         have y1 := smsA_get hz1 (hS80.permT [7] (L' := smsA r1.ss.l :: cel g75 (smc z1) 40 :: hdA 56 61 51 gh A :: recA r2 :: recA d0 :: cel g64 [Value.int .i64 r1.k, Value.slice a78 (r1.ss.l.length + 1) c79, Value.slice r1.ms.a r1.ms.l.length r1.ms.cap, Value.int .i64 r1.fr, Value.int .i64 r1.to] 26 :: own a78 (r1.ss.l.length + 1) c79 40 3 ((r1.ss.l.flatMap smc) ++ (smc z1)) :: (rdH r1.ms.a r1.ms.l.length 3 (r1.ms.l.flatMap mtc)) :: (rdH a rs.length 5 (rs.flatMap rcc)) :: allA recA rs :: cel g2 (rcc d0) 26 :: L) rfl)
         have y2 := smsA_snoc (y1.permT [1, 0] (L' := smsA r1.ss.l :: labA z1.lb :: cel g75 (smc z1) 40 :: hdA 56 61 51 gh A :: recA r2 :: recA d0 :: cel g64 [Value.int .i64 r1.k, Value.slice a78 (r1.ss.l.length + 1) c79, Value.slice r1.ms.a r1.ms.l.length r1.ms.cap, Value.int .i64 r1.fr, Value.int .i64 r1.to] 26 :: own a78 (r1.ss.l.length + 1) c79 40 3 ((r1.ss.l.flatMap smc) ++ (smc z1)) :: (rdH r1.ms.a r1.ms.l.length 3 (r1.ms.l.flatMap mtc)) :: (rdH a rs.length 5 (rs.flatMap rcc)) :: allA recA rs :: cel g2 (rcc d0) 26 :: L) rfl)
         have e9 : r1.ss.l.length + 1 = (r1.ss.l ++ [z1]).length := by rw [List.length_append]; rfl
         have y3 := own_eqM (l' := (r1.ss.l ++ [z1]).flatMap smc) (((y2.mask [true, true, true, false] (L' := smsA (r1.ss.l ++ [z1]) :: cel g75 (smc z1) 40 :: hdA 56 61 51 gh A :: recA d0 :: cel g64 [Value.int .i64 r1.k, Value.slice a78 (r1.ss.l.length + 1) c79, Value.slice r1.ms.a r1.ms.l.length r1.ms.cap, Value.int .i64 r1.fr, Value.int .i64 r1.to] 26 :: own a78 (r1.ss.l.length + 1) c79 40 3 ((r1.ss.l.flatMap smc) ++ (smc z1)) :: (rdH r1.ms.a r1.ms.l.length 3 (r1.ms.l.flatMap mtc)) :: (rdH a rs.length 5 (rs.flatMap rcc)) :: allA recA rs :: cel g2 (rcc d0) 26 :: L) rfl).permT [5, 5, 0, 3, 1, 2, 2, 1] (L' := own a78 (r1.ss.l.length + 1) c79 40 3 ((r1.ss.l.flatMap smc) ++ (smc z1)) :: (rdH r1.ms.a r1.ms.l.length 3 (r1.ms.l.flatMap mtc)) :: smsA (r1.ss.l ++ [z1]) :: cel g64 [Value.int .i64 r1.k, Value.slice a78 (r1.ss.l.length + 1) c79, Value.slice r1.ms.a r1.ms.l.length r1.ms.cap, Value.int .i64 r1.fr, Value.int .i64 r1.to] 26 :: hdA 56 61 51 gh A :: (rdH a rs.length 5 (rs.flatMap rcc)) :: allA recA rs :: recA d0 :: cel g75 (smc z1) 40 :: cel g2 (rcc d0) 26 :: L) rfl)) rfl (by rw [List.flatMap_append]; simp [smc])
         rw [e9] at y3
         have y4 := rdH_own y3
         refine ⟨(⟨r1.k, ⟨a78, r1.ss.l ++ [z1], c79⟩, r1.ms, r1.fr, r1.to⟩ : Rcd), ?_, ⟨by show (r1.ss.l ++ [z1]).length ≤ _; rw [List.length_append]; simp; omega, hz1r.nm, hz1r.m, fun s hs => ?_⟩, ?_⟩
         · (rw [← hr1]; show RcP.mk _ ((r1.ss.l ++ [z1]).map Smp.p) _ _ _ = RcP.mk _ (r1.ss.l.map Smp.p ++ [z1.p]) _ _ _; rw [List.map_append]; rfl)
         · (rcases List.mem_append.1 hs with hs | hs; (· exact hz1r.s s hs); (· rw [List.mem_singleton.1 hs]; exact hz1r.s z1 (List.mem_of_getElem? hz1)))
         · exact ((((y4 : St B (rdH (⟨r1.k, ⟨a78, r1.ss.l ++ [z1], c79⟩, r1.ms, r1.fr, r1.to⟩ : Rcd).ss.a (⟨r1.k, ⟨a78, r1.ss.l ++ [z1], c79⟩, r1.ms, r1.fr, r1.to⟩ : Rcd).ss.l.length 3 ((⟨r1.k, ⟨a78, r1.ss.l ++ [z1], c79⟩, r1.ms, r1.fr, r1.to⟩ : Rcd).ss.l.flatMap smc) :: rdH (⟨r1.k, ⟨a78, r1.ss.l ++ [z1], c79⟩, r1.ms, r1.fr, r1.to⟩ : Rcd).ms.a (⟨r1.k, ⟨a78, r1.ss.l ++ [z1], c79⟩, r1.ms, r1.fr, r1.to⟩ : Rcd).ms.l.length 3 ((⟨r1.k, ⟨a78, r1.ss.l ++ [z1], c79⟩, r1.ms, r1.fr, r1.to⟩ : Rcd).ms.l.flatMap mtc) :: smsA (⟨r1.k, ⟨a78, r1.ss.l ++ [z1], c79⟩, r1.ms, r1.fr, r1.to⟩ : Rcd).ss.l :: cel g64 (rcc (⟨r1.k, ⟨a78, r1.ss.l ++ [z1], c79⟩, r1.ms, r1.fr, r1.to⟩ : Rcd)) 26 :: hdA 56 61 51 gh A :: (rdH a rs.length 5 (rs.flatMap rcc)) :: allA recA rs :: recA d0 :: cel g75 (smc z1) 40 :: cel g2 (rcc d0) 26 :: L) w80).permT [1, 1, 0] (L' := rdH (⟨r1.k, ⟨a78, r1.ss.l ++ [z1], c79⟩, r1.ms, r1.fr, r1.to⟩ : Rcd).ms.a (⟨r1.k, ⟨a78, r1.ss.l ++ [z1], c79⟩, r1.ms, r1.fr, r1.to⟩ : Rcd).ms.l.length 3 ((⟨r1.k, ⟨a78, r1.ss.l ++ [z1], c79⟩, r1.ms, r1.fr, r1.to⟩ : Rcd).ms.l.flatMap mtc) :: smsA (⟨r1.k, ⟨a78, r1.ss.l ++ [z1], c79⟩, r1.ms, r1.fr, r1.to⟩ : Rcd).ss.l :: rdH (⟨r1.k, ⟨a78, r1.ss.l ++ [z1], c79⟩, r1.ms, r1.fr, r1.to⟩ : Rcd).ss.a (⟨r1.k, ⟨a78, r1.ss.l ++ [z1], c79⟩, r1.ms, r1.fr, r1.to⟩ : Rcd).ss.l.length 3 ((⟨r1.k, ⟨a78, r1.ss.l ++ [z1], c79⟩, r1.ms, r1.fr, r1.to⟩ : Rcd).ss.l.flatMap smc) :: cel g64 (rcc (⟨r1.k, ⟨a78, r1.ss.l ++ [z1], c79⟩, r1.ms, r1.fr, r1.to⟩ : Rcd)) 26 :: hdA 56 61 51 gh A :: (rdH a rs.length 5 (rs.flatMap rcc)) :: allA recA rs :: recA d0 :: cel g75 (smc z1) 40 :: cel g2 (rcc d0) 26 :: L) rfl).join).permT [1, 0] (L' := rdH (⟨r1.k, ⟨a78, r1.ss.l ++ [z1], c79⟩, r1.ms, r1.fr, r1.to⟩ : Rcd).ss.a (⟨r1.k, ⟨a78, r1.ss.l ++ [z1], c79⟩, r1.ms, r1.fr, r1.to⟩ : Rcd).ss.l.length 3 ((⟨r1.k, ⟨a78, r1.ss.l ++ [z1], c79⟩, r1.ms, r1.fr, r1.to⟩ : Rcd).ss.l.flatMap smc) :: .sep (rdH (⟨r1.k, ⟨a78, r1.ss.l ++ [z1], c79⟩, r1.ms, r1.fr, r1.to⟩ : Rcd).ms.a (⟨r1.k, ⟨a78, r1.ss.l ++ [z1], c79⟩, r1.ms, r1.fr, r1.to⟩ : Rcd).ms.l.length 3 ((⟨r1.k, ⟨a78, r1.ss.l ++ [z1], c79⟩, r1.ms, r1.fr, r1.to⟩ : Rcd).ms.l.flatMap mtc)) (smsA (⟨r1.k, ⟨a78, r1.ss.l ++ [z1], c79⟩, r1.ms, r1.fr, r1.to⟩ : Rcd).ss.l) :: cel g64 (rcc (⟨r1.k, ⟨a78, r1.ss.l ++ [z1], c79⟩, r1.ms, r1.fr, r1.to⟩ : Rcd)) 26 :: hdA 56 61 51 gh A :: (rdH a rs.length 5 (rs.flatMap rcc)) :: allA recA rs :: recA d0 :: cel g75 (smc z1) 40 :: cel g2 (rcc d0) 26 :: L) rfl).join
        have hm1 : z1.p ∈ d0.p.ss := by rw [← hr1]; exact List.mem_map.2 ⟨z1, List.mem_of_getElem? hz1, rfl⟩
        have htx : tryP A (⟨d0.p.k, d0.p.ss ++ [z1.p], d0.p.ms, d0.p.fr, d0.p.to⟩ : RcP) = 14 := try_again hA.srt hk1 ht0 hm1 (by show (d0.ss.l.map Smp.p).length < 32; rw [List.length_map]; omega)
        refine WP.region rfl ?_
        refine WO.mv rfl rfl ?_
        refine WO.V (run_loadAgg (vs := (rcc r4)) Ty.ag26 Ty.sz26 rfl rfl (cell_all (hS81.cel_at 1 rfl) 0 rfl)) ?_
        have hS82 := hS81.permT [2] (L' := hdA 56 61 51 gh A :: recA r4 :: cel g64 (rcc r4) 26 :: (rdH a rs.length 5 (rs.flatMap rcc)) :: allA recA rs :: recA d0 :: cel g75 (smc z1) 40 :: cel g2 (rcc d0) 26 :: L) rfl
        clear hS81
        refine WO.call rfl rfl Ty.hd9 rfl (happlyP_spec (g := gh) hA (by omega) (by omega) r4 hz4 hS82) (fun v84 w83 pv84 => ?_)
        obtain ⟨hv, hS83⟩ := pv84
        clear hS82
        replace hv : v84 = Value.int .i64 14 := (hv.trans (congrArg (Value.int .i64) (by rw [hr4]; exact htx)))
        subst hv
        replace hS83 : St B (hdA 56 61 51 gh A :: recA r4 :: cel g64 (rcc r4) 26 :: (rdH a rs.length 5 (rs.flatMap rcc)) :: allA recA rs :: recA d0 :: cel g75 (smc z1) 40 :: cel g2 (rcc d0) 26 :: L) w83 := (by have z := hS83; rw [applyP_bad (by rw [hr4, htx]; decide)] at z; exact z)
        refine WO.asg rfl rfl ?_
        refine WO.nil (NX.go (WP.seq (WP.region rfl ?_)))
        refine WO.mv rfl rfl ?_
        refine WO.call rfl rfl Ty.hd11 rfl (hcounts_spec (g := gh) hpts hS83) (fun v86 w85 pv86 => ?_)
        obtain ⟨rfl, hS85⟩ := pv86
        clear hS83
        refine WO.mv rfl rfl ?_
        refine WO.V (run_extract rfl rfl) ?_
        refine WO.V (run_extract rfl rfl) ?_
        refine WO.asg rfl rfl ?_
        refine WO.asg rfl rfl ?_
        refine WO.nil (NX.go (WP.seq (WP.region rfl ?_)))
        refine WO.mv rfl rfl ?_
        refine WO.V (run_loadAgg (vs := (rcc d0)) Ty.ag26 Ty.sz26 rfl rfl (cell_all (hS85.cel_at 7 rfl) 0 rfl)) ?_
        have hS87 := hS85.permT [5] (L' := recA d0 :: hdA 56 61 51 gh A :: recA r4 :: cel g64 (rcc r4) 26 :: (rdH a rs.length 5 (rs.flatMap rcc)) :: allA recA rs :: cel g75 (smc z1) 40 :: cel g2 (rcc d0) 26 :: L) rfl
        clear hS85
        refine WO.call rfl rfl Ty.hd10 rfl (own12_spec d0 hz0 hS87) (fun v89 w88 pv89 => ?_)
        obtain ⟨r3, rfl, hr3, hS88⟩ := pv89
        clear hS87
        have hS90 := hS88.permT [2] (L' := hdA 56 61 51 gh A :: recA r3 :: recA d0 :: recA r4 :: cel g64 (rcc r4) 26 :: (rdH a rs.length 5 (rs.flatMap rcc)) :: allA recA rs :: cel g75 (smc z1) 40 :: cel g2 (rcc d0) 26 :: L) rfl
        clear hS88
        refine WO.call rfl rfl Ty.hd9 rfl (happlyP_spec (g := gh) hA (by omega) (by omega) r3 (SzR.of_p hr3 hz0) hS90) (fun v92 w91 pv92 => ?_)
        obtain ⟨hv, hS91⟩ := pv92
        clear hS90
        replace hv : v92 = Value.int .i64 0 := (hv.trans (congrArg (Value.int .i64) (by rw [hr3]; exact ht0)))
        subst hv
        replace hS91 : St B (hdA 56 61 51 gh (applyP A d0.p) :: recA r3 :: recA d0 :: recA r4 :: cel g64 (rcc r4) 26 :: (rdH a rs.length 5 (rs.flatMap rcc)) :: allA recA rs :: cel g75 (smc z1) 40 :: cel g2 (rcc d0) 26 :: L) w91 := (by have z := hS91; rw [hr3] at z; exact z)
        refine WO.asg rfl rfl ?_
        refine WO.nil (NX.go (WP.seq ?_))
        have hap := apply_pts hk1 ht0
        have hpl : d0.p.ss.length = d0.ss.l.length := List.length_map ..
        have hpts2 : ptsN (applyP A d0.p) ≤ 1000000000000000 := by rw [hap, hpl]; have h8 := Nat.le_trans (ptsN_le hA.pts) (Nat.mul_le_mul hAl (show 32 * i ≤ 960 by omega)); omega
        refine WP.region rfl ?_
        refine WO.mv rfl rfl ?_
        refine WO.call rfl rfl Ty.hd11 rfl (hcounts_spec (g := gh) hpts2 hS91) (fun v94 w93 pv94 => ?_)
        obtain ⟨rfl, hS93⟩ := pv94
        clear hS91
        refine WO.mv rfl rfl ?_
        refine WO.V (run_extract rfl rfl) ?_
        refine WO.V (run_extract rfl rfl) ?_
        refine WO.asg rfl rfl ?_
        refine WO.asg rfl rfl ?_
        refine WO.nil (NX.go (WP.seq (WP.region rfl ?_)))
        refine WO.mv rfl rfl ?_
        refine WO.V (run_eql rfl rfl) ?_
        refine WO.mv rfl rfl ?_
        refine WO.on rfl rfl (by decide) ?_
        refine WO.mv rfl rfl ?_
        refine WO.on rfl rfl (by decide) ?_
        refine WO.mv rfl rfl ?_
        refine WO.on rfl rfl (by decide) ?_
        refine WO.V (run_eql rfl rfl) ?_
        refine WO.V (run_pickT rfl (by decide) rfl) ?_
        refine WO.mv rfl rfl ?_
        refine WO.on rfl rfl (decide_eq_true rfl) ?_
        refine WO.mv rfl rfl ?_
        refine WO.on rfl rfl (decide_eq_true rfl) ?_
        refine WO.mv rfl rfl ?_
        refine WO.on rfl rfl (decide_eq_true rfl) ?_
        refine WO.V (run_eql rfl rfl) ?_
        refine WO.V (run_pickT rfl (decide_eq_true rfl) rfl) ?_
        refine WO.mv rfl rfl ?_
        refine WO.on rfl rfl (decide_eq_true rfl) ?_
        refine WO.mv rfl rfl ?_
        refine WO.on rfl rfl (decide_eq_true rfl) ?_
        refine WO.V (run_eql rfl rfl) ?_
        refine WO.V (run_pickT rfl (decide_eq_true rfl) rfl) ?_
        refine WO.mv rfl rfl ?_
        refine WO.on rfl rfl (by decide) ?_
        refine WO.mv rfl rfl ?_
        refine WO.on rfl rfl (by decide) ?_
        refine WO.mv rfl rfl ?_
        refine WO.on rfl rfl (by decide) ?_
        refine WO.V (run_fa 1 ⟨g2, 1, none⟩ rfl rfl) ?_
        refine WO.on rfl rfl (by decide) ?_
        refine WO.V (run_load Ty.ag23 rfl ((hS93.cel_at 8 rfl 1).trans rfl)) ?_
        refine WO.on rfl rfl (by decide) ?_
        refine WO.V (run_len rfl Tryd.underlying23 rfl) ?_
        refine WO.on rfl rfl (by decide) ?_
        refine WO.V (run_add rfl rfl (IntWalk.i64_in _ (by omega))) ?_
        refine WO.on rfl rfl (by decide) ?_
        refine WO.V (run_eql rfl rfl) ?_
        refine WO.V (run_pickT rfl (by decide) rfl) ?_
        refine WO.asg rfl rfl ?_
        refine WO.nil (NX.go (WP.ret ?_))
        refine NX.done (l := [.tmp 6]) rfl rfl ?_
        rw [hpl] at hap
        exact ⟨congrArg Value.bool (decide_eq_true (by omega)), hS93.drop.drop.drop.drop.drop.drop.drop.drop.drop⟩
end Go.Proofs.YtidoidoelgfnaaaDoor.SL
