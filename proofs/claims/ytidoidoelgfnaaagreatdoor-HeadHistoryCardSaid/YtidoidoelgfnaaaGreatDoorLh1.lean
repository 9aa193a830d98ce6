/- HeadHistory: the law. -/
import Derived.Test.YtidoidoelgfnaaaGreatDoorHl1M
import Derived.Test.YtidoidoelgfnaaaGreatDoorHk1M
import Derived.Test.YtidoidoelgfnaaaGreatDoorKrmM
namespace Go.Proofs.YtidoidoelgfnaaaGreatDoor.SL
open Go.RowKit Go.Proofs.YtidoidoelgfnaaaGreatDoor
open Go.Proofs.YtidoidoelgfnaaaGreatDoorW.PrintLast (rtab opsOf)
set_option linter.unusedVariables false
set_option linter.unusedSimpArgs false
theorem t6_14 : rtab .any (opsOf Tryz.f6 14) = (true, [([], []), ([], []), ([0, 1], [0, 1]), ([2], [2]), ([3], [3]), ([3], [3]), ([4, 5, 3], [3, 4, 5]), ([3, 6], [3, 6]), ([7, 3], [7]), ([8], [8]), ([8], [8]), ([10, 8], [8, 10]), ([8], [8]), ([12, 8], [8, 12]), ([8], [8]), ([14, 8], [8, 14]), ([9, 11, 13, 15, 8, 8], [8, 9, 11, 13, 15]), ([8], [8]), ([8], [8]), ([18, 8], [8, 18]), ([8], [8]), ([20, 8], [8, 20]), ([8], [8]), ([22, 8], [8, 22]), ([17, 19, 21, 23, 16, 8], [8, 17, 19, 21, 23]), ([16, 24, 24, 8], [8, 16, 24]), ([8, 25], [8, 25]), ([26, 25, 0, 1, 2, 3, 4, 5, 6, 7, 8, 9, 10, 11, 12, 13, 14, 15, 16, 17, 18, 19, 20, 21, 22, 23, 24, 25, 26], [26])]) := by kernel_rfl
theorem headHistory_core {B w : World} {L : List HP} {a : Option Addr} {cap : Nat} {rs : List Rcd} (q : AskV) (hrz : ∀ r ∈ rs, SzR r) (hrn : rs.length ≤ 2814749767106) (hqz : SzM q.ms.l) (hqn2 : q.ms.l.length ≤ 5864062014805) (hS : St B ((rdH a rs.length 5 (rs.flatMap rcc)) :: allA recA rs :: (rdH q.ms.a q.ms.l.length 3 (q.ms.l.flatMap mtc)) :: L) w) : Does Tryz.prog 6 [Value.slice a rs.length cap, Value.agg #[Value.slice q.ms.a q.ms.l.length q.ms.cap, Value.int .i64 q.fr, Value.int .i64 q.to]] w (fun v w1 => v = .bool true ∧ St B L w1) := by
 refine enter (n := 91) Tryz.func6 rfl rfl [Value.slice a rs.length cap, Value.agg #[Value.slice q.ms.a q.ms.l.length q.ms.cap, Value.int .i64 q.fr, Value.int .i64 q.to]] rfl ?_
 refine WP.seq (WP.region rfl ?_)
 refine WO.box (l := [Value.slice q.ms.a q.ms.l.length q.ms.cap, Value.int .i64 q.fr, Value.int .i64 q.to]) hS rfl rfl rfl (fun g2 w1 lg2 hS1 => ?_)
 clear hS
 refine WO.asg rfl rfl ?_
 refine WO.nil (NX.go (WP.seq (WP.seq (WP.region rfl ?_))))
 refine WO.call rfl rfl Ty.hd29 rfl (hworks_spec hS1) (fun v4 w3 pv4 => ?_)
 obtain ⟨rfl, hS3⟩ := pv4
 clear hS1
 refine WO.V (run_not rfl rfl) ?_
 refine WO.nil (NX.go ?_)
 refine WP.condF rfl (notB_t rfl) ?_
 refine WP.skip (NX.go (WP.seq (WP.seq (WP.region rfl ?_))))
 refine WO.mv rfl rfl ?_
 have hS5 := hS3.permT [1, 1] (L' := (rdH a rs.length 5 (rs.flatMap rcc)) :: allA recA rs :: cel g2 [Value.slice q.ms.a q.ms.l.length q.ms.cap, Value.int .i64 q.fr, Value.int .i64 q.to] 26 :: (rdH q.ms.a q.ms.l.length 3 (q.ms.l.flatMap mtc)) :: L) rfl
 clear hS3
 refine WO.call rfl rfl Ty.hd30 rfl (g13_spec rdH_rd hrz hrn hS5) (fun v7 w6 pv7 => ?_)
 obtain ⟨⟨qg, rfl, hqg⟩, hS6⟩ := pv7
 clear hS5
 refine WO.mv rfl rfl ?_
 rcases Bool.eq_false_or_eq_true qg with g17 | g17
 ·
  refine WO.off rfl rfl g17 rfl ?_
  refine WO.off rfl rfl g17 rfl ?_
  refine WO.off rfl rfl g17 rfl ?_
  refine WO.off rfl rfl g17 rfl ?_
  refine WO.V (run_pickT rfl g17 rfl) ?_
  refine WO.nil (NX.go ?_)
  refine WP.condT rfl rfl ?_
  refine WP.seq (WP.region rfl ?_)
  refine WO.asg rfl rfl ?_
  refine WO.nil (NX.go (WP.ret (NX.thenRet ?_)))
  refine NX.done (l := [.tmp 4]) rfl rfl ?_
  exact ⟨rfl, hS6.drop.drop.drop.drop⟩
 ·
  refine WO.on rfl rfl g17 ?_
  refine WO.V (run_fa 0 ⟨g2, 0, none⟩ rfl rfl) ?_
  refine WO.on rfl rfl g17 ?_
  refine WO.V (run_load Ty.ag24 rfl ((hS6.cel_at 2 rfl 0).trans rfl)) ?_
  refine WO.on rfl rfl g17 ?_
  refine WO.V (run_len rfl Tryz.underlying24 rfl) ?_
  refine WO.on rfl rfl g17 ?_
  refine WO.V (run_gtr rfl rfl) ?_
  refine WO.V (run_pickF rfl g17 rfl) ?_
  refine WO.nil (NX.go ?_)
  refine WP.condP rfl (fun g22 => ?_) (fun g22 => ?_)
  ·
   refine WP.seq (WP.region rfl ?_)
   refine WO.asg rfl rfl ?_
   refine WO.nil (NX.go (WP.ret (NX.thenRet ?_)))
   refine NX.done (l := [.tmp 4]) rfl rfl ?_
   exact ⟨rfl, hS6.drop.drop.drop.drop⟩
  ·
   refine WP.skip (NX.go (WP.seq ?_))
   have hqn : q.ms.l.length ≤ 4398046511104 := by omega
   have hrs2 := hqg g17
   refine WP.region rfl ?_
   refine WO.call rfl rfl Ty.hd31 rfl (new_spec hS6) (fun v9 w8 pv9 => ?_)
   obtain ⟨gh, rfl, hS8⟩ := pv9
   clear hS6
   refine WO.call rfl rfl Ty.hd31 rfl (new_spec hS8) (fun v11 w10 pv11 => ?_)
   obtain ⟨gk, rfl, hS10⟩ := pv11
   clear hS8
   refine WO.asg rfl rfl ?_
   refine WO.asg rfl rfl ?_
   refine WO.nil (NX.go (WP.seq (WP.seq (WP.region rfl ?_))))
   refine WO.asg rfl rfl ?_
   refine WO.nil (NX.go (WP.block ?_))
   refine WP.loop (α := Nat × List RowP) (fun x => match x with | ⟨i, A⟩ => [(0, Value.slice a rs.length cap), (3, Value.pointer (some ⟨g2, 0, none⟩)), (5, Value.pointer (some ⟨gh, 0, none⟩)), (6, Value.pointer (some ⟨gk, 0, none⟩)), (7, Value.int .i64 (i : Int))]) (fun x w => match x with | ⟨i, A⟩ => (i ≤ rs.length ∧ i ≤ 50 ∧ WfH A (32 * i) ∧ A.length ≤ 256) ∧ St B (hdA 126 131 103 gh A :: hdA 126 131 103 gk A :: (rdH a rs.length 5 (rs.flatMap rcc)) :: allA recA rs :: (rdH q.ms.a q.ms.l.length 3 (q.ms.l.flatMap mtc)) :: cel g2 [Value.slice q.ms.a q.ms.l.length q.ms.cap, Value.int .i64 q.fr, Value.int .i64 q.to] 26 :: L) w) (fun x => match x with | ⟨i, A⟩ => rs.length - i) (0, []) ⟨⟨Nat.zero_le _, Nat.zero_le _, wf_nil _, Nat.zero_le _⟩, (hS10.permT [1, 0, 0, 0, 1] (L' := hdA 126 131 103 gh [] :: hdA 126 131 103 gk [] :: (rdH a rs.length 5 (rs.flatMap rcc)) :: allA recA rs :: (rdH q.ms.a q.ms.l.length 3 (q.ms.l.flatMap mtc)) :: cel g2 [Value.slice q.ms.a q.ms.l.length q.ms.cap, Value.int .i64 q.fr, Value.int .i64 q.to] 26 :: L) rfl)⟩ (Sub.cons rfl (Sub.cons rfl (Sub.cons rfl (Sub.cons rfl (Sub.consE rfl (by first | rfl | first | rfl | (congr 1; omega) | (simp; done) | (simp; omega)) (Sub.nil _)))))) ?_
   rintro ⟨i, A⟩ w12 ⟨⟨hi, hi5, hA, hAl⟩, hS12⟩
   clear hS10
   refine WP.seq (WP.seq (WP.region rfl ?_))
   refine WO.mv rfl rfl ?_
   refine WO.mv rfl rfl ?_
   refine WO.V (run_len rfl Tryz.underlying23 rfl) ?_
   refine WO.V (run_lss rfl rfl) ?_
   refine WO.mv rfl rfl ?_
   refine dcase (p := (i : Int) < ((rs.length : Nat) : Int)) (fun g29 d29 => ?_) (fun g29 d29 => ?_)
   ·
    refine WO.on rfl rfl d29 ?_
    refine WO.mv rfl rfl ?_
    refine WO.on rfl rfl d29 ?_
    refine WO.V (run_lss rfl rfl) ?_
    refine WO.V (run_pickT rfl d29 rfl) ?_
    refine WO.nil (NX.go ?_)
    refine WP.condP rfl (fun g32 => ?_) (fun g32 => ?_)
    ·
     refine WP.skip (NX.go (WP.seq (WP.block (WP.seq ?_))))
     obtain ⟨d1, hd1⟩ : ∃ qq, rs[i]? = some qq := ⟨_, List.getElem?_eq_getElem (by omega)⟩
     have hzd := hrz d1 (List.mem_of_getElem? hd1)
     have hS13 := allA_get recA_pers (List.mem_of_getElem? hd1) (hS12.permT [3] (L' := allA recA rs :: hdA 126 131 103 gh A :: hdA 126 131 103 gk A :: (rdH a rs.length 5 (rs.flatMap rcc)) :: (rdH q.ms.a q.ms.l.length 3 (q.ms.l.flatMap mtc)) :: cel g2 [Value.slice q.ms.a q.ms.l.length q.ms.cap, Value.int .i64 q.fr, Value.int .i64 q.to] 26 :: L) rfl)
     clear hS12
     refine WP.region rfl ?_
     refine WO.mv rfl rfl ?_
     refine WO.mv rfl rfl ?_
     refine WO.mv rfl rfl ?_
     refine WO.V (run_indexAddr (q := adr a (i * 5)) Tryz.underlying23 Ty.sz33 rfl rfl (by omega) (by omega) ((rdH_rd (hS13.focus 4 rfl)).2.1 (by omega)) rfl) ?_
     refine WO.V (run_loadAgg (vs := (rcc d1)) Ty.ag33 Ty.sz33 rfl ((rdH_rd (hS13.focus 4 rfl)).cells (by rw [flat_len rcc_len]; omega) (flat_part rcc_len hd1)).1 ((rdH_rd (hS13.focus 4 rfl)).cells (by rw [flat_len rcc_len]; omega) (flat_part rcc_len hd1)).2) ?_
     refine WO.call rfl rfl Ty.hd16 rfl (own12_spec d1 hzd hS13) (fun v15 w14 pv15 => ?_)
     obtain ⟨r1, rfl, hr1, hS14⟩ := pv15
     clear hS13
     have hS16 := hS14.permT [3] (L' := hdA 126 131 103 gh A :: recA r1 :: recA d1 :: allA recA rs :: hdA 126 131 103 gk A :: (rdH a rs.length 5 (rs.flatMap rcc)) :: (rdH q.ms.a q.ms.l.length 3 (q.ms.l.flatMap mtc)) :: cel g2 [Value.slice q.ms.a q.ms.l.length q.ms.cap, Value.int .i64 q.fr, Value.int .i64 q.to] 26 :: L) rfl
     clear hS14
     refine WO.call rfl rfl Ty.hd32 rfl ((by have z := happlyP_spec (g := gh) hA (by omega) (by omega) r1 (SzR.of_p hr1 hzd) hS16; rw [hr1] at z; exact z)) (fun v18 w17 pv18 => ?_)
     obtain ⟨rfl, hS17⟩ := pv18
     clear hS16
     refine WO.asg rfl rfl ?_
     refine WO.nil (NX.go (WP.seq (WP.region rfl ?_)))
     refine WO.mv rfl rfl ?_
     refine WO.V (run_eql rfl rfl) ?_
     refine WO.mv rfl rfl ?_
     refine dcase (p := (tryP A d1.p) = 0) (fun g44 d44 => ?_) (fun g44 d44 => ?_)
     ·
      refine WO.on rfl rfl d44 ?_
      refine WO.mv rfl rfl ?_
      refine WO.on rfl rfl d44 ?_
      refine WO.mv rfl rfl ?_
      refine WO.on rfl rfl d44 ?_
      refine WO.mv rfl rfl ?_
      refine WO.on rfl rfl d44 ?_
      refine WO.V (run_indexAddr (q := adr a (i * 5)) Tryz.underlying23 Ty.sz33 rfl rfl (by omega) (by omega) ((rdH_rd (hS17.focus 5 rfl)).2.1 (by omega)) rfl) ?_
      refine WO.on rfl rfl d44 ?_
      refine WO.V (run_loadAgg (vs := (rcc d1)) Ty.ag33 Ty.sz33 rfl ((rdH_rd (hS17.focus 5 rfl)).cells (by rw [flat_len rcc_len]; omega) (flat_part rcc_len hd1)).1 ((rdH_rd (hS17.focus 5 rfl)).cells (by rw [flat_len rcc_len]; omega) (flat_part rcc_len hd1)).2) ?_
      refine WO.on rfl rfl d44 ?_
      have hS19 := hS17.permT [2] (L' := recA d1 :: hdA 126 131 103 gh (applyP A d1.p) :: recA r1 :: allA recA rs :: hdA 126 131 103 gk A :: (rdH a rs.length 5 (rs.flatMap rcc)) :: (rdH q.ms.a q.ms.l.length 3 (q.ms.l.flatMap mtc)) :: cel g2 [Value.slice q.ms.a q.ms.l.length q.ms.cap, Value.int .i64 q.fr, Value.int .i64 q.to] 26 :: L) rfl
      clear hS17
      refine WO.call rfl rfl Ty.hd16 rfl (own12_spec d1 hzd hS19) (fun v21 w20 pv21 => ?_)
      obtain ⟨r2, rfl, hr2, hS20⟩ := pv21
      clear hS19
      refine WO.on rfl rfl d44 ?_
      have hS22 := hS20.permT [5] (L' := hdA 126 131 103 gk A :: recA r2 :: recA d1 :: hdA 126 131 103 gh (applyP A d1.p) :: recA r1 :: allA recA rs :: (rdH a rs.length 5 (rs.flatMap rcc)) :: (rdH q.ms.a q.ms.l.length 3 (q.ms.l.flatMap mtc)) :: cel g2 [Value.slice q.ms.a q.ms.l.length q.ms.cap, Value.int .i64 q.fr, Value.int .i64 q.to] 26 :: L) rfl
      clear hS20
      refine WO.call rfl rfl Ty.hd32 rfl ((by have z := happlyP_spec (g := gk) hA (by omega) (by omega) r2 (SzR.of_p hr2 hzd) hS22; rw [hr2] at z; exact z)) (fun v24 w23 pv24 => ?_)
      obtain ⟨rfl, hS23⟩ := pv24
      clear hS22
      refine WO.on rfl rfl d44 ?_
      refine WO.V (run_neq rfl rfl) ?_
      refine WO.V (run_pickT rfl d44 rfl) ?_
      refine WO.nil (NX.go ?_)
      refine WP.condP rfl (fun g53 => ?_) (fun g53 => ?_)
      ·
       exact absurd g44 g53
      ·
       refine WP.skip (NX.blk (NX.go (WP.region rfl ?_)))
       refine WO.mv rfl rfl ?_
       refine WO.V (run_add rfl rfl (IntWalk.i64_in _ (by omega))) ?_
       refine WO.asg rfl rfl ?_
       refine WO.nil ?_
       exact NX.again (i + 1, (applyP A d1.p)) ⟨⟨by omega, by omega, wf_applyP hA, applyP_len hAl⟩, ((hS23.mask [true, false, false, true, false] (L' := hdA 126 131 103 gk (applyP A d1.p) :: hdA 126 131 103 gh (applyP A d1.p) :: allA recA rs :: (rdH a rs.length 5 (rs.flatMap rcc)) :: (rdH q.ms.a q.ms.l.length 3 (q.ms.l.flatMap mtc)) :: cel g2 [Value.slice q.ms.a q.ms.l.length q.ms.cap, Value.int .i64 q.fr, Value.int .i64 q.to] 26 :: L) rfl).permT [1, 0, 1] (L' := hdA 126 131 103 gh (applyP A d1.p) :: hdA 126 131 103 gk (applyP A d1.p) :: (rdH a rs.length 5 (rs.flatMap rcc)) :: allA recA rs :: (rdH q.ms.a q.ms.l.length 3 (q.ms.l.flatMap mtc)) :: cel g2 [Value.slice q.ms.a q.ms.l.length q.ms.cap, Value.int .i64 q.fr, Value.int .i64 q.to] 26 :: L) rfl)⟩ (by show rs.length - (i + 1) < rs.length - i; omega) (Sub.cons rfl (Sub.cons rfl (Sub.cons rfl (Sub.cons rfl (Sub.consE rfl (by congr 1) (Sub.nil _))))))
     ·
      refine WO.off rfl rfl d44 rfl ?_
      refine WO.off rfl rfl d44 rfl ?_
      refine WO.off rfl rfl d44 rfl ?_
      refine WO.off rfl rfl d44 rfl ?_
      refine WO.off rfl rfl d44 rfl ?_
      refine WO.off rfl rfl d44 rfl ?_
      refine WO.off rfl rfl d44 rfl ?_
      refine WO.off rfl rfl d44 rfl ?_
      refine WO.V (run_pickF rfl d44 rfl) ?_
      refine WO.nil (NX.go ?_)
      refine WP.condF rfl rfl ?_
      refine WP.skip (NX.blk (NX.go ?_))
      have hS25 : St B (hdA 126 131 103 gh A :: recA r1 :: recA d1 :: allA recA rs :: hdA 126 131 103 gk A :: (rdH a rs.length 5 (rs.flatMap rcc)) :: (rdH q.ms.a q.ms.l.length 3 (q.ms.l.flatMap mtc)) :: cel g2 [Value.slice q.ms.a q.ms.l.length q.ms.cap, Value.int .i64 q.fr, Value.int .i64 q.to] 26 :: L) w17 := by have z := hS17; rw [applyP_bad g44] at z; exact z
      clear hS17
      refine WP.region rfl ?_
      refine WO.mv rfl rfl ?_
      refine WO.V (run_add rfl rfl (IntWalk.i64_in _ (by omega))) ?_
      refine WO.asg rfl rfl ?_
      refine WO.nil ?_
      exact NX.again (i + 1, A) ⟨⟨by omega, by omega, hA.mono (by omega), hAl⟩, ((hS25.mask [true, false, false] (L' := hdA 126 131 103 gh A :: allA recA rs :: hdA 126 131 103 gk A :: (rdH a rs.length 5 (rs.flatMap rcc)) :: (rdH q.ms.a q.ms.l.length 3 (q.ms.l.flatMap mtc)) :: cel g2 [Value.slice q.ms.a q.ms.l.length q.ms.cap, Value.int .i64 q.fr, Value.int .i64 q.to] 26 :: L) rfl).permT [0, 1, 1] (L' := hdA 126 131 103 gh A :: hdA 126 131 103 gk A :: (rdH a rs.length 5 (rs.flatMap rcc)) :: allA recA rs :: (rdH q.ms.a q.ms.l.length 3 (q.ms.l.flatMap mtc)) :: cel g2 [Value.slice q.ms.a q.ms.l.length q.ms.cap, Value.int .i64 q.fr, Value.int .i64 q.to] 26 :: L) rfl)⟩ (by show rs.length - (i + 1) < rs.length - i; omega) (Sub.cons rfl (Sub.cons rfl (Sub.cons rfl (Sub.cons rfl (Sub.consE rfl (by congr 1) (Sub.nil _))))))
    ·
     refine WP.exit (NX.thenExit (NX.thenExit ?_))
     refine NX.blkExit ?_
     refine NX.go (WP.seq ?_)
     have hpts : ptsN A ≤ 1000000000000000 := Nat.le_trans (ptsN_le hA.pts) (Nat.le_trans (Nat.mul_le_mul hAl (show 32 * i ≤ 1600 by omega)) (by decide))
     refine WP.region rfl ?_
     refine WO.mv rfl rfl ?_
     refine WO.call rfl rfl Ty.hd35 rfl (hcounts_spec (g := gh) hpts hS12) (fun v27 w26 pv27 => ?_)
     obtain ⟨rfl, hS26⟩ := pv27
     clear hS12
     refine WO.mv rfl rfl ?_
     refine WO.V (run_extract rfl rfl) ?_
     refine WO.V (run_extract rfl rfl) ?_
     refine WO.asg rfl rfl ?_
     refine WO.asg rfl rfl ?_
     refine WO.nil (NX.go (WP.seq (WP.region rfl ?_)))
     refine WO.mv rfl rfl ?_
     have hS28 := hS26.permT [1] (L' := hdA 126 131 103 gk A :: hdA 126 131 103 gh A :: (rdH a rs.length 5 (rs.flatMap rcc)) :: allA recA rs :: (rdH q.ms.a q.ms.l.length 3 (q.ms.l.flatMap mtc)) :: cel g2 [Value.slice q.ms.a q.ms.l.length q.ms.cap, Value.int .i64 q.fr, Value.int .i64 q.to] 26 :: L) rfl
     clear hS26
     refine WO.call rfl rfl Ty.hd35 rfl (hcounts_spec (g := gk) hpts hS28) (fun v30 w29 pv30 => ?_)
     obtain ⟨rfl, hS29⟩ := pv30
     clear hS28
     refine WO.mv rfl rfl ?_
     refine WO.V (run_extract rfl rfl) ?_
     refine WO.V (run_extract rfl rfl) ?_
     refine WO.asg rfl rfl ?_
     refine WO.asg rfl rfl ?_
     refine WO.nil (NX.go (WP.seq ?_))
     refine WD.start (fun w => (∀ jz, World.cell? w ⟨g2, jz, none⟩ = [Value.slice q.ms.a q.ms.l.length q.ms.cap, Value.int .i64 q.fr, Value.int .i64 q.to][jz]?)) [] (bt 28 0) Ty.mo rfl (by kernel_rfl) hS29 (fun _ h => h.cel_at 5 rfl) (fun w31 hS31 s32 => ?_)
     clear hS29
     refine DP (i := 0) t6_14 (bt 28 1) rfl rfl rfl rfl (fun w => run_move rfl) ?_
     refine DP (i := 1) t6_14 (bt 28 3) rfl rfl rfl rfl (fun w => run_move rfl) ?_
     refine DP (i := 2) t6_14 (bt 28 7) rfl rfl rfl rfl (fun w => run_eql rfl rfl) ?_
     refine DP (i := 3) t6_14 (bt 28 15) rfl rfl rfl rfl (fun w => run_move rfl) ?_
     refine DPn (i := 4) t6_14 (bt 28 31) rfl rfl rfl (decide_eq_true rfl) rfl (fun w => run_move rfl) ?_
     refine DPn (i := 5) t6_14 (bt 28 63) rfl rfl rfl (decide_eq_true rfl) rfl (fun w => run_move rfl) ?_
     refine DPn (i := 6) t6_14 (bt 28 127) rfl rfl rfl (decide_eq_true rfl) rfl (fun w => run_eql rfl rfl) ?_
     refine DP (i := 7) t6_14 (bt 28 255) rfl rfl rfl rfl (fun w => run_pickT rfl (decide_eq_true rfl) rfl) ?_
     refine DP (i := 8) t6_14 (bt 28 511) rfl rfl rfl rfl (fun w => run_move rfl) ?_
     refine DPn (i := 9) t6_14 (bt 28 1023) rfl rfl rfl (decide_eq_true rfl) rfl (fun w => run_move rfl) ?_
     refine DPn (i := 10) t6_14 (bt 28 2047) rfl rfl rfl (decide_eq_true rfl) rfl (fun w => run_fa 0 ⟨g2, 0, none⟩ rfl rfl) ?_
     refine DTn (i := 11) t6_14 (bt 28 4095) s32 rfl rfl rfl (decide_eq_true rfl) rfl (fun w hs => run_load Ty.ag24 rfl ((hs 0).trans rfl)) ?_
     refine DPn (i := 12) t6_14 (bt 28 8191) rfl rfl rfl (decide_eq_true rfl) rfl (fun w => run_fa 1 ⟨g2, 1, none⟩ rfl rfl) ?_
     refine DTn (i := 13) t6_14 (bt 28 16383) s32 rfl rfl rfl (decide_eq_true rfl) rfl (fun w hs => run_load Ty.ag2 rfl ((hs 1).trans rfl)) ?_
     refine DPn (i := 14) t6_14 (bt 28 32767) rfl rfl rfl (decide_eq_true rfl) rfl (fun w => run_fa 2 ⟨g2, 2, none⟩ rfl rfl) ?_
     refine DTn (i := 15) t6_14 (bt 28 65535) s32 rfl rfl rfl (decide_eq_true rfl) rfl (fun w hs => run_load Ty.ag2 rfl ((hs 2).trans rfl)) ?_
     refine DPn (i := 17) t6_14 (bt 28 196607) rfl rfl rfl (decide_eq_true rfl) rfl (fun w => run_move rfl) ?_
     refine DPn (i := 18) t6_14 (bt 28 458751) rfl rfl rfl (decide_eq_true rfl) rfl (fun w => run_fa 0 ⟨g2, 0, none⟩ rfl rfl) ?_
     refine DTn (i := 19) t6_14 (bt 28 983039) s32 rfl rfl rfl (decide_eq_true rfl) rfl (fun w hs => run_load Ty.ag24 rfl ((hs 0).trans rfl)) ?_
     refine DPn (i := 20) t6_14 (bt 28 2031615) rfl rfl rfl (decide_eq_true rfl) rfl (fun w => run_fa 1 ⟨g2, 1, none⟩ rfl rfl) ?_
     refine DTn (i := 21) t6_14 (bt 28 4128767) s32 rfl rfl rfl (decide_eq_true rfl) rfl (fun w hs => run_load Ty.ag2 rfl ((hs 1).trans rfl)) ?_
     refine DPn (i := 22) t6_14 (bt 28 8323071) rfl rfl rfl (decide_eq_true rfl) rfl (fun w => run_fa 2 ⟨g2, 2, none⟩ rfl rfl) ?_
     refine DTn (i := 23) t6_14 (bt 28 16711679) s32 rfl rfl rfl (decide_eq_true rfl) rfl (fun w hs => run_load Ty.ag2 rfl ((hs 2).trans rfl)) ?_
     refine WD.one (i := 16) t6_14 (bt 28 16777215) rfl (by kernel_rfl) ?_
     refine WO.on rfl rfl (decide_eq_true rfl) ?_
     have hS33 := hS31.permT [1, 3] (L' := hdA 126 131 103 gh A :: (rdH q.ms.a q.ms.l.length 3 (q.ms.l.flatMap mtc)) :: hdA 126 131 103 gk A :: (rdH a rs.length 5 (rs.flatMap rcc)) :: allA recA rs :: cel g2 [Value.slice q.ms.a q.ms.l.length q.ms.cap, Value.int .i64 q.fr, Value.int .i64 q.to] 26 :: L) rfl
     clear hS31
     refine WO.call rfl rfl Ty.hd33 rfl (hquery_spec (g := gh) rdH_rd hA (by omega) (by omega) hqz hqn q.fr q.to hS33) (fun v35 w34 pv35 => ?_)
     obtain ⟨a1, c1, o1, rfl, ho1, hn1, hz1, hS34⟩ := pv35
     clear hS33
     refine WO.nil ?_
     have s36 : (∀ jz, World.cell? w34 ⟨g2, jz, none⟩ = [Value.slice q.ms.a q.ms.l.length q.ms.cap, Value.int .i64 q.fr, Value.int .i64 q.to][jz]?) := hS34.cel_at 7 rfl
     refine NX.held s36 ?_
     refine WD.one (i := 24) t6_14 (bt 28 33554431) rfl (by kernel_rfl) ?_
     refine WO.on rfl rfl (decide_eq_true rfl) ?_
     have hS37 := hS34.permT [4, 3] (L' := hdA 126 131 103 gk A :: (rdH q.ms.a q.ms.l.length 3 (q.ms.l.flatMap mtc)) :: own a1 o1.length c1 68 2 (o1.flatMap msc) :: allA serA o1 :: hdA 126 131 103 gh A :: (rdH a rs.length 5 (rs.flatMap rcc)) :: allA recA rs :: cel g2 [Value.slice q.ms.a q.ms.l.length q.ms.cap, Value.int .i64 q.fr, Value.int .i64 q.to] 26 :: L) rfl
     clear hS34
     refine WO.call rfl rfl Ty.hd33 rfl (hquery_spec (g := gk) rdH_rd hA (by omega) (by omega) hqz hqn q.fr q.to hS37) (fun v39 w38 pv39 => ?_)
     obtain ⟨a2, c2, o2, rfl, ho2, hn2, hz2, hS38⟩ := pv39
     clear hS37
     refine WO.nil ?_
     have s40 : (∀ jz, World.cell? w38 ⟨g2, jz, none⟩ = [Value.slice q.ms.a q.ms.l.length q.ms.cap, Value.int .i64 q.fr, Value.int .i64 q.to][jz]?) := hS38.cel_at 9 rfl
     refine NX.held s40 ?_
     refine WD.one (i := 25) t6_14 (bt 28 67108863) rfl (by kernel_rfl) ?_
     refine WO.on rfl rfl (decide_eq_true rfl) ?_
     have hS41 := hS38.permT [4, 4] (L' := own a1 o1.length c1 68 2 (o1.flatMap msc) :: allA serA o1 :: own a2 o2.length c2 68 2 (o2.flatMap msc) :: allA serA o2 :: hdA 126 131 103 gk A :: (rdH q.ms.a q.ms.l.length 3 (q.ms.l.flatMap mtc)) :: hdA 126 131 103 gh A :: (rdH a rs.length 5 (rs.flatMap rcc)) :: allA recA rs :: cel g2 [Value.slice q.ms.a q.ms.l.length q.ms.cap, Value.int .i64 q.fr, Value.int .i64 q.to] 26 :: L) rfl
     clear hS38
     refine WO.call rfl rfl Ty.hd17 rfl (rssame_spec (X := own a1 o1.length c1 68 2 (o1.flatMap msc)) (Y := own a2 o2.length c2 68 2 (o2.flatMap msc)) (fun h => h.own_rd.1) (fun h => h.own_rd.1) (by omega) (by omega) hz1 hz2 hS41) (fun v43 w42 pv43 => ?_)
     obtain ⟨rfl, hS42⟩ := pv43
     clear hS41
     refine WO.nil ?_
     have s44 : (∀ jz, World.cell? w42 ⟨g2, jz, none⟩ = [Value.slice q.ms.a q.ms.l.length q.ms.cap, Value.int .i64 q.fr, Value.int .i64 q.to][jz]?) := hS42.cel_at 9 rfl
     refine NX.held s44 ?_
     refine DP (i := 26) t6_14 (bt 28 134217727) rfl rfl rfl rfl (fun w => run_pickT rfl (decide_eq_true rfl) rfl) ?_
     refine DP (i := 27) t6_14 (bt 28 268435455) rfl rfl rfl rfl (fun w => run_assign rfl) ?_
     refine WD.done t6_14 (by kernel_rfl) ?_
     refine NX.go (WP.ret ?_)
     refine NX.done (l := [.tmp 4]) rfl rfl ?_
     have heq : o1.map MSer.p = o2.map MSer.p := by rw [ho1, ho2]
     exact ⟨congrArg Value.bool (decide_eq_true heq), hS42.drop.drop.drop.drop.drop.drop.drop.drop.drop.drop⟩
   ·
    refine WO.off rfl rfl d29 rfl ?_
    refine WO.off rfl rfl d29 rfl ?_
    refine WO.V (run_pickF rfl d29 rfl) ?_
    refine WO.nil (NX.go ?_)
    refine WP.condF rfl rfl ?_
    refine WP.exit (NX.thenExit (NX.thenExit ?_))
    refine NX.blkExit ?_
    refine NX.go (WP.seq ?_)
    have hpts : ptsN A ≤ 1000000000000000 := Nat.le_trans (ptsN_le hA.pts) (Nat.le_trans (Nat.mul_le_mul hAl (show 32 * i ≤ 1600 by omega)) (by decide))
    refine WP.region rfl ?_
    refine WO.mv rfl rfl ?_
    refine WO.call rfl rfl Ty.hd35 rfl (hcounts_spec (g := gh) hpts hS12) (fun v46 w45 pv46 => ?_)
    obtain ⟨rfl, hS45⟩ := pv46
    clear hS12
    refine WO.mv rfl rfl ?_
    refine WO.V (run_extract rfl rfl) ?_
    refine WO.V (run_extract rfl rfl) ?_
    refine WO.asg rfl rfl ?_
    refine WO.asg rfl rfl ?_
    refine WO.nil (NX.go (WP.seq (WP.region rfl ?_)))
    refine WO.mv rfl rfl ?_
    have hS47 := hS45.permT [1] (L' := hdA 126 131 103 gk A :: hdA 126 131 103 gh A :: (rdH a rs.length 5 (rs.flatMap rcc)) :: allA recA rs :: (rdH q.ms.a q.ms.l.length 3 (q.ms.l.flatMap mtc)) :: cel g2 [Value.slice q.ms.a q.ms.l.length q.ms.cap, Value.int .i64 q.fr, Value.int .i64 q.to] 26 :: L) rfl
    clear hS45
    refine WO.call rfl rfl Ty.hd35 rfl (hcounts_spec (g := gk) hpts hS47) (fun v49 w48 pv49 => ?_)
    obtain ⟨rfl, hS48⟩ := pv49
    clear hS47
    refine WO.mv rfl rfl ?_
    refine WO.V (run_extract rfl rfl) ?_
    refine WO.V (run_extract rfl rfl) ?_
    refine WO.asg rfl rfl ?_
    refine WO.asg rfl rfl ?_
    refine WO.nil (NX.go (WP.seq ?_))
    refine WD.start (fun w => (∀ jz, World.cell? w ⟨g2, jz, none⟩ = [Value.slice q.ms.a q.ms.l.length q.ms.cap, Value.int .i64 q.fr, Value.int .i64 q.to][jz]?)) [] (bt 28 0) Ty.mo rfl (by kernel_rfl) hS48 (fun _ h => h.cel_at 5 rfl) (fun w50 hS50 s51 => ?_)
    clear hS48
    refine DP (i := 0) t6_14 (bt 28 1) rfl rfl rfl rfl (fun w => run_move rfl) ?_
    refine DP (i := 1) t6_14 (bt 28 3) rfl rfl rfl rfl (fun w => run_move rfl) ?_
    refine DP (i := 2) t6_14 (bt 28 7) rfl rfl rfl rfl (fun w => run_eql rfl rfl) ?_
    refine DP (i := 3) t6_14 (bt 28 15) rfl rfl rfl rfl (fun w => run_move rfl) ?_
    refine DPn (i := 4) t6_14 (bt 28 31) rfl rfl rfl (decide_eq_true rfl) rfl (fun w => run_move rfl) ?_
    refine DPn (i := 5) t6_14 (bt 28 63) rfl rfl rfl (decide_eq_true rfl) rfl (fun w => run_move rfl) ?_
    refine DPn (i := 6) t6_14 (bt 28 127) rfl rfl rfl (decide_eq_true rfl) rfl (fun w => run_eql rfl rfl) ?_
    refine DP (i := 7) t6_14 (bt 28 255) rfl rfl rfl rfl (fun w => run_pickT rfl (decide_eq_true rfl) rfl) ?_
    refine DP (i := 8) t6_14 (bt 28 511) rfl rfl rfl rfl (fun w => run_move rfl) ?_
    refine DPn (i := 9) t6_14 (bt 28 1023) rfl rfl rfl (decide_eq_true rfl) rfl (fun w => run_move rfl) ?_
    refine DPn (i := 10) t6_14 (bt 28 2047) rfl rfl rfl (decide_eq_true rfl) rfl (fun w => run_fa 0 ⟨g2, 0, none⟩ rfl rfl) ?_
    refine DTn (i := 11) t6_14 (bt 28 4095) s51 rfl rfl rfl (decide_eq_true rfl) rfl (fun w hs => run_load Ty.ag24 rfl ((hs 0).trans rfl)) ?_
    refine DPn (i := 12) t6_14 (bt 28 8191) rfl rfl rfl (decide_eq_true rfl) rfl (fun w => run_fa 1 ⟨g2, 1, none⟩ rfl rfl) ?_
    refine DTn (i := 13) t6_14 (bt 28 16383) s51 rfl rfl rfl (decide_eq_true rfl) rfl (fun w hs => run_load Ty.ag2 rfl ((hs 1).trans rfl)) ?_
    refine DPn (i := 14) t6_14 (bt 28 32767) rfl rfl rfl (decide_eq_true rfl) rfl (fun w => run_fa 2 ⟨g2, 2, none⟩ rfl rfl) ?_
    refine DTn (i := 15) t6_14 (bt 28 65535) s51 rfl rfl rfl (decide_eq_true rfl) rfl (fun w hs => run_load Ty.ag2 rfl ((hs 2).trans rfl)) ?_
    refine DPn (i := 17) t6_14 (bt 28 196607) rfl rfl rfl (decide_eq_true rfl) rfl (fun w => run_move rfl) ?_
    refine DPn (i := 18) t6_14 (bt 28 458751) rfl rfl rfl (decide_eq_true rfl) rfl (fun w => run_fa 0 ⟨g2, 0, none⟩ rfl rfl) ?_
    refine DTn (i := 19) t6_14 (bt 28 983039) s51 rfl rfl rfl (decide_eq_true rfl) rfl (fun w hs => run_load Ty.ag24 rfl ((hs 0).trans rfl)) ?_
    refine DPn (i := 20) t6_14 (bt 28 2031615) rfl rfl rfl (decide_eq_true rfl) rfl (fun w => run_fa 1 ⟨g2, 1, none⟩ rfl rfl) ?_
    refine DTn (i := 21) t6_14 (bt 28 4128767) s51 rfl rfl rfl (decide_eq_true rfl) rfl (fun w hs => run_load Ty.ag2 rfl ((hs 1).trans rfl)) ?_
    refine DPn (i := 22) t6_14 (bt 28 8323071) rfl rfl rfl (decide_eq_true rfl) rfl (fun w => run_fa 2 ⟨g2, 2, none⟩ rfl rfl) ?_
    refine DTn (i := 23) t6_14 (bt 28 16711679) s51 rfl rfl rfl (decide_eq_true rfl) rfl (fun w hs => run_load Ty.ag2 rfl ((hs 2).trans rfl)) ?_
    refine WD.one (i := 16) t6_14 (bt 28 16777215) rfl (by kernel_rfl) ?_
    refine WO.on rfl rfl (decide_eq_true rfl) ?_
    have hS52 := hS50.permT [1, 3] (L' := hdA 126 131 103 gh A :: (rdH q.ms.a q.ms.l.length 3 (q.ms.l.flatMap mtc)) :: hdA 126 131 103 gk A :: (rdH a rs.length 5 (rs.flatMap rcc)) :: allA recA rs :: cel g2 [Value.slice q.ms.a q.ms.l.length q.ms.cap, Value.int .i64 q.fr, Value.int .i64 q.to] 26 :: L) rfl
    clear hS50
    refine WO.call rfl rfl Ty.hd33 rfl (hquery_spec (g := gh) rdH_rd hA (by omega) (by omega) hqz hqn q.fr q.to hS52) (fun v54 w53 pv54 => ?_)
    obtain ⟨a1, c1, o1, rfl, ho1, hn1, hz1, hS53⟩ := pv54
    clear hS52
    refine WO.nil ?_
    have s55 : (∀ jz, World.cell? w53 ⟨g2, jz, none⟩ = [Value.slice q.ms.a q.ms.l.length q.ms.cap, Value.int .i64 q.fr, Value.int .i64 q.to][jz]?) := hS53.cel_at 7 rfl
    refine NX.held s55 ?_
    refine WD.one (i := 24) t6_14 (bt 28 33554431) rfl (by kernel_rfl) ?_
    refine WO.on rfl rfl (decide_eq_true rfl) ?_
    have hS56 := hS53.permT [4, 3] (L' := hdA 126 131 103 gk A :: (rdH q.ms.a q.ms.l.length 3 (q.ms.l.flatMap mtc)) :: own a1 o1.length c1 68 2 (o1.flatMap msc) :: allA serA o1 :: hdA 126 131 103 gh A :: (rdH a rs.length 5 (rs.flatMap rcc)) :: allA recA rs :: cel g2 [Value.slice q.ms.a q.ms.l.length q.ms.cap, Value.int .i64 q.fr, Value.int .i64 q.to] 26 :: L) rfl
    clear hS53
    refine WO.call rfl rfl Ty.hd33 rfl (hquery_spec (g := gk) rdH_rd hA (by omega) (by omega) hqz hqn q.fr q.to hS56) (fun v58 w57 pv58 => ?_)
    obtain ⟨a2, c2, o2, rfl, ho2, hn2, hz2, hS57⟩ := pv58
    clear hS56
    refine WO.nil ?_
    have s59 : (∀ jz, World.cell? w57 ⟨g2, jz, none⟩ = [Value.slice q.ms.a q.ms.l.length q.ms.cap, Value.int .i64 q.fr, Value.int .i64 q.to][jz]?) := hS57.cel_at 9 rfl
    refine NX.held s59 ?_
    refine WD.one (i := 25) t6_14 (bt 28 67108863) rfl (by kernel_rfl) ?_
    refine WO.on rfl rfl (decide_eq_true rfl) ?_
    have hS60 := hS57.permT [4, 4] (L' := own a1 o1.length c1 68 2 (o1.flatMap msc) :: allA serA o1 :: own a2 o2.length c2 68 2 (o2.flatMap msc) :: allA serA o2 :: hdA 126 131 103 gk A :: (rdH q.ms.a q.ms.l.length 3 (q.ms.l.flatMap mtc)) :: hdA 126 131 103 gh A :: (rdH a rs.length 5 (rs.flatMap rcc)) :: allA recA rs :: cel g2 [Value.slice q.ms.a q.ms.l.length q.ms.cap, Value.int .i64 q.fr, Value.int .i64 q.to] 26 :: L) rfl
    clear hS57
    refine WO.call rfl rfl Ty.hd17 rfl (rssame_spec (X := own a1 o1.length c1 68 2 (o1.flatMap msc)) (Y := own a2 o2.length c2 68 2 (o2.flatMap msc)) (fun h => h.own_rd.1) (fun h => h.own_rd.1) (by omega) (by omega) hz1 hz2 hS60) (fun v62 w61 pv62 => ?_)
    obtain ⟨rfl, hS61⟩ := pv62
    clear hS60
    refine WO.nil ?_
    have s63 : (∀ jz, World.cell? w61 ⟨g2, jz, none⟩ = [Value.slice q.ms.a q.ms.l.length q.ms.cap, Value.int .i64 q.fr, Value.int .i64 q.to][jz]?) := hS61.cel_at 9 rfl
    refine NX.held s63 ?_
    refine DP (i := 26) t6_14 (bt 28 134217727) rfl rfl rfl rfl (fun w => run_pickT rfl (decide_eq_true rfl) rfl) ?_
    refine DP (i := 27) t6_14 (bt 28 268435455) rfl rfl rfl rfl (fun w => run_assign rfl) ?_
    refine WD.done t6_14 (by kernel_rfl) ?_
    refine NX.go (WP.ret ?_)
    refine NX.done (l := [.tmp 4]) rfl rfl ?_
    have heq : o1.map MSer.p = o2.map MSer.p := by rw [ho1, ho2]
    exact ⟨congrArg Value.bool (decide_eq_true heq), hS61.drop.drop.drop.drop.drop.drop.drop.drop.drop.drop⟩
end Go.Proofs.YtidoidoelgfnaaaGreatDoor.SL
