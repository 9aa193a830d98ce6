/- HeadDeletes: the law. -/
import Derived.Test.YtidoidoelgfnaaaGreatDoorLh3
namespace Go.Proofs.YtidoidoelgfnaaaGreatDoor.SL
open Go.RowKit Go.Proofs.YtidoidoelgfnaaaGreatDoor
open Go.Proofs.YtidoidoelgfnaaaGreatDoorW.PrintLast (rtab opsOf)
set_option linter.unusedVariables false
set_option linter.unusedSimpArgs false
theorem t5_12 : rtab .any (opsOf Tryz.f5 12) = (true, [([], []), ([], []), ([], []), ([2], [2]), ([1, 3], [1, 3]), ([], []), ([5], [5]), ([], []), ([7], [7]), ([4, 6, 8], [4, 6, 8]), ([0, 9, 4], [0, 9]), ([10], [10])]) := by kernel_rfl
theorem t5_23 : rtab .any (opsOf Tryz.f5 23) = (true, [([], []), ([], []), ([0, 1], [0, 1]), ([2], [2]), ([3], [3]), ([4], [4]), ([5], [5]), ([], []), ([7], [7]), ([8], [8]), ([9], [9]), ([6, 10], [6, 10])]) := by kernel_rfl
theorem t5_24 : rtab .any (opsOf Tryz.f5 24) = (true, [([], []), ([0], [0]), ([], []), ([], []), ([2, 3], [2, 3]), ([4], [4]), ([5], [5]), ([1, 6], [1, 6]), ([0, 1, 2, 3, 4, 5, 6, 7], []), ([8, 7, 7, 0, 1, 2, 3, 4, 5, 6, 7], [7, 8])]) := by kernel_rfl
theorem headDeletes_core {B w : World} {L : List HP} {a : Option Addr} {cap : Nat} {rs : List Rcd} (d q : AskV) (hrz : ∀ r ∈ rs, SzR r) (hrn : rs.length ≤ 2814749767106) (hdz : SzM d.ms.l) (hdn2 : d.ms.l.length ≤ 5864062014805) (hqz : SzM q.ms.l) (hqn2 : q.ms.l.length ≤ 5864062014805) (hS : St B ((rdH a rs.length 5 (rs.flatMap rcc)) :: allA recA rs :: (rdH d.ms.a d.ms.l.length 3 (d.ms.l.flatMap mtc)) :: (rdH q.ms.a q.ms.l.length 3 (q.ms.l.flatMap mtc)) :: L) w) : Does Tryz.prog 5 [Value.slice a rs.length cap, Value.agg #[Value.slice d.ms.a d.ms.l.length d.ms.cap, Value.int .i64 d.fr, Value.int .i64 d.to], Value.agg #[Value.slice q.ms.a q.ms.l.length q.ms.cap, Value.int .i64 q.fr, Value.int .i64 q.to]] w (fun v w1 => v = .bool true ∧ St B L w1) := by
 refine enter (n := 154) Tryz.func5 rfl rfl [Value.slice a rs.length cap, Value.agg #[Value.slice d.ms.a d.ms.l.length d.ms.cap, Value.int .i64 d.fr, Value.int .i64 d.to], Value.agg #[Value.slice q.ms.a q.ms.l.length q.ms.cap, Value.int .i64 q.fr, Value.int .i64 q.to]] rfl ?_
 refine WP.seq (WP.region rfl ?_)
 refine WO.box (l := [Value.slice d.ms.a d.ms.l.length d.ms.cap, Value.int .i64 d.fr, Value.int .i64 d.to]) hS rfl rfl rfl (fun g2 w1 lg2 hS1 => ?_)
 clear hS
 refine WO.box (l := [Value.slice q.ms.a q.ms.l.length q.ms.cap, Value.int .i64 q.fr, Value.int .i64 q.to]) hS1 rfl rfl rfl (fun g4 w3 lg4 hS3 => ?_)
 clear hS1
 refine WO.asg rfl rfl ?_
 refine WO.nil (NX.go (WP.seq (WP.seq (WP.region rfl ?_))))
 refine WO.call rfl rfl Ty.hd29 rfl (hworks_spec hS3) (fun v6 w5 pv6 => ?_)
 obtain ⟨rfl, hS5⟩ := pv6
 clear hS3
 refine WO.V (run_not rfl rfl) ?_
 refine WO.nil (NX.go ?_)
 refine WP.condF rfl (notB_t rfl) ?_
 refine WP.skip (NX.go (WP.seq (WP.seq (WP.region rfl ?_))))
 refine WO.mv rfl rfl ?_
 have hS7 := hS5.permT [2, 2] (L' := (rdH a rs.length 5 (rs.flatMap rcc)) :: allA recA rs :: cel g4 [Value.slice q.ms.a q.ms.l.length q.ms.cap, Value.int .i64 q.fr, Value.int .i64 q.to] 26 :: cel g2 [Value.slice d.ms.a d.ms.l.length d.ms.cap, Value.int .i64 d.fr, Value.int .i64 d.to] 26 :: (rdH d.ms.a d.ms.l.length 3 (d.ms.l.flatMap mtc)) :: (rdH q.ms.a q.ms.l.length 3 (q.ms.l.flatMap mtc)) :: L) rfl
 clear hS5
 refine WO.call rfl rfl Ty.hd30 rfl (g13_spec rdH_rd hrz hrn hS7) (fun v9 w8 pv9 => ?_)
 obtain ⟨⟨qg, rfl, hqg⟩, hS8⟩ := pv9
 clear hS7
 refine WO.mv rfl rfl ?_
 rcases Bool.eq_false_or_eq_true qg with g20 | g20
 ·
  refine WO.off rfl rfl g20 rfl ?_
  refine WO.off rfl rfl g20 rfl ?_
  refine WO.off rfl rfl g20 rfl ?_
  refine WO.off rfl rfl g20 rfl ?_
  refine WO.off rfl rfl g20 rfl ?_
  refine WO.off rfl rfl g20 rfl ?_
  refine WO.off rfl rfl g20 rfl ?_
  refine WO.off rfl rfl g20 rfl ?_
  refine WO.V (run_pickT rfl g20 rfl) ?_
  refine WO.nil (NX.go ?_)
  refine WP.condT rfl rfl ?_
  refine WP.seq (WP.region rfl ?_)
  refine WO.asg rfl rfl ?_
  refine WO.nil (NX.go (WP.ret (NX.thenRet ?_)))
  refine NX.done (l := [.tmp 6]) rfl rfl ?_
  exact ⟨rfl, hS8.drop.drop.drop.drop.drop.drop⟩
 ·
  refine WO.on rfl rfl g20 ?_
  refine WO.V (run_fa 0 ⟨g4, 0, none⟩ rfl rfl) ?_
  refine WO.on rfl rfl g20 ?_
  refine WO.V (run_load Ty.ag24 rfl ((hS8.cel_at 2 rfl 0).trans rfl)) ?_
  refine WO.on rfl rfl g20 ?_
  refine WO.V (run_len rfl Tryz.underlying24 rfl) ?_
  refine WO.on rfl rfl g20 ?_
  refine WO.V (run_fa 0 ⟨g2, 0, none⟩ rfl rfl) ?_
  refine WO.on rfl rfl g20 ?_
  refine WO.V (run_load Ty.ag24 rfl ((hS8.cel_at 3 rfl 0).trans rfl)) ?_
  refine WO.on rfl rfl g20 ?_
  refine WO.V (run_len rfl Tryz.underlying24 rfl) ?_
  refine WO.on rfl rfl g20 ?_
  refine WO.V (run_add rfl rfl (IntWalk.i64_in _ (by omega))) ?_
  refine WO.on rfl rfl g20 ?_
  refine WO.V (run_gtr rfl rfl) ?_
  refine WO.V (run_pickF rfl g20 rfl) ?_
  refine WO.nil (NX.go ?_)
  refine WP.condP rfl (fun g29 => ?_) (fun g29 => ?_)
  ·
   refine WP.seq (WP.region rfl ?_)
   refine WO.asg rfl rfl ?_
   refine WO.nil (NX.go (WP.ret (NX.thenRet ?_)))
   refine NX.done (l := [.tmp 6]) rfl rfl ?_
   exact ⟨rfl, hS8.drop.drop.drop.drop.drop.drop⟩
  ·
   refine WP.skip (NX.go (WP.seq ?_))
   have hqn : q.ms.l.length ≤ 4398046511104 := by omega
   have hdn : d.ms.l.length ≤ 4398046511104 := by omega
   refine WP.region rfl ?_
   refine WO.call rfl rfl Ty.hd31 rfl (new_spec hS8) (fun v11 w10 pv11 => ?_)
   obtain ⟨gh, rfl, hS10⟩ := pv11
   clear hS8
   refine WO.asg rfl rfl ?_
   refine WO.nil (NX.go (WP.seq (WP.seq (WP.region rfl ?_))))
   refine WO.asg rfl rfl ?_
   refine WO.nil (NX.go (WP.block ?_))
   refine WP.loop (α := Nat × List RowP) (fun x => match x with | ⟨i, A⟩ => [(0, Value.slice a rs.length cap), (4, Value.pointer (some ⟨g2, 0, none⟩)), (5, Value.pointer (some ⟨g4, 0, none⟩)), (7, Value.pointer (some ⟨gh, 0, none⟩)), (8, Value.int .i64 (i : Int))]) (fun x w => match x with | ⟨i, A⟩ => (i ≤ rs.length ∧ i ≤ 50 ∧ WfH A (32 * i) ∧ A.length ≤ 256) ∧ St B (hdA 126 131 103 gh A :: (rdH a rs.length 5 (rs.flatMap rcc)) :: allA recA rs :: (rdH d.ms.a d.ms.l.length 3 (d.ms.l.flatMap mtc)) :: (rdH q.ms.a q.ms.l.length 3 (q.ms.l.flatMap mtc)) :: cel g4 [Value.slice q.ms.a q.ms.l.length q.ms.cap, Value.int .i64 q.fr, Value.int .i64 q.to] 26 :: cel g2 [Value.slice d.ms.a d.ms.l.length d.ms.cap, Value.int .i64 d.fr, Value.int .i64 d.to] 26 :: L) w) (fun x => match x with | ⟨i, A⟩ => rs.length - i) (0, []) ⟨⟨Nat.zero_le _, Nat.zero_le _, wf_nil _, Nat.zero_le _⟩, (hS10.permT [0, 0, 0, 2, 2] (L' := hdA 126 131 103 gh [] :: (rdH a rs.length 5 (rs.flatMap rcc)) :: allA recA rs :: (rdH d.ms.a d.ms.l.length 3 (d.ms.l.flatMap mtc)) :: (rdH q.ms.a q.ms.l.length 3 (q.ms.l.flatMap mtc)) :: cel g4 [Value.slice q.ms.a q.ms.l.length q.ms.cap, Value.int .i64 q.fr, Value.int .i64 q.to] 26 :: cel g2 [Value.slice d.ms.a d.ms.l.length d.ms.cap, Value.int .i64 d.fr, Value.int .i64 d.to] 26 :: L) rfl)⟩ (Sub.cons rfl (Sub.cons rfl (Sub.cons rfl (Sub.cons rfl (Sub.consE rfl (by first | rfl | first | rfl | (congr 1; omega) | (simp; done) | (simp; omega)) (Sub.nil _)))))) ?_
   rintro ⟨i, A⟩ w12 ⟨⟨hi, hi3, hA, hAl⟩, hS12⟩
   clear hS10
   refine WP.seq (WP.seq (WP.region rfl ?_))
   refine WO.mv rfl rfl ?_
   refine WO.mv rfl rfl ?_
   refine WO.V (run_len rfl Tryz.underlying23 rfl) ?_
   refine WO.V (run_lss rfl rfl) ?_
   refine WO.mv rfl rfl ?_
   refine dcase (p := (i : Int) < ((rs.length : Nat) : Int)) (fun g35 d35 => ?_) (fun g35 d35 => ?_)
   ·
    refine WO.on rfl rfl d35 ?_
    refine WO.mv rfl rfl ?_
    refine WO.on rfl rfl d35 ?_
    refine WO.V (run_lss rfl rfl) ?_
    refine WO.V (run_pickT rfl d35 rfl) ?_
    refine WO.nil (NX.go ?_)
    refine WP.condP rfl (fun g38 => ?_) (fun g38 => ?_)
    ·
     refine WP.skip (NX.go (WP.seq (WP.block ?_)))
     obtain ⟨d1, hd1⟩ : ∃ qq, rs[i]? = some qq := ⟨_, List.getElem?_eq_getElem (by omega)⟩
     have hzd := hrz d1 (List.mem_of_getElem? hd1)
     have hS13 := allA_get recA_pers (List.mem_of_getElem? hd1) (hS12.permT [2] (L' := allA recA rs :: hdA 126 131 103 gh A :: (rdH a rs.length 5 (rs.flatMap rcc)) :: (rdH d.ms.a d.ms.l.length 3 (d.ms.l.flatMap mtc)) :: (rdH q.ms.a q.ms.l.length 3 (q.ms.l.flatMap mtc)) :: cel g4 [Value.slice q.ms.a q.ms.l.length q.ms.cap, Value.int .i64 q.fr, Value.int .i64 q.to] 26 :: cel g2 [Value.slice d.ms.a d.ms.l.length d.ms.cap, Value.int .i64 d.fr, Value.int .i64 d.to] 26 :: L) rfl)
     clear hS12
     refine WP.region rfl ?_
     refine WO.mv rfl rfl ?_
     refine WO.mv rfl rfl ?_
     refine WO.mv rfl rfl ?_
     refine WO.V (run_indexAddr (q := adr a (i * 5)) Tryz.underlying23 Ty.sz33 rfl rfl (by omega) (by omega) ((rdH_rd (hS13.focus 3 rfl)).2.1 (by omega)) rfl) ?_
     refine WO.V (run_loadAgg (vs := (rcc d1)) Ty.ag33 Ty.sz33 rfl ((rdH_rd (hS13.focus 3 rfl)).cells (by rw [flat_len rcc_len]; omega) (flat_part rcc_len hd1)).1 ((rdH_rd (hS13.focus 3 rfl)).cells (by rw [flat_len rcc_len]; omega) (flat_part rcc_len hd1)).2) ?_
     refine WO.call rfl rfl Ty.hd16 rfl (own12_spec d1 hzd hS13) (fun v15 w14 pv15 => ?_)
     obtain ⟨r1, rfl, hr1, hS14⟩ := pv15
     clear hS13
     have hS16 := hS14.permT [3] (L' := hdA 126 131 103 gh A :: recA r1 :: recA d1 :: allA recA rs :: (rdH a rs.length 5 (rs.flatMap rcc)) :: (rdH d.ms.a d.ms.l.length 3 (d.ms.l.flatMap mtc)) :: (rdH q.ms.a q.ms.l.length 3 (q.ms.l.flatMap mtc)) :: cel g4 [Value.slice q.ms.a q.ms.l.length q.ms.cap, Value.int .i64 q.fr, Value.int .i64 q.to] 26 :: cel g2 [Value.slice d.ms.a d.ms.l.length d.ms.cap, Value.int .i64 d.fr, Value.int .i64 d.to] 26 :: L) rfl
     clear hS14
     refine WO.call rfl rfl Ty.hd32 rfl ((by have z := happlyP_spec (g := gh) hA (by omega) (by omega) r1 (SzR.of_p hr1 hzd) hS16; rw [hr1] at z; exact z)) (fun v18 w17 pv18 => ?_)
     obtain ⟨rfl, hS17⟩ := pv18
     clear hS16
     refine WO.nil (NX.blk (NX.go (WP.region rfl ?_)))
     refine WO.mv rfl rfl ?_
     refine WO.V (run_add rfl rfl (IntWalk.i64_in _ (by omega))) ?_
     refine WO.asg rfl rfl ?_
     refine WO.nil ?_
     exact NX.again (i + 1, applyP A d1.p) ⟨⟨by omega, by omega, wf_applyP hA, applyP_len hAl⟩, ((hS17.mask [true, false, false] (L' := hdA 126 131 103 gh (applyP A d1.p) :: allA recA rs :: (rdH a rs.length 5 (rs.flatMap rcc)) :: (rdH d.ms.a d.ms.l.length 3 (d.ms.l.flatMap mtc)) :: (rdH q.ms.a q.ms.l.length 3 (q.ms.l.flatMap mtc)) :: cel g4 [Value.slice q.ms.a q.ms.l.length q.ms.cap, Value.int .i64 q.fr, Value.int .i64 q.to] 26 :: cel g2 [Value.slice d.ms.a d.ms.l.length d.ms.cap, Value.int .i64 d.fr, Value.int .i64 d.to] 26 :: L) rfl).permT [0, 1] (L' := hdA 126 131 103 gh (applyP A d1.p) :: (rdH a rs.length 5 (rs.flatMap rcc)) :: allA recA rs :: (rdH d.ms.a d.ms.l.length 3 (d.ms.l.flatMap mtc)) :: (rdH q.ms.a q.ms.l.length 3 (q.ms.l.flatMap mtc)) :: cel g4 [Value.slice q.ms.a q.ms.l.length q.ms.cap, Value.int .i64 q.fr, Value.int .i64 q.to] 26 :: cel g2 [Value.slice d.ms.a d.ms.l.length d.ms.cap, Value.int .i64 d.fr, Value.int .i64 d.to] 26 :: L) rfl)⟩ (by show rs.length - (i + 1) < rs.length - i; omega) (Sub.cons rfl (Sub.cons rfl (Sub.cons rfl (Sub.cons rfl (Sub.consE rfl (by congr 1) (Sub.nil _))))))
    ·
     refine WP.exit (NX.thenExit (NX.thenExit ?_))
     refine NX.blkExit ?_
     refine NX.go (WP.seq (WP.region rfl ?_))
     refine WO.mv rfl rfl ?_
     refine WO.V (run_fa 0 ⟨g4, 0, none⟩ rfl rfl) ?_
     refine WO.V (run_load Ty.ag24 rfl ((hS12.cel_at 5 rfl 0).trans rfl)) ?_
     refine WO.V (run_fa 1 ⟨g4, 1, none⟩ rfl rfl) ?_
     refine WO.V (run_load Ty.ag2 rfl ((hS12.cel_at 5 rfl 1).trans rfl)) ?_
     refine WO.V (run_fa 2 ⟨g4, 2, none⟩ rfl rfl) ?_
     refine WO.V (run_load Ty.ag2 rfl ((hS12.cel_at 5 rfl 2).trans rfl)) ?_
     have hS19 := hS12.permT [0, 3] (L' := hdA 126 131 103 gh A :: (rdH q.ms.a q.ms.l.length 3 (q.ms.l.flatMap mtc)) :: (rdH a rs.length 5 (rs.flatMap rcc)) :: allA recA rs :: (rdH d.ms.a d.ms.l.length 3 (d.ms.l.flatMap mtc)) :: cel g4 [Value.slice q.ms.a q.ms.l.length q.ms.cap, Value.int .i64 q.fr, Value.int .i64 q.to] 26 :: cel g2 [Value.slice d.ms.a d.ms.l.length d.ms.cap, Value.int .i64 d.fr, Value.int .i64 d.to] 26 :: L) rfl
     clear hS12
     refine WO.call rfl rfl Ty.hd33 rfl (hquery_spec (g := gh) rdH_rd hA (by omega) (by omega) hqz hqn q.fr q.to hS19) (fun v21 w20 pv21 => ?_)
     obtain ⟨a1, c1, o1, rfl, ho1, hn1, hz1, hS20⟩ := pv21
     clear hS19
     refine WO.asg rfl rfl ?_
     refine WO.nil (NX.go (WP.seq (WP.region rfl ?_)))
     refine WO.mv rfl rfl ?_
     refine WO.V (run_fa 0 ⟨g2, 0, none⟩ rfl rfl) ?_
     refine WO.V (run_load Ty.ag24 rfl ((hS20.cel_at 8 rfl 0).trans rfl)) ?_
     refine WO.V (run_fa 1 ⟨g2, 1, none⟩ rfl rfl) ?_
     refine WO.V (run_load Ty.ag2 rfl ((hS20.cel_at 8 rfl 1).trans rfl)) ?_
     refine WO.V (run_fa 2 ⟨g2, 2, none⟩ rfl rfl) ?_
     refine WO.V (run_load Ty.ag2 rfl ((hS20.cel_at 8 rfl 2).trans rfl)) ?_
     have hS22 := hS20.permT [2, 5] (L' := hdA 126 131 103 gh A :: (rdH d.ms.a d.ms.l.length 3 (d.ms.l.flatMap mtc)) :: own a1 o1.length c1 68 2 (o1.flatMap msc) :: allA serA o1 :: (rdH q.ms.a q.ms.l.length 3 (q.ms.l.flatMap mtc)) :: (rdH a rs.length 5 (rs.flatMap rcc)) :: allA recA rs :: cel g4 [Value.slice q.ms.a q.ms.l.length q.ms.cap, Value.int .i64 q.fr, Value.int .i64 q.to] 26 :: cel g2 [Value.slice d.ms.a d.ms.l.length d.ms.cap, Value.int .i64 d.fr, Value.int .i64 d.to] 26 :: L) rfl
     clear hS20
     refine WO.call rfl rfl Ty.hd33 rfl (hquery_spec (g := gh) rdH_rd hA (by omega) (by omega) hdz hdn d.fr d.to hS22) (fun v24 w23 pv24 => ?_)
     obtain ⟨a2, c2, o2, rfl, ho2, hn2, hz2, hS23⟩ := pv24
     clear hS22
     refine WO.asg rfl rfl ?_
     refine WO.nil (NX.go (WP.seq (WP.seq ?_)))
     refine WD.start (fun w => (∀ jz, World.cell? w ⟨g4, jz, none⟩ = [Value.slice q.ms.a q.ms.l.length q.ms.cap, Value.int .i64 q.fr, Value.int .i64 q.to][jz]?) ∧ (∀ jz, World.cell? w ⟨g2, jz, none⟩ = [Value.slice d.ms.a d.ms.l.length d.ms.cap, Value.int .i64 d.fr, Value.int .i64 d.to][jz]?)) [] (bt 12 0) Ty.mo rfl (by kernel_rfl) hS23 (fun _ h => ⟨h.cel_at 9 rfl, h.cel_at 10 rfl⟩) (fun w25 hS25 s26 => ?_)
     clear hS23
     refine DP (i := 0) t5_12 (bt 12 1) rfl rfl rfl rfl (fun w => run_move rfl) ?_
     refine DP (i := 2) t5_12 (bt 12 5) rfl rfl rfl rfl (fun w => run_fa 0 ⟨g2, 0, none⟩ rfl rfl) ?_
     refine DT (i := 3) t5_12 (bt 12 13) s26 rfl rfl rfl rfl (fun w hs => run_load Ty.ag24 rfl ((hs.2 0).trans rfl)) ?_
     refine DP (i := 5) t5_12 (bt 12 45) rfl rfl rfl rfl (fun w => run_fa 1 ⟨g2, 1, none⟩ rfl rfl) ?_
     refine DT (i := 6) t5_12 (bt 12 109) s26 rfl rfl rfl rfl (fun w hs => run_load Ty.ag2 rfl ((hs.2 1).trans rfl)) ?_
     refine DP (i := 7) t5_12 (bt 12 237) rfl rfl rfl rfl (fun w => run_fa 2 ⟨g2, 2, none⟩ rfl rfl) ?_
     refine DT (i := 8) t5_12 (bt 12 493) s26 rfl rfl rfl rfl (fun w hs => run_load Ty.ag2 rfl ((hs.2 2).trans rfl)) ?_
     refine WD.one (i := 1) t5_12 (bt 12 495) rfl (by kernel_rfl) ?_
     refine WO.buildSlice (l := []) hS25 Tryz.underlying24 rfl (fun w => by kernel_rfl) rfl (fun g28 w27 lg28 hS27 => ?_)
     clear hS25
     have hS27 := hS27.own_of_cel (m := 0) (k := 3) rfl
     refine WO.nil ?_
     have s29 : (∀ jz, World.cell? w27 ⟨g4, jz, none⟩ = [Value.slice q.ms.a q.ms.l.length q.ms.cap, Value.int .i64 q.fr, Value.int .i64 q.to][jz]?) ∧ (∀ jz, World.cell? w27 ⟨g2, jz, none⟩ = [Value.slice d.ms.a d.ms.l.length d.ms.cap, Value.int .i64 d.fr, Value.int .i64 d.to][jz]?) := ⟨hS27.cel_at 10 rfl, hS27.cel_at 11 rfl⟩
     refine NX.held s29 ?_
     refine WD.one (i := 4) t5_12 (bt 12 511) rfl (by kernel_rfl) ?_
     refine WO.append (news := (d.ms.l.flatMap mtc)) 0 rfl Tryz.underlying24 Tryz.underlying24 (fun _ h => by cases h) Ty.sz151 (by decide) Ty.by151 Ty.zr151 rfl rfl rfl rfl hS27 rfl ((rdH_rd (hS27.focus 4 rfl)).src) (flat_noAgg mtc_na _) (by omega) (by omega) (fun a31 c32 w30 hS30 => ?_)
     replace hS30 : St B (own a31 d.ms.l.length c32 151 3 (d.ms.l.flatMap mtc) :: own a2 o2.length c2 68 2 (o2.flatMap msc) :: allA serA o2 :: hdA 126 131 103 gh A :: (rdH d.ms.a d.ms.l.length 3 (d.ms.l.flatMap mtc)) :: own a1 o1.length c1 68 2 (o1.flatMap msc) :: allA serA o1 :: (rdH q.ms.a q.ms.l.length 3 (q.ms.l.flatMap mtc)) :: (rdH a rs.length 5 (rs.flatMap rcc)) :: allA recA rs :: cel g4 [Value.slice q.ms.a q.ms.l.length q.ms.cap, Value.int .i64 q.fr, Value.int .i64 q.to] 26 :: cel g2 [Value.slice d.ms.a d.ms.l.length d.ms.cap, Value.int .i64 d.fr, Value.int .i64 d.to] 26 :: L) w30 := (by have z := hS30; rw [Nat.zero_add, List.nil_append] at z; exact z)
     refine WO.as (d := 68) (v := Value.slice a31 d.ms.l.length c32) rfl (congrArg (fun z => Value.slice _ z _) (Nat.zero_add _)) ?_
     clear hS27
     refine WO.nil ?_
     have s33 : (∀ jz, World.cell? w30 ⟨g4, jz, none⟩ = [Value.slice q.ms.a q.ms.l.length q.ms.cap, Value.int .i64 q.fr, Value.int .i64 q.to][jz]?) ∧ (∀ jz, World.cell? w30 ⟨g2, jz, none⟩ = [Value.slice d.ms.a d.ms.l.length d.ms.cap, Value.int .i64 d.fr, Value.int .i64 d.to][jz]?) := ⟨hS30.cel_at 10 rfl, hS30.cel_at 11 rfl⟩
     refine NX.held s33 ?_
     refine DP (i := 9) t5_12 (bt 12 1023) rfl rfl rfl rfl (fun w => run_build (v := Value.agg #[Value.int .i64 2, Value.slice none 0 0, Value.slice a31 d.ms.l.length c32, Value.int .i64 d.fr, Value.int .i64 d.to]) rfl (fun w => by kernel_rfl)) ?_
     refine WD.one (i := 10) t5_12 (bt 12 2047) rfl (by kernel_rfl) ?_
     have hS34 : St B (recA (⟨2, ⟨none, [], 0⟩, ⟨a31, d.ms.l, c32⟩, d.fr, d.to⟩ : Rcd) :: own a2 o2.length c2 68 2 (o2.flatMap msc) :: allA serA o2 :: hdA 126 131 103 gh A :: (rdH d.ms.a d.ms.l.length 3 (d.ms.l.flatMap mtc)) :: own a1 o1.length c1 68 2 (o1.flatMap msc) :: allA serA o1 :: (rdH q.ms.a q.ms.l.length 3 (q.ms.l.flatMap mtc)) :: (rdH a rs.length 5 (rs.flatMap rcc)) :: allA recA rs :: cel g4 [Value.slice q.ms.a q.ms.l.length q.ms.cap, Value.int .i64 q.fr, Value.int .i64 q.to] 26 :: cel g2 [Value.slice d.ms.a d.ms.l.length d.ms.cap, Value.int .i64 d.fr, Value.int .i64 d.to] 26 :: L) w30 := recA_nil 2 d.fr d.to (ms := ⟨a31, d.ms.l, c32⟩) (rdH_own hS30)
     clear hS30
     have hS35 := hS34.permT [3] (L' := hdA 126 131 103 gh A :: recA (⟨2, ⟨none, [], 0⟩, ⟨a31, d.ms.l, c32⟩, d.fr, d.to⟩ : Rcd) :: own a2 o2.length c2 68 2 (o2.flatMap msc) :: allA serA o2 :: (rdH d.ms.a d.ms.l.length 3 (d.ms.l.flatMap mtc)) :: own a1 o1.length c1 68 2 (o1.flatMap msc) :: allA serA o1 :: (rdH q.ms.a q.ms.l.length 3 (q.ms.l.flatMap mtc)) :: (rdH a rs.length 5 (rs.flatMap rcc)) :: allA recA rs :: cel g4 [Value.slice q.ms.a q.ms.l.length q.ms.cap, Value.int .i64 q.fr, Value.int .i64 q.to] 26 :: cel g2 [Value.slice d.ms.a d.ms.l.length d.ms.cap, Value.int .i64 d.fr, Value.int .i64 d.to] 26 :: L) rfl
     clear hS34
     refine WO.call rfl rfl Ty.hd32 rfl (happlyP_spec (g := gh) hA (by omega) (by omega) (⟨2, ⟨none, [], 0⟩, ⟨a31, d.ms.l, c32⟩, d.fr, d.to⟩ : Rcd) ⟨Nat.zero_le _, (by show d.ms.l.length ≤ _; omega), hdz, fun s hs => by cases hs⟩ hS35) (fun v37 w36 pv37 => ?_)
     obtain ⟨hv, hS36⟩ := pv37
     clear hS35
     replace hv : v37 = Value.int .i64 (tryP A (⟨2, [], d.ms.l, d.fr, d.to⟩ : RcP)) := hv
     subst hv
     replace hS36 : St B (hdA 126 131 103 gh (applyP A (⟨2, [], d.ms.l, d.fr, d.to⟩ : RcP)) :: recA (⟨2, ⟨none, [], 0⟩, ⟨a31, d.ms.l, c32⟩, d.fr, d.to⟩ : Rcd) :: own a2 o2.length c2 68 2 (o2.flatMap msc) :: allA serA o2 :: (rdH d.ms.a d.ms.l.length 3 (d.ms.l.flatMap mtc)) :: own a1 o1.length c1 68 2 (o1.flatMap msc) :: allA serA o1 :: (rdH q.ms.a q.ms.l.length 3 (q.ms.l.flatMap mtc)) :: (rdH a rs.length 5 (rs.flatMap rcc)) :: allA recA rs :: cel g4 [Value.slice q.ms.a q.ms.l.length q.ms.cap, Value.int .i64 q.fr, Value.int .i64 q.to] 26 :: cel g2 [Value.slice d.ms.a d.ms.l.length d.ms.cap, Value.int .i64 d.fr, Value.int .i64 d.to] 26 :: L) w36 := (show St B (hdA 126 131 103 gh (applyP A (⟨2, [], d.ms.l, d.fr, d.to⟩ : RcP)) :: _) _ from hS36)
     refine WO.nil ?_
     have s38 : (∀ jz, World.cell? w36 ⟨g4, jz, none⟩ = [Value.slice q.ms.a q.ms.l.length q.ms.cap, Value.int .i64 q.fr, Value.int .i64 q.to][jz]?) ∧ (∀ jz, World.cell? w36 ⟨g2, jz, none⟩ = [Value.slice d.ms.a d.ms.l.length d.ms.cap, Value.int .i64 d.fr, Value.int .i64 d.to][jz]?) := ⟨hS36.cel_at 10 rfl, hS36.cel_at 11 rfl⟩
     refine NX.held s38 ?_
     refine DP (i := 11) t5_12 (bt 12 4095) rfl rfl rfl rfl (fun w => run_neq rfl rfl) ?_
     refine WD.done t5_12 (by kernel_rfl) ?_
     refine NX.go ?_
     refine WP.condP rfl (fun g75 => ?_) (fun g75 => ?_)
     ·
      refine WP.seq ?_
      have hS39 : St B (hdA 126 131 103 gh A :: recA (⟨2, ⟨none, [], 0⟩, ⟨a31, d.ms.l, c32⟩, d.fr, d.to⟩ : Rcd) :: own a2 o2.length c2 68 2 (o2.flatMap msc) :: allA serA o2 :: (rdH d.ms.a d.ms.l.length 3 (d.ms.l.flatMap mtc)) :: own a1 o1.length c1 68 2 (o1.flatMap msc) :: allA serA o1 :: (rdH q.ms.a q.ms.l.length 3 (q.ms.l.flatMap mtc)) :: (rdH a rs.length 5 (rs.flatMap rcc)) :: allA recA rs :: cel g4 [Value.slice q.ms.a q.ms.l.length q.ms.cap, Value.int .i64 q.fr, Value.int .i64 q.to] 26 :: cel g2 [Value.slice d.ms.a d.ms.l.length d.ms.cap, Value.int .i64 d.fr, Value.int .i64 d.to] 26 :: L) w36 := by have z := hS36; rw [applyP_bad g75] at z; exact z
      clear hS36
      refine WP.region rfl ?_
      refine WO.mv rfl rfl ?_
      refine WO.V (run_fa 0 ⟨g4, 0, none⟩ rfl rfl) ?_
      refine WO.V (run_load Ty.ag24 rfl ((hS39.cel_at 10 rfl 0).trans rfl)) ?_
      refine WO.V (run_fa 1 ⟨g4, 1, none⟩ rfl rfl) ?_
      refine WO.V (run_load Ty.ag2 rfl ((hS39.cel_at 10 rfl 1).trans rfl)) ?_
      refine WO.V (run_fa 2 ⟨g4, 2, none⟩ rfl rfl) ?_
      refine WO.V (run_load Ty.ag2 rfl ((hS39.cel_at 10 rfl 2).trans rfl)) ?_
      have hS40 := hS39.permT [0, 6] (L' := hdA 126 131 103 gh A :: (rdH q.ms.a q.ms.l.length 3 (q.ms.l.flatMap mtc)) :: recA (⟨2, ⟨none, [], 0⟩, ⟨a31, d.ms.l, c32⟩, d.fr, d.to⟩ : Rcd) :: own a2 o2.length c2 68 2 (o2.flatMap msc) :: allA serA o2 :: (rdH d.ms.a d.ms.l.length 3 (d.ms.l.flatMap mtc)) :: own a1 o1.length c1 68 2 (o1.flatMap msc) :: allA serA o1 :: (rdH a rs.length 5 (rs.flatMap rcc)) :: allA recA rs :: cel g4 [Value.slice q.ms.a q.ms.l.length q.ms.cap, Value.int .i64 q.fr, Value.int .i64 q.to] 26 :: cel g2 [Value.slice d.ms.a d.ms.l.length d.ms.cap, Value.int .i64 d.fr, Value.int .i64 d.to] 26 :: L) rfl
      clear hS39
      refine WO.call rfl rfl Ty.hd33 rfl (hquery_spec (g := gh) rdH_rd hA (by omega) (by omega) hqz hqn q.fr q.to hS40) (fun v42 w41 pv42 => ?_)
      obtain ⟨a3, c3, o3, rfl, ho3, hn3, hz3, hS41⟩ := pv42
      clear hS40
      refine WO.mv rfl rfl ?_
      have hS43 := hS41.permT [0, 0, 6, 6] (L' := own a3 o3.length c3 68 2 (o3.flatMap msc) :: allA serA o3 :: own a1 o1.length c1 68 2 (o1.flatMap msc) :: allA serA o1 :: hdA 126 131 103 gh A :: (rdH q.ms.a q.ms.l.length 3 (q.ms.l.flatMap mtc)) :: recA (⟨2, ⟨none, [], 0⟩, ⟨a31, d.ms.l, c32⟩, d.fr, d.to⟩ : Rcd) :: own a2 o2.length c2 68 2 (o2.flatMap msc) :: allA serA o2 :: (rdH d.ms.a d.ms.l.length 3 (d.ms.l.flatMap mtc)) :: (rdH a rs.length 5 (rs.flatMap rcc)) :: allA recA rs :: cel g4 [Value.slice q.ms.a q.ms.l.length q.ms.cap, Value.int .i64 q.fr, Value.int .i64 q.to] 26 :: cel g2 [Value.slice d.ms.a d.ms.l.length d.ms.cap, Value.int .i64 d.fr, Value.int .i64 d.to] 26 :: L) rfl
      clear hS41
      refine WO.call rfl rfl Ty.hd17 rfl (rssame_spec (X := own a3 o3.length c3 68 2 (o3.flatMap msc)) (Y := own a1 o1.length c1 68 2 (o1.flatMap msc)) (fun h => h.own_rd.1) (fun h => h.own_rd.1) (by omega) (by omega) hz3 hz1 hS43) (fun v45 w44 pv45 => ?_)
      obtain ⟨rfl, hS44⟩ := pv45
      clear hS43
      refine WO.asg rfl rfl ?_
      refine WO.nil (NX.go (WP.ret (NX.thenRet ?_)))
      refine NX.done (l := [.tmp 6]) rfl rfl ?_
      have heq : o3.map MSer.p = o1.map MSer.p := by rw [ho3, ho1]
      exact ⟨congrArg Value.bool (decide_eq_true heq), hS44.drop.drop.drop.drop.drop.drop.drop.drop.drop.drop.drop.drop.drop.drop⟩
     ·
      refine WP.skip (NX.go (WP.seq ?_))
      have ht0 : tryP A (⟨2, [], d.ms.l, d.fr, d.to⟩ : RcP) = 0 := by simpa using g75
      obtain ⟨D, hDe⟩ : ∃ qq, qq = (delF d.fr d.to d.ms.l A) := ⟨_, rfl⟩
      have hD : WfH D (32 * i) := hDe ▸ wf_del hA
      have hDl : D.length ≤ 256 := by rw [hDe, delF_len]; exact hAl
      have hS46 : St B (hdA 126 131 103 gh D :: recA (⟨2, ⟨none, [], 0⟩, ⟨a31, d.ms.l, c32⟩, d.fr, d.to⟩ : Rcd) :: own a2 o2.length c2 68 2 (o2.flatMap msc) :: allA serA o2 :: (rdH d.ms.a d.ms.l.length 3 (d.ms.l.flatMap mtc)) :: own a1 o1.length c1 68 2 (o1.flatMap msc) :: allA serA o1 :: (rdH q.ms.a q.ms.l.length 3 (q.ms.l.flatMap mtc)) :: (rdH a rs.length 5 (rs.flatMap rcc)) :: allA recA rs :: cel g4 [Value.slice q.ms.a q.ms.l.length q.ms.cap, Value.int .i64 q.fr, Value.int .i64 q.to] 26 :: cel g2 [Value.slice d.ms.a d.ms.l.length d.ms.cap, Value.int .i64 d.fr, Value.int .i64 d.to] 26 :: L) w36 := by have z := hS36; rw [applyP_del ht0, ← hDe] at z; exact z
      clear hS36
      refine WP.region rfl ?_
      refine WO.mv rfl rfl ?_
      refine WO.V (run_fa 0 ⟨g4, 0, none⟩ rfl rfl) ?_
      refine WO.V (run_load Ty.ag24 rfl ((hS46.cel_at 10 rfl 0).trans rfl)) ?_
      refine WO.V (run_fa 1 ⟨g4, 1, none⟩ rfl rfl) ?_
      refine WO.V (run_load Ty.ag2 rfl ((hS46.cel_at 10 rfl 1).trans rfl)) ?_
      refine WO.V (run_fa 2 ⟨g4, 2, none⟩ rfl rfl) ?_
      refine WO.V (run_load Ty.ag2 rfl ((hS46.cel_at 10 rfl 2).trans rfl)) ?_
      have hS47 := hS46.permT [0, 6] (L' := hdA 126 131 103 gh D :: (rdH q.ms.a q.ms.l.length 3 (q.ms.l.flatMap mtc)) :: recA (⟨2, ⟨none, [], 0⟩, ⟨a31, d.ms.l, c32⟩, d.fr, d.to⟩ : Rcd) :: own a2 o2.length c2 68 2 (o2.flatMap msc) :: allA serA o2 :: (rdH d.ms.a d.ms.l.length 3 (d.ms.l.flatMap mtc)) :: own a1 o1.length c1 68 2 (o1.flatMap msc) :: allA serA o1 :: (rdH a rs.length 5 (rs.flatMap rcc)) :: allA recA rs :: cel g4 [Value.slice q.ms.a q.ms.l.length q.ms.cap, Value.int .i64 q.fr, Value.int .i64 q.to] 26 :: cel g2 [Value.slice d.ms.a d.ms.l.length d.ms.cap, Value.int .i64 d.fr, Value.int .i64 d.to] 26 :: L) rfl
      clear hS46
      refine WO.call rfl rfl Ty.hd33 rfl (hquery_spec (g := gh) rdH_rd hD (by omega) (by omega) hqz hqn q.fr q.to hS47) (fun v49 w48 pv49 => ?_)
      obtain ⟨a3, c3, o3, rfl, ho3, hn3, hz3, hS48⟩ := pv49
      clear hS47
      refine WO.asg rfl rfl ?_
      refine WO.nil (NX.go (WP.seq (WP.region rfl ?_)))
      refine WO.asg rfl rfl ?_
      refine WO.nil (NX.go (WP.seq (WP.seq (WP.region rfl ?_))))
      refine WO.asg rfl rfl ?_
      refine WO.nil (NX.go (WP.block ?_))
      have hS50 : St B (recA (⟨2, ⟨none, [], 0⟩, ⟨a31, d.ms.l, c32⟩, d.fr, d.to⟩ : Rcd) :: own a2 o2.length c2 68 2 (o2.flatMap msc) :: allA serA o2 :: own a1 o1.length c1 68 2 (o1.flatMap msc) :: allA serA o1 :: cel g4 [Value.slice q.ms.a q.ms.l.length q.ms.cap, Value.int .i64 q.fr, Value.int .i64 q.to] 26 :: cel g2 [Value.slice d.ms.a d.ms.l.length d.ms.cap, Value.int .i64 d.fr, Value.int .i64 d.to] 26 :: own a3 o3.length c3 68 2 (o3.flatMap msc) :: allA serA o3 :: hdA 126 131 103 gh D :: (rdH q.ms.a q.ms.l.length 3 (q.ms.l.flatMap mtc)) :: (rdH d.ms.a d.ms.l.length 3 (d.ms.l.flatMap mtc)) :: (rdH a rs.length 5 (rs.flatMap rcc)) :: allA recA rs :: L) w48 := (hS48.permT [4, 4, 4, 5, 5, 7, 7] (L' := recA (⟨2, ⟨none, [], 0⟩, ⟨a31, d.ms.l, c32⟩, d.fr, d.to⟩ : Rcd) :: own a2 o2.length c2 68 2 (o2.flatMap msc) :: allA serA o2 :: own a1 o1.length c1 68 2 (o1.flatMap msc) :: allA serA o1 :: cel g4 [Value.slice q.ms.a q.ms.l.length q.ms.cap, Value.int .i64 q.fr, Value.int .i64 q.to] 26 :: cel g2 [Value.slice d.ms.a d.ms.l.length d.ms.cap, Value.int .i64 d.fr, Value.int .i64 d.to] 26 :: own a3 o3.length c3 68 2 (o3.flatMap msc) :: allA serA o3 :: hdA 126 131 103 gh D :: (rdH q.ms.a q.ms.l.length 3 (q.ms.l.flatMap mtc)) :: (rdH d.ms.a d.ms.l.length 3 (d.ms.l.flatMap mtc)) :: (rdH a rs.length 5 (rs.flatMap rcc)) :: allA recA rs :: L) rfl)
      clear hS48
      replace hS50 := (St.addPure trivial hS50 : St B (allA serA [] :: recA (⟨2, ⟨none, [], 0⟩, ⟨a31, d.ms.l, c32⟩, d.fr, d.to⟩ : Rcd) :: own a2 o2.length c2 68 2 (o2.flatMap msc) :: allA serA o2 :: own a1 o1.length c1 68 2 (o1.flatMap msc) :: allA serA o1 :: cel g4 [Value.slice q.ms.a q.ms.l.length q.ms.cap, Value.int .i64 q.fr, Value.int .i64 q.to] 26 :: cel g2 [Value.slice d.ms.a d.ms.l.length d.ms.cap, Value.int .i64 d.fr, Value.int .i64 d.to] 26 :: own a3 o3.length c3 68 2 (o3.flatMap msc) :: allA serA o3 :: hdA 126 131 103 gh D :: (rdH q.ms.a q.ms.l.length 3 (q.ms.l.flatMap mtc)) :: (rdH d.ms.a d.ms.l.length 3 (d.ms.l.flatMap mtc)) :: (rdH a rs.length 5 (rs.flatMap rcc)) :: allA recA rs :: L) w48)
      replace hS50 := hS50.own_nil 68 2
      refine WP.loop (α := Nat × List MSer × Option Addr × Nat) (fun x => match x with | ⟨n, out, oa, oc⟩ => [(0, Value.slice a rs.length cap), (4, Value.pointer (some ⟨g2, 0, none⟩)), (5, Value.pointer (some ⟨g4, 0, none⟩)), (7, Value.pointer (some ⟨gh, 0, none⟩)), (9, Value.slice a1 o1.length c1), (10, Value.slice a2 o2.length c2), (11, Value.slice a3 o3.length c3), (12, Value.slice oa out.length oc), (13, Value.int .i64 (n : Int))]) (fun x w => match x with | ⟨n, out, oa, oc⟩ => (n ≤ o1.length ∧ out.map MSer.p = wantF (o2.map MSer.p) ((o1.take n).map MSer.p) ∧ out.length ≤ n ∧ (∀ s ∈ out, s.lb.l.length ≤ 4398046511104 ∧ s.pt.l.length ≤ 4398046511104)) ∧ St B (own oa out.length oc 68 2 (out.flatMap msc) :: allA serA out :: own a1 o1.length c1 68 2 (o1.flatMap msc) :: allA serA o1 :: own a2 o2.length c2 68 2 (o2.flatMap msc) :: allA serA o2 :: cel g4 [Value.slice q.ms.a q.ms.l.length q.ms.cap, Value.int .i64 q.fr, Value.int .i64 q.to] 26 :: cel g2 [Value.slice d.ms.a d.ms.l.length d.ms.cap, Value.int .i64 d.fr, Value.int .i64 d.to] 26 :: own a3 o3.length c3 68 2 (o3.flatMap msc) :: allA serA o3 :: hdA 126 131 103 gh D :: (rdH q.ms.a q.ms.l.length 3 (q.ms.l.flatMap mtc)) :: (rdH d.ms.a d.ms.l.length 3 (d.ms.l.flatMap mtc)) :: (rdH a rs.length 5 (rs.flatMap rcc)) :: allA recA rs :: L) w) (fun x => match x with | ⟨n, out, oa, oc⟩ => o1.length - n) (0, [], none, 0) ⟨⟨Nat.zero_le _, rfl, Nat.le_refl _, (fun s h => by cases h)⟩, ((hS50.mask [true, true, false] (L' := own none 0 0 68 2 [] :: allA serA [] :: own a2 o2.length c2 68 2 (o2.flatMap msc) :: allA serA o2 :: own a1 o1.length c1 68 2 (o1.flatMap msc) :: allA serA o1 :: cel g4 [Value.slice q.ms.a q.ms.l.length q.ms.cap, Value.int .i64 q.fr, Value.int .i64 q.to] 26 :: cel g2 [Value.slice d.ms.a d.ms.l.length d.ms.cap, Value.int .i64 d.fr, Value.int .i64 d.to] 26 :: own a3 o3.length c3 68 2 (o3.flatMap msc) :: allA serA o3 :: hdA 126 131 103 gh D :: (rdH q.ms.a q.ms.l.length 3 (q.ms.l.flatMap mtc)) :: (rdH d.ms.a d.ms.l.length 3 (d.ms.l.flatMap mtc)) :: (rdH a rs.length 5 (rs.flatMap rcc)) :: allA recA rs :: L) rfl).permT [0, 0, 2, 2] (L' := own none 0 0 68 2 [] :: allA serA [] :: own a1 o1.length c1 68 2 (o1.flatMap msc) :: allA serA o1 :: own a2 o2.length c2 68 2 (o2.flatMap msc) :: allA serA o2 :: cel g4 [Value.slice q.ms.a q.ms.l.length q.ms.cap, Value.int .i64 q.fr, Value.int .i64 q.to] 26 :: cel g2 [Value.slice d.ms.a d.ms.l.length d.ms.cap, Value.int .i64 d.fr, Value.int .i64 d.to] 26 :: own a3 o3.length c3 68 2 (o3.flatMap msc) :: allA serA o3 :: hdA 126 131 103 gh D :: (rdH q.ms.a q.ms.l.length 3 (q.ms.l.flatMap mtc)) :: (rdH d.ms.a d.ms.l.length 3 (d.ms.l.flatMap mtc)) :: (rdH a rs.length 5 (rs.flatMap rcc)) :: allA recA rs :: L) rfl)⟩ (Sub.cons rfl (Sub.cons rfl (Sub.cons rfl (Sub.cons rfl (Sub.cons rfl (Sub.cons rfl (Sub.cons rfl (Sub.consE rfl (by first | rfl | first | rfl | (congr 1; omega) | (simp; done) | (simp; omega)) (Sub.consE rfl (by first | rfl | first | rfl | (congr 1; omega) | (simp; done) | (simp; omega)) (Sub.nil _)))))))))) ?_
      rintro ⟨n, out, oa, oc⟩ w51 ⟨⟨hn, hout, hon, hsz⟩, hS51⟩
      clear hS50
      refine WP.seq (WP.seq (WP.region rfl ?_))
      refine WO.mv rfl rfl ?_
      refine WO.mv rfl rfl ?_
      refine WO.V (run_len rfl Tryz.underlying37 rfl) ?_
      refine WO.V (run_lss rfl rfl) ?_
      refine WO.nil (NX.go ?_)
      refine WP.condP rfl (fun g97 => ?_) (fun g97 => ?_)
      ·
       refine WP.skip (NX.go (WP.seq (WP.block (WP.seq ?_))))
       obtain ⟨x1, hx1⟩ : ∃ qq, o1[n]? = some qq := ⟨_, List.getElem?_eq_getElem (by omega)⟩
       have hS52 := serA_get (List.mem_of_getElem? hx1) (hS51.permT [3] (L' := allA serA o1 :: own oa out.length oc 68 2 (out.flatMap msc) :: allA serA out :: own a1 o1.length c1 68 2 (o1.flatMap msc) :: own a2 o2.length c2 68 2 (o2.flatMap msc) :: allA serA o2 :: cel g4 [Value.slice q.ms.a q.ms.l.length q.ms.cap, Value.int .i64 q.fr, Value.int .i64 q.to] 26 :: cel g2 [Value.slice d.ms.a d.ms.l.length d.ms.cap, Value.int .i64 d.fr, Value.int .i64 d.to] 26 :: own a3 o3.length c3 68 2 (o3.flatMap msc) :: allA serA o3 :: hdA 126 131 103 gh D :: (rdH q.ms.a q.ms.l.length 3 (q.ms.l.flatMap mtc)) :: (rdH d.ms.a d.ms.l.length 3 (d.ms.l.flatMap mtc)) :: (rdH a rs.length 5 (rs.flatMap rcc)) :: allA recA rs :: L) rfl)
       clear hS51
       have hs1 : a1.isSome = true := rd_isSome ((hS52.own_rd_i 5 rfl)) (by omega)
       refine WP.region rfl ?_
       refine WO.mv rfl rfl ?_
       refine WO.mv rfl rfl ?_
       refine WO.V (run_indexAddr (q := adr a1 (n * 2)) Tryz.underlying37 Ty.sz68 rfl rfl (by omega) (by omega) ((hS52.own_rd_i 5 rfl).2.1 (by omega)) rfl) ?_
       refine WO.V (run_loadAgg (vs := [Value.slice x1.lb.a x1.lb.l.length x1.lb.cap, Value.slice x1.pt.a x1.pt.l.length x1.pt.cap]) Ty.ag68 Ty.sz68 rfl ((hS52.own_rd_i 5 rfl).cells (by rw [flat_len msc_len]; omega) (flat_part msc_len hx1)).1 ((hS52.own_rd_i 5 rfl).cells (by rw [flat_len msc_len]; omega) (flat_part msc_len hx1)).2) ?_
       refine WO.alloc (l := [Value.slice none 0 0, Value.slice none 0 0]) hS52 Ty.zr68 rfl rfl (fun g54 w53 lg54 hS53 => ?_)
       clear hS52
       refine WO.store (l' := [Value.slice x1.lb.a x1.lb.l.length x1.lb.cap, Value.slice x1.pt.a x1.pt.l.length x1.pt.cap]) 0 hS53 rfl Ty.sz68 rfl rfl rfl rfl rfl (Nat.le_of_ble_eq_true rfl) rfl (fun w55 (hS55 : St B (cel g54 [Value.slice x1.lb.a x1.lb.l.length x1.lb.cap, Value.slice x1.pt.a x1.pt.l.length x1.pt.cap] 68 :: (labA x1.lb) :: (ptsA x1.pt) :: allA serA o1 :: own oa out.length oc 68 2 (out.flatMap msc) :: allA serA out :: own a1 o1.length c1 68 2 (o1.flatMap msc) :: own a2 o2.length c2 68 2 (o2.flatMap msc) :: allA serA o2 :: cel g4 [Value.slice q.ms.a q.ms.l.length q.ms.cap, Value.int .i64 q.fr, Value.int .i64 q.to] 26 :: cel g2 [Value.slice d.ms.a d.ms.l.length d.ms.cap, Value.int .i64 d.fr, Value.int .i64 d.to] 26 :: own a3 o3.length c3 68 2 (o3.flatMap msc) :: allA serA o3 :: hdA 126 131 103 gh D :: (rdH q.ms.a q.ms.l.length 3 (q.ms.l.flatMap mtc)) :: (rdH d.ms.a d.ms.l.length 3 (d.ms.l.flatMap mtc)) :: (rdH a rs.length 5 (rs.flatMap rcc)) :: allA recA rs :: L) w55) => ?_)
       clear hS53
       refine WO.nil (NX.go (WP.seq (WP.seq (WP.region rfl ?_))))
       refine WO.asg rfl rfl ?_
       refine WO.nil (NX.go (WP.block ?_))
       have hS56 : St B (cel g54 [Value.slice x1.lb.a x1.lb.l.length x1.lb.cap, Value.slice x1.pt.a x1.pt.l.length x1.pt.cap] 68 :: (labA x1.lb) :: (ptsA x1.pt) :: own a2 o2.length c2 68 2 (o2.flatMap msc) :: allA serA o2 :: cel g4 [Value.slice q.ms.a q.ms.l.length q.ms.cap, Value.int .i64 q.fr, Value.int .i64 q.to] 26 :: cel g2 [Value.slice d.ms.a d.ms.l.length d.ms.cap, Value.int .i64 d.fr, Value.int .i64 d.to] 26 :: allA serA o1 :: own oa out.length oc 68 2 (out.flatMap msc) :: allA serA out :: own a1 o1.length c1 68 2 (o1.flatMap msc) :: own a3 o3.length c3 68 2 (o3.flatMap msc) :: allA serA o3 :: hdA 126 131 103 gh D :: (rdH q.ms.a q.ms.l.length 3 (q.ms.l.flatMap mtc)) :: (rdH d.ms.a d.ms.l.length 3 (d.ms.l.flatMap mtc)) :: (rdH a rs.length 5 (rs.flatMap rcc)) :: allA recA rs :: L) w55 := (hS55.permT [0, 0, 0, 4, 4, 4, 4] (L' := cel g54 [Value.slice x1.lb.a x1.lb.l.length x1.lb.cap, Value.slice x1.pt.a x1.pt.l.length x1.pt.cap] 68 :: (labA x1.lb) :: (ptsA x1.pt) :: own a2 o2.length c2 68 2 (o2.flatMap msc) :: allA serA o2 :: cel g4 [Value.slice q.ms.a q.ms.l.length q.ms.cap, Value.int .i64 q.fr, Value.int .i64 q.to] 26 :: cel g2 [Value.slice d.ms.a d.ms.l.length d.ms.cap, Value.int .i64 d.fr, Value.int .i64 d.to] 26 :: allA serA o1 :: own oa out.length oc 68 2 (out.flatMap msc) :: allA serA out :: own a1 o1.length c1 68 2 (o1.flatMap msc) :: own a3 o3.length c3 68 2 (o3.flatMap msc) :: allA serA o3 :: hdA 126 131 103 gh D :: (rdH q.ms.a q.ms.l.length 3 (q.ms.l.flatMap mtc)) :: (rdH d.ms.a d.ms.l.length 3 (d.ms.l.flatMap mtc)) :: (rdH a rs.length 5 (rs.flatMap rcc)) :: allA recA rs :: L) rfl)
       clear hS55
       refine WP.loop (α := Nat × SlV Pt) (fun x => match x with | ⟨k, u⟩ => [(0, Value.slice a rs.length cap), (4, Value.pointer (some ⟨g2, 0, none⟩)), (5, Value.pointer (some ⟨g4, 0, none⟩)), (7, Value.pointer (some ⟨gh, 0, none⟩)), (9, Value.slice a1 o1.length c1), (10, Value.slice a2 o2.length c2), (11, Value.slice a3 o3.length c3), (12, Value.slice oa out.length oc), (13, Value.int .i64 (n : Int)), (14, Value.pointer (some ⟨g54, 0, none⟩)), (15, Value.int .i64 (k : Int))]) (fun x w => match x with | ⟨k, u⟩ => (k ≤ o2.length ∧ u.l = lessA ((o2.take k).map MSer.p) x1.lb.l x1.pt.l ∧ u.l.length ≤ 4398046511104) ∧ St B (cel g54 [Value.slice x1.lb.a x1.lb.l.length x1.lb.cap, Value.slice u.a u.l.length u.cap] 68 :: (labA x1.lb) :: (ptsA u) :: own a2 o2.length c2 68 2 (o2.flatMap msc) :: allA serA o2 :: cel g4 [Value.slice q.ms.a q.ms.l.length q.ms.cap, Value.int .i64 q.fr, Value.int .i64 q.to] 26 :: cel g2 [Value.slice d.ms.a d.ms.l.length d.ms.cap, Value.int .i64 d.fr, Value.int .i64 d.to] 26 :: allA serA o1 :: own oa out.length oc 68 2 (out.flatMap msc) :: allA serA out :: own a1 o1.length c1 68 2 (o1.flatMap msc) :: own a3 o3.length c3 68 2 (o3.flatMap msc) :: allA serA o3 :: hdA 126 131 103 gh D :: (rdH q.ms.a q.ms.l.length 3 (q.ms.l.flatMap mtc)) :: (rdH d.ms.a d.ms.l.length 3 (d.ms.l.flatMap mtc)) :: (rdH a rs.length 5 (rs.flatMap rcc)) :: allA recA rs :: L) w) (fun x => match x with | ⟨k, u⟩ => o2.length - k) (0, x1.pt) ⟨⟨Nat.zero_le _, rfl, (hz1 x1 (List.mem_of_getElem? hx1)).2⟩, hS56⟩ (Sub.cons rfl (Sub.cons rfl (Sub.cons rfl (Sub.cons rfl (Sub.cons rfl (Sub.cons rfl (Sub.cons rfl (Sub.cons rfl (Sub.cons rfl (Sub.cons rfl (Sub.consE rfl (by first | rfl | first | rfl | (congr 1; omega) | (simp; done) | (simp; omega)) (Sub.nil _)))))))))))) ?_
       rintro ⟨k, u⟩ w57 ⟨⟨hk, hue, hul⟩, hS57⟩
       clear hS56
       refine WP.seq (WP.seq (WP.region rfl ?_))
       refine WO.mv rfl rfl ?_
       refine WO.mv rfl rfl ?_
       refine WO.V (run_len rfl Tryz.underlying37 rfl) ?_
       refine WO.V (run_lss rfl rfl) ?_
       refine WO.nil (NX.go ?_)
       refine WP.condP rfl (fun g107 => ?_) (fun g107 => ?_)
       ·
        refine WP.skip (NX.go (WP.seq (WP.block (WP.seq ?_))))
        obtain ⟨y1, hy1⟩ : ∃ qq, o2[k]? = some qq := ⟨_, List.getElem?_eq_getElem (by omega)⟩
        have hS58 := serA_get (List.mem_of_getElem? hy1) (hS57.permT [4] (L' := allA serA o2 :: cel g54 [Value.slice x1.lb.a x1.lb.l.length x1.lb.cap, Value.slice u.a u.l.length u.cap] 68 :: (labA x1.lb) :: (ptsA u) :: own a2 o2.length c2 68 2 (o2.flatMap msc) :: cel g4 [Value.slice q.ms.a q.ms.l.length q.ms.cap, Value.int .i64 q.fr, Value.int .i64 q.to] 26 :: cel g2 [Value.slice d.ms.a d.ms.l.length d.ms.cap, Value.int .i64 d.fr, Value.int .i64 d.to] 26 :: allA serA o1 :: own oa out.length oc 68 2 (out.flatMap msc) :: allA serA out :: own a1 o1.length c1 68 2 (o1.flatMap msc) :: own a3 o3.length c3 68 2 (o3.flatMap msc) :: allA serA o3 :: hdA 126 131 103 gh D :: (rdH q.ms.a q.ms.l.length 3 (q.ms.l.flatMap mtc)) :: (rdH d.ms.a d.ms.l.length 3 (d.ms.l.flatMap mtc)) :: (rdH a rs.length 5 (rs.flatMap rcc)) :: allA recA rs :: L) rfl)
        clear hS57
        have hs2 : a2.isSome = true := rd_isSome ((hS58.own_rd_i 6 rfl)) (by omega)
        refine WD.start (fun w => (∀ jz, World.cell? w ⟨g54, jz, none⟩ = [Value.slice x1.lb.a x1.lb.l.length x1.lb.cap, Value.slice u.a u.l.length u.cap][jz]?) ∧ (∀ jz, World.cell? w ⟨g4, jz, none⟩ = [Value.slice q.ms.a q.ms.l.length q.ms.cap, Value.int .i64 q.fr, Value.int .i64 q.to][jz]?) ∧ (∀ jz, World.cell? w ⟨g2, jz, none⟩ = [Value.slice d.ms.a d.ms.l.length d.ms.cap, Value.int .i64 d.fr, Value.int .i64 d.to][jz]?) ∧ Rd w a2 o2.length 2 (o2.flatMap msc)) [] (bt 12 0) Ty.mo rfl (by kernel_rfl) hS58 (fun _ h => ⟨h.cel_at 3 rfl, h.cel_at 7 rfl, h.cel_at 8 rfl, (h.own_rd_i 6 rfl)⟩) (fun w59 hS59 s60 => ?_)
        clear hS58
        refine DP (i := 0) t5_23 (bt 12 1) rfl rfl rfl rfl (fun w => run_move rfl) ?_
        refine DP (i := 1) t5_23 (bt 12 3) rfl rfl rfl rfl (fun w => run_move rfl) ?_
        refine DT (i := 2) t5_23 (bt 12 7) s60 rfl rfl rfl rfl (fun w hs => run_indexAddr (q := adr a2 (k * 2)) Tryz.underlying37 Ty.sz68 rfl rfl (by omega) (by omega) ((hs.2.2.2).2.1 (by omega)) rfl) ?_
        refine DP (i := 3) t5_23 (bt 12 15) rfl rfl rfl rfl (fun w => run_fa 0 (adr a2 (k * 2 + 0)) rfl (adr_add _ (by assumption) _ _)) ?_
        refine DT (i := 4) t5_23 (bt 12 31) s60 rfl rfl rfl rfl (fun w hs => run_load Ty.ag65 rfl ((hs.2.2.2).cell ((flat_get msc_len hy1 (j := 0) (by decide)).trans rfl))) ?_
        refine DP (i := 5) t5_23 (bt 12 63) rfl rfl rfl rfl (fun w => run_build (v := Value.agg #[Value.slice y1.lb.a y1.lb.l.length y1.lb.cap, Value.slice none 0 0]) rfl (fun w => by kernel_rfl)) ?_
        refine DP (i := 7) t5_23 (bt 12 191) rfl rfl rfl rfl (fun w => run_fa 0 ⟨g54, 0, none⟩ rfl rfl) ?_
        refine DT (i := 8) t5_23 (bt 12 447) s60 rfl rfl rfl rfl (fun w hs => run_load Ty.ag65 rfl ((hs.1 0).trans rfl)) ?_
        refine DP (i := 9) t5_23 (bt 12 959) rfl rfl rfl rfl (fun w => run_build (v := Value.agg #[Value.slice x1.lb.a x1.lb.l.length x1.lb.cap, Value.slice none 0 0]) rfl (fun w => by kernel_rfl)) ?_
        refine WD.two (i := 6) (k := 10) t5_23 (bt 12 1023) (bt 12 1983) rfl rfl (by kernel_rfl) ?_ ?_
        ·
         refine WO.buildSlice (l := [Value.slice y1.lb.a y1.lb.l.length y1.lb.cap, Value.slice none 0 0]) hS59 Tryz.underlying37 rfl (fun w => by kernel_rfl) rfl (fun g62 w61 lg62 hS61 => ?_)
         clear hS59
         have hS61 := hS61.own_of_cel (m := 1) (k := 2) rfl
         refine WO.nil ?_
         have s63 : (∀ jz, World.cell? w61 ⟨g54, jz, none⟩ = [Value.slice x1.lb.a x1.lb.l.length x1.lb.cap, Value.slice u.a u.l.length u.cap][jz]?) ∧ (∀ jz, World.cell? w61 ⟨g4, jz, none⟩ = [Value.slice q.ms.a q.ms.l.length q.ms.cap, Value.int .i64 q.fr, Value.int .i64 q.to][jz]?) ∧ (∀ jz, World.cell? w61 ⟨g2, jz, none⟩ = [Value.slice d.ms.a d.ms.l.length d.ms.cap, Value.int .i64 d.fr, Value.int .i64 d.to][jz]?) ∧ Rd w61 a2 o2.length 2 (o2.flatMap msc) := ⟨hS61.cel_at 4 rfl, hS61.cel_at 8 rfl, hS61.cel_at 9 rfl, (hS61.own_rd_i 7 rfl)⟩
         refine NX.held s63 ?_
         refine WD.one (i := 10) t5_23 (bt 12 2047) rfl (by kernel_rfl) ?_
         refine WO.buildSlice (l := [Value.slice x1.lb.a x1.lb.l.length x1.lb.cap, Value.slice none 0 0]) hS61 Tryz.underlying37 rfl (fun w => by kernel_rfl) rfl (fun g65 w64 lg65 hS64 => ?_)
         clear hS61
         have hS64 := hS64.own_of_cel (m := 1) (k := 2) rfl
         refine WO.nil ?_
         have s66 : (∀ jz, World.cell? w64 ⟨g54, jz, none⟩ = [Value.slice x1.lb.a x1.lb.l.length x1.lb.cap, Value.slice u.a u.l.length u.cap][jz]?) ∧ (∀ jz, World.cell? w64 ⟨g4, jz, none⟩ = [Value.slice q.ms.a q.ms.l.length q.ms.cap, Value.int .i64 q.fr, Value.int .i64 q.to][jz]?) ∧ (∀ jz, World.cell? w64 ⟨g2, jz, none⟩ = [Value.slice d.ms.a d.ms.l.length d.ms.cap, Value.int .i64 d.fr, Value.int .i64 d.to][jz]?) ∧ Rd w64 a2 o2.length 2 (o2.flatMap msc) := ⟨hS64.cel_at 5 rfl, hS64.cel_at 9 rfl, hS64.cel_at 10 rfl, (hS64.own_rd_i 8 rfl)⟩
         refine NX.held s66 ?_
         refine WD.one (i := 11) t5_23 (bt 12 4095) rfl (by kernel_rfl) ?_
         have hS67 := hS64.permT [1, 0, 0, 3] (L' := own (some ⟨g62, 0, none⟩) 1 1 68 2 [Value.slice y1.lb.a y1.lb.l.length y1.lb.cap, Value.slice none 0 0] :: own (some ⟨g65, 0, none⟩) 1 1 68 2 [Value.slice x1.lb.a x1.lb.l.length x1.lb.cap, Value.slice none 0 0] :: (labA y1.lb) :: (labA x1.lb) :: (ptsA y1.pt) :: allA serA o2 :: cel g54 [Value.slice x1.lb.a x1.lb.l.length x1.lb.cap, Value.slice u.a u.l.length u.cap] 68 :: (ptsA u) :: own a2 o2.length c2 68 2 (o2.flatMap msc) :: cel g4 [Value.slice q.ms.a q.ms.l.length q.ms.cap, Value.int .i64 q.fr, Value.int .i64 q.to] 26 :: cel g2 [Value.slice d.ms.a d.ms.l.length d.ms.cap, Value.int .i64 d.fr, Value.int .i64 d.to] 26 :: allA serA o1 :: own oa out.length oc 68 2 (out.flatMap msc) :: allA serA out :: own a1 o1.length c1 68 2 (o1.flatMap msc) :: own a3 o3.length c3 68 2 (o3.flatMap msc) :: allA serA o3 :: hdA 126 131 103 gh D :: (rdH q.ms.a q.ms.l.length 3 (q.ms.l.flatMap mtc)) :: (rdH d.ms.a d.ms.l.length 3 (d.ms.l.flatMap mtc)) :: (rdH a rs.length 5 (rs.flatMap rcc)) :: allA recA rs :: L) rfl
         clear hS64
         refine WO.call rfl rfl Ty.hd17 rfl (same1_spec (x := y1.lb) (y := x1.lb) (hz2 y1 (List.mem_of_getElem? hy1)).1 (hz1 x1 (List.mem_of_getElem? hx1)).1 hS67) (fun v69 w68 pv69 => ?_)
         obtain ⟨rfl, hS68⟩ := pv69
         clear hS67
         refine WO.nil ?_
         have s70 : (∀ jz, World.cell? w68 ⟨g54, jz, none⟩ = [Value.slice x1.lb.a x1.lb.l.length x1.lb.cap, Value.slice u.a u.l.length u.cap][jz]?) ∧ (∀ jz, World.cell? w68 ⟨g4, jz, none⟩ = [Value.slice q.ms.a q.ms.l.length q.ms.cap, Value.int .i64 q.fr, Value.int .i64 q.to][jz]?) ∧ (∀ jz, World.cell? w68 ⟨g2, jz, none⟩ = [Value.slice d.ms.a d.ms.l.length d.ms.cap, Value.int .i64 d.fr, Value.int .i64 d.to][jz]?) ∧ Rd w68 a2 o2.length 2 (o2.flatMap msc) := ⟨hS68.cel_at 4 rfl, hS68.cel_at 7 rfl, hS68.cel_at 8 rfl, (hS68.own_rd_i 6 rfl)⟩
         refine NX.held s70 ?_
         refine WD.done t5_23 (by kernel_rfl) ?_
         refine NX.go ?_
         refine WP.condP rfl (fun g121 => ?_) (fun g121 => ?_)
         ·
          refine WD.start (fun w => (∀ jz, World.cell? w ⟨g54, jz, none⟩ = [Value.slice x1.lb.a x1.lb.l.length x1.lb.cap, Value.slice u.a u.l.length u.cap][jz]?) ∧ (∀ jz, World.cell? w ⟨g4, jz, none⟩ = [Value.slice q.ms.a q.ms.l.length q.ms.cap, Value.int .i64 q.fr, Value.int .i64 q.to][jz]?) ∧ (∀ jz, World.cell? w ⟨g2, jz, none⟩ = [Value.slice d.ms.a d.ms.l.length d.ms.cap, Value.int .i64 d.fr, Value.int .i64 d.to][jz]?) ∧ Rd w a2 o2.length 2 (o2.flatMap msc)) [9] (bt 10 0) Ty.mo rfl (by kernel_rfl) hS68 (fun _ h => ⟨h.cel_at 4 rfl, h.cel_at 7 rfl, h.cel_at 8 rfl, (h.own_rd_i 6 rfl)⟩) (fun w71 hS71 s72 => ?_)
          clear hS68
          refine DP (i := 0) t5_24 (bt 10 1) rfl rfl rfl rfl (fun w => run_fa 1 ⟨g54, 1, none⟩ rfl rfl) ?_
          refine DT (i := 1) t5_24 (bt 10 3) s72 rfl rfl rfl rfl (fun w hs => run_load Ty.ag66 rfl ((hs.1 1).trans rfl)) ?_
          refine DP (i := 2) t5_24 (bt 10 7) rfl rfl rfl rfl (fun w => run_move rfl) ?_
          refine DP (i := 3) t5_24 (bt 10 15) rfl rfl rfl rfl (fun w => run_move rfl) ?_
          refine DT (i := 4) t5_24 (bt 10 31) s72 rfl rfl rfl rfl (fun w hs => run_indexAddr (q := adr a2 (k * 2)) Tryz.underlying37 Ty.sz68 rfl rfl (by omega) (by omega) ((hs.2.2.2).2.1 (by omega)) rfl) ?_
          refine DP (i := 5) t5_24 (bt 10 63) rfl rfl rfl rfl (fun w => run_fa 1 (adr a2 (k * 2 + 1)) rfl (adr_add _ (by assumption) _ _)) ?_
          refine DT (i := 6) t5_24 (bt 10 127) s72 rfl rfl rfl rfl (fun w hs => run_load Ty.ag66 rfl ((hs.2.2.2).cell ((flat_get msc_len hy1 (j := 1) (by decide)).trans rfl))) ?_
          refine WD.one (i := 7) t5_24 (bt 10 255) rfl (by kernel_rfl) ?_
          have hS73 := hS71.permT [5, 2] (L' := (ptsA u) :: (ptsA y1.pt) :: (labA y1.lb) :: (labA x1.lb) :: allA serA o2 :: cel g54 [Value.slice x1.lb.a x1.lb.l.length x1.lb.cap, Value.slice u.a u.l.length u.cap] 68 :: own a2 o2.length c2 68 2 (o2.flatMap msc) :: cel g4 [Value.slice q.ms.a q.ms.l.length q.ms.cap, Value.int .i64 q.fr, Value.int .i64 q.to] 26 :: cel g2 [Value.slice d.ms.a d.ms.l.length d.ms.cap, Value.int .i64 d.fr, Value.int .i64 d.to] 26 :: allA serA o1 :: own oa out.length oc 68 2 (out.flatMap msc) :: allA serA out :: own a1 o1.length c1 68 2 (o1.flatMap msc) :: own a3 o3.length c3 68 2 (o3.flatMap msc) :: allA serA o3 :: hdA 126 131 103 gh D :: (rdH q.ms.a q.ms.l.length 3 (q.ms.l.flatMap mtc)) :: (rdH d.ms.a d.ms.l.length 3 (d.ms.l.flatMap mtc)) :: (rdH a rs.length 5 (rs.flatMap rcc)) :: allA recA rs :: L) rfl
          clear hS71
          refine WO.call rfl rfl Ty.hd34 rfl (hless_spec (l1 := u.l) (l2 := y1.pt.l) (X := ptsA u) (Y := ptsA y1.pt) rdH_rd rdH_rd hul (hz2 y1 (List.mem_of_getElem? hy1)).2 hS73) (fun v75 w74 pv75 => ?_)
          obtain ⟨la, lc, rfl, hS74⟩ := pv75
          clear hS73
          refine WO.nil ?_
          have s76 : (∀ jz, World.cell? w74 ⟨g54, jz, none⟩ = [Value.slice x1.lb.a x1.lb.l.length x1.lb.cap, Value.slice u.a u.l.length u.cap][jz]?) ∧ (∀ jz, World.cell? w74 ⟨g4, jz, none⟩ = [Value.slice q.ms.a q.ms.l.length q.ms.cap, Value.int .i64 q.fr, Value.int .i64 q.to][jz]?) ∧ (∀ jz, World.cell? w74 ⟨g2, jz, none⟩ = [Value.slice d.ms.a d.ms.l.length d.ms.cap, Value.int .i64 d.fr, Value.int .i64 d.to][jz]?) ∧ Rd w74 a2 o2.length 2 (o2.flatMap msc) := ⟨hS74.cel_at 6 rfl, hS74.cel_at 8 rfl, hS74.cel_at 9 rfl, (hS74.own_rd_i 7 rfl)⟩
          refine NX.held s76 ?_
          refine DP (i := 8) t5_24 (bt 10 511) rfl rfl rfl rfl (fun w => run_fa 1 ⟨g54, 1, none⟩ rfl rfl) ?_
          refine WD.one (i := 9) t5_24 (bt 10 1023) rfl (by kernel_rfl) ?_
          refine WO.store (l' := [Value.slice x1.lb.a x1.lb.l.length x1.lb.cap, Value.slice la ((lessF y1.pt.l u.l).length) lc]) 6 hS74 rfl Ty.sz66 rfl rfl rfl rfl rfl (Nat.le_of_ble_eq_true rfl) rfl (fun w77 (hS77 : St B (own la ((lessF y1.pt.l u.l).length) lc 103 2 ((lessF y1.pt.l u.l).flatMap ptc) :: (ptsA u) :: (ptsA y1.pt) :: (labA y1.lb) :: (labA x1.lb) :: allA serA o2 :: cel g54 [Value.slice x1.lb.a x1.lb.l.length x1.lb.cap, Value.slice la ((lessF y1.pt.l u.l).length) lc] 68 :: own a2 o2.length c2 68 2 (o2.flatMap msc) :: cel g4 [Value.slice q.ms.a q.ms.l.length q.ms.cap, Value.int .i64 q.fr, Value.int .i64 q.to] 26 :: cel g2 [Value.slice d.ms.a d.ms.l.length d.ms.cap, Value.int .i64 d.fr, Value.int .i64 d.to] 26 :: allA serA o1 :: own oa out.length oc 68 2 (out.flatMap msc) :: allA serA out :: own a1 o1.length c1 68 2 (o1.flatMap msc) :: own a3 o3.length c3 68 2 (o3.flatMap msc) :: allA serA o3 :: hdA 126 131 103 gh D :: (rdH q.ms.a q.ms.l.length 3 (q.ms.l.flatMap mtc)) :: (rdH d.ms.a d.ms.l.length 3 (d.ms.l.flatMap mtc)) :: (rdH a rs.length 5 (rs.flatMap rcc)) :: allA recA rs :: L) w77) => ?_)
          clear hS74
          refine WO.nil ?_
          refine NX.last (by decide) ?_
          refine WD.done t5_24 (by kernel_rfl) ?_
          refine NX.blk (NX.go (WP.region rfl ?_))
          refine WO.mv rfl rfl ?_
          refine WO.V (run_add rfl rfl (IntWalk.i64_in _ (by omega))) ?_
          refine WO.asg rfl rfl ?_
          refine WO.nil ?_
          have hS78 : St B (ptsA (⟨la, lessF y1.pt.l u.l, lc⟩ : SlV Pt) :: (ptsA u) :: (ptsA y1.pt) :: (labA y1.lb) :: (labA x1.lb) :: allA serA o2 :: cel g54 [Value.slice x1.lb.a x1.lb.l.length x1.lb.cap, Value.slice la ((lessF y1.pt.l u.l).length) lc] 68 :: own a2 o2.length c2 68 2 (o2.flatMap msc) :: cel g4 [Value.slice q.ms.a q.ms.l.length q.ms.cap, Value.int .i64 q.fr, Value.int .i64 q.to] 26 :: cel g2 [Value.slice d.ms.a d.ms.l.length d.ms.cap, Value.int .i64 d.fr, Value.int .i64 d.to] 26 :: allA serA o1 :: own oa out.length oc 68 2 (out.flatMap msc) :: allA serA out :: own a1 o1.length c1 68 2 (o1.flatMap msc) :: own a3 o3.length c3 68 2 (o3.flatMap msc) :: allA serA o3 :: hdA 126 131 103 gh D :: (rdH q.ms.a q.ms.l.length 3 (q.ms.l.flatMap mtc)) :: (rdH d.ms.a d.ms.l.length 3 (d.ms.l.flatMap mtc)) :: (rdH a rs.length 5 (rs.flatMap rcc)) :: allA recA rs :: L) w77 := rdH_own hS77
          clear hS77
          exact NX.again (k + 1, (⟨la, lessF y1.pt.l u.l, lc⟩ : SlV Pt)) ⟨⟨by omega, by rw [take_snocM hy1, List.map_append, List.map_cons, List.map_nil, lessA_snoc, if_pos (show y1.p.lb = x1.lb.l from g121), ← hue]; rfl, Nat.le_trans (lessF_len ..) hul⟩, ((hS78.mask [true, false, false, false] (L' := ptsA (⟨la, lessF y1.pt.l u.l, lc⟩ : SlV Pt) :: (labA x1.lb) :: allA serA o2 :: cel g54 [Value.slice x1.lb.a x1.lb.l.length x1.lb.cap, Value.slice la ((lessF y1.pt.l u.l).length) lc] 68 :: own a2 o2.length c2 68 2 (o2.flatMap msc) :: cel g4 [Value.slice q.ms.a q.ms.l.length q.ms.cap, Value.int .i64 q.fr, Value.int .i64 q.to] 26 :: cel g2 [Value.slice d.ms.a d.ms.l.length d.ms.cap, Value.int .i64 d.fr, Value.int .i64 d.to] 26 :: allA serA o1 :: own oa out.length oc 68 2 (out.flatMap msc) :: allA serA out :: own a1 o1.length c1 68 2 (o1.flatMap msc) :: own a3 o3.length c3 68 2 (o3.flatMap msc) :: allA serA o3 :: hdA 126 131 103 gh D :: (rdH q.ms.a q.ms.l.length 3 (q.ms.l.flatMap mtc)) :: (rdH d.ms.a d.ms.l.length 3 (d.ms.l.flatMap mtc)) :: (rdH a rs.length 5 (rs.flatMap rcc)) :: allA recA rs :: L) rfl).permT [3, 1, 0, 1] (L' := cel g54 [Value.slice x1.lb.a x1.lb.l.length x1.lb.cap, Value.slice la ((lessF y1.pt.l u.l).length) lc] 68 :: (labA x1.lb) :: ptsA (⟨la, lessF y1.pt.l u.l, lc⟩ : SlV Pt) :: own a2 o2.length c2 68 2 (o2.flatMap msc) :: allA serA o2 :: cel g4 [Value.slice q.ms.a q.ms.l.length q.ms.cap, Value.int .i64 q.fr, Value.int .i64 q.to] 26 :: cel g2 [Value.slice d.ms.a d.ms.l.length d.ms.cap, Value.int .i64 d.fr, Value.int .i64 d.to] 26 :: allA serA o1 :: own oa out.length oc 68 2 (out.flatMap msc) :: allA serA out :: own a1 o1.length c1 68 2 (o1.flatMap msc) :: own a3 o3.length c3 68 2 (o3.flatMap msc) :: allA serA o3 :: hdA 126 131 103 gh D :: (rdH q.ms.a q.ms.l.length 3 (q.ms.l.flatMap mtc)) :: (rdH d.ms.a d.ms.l.length 3 (d.ms.l.flatMap mtc)) :: (rdH a rs.length 5 (rs.flatMap rcc)) :: allA recA rs :: L) rfl)⟩ (by show o2.length - (k + 1) < o2.length - k; omega) (Sub.cons rfl (Sub.cons rfl (Sub.cons rfl (Sub.cons rfl (Sub.cons rfl (Sub.cons rfl (Sub.cons rfl (Sub.cons rfl (Sub.cons rfl (Sub.cons rfl (Sub.consE rfl (by congr 1) (Sub.nil _))))))))))))
         ·
          refine WP.skip (NX.blk (NX.go (WP.region rfl ?_)))
          refine WO.mv rfl rfl ?_
          refine WO.V (run_add rfl rfl (IntWalk.i64_in _ (by omega))) ?_
          refine WO.asg rfl rfl ?_
          refine WO.nil ?_
          exact NX.again (k + 1, u) ⟨⟨by omega, by rw [take_snocM hy1, List.map_append, List.map_cons, List.map_nil, lessA_snoc, if_neg (show ¬ y1.p.lb = x1.lb.l from g121), ← hue], hul⟩, ((hS68.mask [false, true, false] (L' := (labA x1.lb) :: allA serA o2 :: cel g54 [Value.slice x1.lb.a x1.lb.l.length x1.lb.cap, Value.slice u.a u.l.length u.cap] 68 :: (ptsA u) :: own a2 o2.length c2 68 2 (o2.flatMap msc) :: cel g4 [Value.slice q.ms.a q.ms.l.length q.ms.cap, Value.int .i64 q.fr, Value.int .i64 q.to] 26 :: cel g2 [Value.slice d.ms.a d.ms.l.length d.ms.cap, Value.int .i64 d.fr, Value.int .i64 d.to] 26 :: allA serA o1 :: own oa out.length oc 68 2 (out.flatMap msc) :: allA serA out :: own a1 o1.length c1 68 2 (o1.flatMap msc) :: own a3 o3.length c3 68 2 (o3.flatMap msc) :: allA serA o3 :: hdA 126 131 103 gh D :: (rdH q.ms.a q.ms.l.length 3 (q.ms.l.flatMap mtc)) :: (rdH d.ms.a d.ms.l.length 3 (d.ms.l.flatMap mtc)) :: (rdH a rs.length 5 (rs.flatMap rcc)) :: allA recA rs :: L) rfl).permT [2, 0, 1, 1] (L' := cel g54 [Value.slice x1.lb.a x1.lb.l.length x1.lb.cap, Value.slice u.a u.l.length u.cap] 68 :: (labA x1.lb) :: (ptsA u) :: own a2 o2.length c2 68 2 (o2.flatMap msc) :: allA serA o2 :: cel g4 [Value.slice q.ms.a q.ms.l.length q.ms.cap, Value.int .i64 q.fr, Value.int .i64 q.to] 26 :: cel g2 [Value.slice d.ms.a d.ms.l.length d.ms.cap, Value.int .i64 d.fr, Value.int .i64 d.to] 26 :: allA serA o1 :: own oa out.length oc 68 2 (out.flatMap msc) :: allA serA out :: own a1 o1.length c1 68 2 (o1.flatMap msc) :: own a3 o3.length c3 68 2 (o3.flatMap msc) :: allA serA o3 :: hdA 126 131 103 gh D :: (rdH q.ms.a q.ms.l.length 3 (q.ms.l.flatMap mtc)) :: (rdH d.ms.a d.ms.l.length 3 (d.ms.l.flatMap mtc)) :: (rdH a rs.length 5 (rs.flatMap rcc)) :: allA recA rs :: L) rfl)⟩ (by show o2.length - (k + 1) < o2.length - k; omega) (Sub.cons rfl (Sub.cons rfl (Sub.cons rfl (Sub.cons rfl (Sub.cons rfl (Sub.cons rfl (Sub.cons rfl (Sub.cons rfl (Sub.cons rfl (Sub.cons rfl (Sub.consE rfl (by congr 1) (Sub.nil _))))))))))))
        ·
         refine WO.buildSlice (l := [Value.slice x1.lb.a x1.lb.l.length x1.lb.cap, Value.slice none 0 0]) hS59 Tryz.underlying37 rfl (fun w => by kernel_rfl) rfl (fun g80 w79 lg80 hS79 => ?_)
         clear hS59
         have hS79 := hS79.own_of_cel (m := 1) (k := 2) rfl
         refine WO.nil ?_
         have s81 : (∀ jz, World.cell? w79 ⟨g54, jz, none⟩ = [Value.slice x1.lb.a x1.lb.l.length x1.lb.cap, Value.slice u.a u.l.length u.cap][jz]?) ∧ (∀ jz, World.cell? w79 ⟨g4, jz, none⟩ = [Value.slice q.ms.a q.ms.l.length q.ms.cap, Value.int .i64 q.fr, Value.int .i64 q.to][jz]?) ∧ (∀ jz, World.cell? w79 ⟨g2, jz, none⟩ = [Value.slice d.ms.a d.ms.l.length d.ms.cap, Value.int .i64 d.fr, Value.int .i64 d.to][jz]?) ∧ Rd w79 a2 o2.length 2 (o2.flatMap msc) := ⟨hS79.cel_at 4 rfl, hS79.cel_at 8 rfl, hS79.cel_at 9 rfl, (hS79.own_rd_i 7 rfl)⟩
         refine NX.held s81 ?_
         refine WD.one (i := 6) t5_23 (bt 12 2047) rfl (by kernel_rfl) ?_
         refine WO.buildSlice (l := [Value.slice y1.lb.a y1.lb.l.length y1.lb.cap, Value.slice none 0 0]) hS79 Tryz.underlying37 rfl (fun w => by kernel_rfl) rfl (fun g83 w82 lg83 hS82 => ?_)
         clear hS79
         have hS82 := hS82.own_of_cel (m := 1) (k := 2) rfl
         refine WO.nil ?_
         have s84 : (∀ jz, World.cell? w82 ⟨g54, jz, none⟩ = [Value.slice x1.lb.a x1.lb.l.length x1.lb.cap, Value.slice u.a u.l.length u.cap][jz]?) ∧ (∀ jz, World.cell? w82 ⟨g4, jz, none⟩ = [Value.slice q.ms.a q.ms.l.length q.ms.cap, Value.int .i64 q.fr, Value.int .i64 q.to][jz]?) ∧ (∀ jz, World.cell? w82 ⟨g2, jz, none⟩ = [Value.slice d.ms.a d.ms.l.length d.ms.cap, Value.int .i64 d.fr, Value.int .i64 d.to][jz]?) ∧ Rd w82 a2 o2.length 2 (o2.flatMap msc) := ⟨hS82.cel_at 5 rfl, hS82.cel_at 9 rfl, hS82.cel_at 10 rfl, (hS82.own_rd_i 8 rfl)⟩
         refine NX.held s84 ?_
         refine WD.one (i := 11) t5_23 (bt 12 4095) rfl (by kernel_rfl) ?_
         have hS85 := hS82.permT [0, 0, 0, 3] (L' := own (some ⟨g83, 0, none⟩) 1 1 68 2 [Value.slice y1.lb.a y1.lb.l.length y1.lb.cap, Value.slice none 0 0] :: own (some ⟨g80, 0, none⟩) 1 1 68 2 [Value.slice x1.lb.a x1.lb.l.length x1.lb.cap, Value.slice none 0 0] :: (labA y1.lb) :: (labA x1.lb) :: (ptsA y1.pt) :: allA serA o2 :: cel g54 [Value.slice x1.lb.a x1.lb.l.length x1.lb.cap, Value.slice u.a u.l.length u.cap] 68 :: (ptsA u) :: own a2 o2.length c2 68 2 (o2.flatMap msc) :: cel g4 [Value.slice q.ms.a q.ms.l.length q.ms.cap, Value.int .i64 q.fr, Value.int .i64 q.to] 26 :: cel g2 [Value.slice d.ms.a d.ms.l.length d.ms.cap, Value.int .i64 d.fr, Value.int .i64 d.to] 26 :: allA serA o1 :: own oa out.length oc 68 2 (out.flatMap msc) :: allA serA out :: own a1 o1.length c1 68 2 (o1.flatMap msc) :: own a3 o3.length c3 68 2 (o3.flatMap msc) :: allA serA o3 :: hdA 126 131 103 gh D :: (rdH q.ms.a q.ms.l.length 3 (q.ms.l.flatMap mtc)) :: (rdH d.ms.a d.ms.l.length 3 (d.ms.l.flatMap mtc)) :: (rdH a rs.length 5 (rs.flatMap rcc)) :: allA recA rs :: L) rfl
         clear hS82
         refine WO.call rfl rfl Ty.hd17 rfl (same1_spec (x := y1.lb) (y := x1.lb) (hz2 y1 (List.mem_of_getElem? hy1)).1 (hz1 x1 (List.mem_of_getElem? hx1)).1 hS85) (fun v87 w86 pv87 => ?_)
         obtain ⟨rfl, hS86⟩ := pv87
         clear hS85
         refine WO.nil ?_
         have s88 : (∀ jz, World.cell? w86 ⟨g54, jz, none⟩ = [Value.slice x1.lb.a x1.lb.l.length x1.lb.cap, Value.slice u.a u.l.length u.cap][jz]?) ∧ (∀ jz, World.cell? w86 ⟨g4, jz, none⟩ = [Value.slice q.ms.a q.ms.l.length q.ms.cap, Value.int .i64 q.fr, Value.int .i64 q.to][jz]?) ∧ (∀ jz, World.cell? w86 ⟨g2, jz, none⟩ = [Value.slice d.ms.a d.ms.l.length d.ms.cap, Value.int .i64 d.fr, Value.int .i64 d.to][jz]?) ∧ Rd w86 a2 o2.length 2 (o2.flatMap msc) := ⟨hS86.cel_at 4 rfl, hS86.cel_at 7 rfl, hS86.cel_at 8 rfl, (hS86.own_rd_i 6 rfl)⟩
         refine NX.held s88 ?_
         refine WD.done t5_23 (by kernel_rfl) ?_
         refine NX.go ?_
         refine WP.condP rfl (fun g121 => ?_) (fun g121 => ?_)
         ·
          refine WD.start (fun w => (∀ jz, World.cell? w ⟨g54, jz, none⟩ = [Value.slice x1.lb.a x1.lb.l.length x1.lb.cap, Value.slice u.a u.l.length u.cap][jz]?) ∧ (∀ jz, World.cell? w ⟨g4, jz, none⟩ = [Value.slice q.ms.a q.ms.l.length q.ms.cap, Value.int .i64 q.fr, Value.int .i64 q.to][jz]?) ∧ (∀ jz, World.cell? w ⟨g2, jz, none⟩ = [Value.slice d.ms.a d.ms.l.length d.ms.cap, Value.int .i64 d.fr, Value.int .i64 d.to][jz]?) ∧ Rd w a2 o2.length 2 (o2.flatMap msc)) [9] (bt 10 0) Ty.mo rfl (by kernel_rfl) hS86 (fun _ h => ⟨h.cel_at 4 rfl, h.cel_at 7 rfl, h.cel_at 8 rfl, (h.own_rd_i 6 rfl)⟩) (fun w89 hS89 s90 => ?_)
          clear hS86
          refine DP (i := 0) t5_24 (bt 10 1) rfl rfl rfl rfl (fun w => run_fa 1 ⟨g54, 1, none⟩ rfl rfl) ?_
          refine DT (i := 1) t5_24 (bt 10 3) s90 rfl rfl rfl rfl (fun w hs => run_load Ty.ag66 rfl ((hs.1 1).trans rfl)) ?_
          refine DP (i := 2) t5_24 (bt 10 7) rfl rfl rfl rfl (fun w => run_move rfl) ?_
          refine DP (i := 3) t5_24 (bt 10 15) rfl rfl rfl rfl (fun w => run_move rfl) ?_
          refine DT (i := 4) t5_24 (bt 10 31) s90 rfl rfl rfl rfl (fun w hs => run_indexAddr (q := adr a2 (k * 2)) Tryz.underlying37 Ty.sz68 rfl rfl (by omega) (by omega) ((hs.2.2.2).2.1 (by omega)) rfl) ?_
          refine DP (i := 5) t5_24 (bt 10 63) rfl rfl rfl rfl (fun w => run_fa 1 (adr a2 (k * 2 + 1)) rfl (adr_add _ (by assumption) _ _)) ?_
          refine DT (i := 6) t5_24 (bt 10 127) s90 rfl rfl rfl rfl (fun w hs => run_load Ty.ag66 rfl ((hs.2.2.2).cell ((flat_get msc_len hy1 (j := 1) (by decide)).trans rfl))) ?_
          refine WD.one (i := 7) t5_24 (bt 10 255) rfl (by kernel_rfl) ?_
          have hS91 := hS89.permT [5, 2] (L' := (ptsA u) :: (ptsA y1.pt) :: (labA y1.lb) :: (labA x1.lb) :: allA serA o2 :: cel g54 [Value.slice x1.lb.a x1.lb.l.length x1.lb.cap, Value.slice u.a u.l.length u.cap] 68 :: own a2 o2.length c2 68 2 (o2.flatMap msc) :: cel g4 [Value.slice q.ms.a q.ms.l.length q.ms.cap, Value.int .i64 q.fr, Value.int .i64 q.to] 26 :: cel g2 [Value.slice d.ms.a d.ms.l.length d.ms.cap, Value.int .i64 d.fr, Value.int .i64 d.to] 26 :: allA serA o1 :: own oa out.length oc 68 2 (out.flatMap msc) :: allA serA out :: own a1 o1.length c1 68 2 (o1.flatMap msc) :: own a3 o3.length c3 68 2 (o3.flatMap msc) :: allA serA o3 :: hdA 126 131 103 gh D :: (rdH q.ms.a q.ms.l.length 3 (q.ms.l.flatMap mtc)) :: (rdH d.ms.a d.ms.l.length 3 (d.ms.l.flatMap mtc)) :: (rdH a rs.length 5 (rs.flatMap rcc)) :: allA recA rs :: L) rfl
          clear hS89
          refine WO.call rfl rfl Ty.hd34 rfl (hless_spec (l1 := u.l) (l2 := y1.pt.l) (X := ptsA u) (Y := ptsA y1.pt) rdH_rd rdH_rd hul (hz2 y1 (List.mem_of_getElem? hy1)).2 hS91) (fun v93 w92 pv93 => ?_)
          obtain ⟨la, lc, rfl, hS92⟩ := pv93
          clear hS91
          refine WO.nil ?_
          have s94 : (∀ jz, World.cell? w92 ⟨g54, jz, none⟩ = [Value.slice x1.lb.a x1.lb.l.length x1.lb.cap, Value.slice u.a u.l.length u.cap][jz]?) ∧ (∀ jz, World.cell? w92 ⟨g4, jz, none⟩ = [Value.slice q.ms.a q.ms.l.length q.ms.cap, Value.int .i64 q.fr, Value.int .i64 q.to][jz]?) ∧ (∀ jz, World.cell? w92 ⟨g2, jz, none⟩ = [Value.slice d.ms.a d.ms.l.length d.ms.cap, Value.int .i64 d.fr, Value.int .i64 d.to][jz]?) ∧ Rd w92 a2 o2.length 2 (o2.flatMap msc) := ⟨hS92.cel_at 6 rfl, hS92.cel_at 8 rfl, hS92.cel_at 9 rfl, (hS92.own_rd_i 7 rfl)⟩
          refine NX.held s94 ?_
          refine DP (i := 8) t5_24 (bt 10 511) rfl rfl rfl rfl (fun w => run_fa 1 ⟨g54, 1, none⟩ rfl rfl) ?_
          refine WD.one (i := 9) t5_24 (bt 10 1023) rfl (by kernel_rfl) ?_
          refine WO.store (l' := [Value.slice x1.lb.a x1.lb.l.length x1.lb.cap, Value.slice la ((lessF y1.pt.l u.l).length) lc]) 6 hS92 rfl Ty.sz66 rfl rfl rfl rfl rfl (Nat.le_of_ble_eq_true rfl) rfl (fun w95 (hS95 : St B (own la ((lessF y1.pt.l u.l).length) lc 103 2 ((lessF y1.pt.l u.l).flatMap ptc) :: (ptsA u) :: (ptsA y1.pt) :: (labA y1.lb) :: (labA x1.lb) :: allA serA o2 :: cel g54 [Value.slice x1.lb.a x1.lb.l.length x1.lb.cap, Value.slice la ((lessF y1.pt.l u.l).length) lc] 68 :: own a2 o2.length c2 68 2 (o2.flatMap msc) :: cel g4 [Value.slice q.ms.a q.ms.l.length q.ms.cap, Value.int .i64 q.fr, Value.int .i64 q.to] 26 :: cel g2 [Value.slice d.ms.a d.ms.l.length d.ms.cap, Value.int .i64 d.fr, Value.int .i64 d.to] 26 :: allA serA o1 :: own oa out.length oc 68 2 (out.flatMap msc) :: allA serA out :: own a1 o1.length c1 68 2 (o1.flatMap msc) :: own a3 o3.length c3 68 2 (o3.flatMap msc) :: allA serA o3 :: hdA 126 131 103 gh D :: (rdH q.ms.a q.ms.l.length 3 (q.ms.l.flatMap mtc)) :: (rdH d.ms.a d.ms.l.length 3 (d.ms.l.flatMap mtc)) :: (rdH a rs.length 5 (rs.flatMap rcc)) :: allA recA rs :: L) w95) => ?_)
          clear hS92
          refine WO.nil ?_
          refine NX.last (by decide) ?_
          refine WD.done t5_24 (by kernel_rfl) ?_
          refine NX.blk (NX.go (WP.region rfl ?_))
          refine WO.mv rfl rfl ?_
          refine WO.V (run_add rfl rfl (IntWalk.i64_in _ (by omega))) ?_
          refine WO.asg rfl rfl ?_
          refine WO.nil ?_
          have hS96 : St B (ptsA (⟨la, lessF y1.pt.l u.l, lc⟩ : SlV Pt) :: (ptsA u) :: (ptsA y1.pt) :: (labA y1.lb) :: (labA x1.lb) :: allA serA o2 :: cel g54 [Value.slice x1.lb.a x1.lb.l.length x1.lb.cap, Value.slice la ((lessF y1.pt.l u.l).length) lc] 68 :: own a2 o2.length c2 68 2 (o2.flatMap msc) :: cel g4 [Value.slice q.ms.a q.ms.l.length q.ms.cap, Value.int .i64 q.fr, Value.int .i64 q.to] 26 :: cel g2 [Value.slice d.ms.a d.ms.l.length d.ms.cap, Value.int .i64 d.fr, Value.int .i64 d.to] 26 :: allA serA o1 :: own oa out.length oc 68 2 (out.flatMap msc) :: allA serA out :: own a1 o1.length c1 68 2 (o1.flatMap msc) :: own a3 o3.length c3 68 2 (o3.flatMap msc) :: allA serA o3 :: hdA 126 131 103 gh D :: (rdH q.ms.a q.ms.l.length 3 (q.ms.l.flatMap mtc)) :: (rdH d.ms.a d.ms.l.length 3 (d.ms.l.flatMap mtc)) :: (rdH a rs.length 5 (rs.flatMap rcc)) :: allA recA rs :: L) w95 := rdH_own hS95
          clear hS95
          exact NX.again (k + 1, (⟨la, lessF y1.pt.l u.l, lc⟩ : SlV Pt)) ⟨⟨by omega, by rw [take_snocM hy1, List.map_append, List.map_cons, List.map_nil, lessA_snoc, if_pos (show y1.p.lb = x1.lb.l from g121), ← hue]; rfl, Nat.le_trans (lessF_len ..) hul⟩, ((hS96.mask [true, false, false, false] (L' := ptsA (⟨la, lessF y1.pt.l u.l, lc⟩ : SlV Pt) :: (labA x1.lb) :: allA serA o2 :: cel g54 [Value.slice x1.lb.a x1.lb.l.length x1.lb.cap, Value.slice la ((lessF y1.pt.l u.l).length) lc] 68 :: own a2 o2.length c2 68 2 (o2.flatMap msc) :: cel g4 [Value.slice q.ms.a q.ms.l.length q.ms.cap, Value.int .i64 q.fr, Value.int .i64 q.to] 26 :: cel g2 [Value.slice d.ms.a d.ms.l.length d.ms.cap, Value.int .i64 d.fr, Value.int .i64 d.to] 26 :: allA serA o1 :: own oa out.length oc 68 2 (out.flatMap msc) :: allA serA out :: own a1 o1.length c1 68 2 (o1.flatMap msc) :: own a3 o3.length c3 68 2 (o3.flatMap msc) :: allA serA o3 :: hdA 126 131 103 gh D :: (rdH q.ms.a q.ms.l.length 3 (q.ms.l.flatMap mtc)) :: (rdH d.ms.a d.ms.l.length 3 (d.ms.l.flatMap mtc)) :: (rdH a rs.length 5 (rs.flatMap rcc)) :: allA recA rs :: L) rfl).permT [3, 1, 0, 1] (L' := cel g54 [Value.slice x1.lb.a x1.lb.l.length x1.lb.cap, Value.slice la ((lessF y1.pt.l u.l).length) lc] 68 :: (labA x1.lb) :: ptsA (⟨la, lessF y1.pt.l u.l, lc⟩ : SlV Pt) :: own a2 o2.length c2 68 2 (o2.flatMap msc) :: allA serA o2 :: cel g4 [Value.slice q.ms.a q.ms.l.length q.ms.cap, Value.int .i64 q.fr, Value.int .i64 q.to] 26 :: cel g2 [Value.slice d.ms.a d.ms.l.length d.ms.cap, Value.int .i64 d.fr, Value.int .i64 d.to] 26 :: allA serA o1 :: own oa out.length oc 68 2 (out.flatMap msc) :: allA serA out :: own a1 o1.length c1 68 2 (o1.flatMap msc) :: own a3 o3.length c3 68 2 (o3.flatMap msc) :: allA serA o3 :: hdA 126 131 103 gh D :: (rdH q.ms.a q.ms.l.length 3 (q.ms.l.flatMap mtc)) :: (rdH d.ms.a d.ms.l.length 3 (d.ms.l.flatMap mtc)) :: (rdH a rs.length 5 (rs.flatMap rcc)) :: allA recA rs :: L) rfl)⟩ (by show o2.length - (k + 1) < o2.length - k; omega) (Sub.cons rfl (Sub.cons rfl (Sub.cons rfl (Sub.cons rfl (Sub.cons rfl (Sub.cons rfl (Sub.cons rfl (Sub.cons rfl (Sub.cons rfl (Sub.cons rfl (Sub.consE rfl (by congr 1) (Sub.nil _))))))))))))
         ·
          refine WP.skip (NX.blk (NX.go (WP.region rfl ?_)))
          refine WO.mv rfl rfl ?_
          refine WO.V (run_add rfl rfl (IntWalk.i64_in _ (by omega))) ?_
          refine WO.asg rfl rfl ?_
          refine WO.nil ?_
          exact NX.again (k + 1, u) ⟨⟨by omega, by rw [take_snocM hy1, List.map_append, List.map_cons, List.map_nil, lessA_snoc, if_neg (show ¬ y1.p.lb = x1.lb.l from g121), ← hue], hul⟩, ((hS86.mask [false, true, false] (L' := (labA x1.lb) :: allA serA o2 :: cel g54 [Value.slice x1.lb.a x1.lb.l.length x1.lb.cap, Value.slice u.a u.l.length u.cap] 68 :: (ptsA u) :: own a2 o2.length c2 68 2 (o2.flatMap msc) :: cel g4 [Value.slice q.ms.a q.ms.l.length q.ms.cap, Value.int .i64 q.fr, Value.int .i64 q.to] 26 :: cel g2 [Value.slice d.ms.a d.ms.l.length d.ms.cap, Value.int .i64 d.fr, Value.int .i64 d.to] 26 :: allA serA o1 :: own oa out.length oc 68 2 (out.flatMap msc) :: allA serA out :: own a1 o1.length c1 68 2 (o1.flatMap msc) :: own a3 o3.length c3 68 2 (o3.flatMap msc) :: allA serA o3 :: hdA 126 131 103 gh D :: (rdH q.ms.a q.ms.l.length 3 (q.ms.l.flatMap mtc)) :: (rdH d.ms.a d.ms.l.length 3 (d.ms.l.flatMap mtc)) :: (rdH a rs.length 5 (rs.flatMap rcc)) :: allA recA rs :: L) rfl).permT [2, 0, 1, 1] (L' := cel g54 [Value.slice x1.lb.a x1.lb.l.length x1.lb.cap, Value.slice u.a u.l.length u.cap] 68 :: (labA x1.lb) :: (ptsA u) :: own a2 o2.length c2 68 2 (o2.flatMap msc) :: allA serA o2 :: cel g4 [Value.slice q.ms.a q.ms.l.length q.ms.cap, Value.int .i64 q.fr, Value.int .i64 q.to] 26 :: cel g2 [Value.slice d.ms.a d.ms.l.length d.ms.cap, Value.int .i64 d.fr, Value.int .i64 d.to] 26 :: allA serA o1 :: own oa out.length oc 68 2 (out.flatMap msc) :: allA serA out :: own a1 o1.length c1 68 2 (o1.flatMap msc) :: own a3 o3.length c3 68 2 (o3.flatMap msc) :: allA serA o3 :: hdA 126 131 103 gh D :: (rdH q.ms.a q.ms.l.length 3 (q.ms.l.flatMap mtc)) :: (rdH d.ms.a d.ms.l.length 3 (d.ms.l.flatMap mtc)) :: (rdH a rs.length 5 (rs.flatMap rcc)) :: allA recA rs :: L) rfl)⟩ (by show o2.length - (k + 1) < o2.length - k; omega) (Sub.cons rfl (Sub.cons rfl (Sub.cons rfl (Sub.cons rfl (Sub.cons rfl (Sub.cons rfl (Sub.cons rfl (Sub.cons rfl (Sub.cons rfl (Sub.cons rfl (Sub.consE rfl (by congr 1) (Sub.nil _))))))))))))
       ·
        refine WP.exit (NX.thenExit (NX.thenExit ?_))
        refine NX.blkExit ?_
        refine NX.go (WP.seq ?_)
        have hS97 : St B (cel g54 [Value.slice x1.lb.a x1.lb.l.length x1.lb.cap, Value.slice u.a u.l.length u.cap] 68 :: (labA x1.lb) :: (ptsA u) :: own a2 o2.length c2 68 2 (o2.flatMap msc) :: allA serA o2 :: cel g4 [Value.slice q.ms.a q.ms.l.length q.ms.cap, Value.int .i64 q.fr, Value.int .i64 q.to] 26 :: cel g2 [Value.slice d.ms.a d.ms.l.length d.ms.cap, Value.int .i64 d.fr, Value.int .i64 d.to] 26 :: allA serA o1 :: own oa out.length oc 68 2 (out.flatMap msc) :: allA serA out :: own a1 o1.length c1 68 2 (o1.flatMap msc) :: own a3 o3.length c3 68 2 (o3.flatMap msc) :: allA serA o3 :: hdA 126 131 103 gh D :: (rdH q.ms.a q.ms.l.length 3 (q.ms.l.flatMap mtc)) :: (rdH d.ms.a d.ms.l.length 3 (d.ms.l.flatMap mtc)) :: (rdH a rs.length 5 (rs.flatMap rcc)) :: allA recA rs :: L) w57 := hS57
        clear hS57
        rw [List.take_of_length_le (by omega : o2.length ≤ k)] at hue
        refine WP.region rfl ?_
        refine WO.V (run_fa 1 ⟨g54, 1, none⟩ rfl rfl) ?_
        refine WO.V (run_load Ty.ag66 rfl ((hS97.cel_at 0 rfl 1).trans rfl)) ?_
        refine WO.V (run_len rfl Tryz.underlying66 rfl) ?_
        refine WO.V (run_gtr rfl rfl) ?_
        refine WO.nil (NX.go ?_)
        refine WP.condP rfl (fun g134 => ?_) (fun g134 => ?_)
        ·
         refine WP.region rfl ?_
         refine WO.mv rfl rfl ?_
         refine WO.V (run_loadAgg (vs := [Value.slice x1.lb.a x1.lb.l.length x1.lb.cap, Value.slice u.a u.l.length u.cap]) Ty.ag68 Ty.sz68 rfl rfl (cell_all (hS97.cel_at 0 rfl) 0 rfl)) ?_
         refine WO.buildSlice (l := [Value.slice x1.lb.a x1.lb.l.length x1.lb.cap, Value.slice u.a u.l.length u.cap]) hS97 Tryz.underlying37 rfl (fun w => by kernel_rfl) rfl (fun g99 w98 lg99 hS98 => ?_)
         clear hS97
         refine WO.append (news := [Value.slice x1.lb.a x1.lb.l.length x1.lb.cap, Value.slice u.a u.l.length u.cap]) 9 rfl Tryz.underlying37 Tryz.underlying37 (fun _ h => by cases h) Ty.sz68 (by decide) Ty.by68 Ty.zr68 rfl rfl rfl rfl hS98 rfl ((hS98.cel_rd 0 rfl (o := 0) (m := 1) (k := 2) rfl (Nat.le_of_ble_eq_true rfl)).src) rfl (by omega) (by omega) (fun a101 c102 w100 hS100 => ?_)
         replace hS100 : St B (cel g99 [Value.slice x1.lb.a x1.lb.l.length x1.lb.cap, Value.slice u.a u.l.length u.cap] 68 :: cel g54 [Value.slice x1.lb.a x1.lb.l.length x1.lb.cap, Value.slice u.a u.l.length u.cap] 68 :: (labA x1.lb) :: (ptsA u) :: own a2 o2.length c2 68 2 (o2.flatMap msc) :: allA serA o2 :: cel g4 [Value.slice q.ms.a q.ms.l.length q.ms.cap, Value.int .i64 q.fr, Value.int .i64 q.to] 26 :: cel g2 [Value.slice d.ms.a d.ms.l.length d.ms.cap, Value.int .i64 d.fr, Value.int .i64 d.to] 26 :: allA serA o1 :: own a101 (out.length + 1) c102 68 2 ((out.flatMap msc) ++ [Value.slice x1.lb.a x1.lb.l.length x1.lb.cap, Value.slice u.a u.l.length u.cap]) :: allA serA out :: own a1 o1.length c1 68 2 (o1.flatMap msc) :: own a3 o3.length c3 68 2 (o3.flatMap msc) :: allA serA o3 :: hdA 126 131 103 gh D :: (rdH q.ms.a q.ms.l.length 3 (q.ms.l.flatMap mtc)) :: (rdH d.ms.a d.ms.l.length 3 (d.ms.l.flatMap mtc)) :: (rdH a rs.length 5 (rs.flatMap rcc)) :: allA recA rs :: L) w100 := hS100
         clear hS98
         refine WO.asg rfl rfl ?_
         refine WO.nil (NX.blk (NX.go (WP.region rfl ?_)))
         refine WO.mv rfl rfl ?_
         refine WO.V (run_add rfl rfl (IntWalk.i64_in _ (by omega))) ?_
         refine WO.asg rfl rfl ?_
         refine WO.nil ?_
         have hS103 := ser_snoc (x := (⟨x1.lb, u⟩ : MSer)) (hS100.permT [10, 2, 2] (L' := allA serA out :: (labA x1.lb) :: (ptsA u) :: cel g99 [Value.slice x1.lb.a x1.lb.l.length x1.lb.cap, Value.slice u.a u.l.length u.cap] 68 :: cel g54 [Value.slice x1.lb.a x1.lb.l.length x1.lb.cap, Value.slice u.a u.l.length u.cap] 68 :: own a2 o2.length c2 68 2 (o2.flatMap msc) :: allA serA o2 :: cel g4 [Value.slice q.ms.a q.ms.l.length q.ms.cap, Value.int .i64 q.fr, Value.int .i64 q.to] 26 :: cel g2 [Value.slice d.ms.a d.ms.l.length d.ms.cap, Value.int .i64 d.fr, Value.int .i64 d.to] 26 :: allA serA o1 :: own a101 (out.length + 1) c102 68 2 ((out.flatMap msc) ++ [Value.slice x1.lb.a x1.lb.l.length x1.lb.cap, Value.slice u.a u.l.length u.cap]) :: own a1 o1.length c1 68 2 (o1.flatMap msc) :: own a3 o3.length c3 68 2 (o3.flatMap msc) :: allA serA o3 :: hdA 126 131 103 gh D :: (rdH q.ms.a q.ms.l.length 3 (q.ms.l.flatMap mtc)) :: (rdH d.ms.a d.ms.l.length 3 (d.ms.l.flatMap mtc)) :: (rdH a rs.length 5 (rs.flatMap rcc)) :: allA recA rs :: L) rfl)
         clear hS100
         exact NX.again (n + 1, out ++ [(⟨x1.lb, u⟩ : MSer)], a101, c102) ⟨⟨by omega, by rw [List.map_append, hout, take_snocM hx1, List.map_append, List.map_cons, List.map_nil, List.map_cons, List.map_nil, wantF_snoc, if_pos (show 0 < (lessA (o2.map MSer.p) x1.p.lb x1.p.pts).length by show 0 < (lessA (o2.map MSer.p) x1.lb.l x1.pt.l).length; rw [← hue]; omega)]; show _ ++ [SerP.mk x1.lb.l u.l] = _; rw [hue]; rfl, by rw [List.length_append]; simp; omega, fun s hs => by rcases List.mem_append.1 hs with hs | hs; (· exact hsz s hs); (· simp at hs; subst hs; exact ⟨(hz1 x1 (List.mem_of_getElem? hx1)).1, hul⟩)⟩, own_eqM ((hS103.mask [true, false, false] (L' := allA serA (out ++ [(⟨x1.lb, u⟩ : MSer)]) :: own a2 o2.length c2 68 2 (o2.flatMap msc) :: allA serA o2 :: cel g4 [Value.slice q.ms.a q.ms.l.length q.ms.cap, Value.int .i64 q.fr, Value.int .i64 q.to] 26 :: cel g2 [Value.slice d.ms.a d.ms.l.length d.ms.cap, Value.int .i64 d.fr, Value.int .i64 d.to] 26 :: allA serA o1 :: own a101 (out.length + 1) c102 68 2 ((out.flatMap msc) ++ [Value.slice x1.lb.a x1.lb.l.length x1.lb.cap, Value.slice u.a u.l.length u.cap]) :: own a1 o1.length c1 68 2 (o1.flatMap msc) :: own a3 o3.length c3 68 2 (o3.flatMap msc) :: allA serA o3 :: hdA 126 131 103 gh D :: (rdH q.ms.a q.ms.l.length 3 (q.ms.l.flatMap mtc)) :: (rdH d.ms.a d.ms.l.length 3 (d.ms.l.flatMap mtc)) :: (rdH a rs.length 5 (rs.flatMap rcc)) :: allA recA rs :: L) rfl).permT [6, 0, 5, 4] (L' := own a101 (out.length + 1) c102 68 2 ((out.flatMap msc) ++ [Value.slice x1.lb.a x1.lb.l.length x1.lb.cap, Value.slice u.a u.l.length u.cap]) :: allA serA (out ++ [(⟨x1.lb, u⟩ : MSer)]) :: own a1 o1.length c1 68 2 (o1.flatMap msc) :: allA serA o1 :: own a2 o2.length c2 68 2 (o2.flatMap msc) :: allA serA o2 :: cel g4 [Value.slice q.ms.a q.ms.l.length q.ms.cap, Value.int .i64 q.fr, Value.int .i64 q.to] 26 :: cel g2 [Value.slice d.ms.a d.ms.l.length d.ms.cap, Value.int .i64 d.fr, Value.int .i64 d.to] 26 :: own a3 o3.length c3 68 2 (o3.flatMap msc) :: allA serA o3 :: hdA 126 131 103 gh D :: (rdH q.ms.a q.ms.l.length 3 (q.ms.l.flatMap mtc)) :: (rdH d.ms.a d.ms.l.length 3 (d.ms.l.flatMap mtc)) :: (rdH a rs.length 5 (rs.flatMap rcc)) :: allA recA rs :: L) rfl) (by simp) (by simp [msc])⟩ (by show o1.length - (n + 1) < o1.length - n; omega) (Sub.cons rfl (Sub.cons rfl (Sub.cons rfl (Sub.cons rfl (Sub.cons rfl (Sub.cons rfl (Sub.cons rfl (Sub.consE rfl (by simp) (Sub.consE rfl (by congr 1) (Sub.nil _))))))))))
        ·
         refine WP.skip (NX.blk (NX.go (WP.region rfl ?_)))
         refine WO.mv rfl rfl ?_
         refine WO.V (run_add rfl rfl (IntWalk.i64_in _ (by omega))) ?_
         refine WO.asg rfl rfl ?_
         refine WO.nil ?_
         exact NX.again (n + 1, out, oa, oc) ⟨⟨by omega, by rw [hout, take_snocM hx1, List.map_append, List.map_cons, List.map_nil, wantF_snoc, if_neg (show ¬ 0 < (lessA (o2.map MSer.p) x1.p.lb x1.p.pts).length by show ¬ 0 < (lessA (o2.map MSer.p) x1.lb.l x1.pt.l).length; rw [← hue]; omega), List.append_nil], by omega, hsz⟩, (hS97.permT [0, 0, 0, 5, 5, 5, 4] (L' := cel g54 [Value.slice x1.lb.a x1.lb.l.length x1.lb.cap, Value.slice u.a u.l.length u.cap] 68 :: (labA x1.lb) :: (ptsA u) :: own oa out.length oc 68 2 (out.flatMap msc) :: allA serA out :: own a1 o1.length c1 68 2 (o1.flatMap msc) :: allA serA o1 :: own a2 o2.length c2 68 2 (o2.flatMap msc) :: allA serA o2 :: cel g4 [Value.slice q.ms.a q.ms.l.length q.ms.cap, Value.int .i64 q.fr, Value.int .i64 q.to] 26 :: cel g2 [Value.slice d.ms.a d.ms.l.length d.ms.cap, Value.int .i64 d.fr, Value.int .i64 d.to] 26 :: own a3 o3.length c3 68 2 (o3.flatMap msc) :: allA serA o3 :: hdA 126 131 103 gh D :: (rdH q.ms.a q.ms.l.length 3 (q.ms.l.flatMap mtc)) :: (rdH d.ms.a d.ms.l.length 3 (d.ms.l.flatMap mtc)) :: (rdH a rs.length 5 (rs.flatMap rcc)) :: allA recA rs :: L) rfl).drop.drop.drop⟩ (by show o1.length - (n + 1) < o1.length - n; omega) (Sub.cons rfl (Sub.cons rfl (Sub.cons rfl (Sub.cons rfl (Sub.cons rfl (Sub.cons rfl (Sub.cons rfl (Sub.consE rfl (by first | rfl | (congr 1; omega) | (simp; done) | (simp; omega)) (Sub.consE rfl (by congr 1) (Sub.nil _))))))))))
      ·
       refine WP.exit (NX.thenExit (NX.thenExit ?_))
       refine NX.blkExit ?_
       refine NX.go (WP.seq ?_)
       rw [List.take_of_length_le (by omega : o1.length ≤ n)] at hout
       refine WP.region rfl ?_
       refine WO.mv rfl rfl ?_
       refine WO.V (run_fa 0 ⟨g2, 0, none⟩ rfl rfl) ?_
       refine WO.V (run_load Ty.ag24 rfl ((hS51.cel_at 7 rfl 0).trans rfl)) ?_
       refine WO.V (run_fa 1 ⟨g2, 1, none⟩ rfl rfl) ?_
       refine WO.V (run_load Ty.ag2 rfl ((hS51.cel_at 7 rfl 1).trans rfl)) ?_
       refine WO.V (run_fa 2 ⟨g2, 2, none⟩ rfl rfl) ?_
       refine WO.V (run_load Ty.ag2 rfl ((hS51.cel_at 7 rfl 2).trans rfl)) ?_
       have hS104 := hS51.permT [10, 11] (L' := hdA 126 131 103 gh D :: (rdH d.ms.a d.ms.l.length 3 (d.ms.l.flatMap mtc)) :: own oa out.length oc 68 2 (out.flatMap msc) :: allA serA out :: own a1 o1.length c1 68 2 (o1.flatMap msc) :: allA serA o1 :: own a2 o2.length c2 68 2 (o2.flatMap msc) :: allA serA o2 :: cel g4 [Value.slice q.ms.a q.ms.l.length q.ms.cap, Value.int .i64 q.fr, Value.int .i64 q.to] 26 :: cel g2 [Value.slice d.ms.a d.ms.l.length d.ms.cap, Value.int .i64 d.fr, Value.int .i64 d.to] 26 :: own a3 o3.length c3 68 2 (o3.flatMap msc) :: allA serA o3 :: (rdH q.ms.a q.ms.l.length 3 (q.ms.l.flatMap mtc)) :: (rdH a rs.length 5 (rs.flatMap rcc)) :: allA recA rs :: L) rfl
       clear hS51
       refine WO.call rfl rfl Ty.hd33 rfl (hquery_spec (g := gh) rdH_rd hD (by omega) (by omega) hdz hdn d.fr d.to hS104) (fun v106 w105 pv106 => ?_)
       obtain ⟨a4, c4, o4, rfl, ho4, hn4, hz4, hS105⟩ := pv106
       clear hS104
       obtain rfl : o4 = [] := List.map_eq_nil_iff.1 (ho4.trans (by rw [hDe]; exact qry_del ..))
       have hS107 : St B (hdA 126 131 103 gh D :: (rdH d.ms.a d.ms.l.length 3 (d.ms.l.flatMap mtc)) :: own oa out.length oc 68 2 (out.flatMap msc) :: allA serA out :: own a1 o1.length c1 68 2 (o1.flatMap msc) :: allA serA o1 :: own a2 o2.length c2 68 2 (o2.flatMap msc) :: allA serA o2 :: cel g4 [Value.slice q.ms.a q.ms.l.length q.ms.cap, Value.int .i64 q.fr, Value.int .i64 q.to] 26 :: cel g2 [Value.slice d.ms.a d.ms.l.length d.ms.cap, Value.int .i64 d.fr, Value.int .i64 d.to] 26 :: own a3 o3.length c3 68 2 (o3.flatMap msc) :: allA serA o3 :: (rdH q.ms.a q.ms.l.length 3 (q.ms.l.flatMap mtc)) :: (rdH a rs.length 5 (rs.flatMap rcc)) :: allA recA rs :: L) w105 := hS105.drop.drop
       clear hS105
       refine WO.V (run_len rfl Tryz.underlying37 rfl) ?_
       refine WO.V (run_eql rfl rfl) ?_
       refine WO.mv rfl rfl ?_
       refine dcase (p := (0 : Int) = 0) (fun g149 d149 => ?_) (fun g149 d149 => ?_)
       ·
        refine WO.on rfl rfl d149 ?_
        refine WO.mv rfl rfl ?_
        refine WO.on rfl rfl d149 ?_
        refine WO.mv rfl rfl ?_
        refine WO.on rfl rfl d149 ?_
        have hS108 := hS107.permT [10, 10, 2, 2] (L' := own a3 o3.length c3 68 2 (o3.flatMap msc) :: allA serA o3 :: own oa out.length oc 68 2 (out.flatMap msc) :: allA serA out :: hdA 126 131 103 gh D :: (rdH d.ms.a d.ms.l.length 3 (d.ms.l.flatMap mtc)) :: own a1 o1.length c1 68 2 (o1.flatMap msc) :: allA serA o1 :: own a2 o2.length c2 68 2 (o2.flatMap msc) :: allA serA o2 :: cel g4 [Value.slice q.ms.a q.ms.l.length q.ms.cap, Value.int .i64 q.fr, Value.int .i64 q.to] 26 :: cel g2 [Value.slice d.ms.a d.ms.l.length d.ms.cap, Value.int .i64 d.fr, Value.int .i64 d.to] 26 :: (rdH q.ms.a q.ms.l.length 3 (q.ms.l.flatMap mtc)) :: (rdH a rs.length 5 (rs.flatMap rcc)) :: allA recA rs :: L) rfl
        clear hS107
        refine WO.call rfl rfl Ty.hd17 rfl (rssame_spec (X := own a3 o3.length c3 68 2 (o3.flatMap msc)) (Y := own oa out.length oc 68 2 (out.flatMap msc)) (fun h => h.own_rd.1) (fun h => h.own_rd.1) (by omega) (by omega) hz3 hsz hS108) (fun v110 w109 pv110 => ?_)
        obtain ⟨rfl, hS109⟩ := pv110
        clear hS108
        refine WO.V (run_pickT rfl d149 rfl) ?_
        refine WO.asg rfl rfl ?_
        refine WO.nil (NX.go (WP.ret ?_))
        refine NX.done (l := [.tmp 6]) rfl rfl ?_
        have heq : o3.map MSer.p = out.map MSer.p := by rw [hout, ho3, ho1, ho2, hDe]; exact (want_del hA.srt).symm
        exact ⟨congrArg Value.bool (decide_eq_true heq), hS109.drop.drop.drop.drop.drop.drop.drop.drop.drop.drop.drop.drop.drop.drop.drop⟩
       ·
        exact absurd rfl g149
   ·
    refine WO.off rfl rfl d35 rfl ?_
    refine WO.off rfl rfl d35 rfl ?_
    refine WO.V (run_pickF rfl d35 rfl) ?_
    refine WO.nil (NX.go ?_)
    refine WP.condF rfl rfl ?_
    refine WP.exit (NX.thenExit (NX.thenExit ?_))
    refine NX.blkExit ?_
    refine NX.go (WP.seq (WP.region rfl ?_))
    refine WO.mv rfl rfl ?_
    refine WO.V (run_fa 0 ⟨g4, 0, none⟩ rfl rfl) ?_
    refine WO.V (run_load Ty.ag24 rfl ((hS12.cel_at 5 rfl 0).trans rfl)) ?_
    refine WO.V (run_fa 1 ⟨g4, 1, none⟩ rfl rfl) ?_
    refine WO.V (run_load Ty.ag2 rfl ((hS12.cel_at 5 rfl 1).trans rfl)) ?_
    refine WO.V (run_fa 2 ⟨g4, 2, none⟩ rfl rfl) ?_
    refine WO.V (run_load Ty.ag2 rfl ((hS12.cel_at 5 rfl 2).trans rfl)) ?_
    have hS111 := hS12.permT [0, 3] (L' := hdA 126 131 103 gh A :: (rdH q.ms.a q.ms.l.length 3 (q.ms.l.flatMap mtc)) :: (rdH a rs.length 5 (rs.flatMap rcc)) :: allA recA rs :: (rdH d.ms.a d.ms.l.length 3 (d.ms.l.flatMap mtc)) :: cel g4 [Value.slice q.ms.a q.ms.l.length q.ms.cap, Value.int .i64 q.fr, Value.int .i64 q.to] 26 :: cel g2 [Value.slice d.ms.a d.ms.l.length d.ms.cap, Value.int .i64 d.fr, Value.int .i64 d.to] 26 :: L) rfl
    clear hS12
    refine WO.call rfl rfl Ty.hd33 rfl (hquery_spec (g := gh) rdH_rd hA (by omega) (by omega) hqz hqn q.fr q.to hS111) (fun v113 w112 pv113 => ?_)
    obtain ⟨a1, c1, o1, rfl, ho1, hn1, hz1, hS112⟩ := pv113
    clear hS111
    refine WO.asg rfl rfl ?_
    refine WO.nil (NX.go (WP.seq (WP.region rfl ?_)))
    refine WO.mv rfl rfl ?_
    refine WO.V (run_fa 0 ⟨g2, 0, none⟩ rfl rfl) ?_
    refine WO.V (run_load Ty.ag24 rfl ((hS112.cel_at 8 rfl 0).trans rfl)) ?_
    refine WO.V (run_fa 1 ⟨g2, 1, none⟩ rfl rfl) ?_
    refine WO.V (run_load Ty.ag2 rfl ((hS112.cel_at 8 rfl 1).trans rfl)) ?_
    refine WO.V (run_fa 2 ⟨g2, 2, none⟩ rfl rfl) ?_
    refine WO.V (run_load Ty.ag2 rfl ((hS112.cel_at 8 rfl 2).trans rfl)) ?_
    have hS114 := hS112.permT [2, 5] (L' := hdA 126 131 103 gh A :: (rdH d.ms.a d.ms.l.length 3 (d.ms.l.flatMap mtc)) :: own a1 o1.length c1 68 2 (o1.flatMap msc) :: allA serA o1 :: (rdH q.ms.a q.ms.l.length 3 (q.ms.l.flatMap mtc)) :: (rdH a rs.length 5 (rs.flatMap rcc)) :: allA recA rs :: cel g4 [Value.slice q.ms.a q.ms.l.length q.ms.cap, Value.int .i64 q.fr, Value.int .i64 q.to] 26 :: cel g2 [Value.slice d.ms.a d.ms.l.length d.ms.cap, Value.int .i64 d.fr, Value.int .i64 d.to] 26 :: L) rfl
    clear hS112
    refine WO.call rfl rfl Ty.hd33 rfl (hquery_spec (g := gh) rdH_rd hA (by omega) (by omega) hdz hdn d.fr d.to hS114) (fun v116 w115 pv116 => ?_)
    obtain ⟨a2, c2, o2, rfl, ho2, hn2, hz2, hS115⟩ := pv116
    clear hS114
    refine WO.asg rfl rfl ?_
    refine WO.nil (NX.go (WP.seq (WP.seq ?_)))
    refine WD.start (fun w => (∀ jz, World.cell? w ⟨g4, jz, none⟩ = [Value.slice q.ms.a q.ms.l.length q.ms.cap, Value.int .i64 q.fr, Value.int .i64 q.to][jz]?) ∧ (∀ jz, World.cell? w ⟨g2, jz, none⟩ = [Value.slice d.ms.a d.ms.l.length d.ms.cap, Value.int .i64 d.fr, Value.int .i64 d.to][jz]?)) [] (bt 12 0) Ty.mo rfl (by kernel_rfl) hS115 (fun _ h => ⟨h.cel_at 9 rfl, h.cel_at 10 rfl⟩) (fun w117 hS117 s118 => ?_)
    clear hS115
    refine DP (i := 0) t5_12 (bt 12 1) rfl rfl rfl rfl (fun w => run_move rfl) ?_
    refine DP (i := 2) t5_12 (bt 12 5) rfl rfl rfl rfl (fun w => run_fa 0 ⟨g2, 0, none⟩ rfl rfl) ?_
    refine DT (i := 3) t5_12 (bt 12 13) s118 rfl rfl rfl rfl (fun w hs => run_load Ty.ag24 rfl ((hs.2 0).trans rfl)) ?_
    refine DP (i := 5) t5_12 (bt 12 45) rfl rfl rfl rfl (fun w => run_fa 1 ⟨g2, 1, none⟩ rfl rfl) ?_
    refine DT (i := 6) t5_12 (bt 12 109) s118 rfl rfl rfl rfl (fun w hs => run_load Ty.ag2 rfl ((hs.2 1).trans rfl)) ?_
    refine DP (i := 7) t5_12 (bt 12 237) rfl rfl rfl rfl (fun w => run_fa 2 ⟨g2, 2, none⟩ rfl rfl) ?_
    refine DT (i := 8) t5_12 (bt 12 493) s118 rfl rfl rfl rfl (fun w hs => run_load Ty.ag2 rfl ((hs.2 2).trans rfl)) ?_
    refine WD.one (i := 1) t5_12 (bt 12 495) rfl (by kernel_rfl) ?_
    refine WO.buildSlice (l := []) hS117 Tryz.underlying24 rfl (fun w => by kernel_rfl) rfl (fun g120 w119 lg120 hS119 => ?_)
    clear hS117
    have hS119 := hS119.own_of_cel (m := 0) (k := 3) rfl
    refine WO.nil ?_
    have s121 : (∀ jz, World.cell? w119 ⟨g4, jz, none⟩ = [Value.slice q.ms.a q.ms.l.length q.ms.cap, Value.int .i64 q.fr, Value.int .i64 q.to][jz]?) ∧ (∀ jz, World.cell? w119 ⟨g2, jz, none⟩ = [Value.slice d.ms.a d.ms.l.length d.ms.cap, Value.int .i64 d.fr, Value.int .i64 d.to][jz]?) := ⟨hS119.cel_at 10 rfl, hS119.cel_at 11 rfl⟩
    refine NX.held s121 ?_
    refine WD.one (i := 4) t5_12 (bt 12 511) rfl (by kernel_rfl) ?_
    refine WO.append (news := (d.ms.l.flatMap mtc)) 0 rfl Tryz.underlying24 Tryz.underlying24 (fun _ h => by cases h) Ty.sz151 (by decide) Ty.by151 Ty.zr151 rfl rfl rfl rfl hS119 rfl ((rdH_rd (hS119.focus 4 rfl)).src) (flat_noAgg mtc_na _) (by omega) (by omega) (fun a123 c124 w122 hS122 => ?_)
    replace hS122 : St B (own a123 d.ms.l.length c124 151 3 (d.ms.l.flatMap mtc) :: own a2 o2.length c2 68 2 (o2.flatMap msc) :: allA serA o2 :: hdA 126 131 103 gh A :: (rdH d.ms.a d.ms.l.length 3 (d.ms.l.flatMap mtc)) :: own a1 o1.length c1 68 2 (o1.flatMap msc) :: allA serA o1 :: (rdH q.ms.a q.ms.l.length 3 (q.ms.l.flatMap mtc)) :: (rdH a rs.length 5 (rs.flatMap rcc)) :: allA recA rs :: cel g4 [Value.slice q.ms.a q.ms.l.length q.ms.cap, Value.int .i64 q.fr, Value.int .i64 q.to] 26 :: cel g2 [Value.slice d.ms.a d.ms.l.length d.ms.cap, Value.int .i64 d.fr, Value.int .i64 d.to] 26 :: L) w122 := (by have z := hS122; rw [Nat.zero_add, List.nil_append] at z; exact z)
    refine WO.as (d := 68) (v := Value.slice a123 d.ms.l.length c124) rfl (congrArg (fun z => Value.slice _ z _) (Nat.zero_add _)) ?_
    clear hS119
    refine WO.nil ?_
    have s125 : (∀ jz, World.cell? w122 ⟨g4, jz, none⟩ = [Value.slice q.ms.a q.ms.l.length q.ms.cap, Value.int .i64 q.fr, Value.int .i64 q.to][jz]?) ∧ (∀ jz, World.cell? w122 ⟨g2, jz, none⟩ = [Value.slice d.ms.a d.ms.l.length d.ms.cap, Value.int .i64 d.fr, Value.int .i64 d.to][jz]?) := ⟨hS122.cel_at 10 rfl, hS122.cel_at 11 rfl⟩
    refine NX.held s125 ?_
    refine DP (i := 9) t5_12 (bt 12 1023) rfl rfl rfl rfl (fun w => run_build (v := Value.agg #[Value.int .i64 2, Value.slice none 0 0, Value.slice a123 d.ms.l.length c124, Value.int .i64 d.fr, Value.int .i64 d.to]) rfl (fun w => by kernel_rfl)) ?_
    refine WD.one (i := 10) t5_12 (bt 12 2047) rfl (by kernel_rfl) ?_
    have hS126 : St B (recA (⟨2, ⟨none, [], 0⟩, ⟨a123, d.ms.l, c124⟩, d.fr, d.to⟩ : Rcd) :: own a2 o2.length c2 68 2 (o2.flatMap msc) :: allA serA o2 :: hdA 126 131 103 gh A :: (rdH d.ms.a d.ms.l.length 3 (d.ms.l.flatMap mtc)) :: own a1 o1.length c1 68 2 (o1.flatMap msc) :: allA serA o1 :: (rdH q.ms.a q.ms.l.length 3 (q.ms.l.flatMap mtc)) :: (rdH a rs.length 5 (rs.flatMap rcc)) :: allA recA rs :: cel g4 [Value.slice q.ms.a q.ms.l.length q.ms.cap, Value.int .i64 q.fr, Value.int .i64 q.to] 26 :: cel g2 [Value.slice d.ms.a d.ms.l.length d.ms.cap, Value.int .i64 d.fr, Value.int .i64 d.to] 26 :: L) w122 := recA_nil 2 d.fr d.to (ms := ⟨a123, d.ms.l, c124⟩) (rdH_own hS122)
    clear hS122
    have hS127 := hS126.permT [3] (L' := hdA 126 131 103 gh A :: recA (⟨2, ⟨none, [], 0⟩, ⟨a123, d.ms.l, c124⟩, d.fr, d.to⟩ : Rcd) :: own a2 o2.length c2 68 2 (o2.flatMap msc) :: allA serA o2 :: (rdH d.ms.a d.ms.l.length 3 (d.ms.l.flatMap mtc)) :: own a1 o1.length c1 68 2 (o1.flatMap msc) :: allA serA o1 :: (rdH q.ms.a q.ms.l.length 3 (q.ms.l.flatMap mtc)) :: (rdH a rs.length 5 (rs.flatMap rcc)) :: allA recA rs :: cel g4 [Value.slice q.ms.a q.ms.l.length q.ms.cap, Value.int .i64 q.fr, Value.int .i64 q.to] 26 :: cel g2 [Value.slice d.ms.a d.ms.l.length d.ms.cap, Value.int .i64 d.fr, Value.int .i64 d.to] 26 :: L) rfl
    clear hS126
    refine WO.call rfl rfl Ty.hd32 rfl (happlyP_spec (g := gh) hA (by omega) (by omega) (⟨2, ⟨none, [], 0⟩, ⟨a123, d.ms.l, c124⟩, d.fr, d.to⟩ : Rcd) ⟨Nat.zero_le _, (by show d.ms.l.length ≤ _; omega), hdz, fun s hs => by cases hs⟩ hS127) (fun v129 w128 pv129 => ?_)
    obtain ⟨hv, hS128⟩ := pv129
    clear hS127
    replace hv : v129 = Value.int .i64 (tryP A (⟨2, [], d.ms.l, d.fr, d.to⟩ : RcP)) := hv
    subst hv
    replace hS128 : St B (hdA 126 131 103 gh (applyP A (⟨2, [], d.ms.l, d.fr, d.to⟩ : RcP)) :: recA (⟨2, ⟨none, [], 0⟩, ⟨a123, d.ms.l, c124⟩, d.fr, d.to⟩ : Rcd) :: own a2 o2.length c2 68 2 (o2.flatMap msc) :: allA serA o2 :: (rdH d.ms.a d.ms.l.length 3 (d.ms.l.flatMap mtc)) :: own a1 o1.length c1 68 2 (o1.flatMap msc) :: allA serA o1 :: (rdH q.ms.a q.ms.l.length 3 (q.ms.l.flatMap mtc)) :: (rdH a rs.length 5 (rs.flatMap rcc)) :: allA recA rs :: cel g4 [Value.slice q.ms.a q.ms.l.length q.ms.cap, Value.int .i64 q.fr, Value.int .i64 q.to] 26 :: cel g2 [Value.slice d.ms.a d.ms.l.length d.ms.cap, Value.int .i64 d.fr, Value.int .i64 d.to] 26 :: L) w128 := (show St B (hdA 126 131 103 gh (applyP A (⟨2, [], d.ms.l, d.fr, d.to⟩ : RcP)) :: _) _ from hS128)
    refine WO.nil ?_
    have s130 : (∀ jz, World.cell? w128 ⟨g4, jz, none⟩ = [Value.slice q.ms.a q.ms.l.length q.ms.cap, Value.int .i64 q.fr, Value.int .i64 q.to][jz]?) ∧ (∀ jz, World.cell? w128 ⟨g2, jz, none⟩ = [Value.slice d.ms.a d.ms.l.length d.ms.cap, Value.int .i64 d.fr, Value.int .i64 d.to][jz]?) := ⟨hS128.cel_at 10 rfl, hS128.cel_at 11 rfl⟩
    refine NX.held s130 ?_
    refine DP (i := 11) t5_12 (bt 12 4095) rfl rfl rfl rfl (fun w => run_neq rfl rfl) ?_
    refine WD.done t5_12 (by kernel_rfl) ?_
    refine NX.go ?_
    refine WP.condP rfl (fun g75 => ?_) (fun g75 => ?_)
    ·
     refine WP.seq ?_
     have hS131 : St B (hdA 126 131 103 gh A :: recA (⟨2, ⟨none, [], 0⟩, ⟨a123, d.ms.l, c124⟩, d.fr, d.to⟩ : Rcd) :: own a2 o2.length c2 68 2 (o2.flatMap msc) :: allA serA o2 :: (rdH d.ms.a d.ms.l.length 3 (d.ms.l.flatMap mtc)) :: own a1 o1.length c1 68 2 (o1.flatMap msc) :: allA serA o1 :: (rdH q.ms.a q.ms.l.length 3 (q.ms.l.flatMap mtc)) :: (rdH a rs.length 5 (rs.flatMap rcc)) :: allA recA rs :: cel g4 [Value.slice q.ms.a q.ms.l.length q.ms.cap, Value.int .i64 q.fr, Value.int .i64 q.to] 26 :: cel g2 [Value.slice d.ms.a d.ms.l.length d.ms.cap, Value.int .i64 d.fr, Value.int .i64 d.to] 26 :: L) w128 := by have z := hS128; rw [applyP_bad g75] at z; exact z
     clear hS128
     refine WP.region rfl ?_
     refine WO.mv rfl rfl ?_
     refine WO.V (run_fa 0 ⟨g4, 0, none⟩ rfl rfl) ?_
     refine WO.V (run_load Ty.ag24 rfl ((hS131.cel_at 10 rfl 0).trans rfl)) ?_
     refine WO.V (run_fa 1 ⟨g4, 1, none⟩ rfl rfl) ?_
     refine WO.V (run_load Ty.ag2 rfl ((hS131.cel_at 10 rfl 1).trans rfl)) ?_
     refine WO.V (run_fa 2 ⟨g4, 2, none⟩ rfl rfl) ?_
     refine WO.V (run_load Ty.ag2 rfl ((hS131.cel_at 10 rfl 2).trans rfl)) ?_
     have hS132 := hS131.permT [0, 6] (L' := hdA 126 131 103 gh A :: (rdH q.ms.a q.ms.l.length 3 (q.ms.l.flatMap mtc)) :: recA (⟨2, ⟨none, [], 0⟩, ⟨a123, d.ms.l, c124⟩, d.fr, d.to⟩ : Rcd) :: own a2 o2.length c2 68 2 (o2.flatMap msc) :: allA serA o2 :: (rdH d.ms.a d.ms.l.length 3 (d.ms.l.flatMap mtc)) :: own a1 o1.length c1 68 2 (o1.flatMap msc) :: allA serA o1 :: (rdH a rs.length 5 (rs.flatMap rcc)) :: allA recA rs :: cel g4 [Value.slice q.ms.a q.ms.l.length q.ms.cap, Value.int .i64 q.fr, Value.int .i64 q.to] 26 :: cel g2 [Value.slice d.ms.a d.ms.l.length d.ms.cap, Value.int .i64 d.fr, Value.int .i64 d.to] 26 :: L) rfl
     clear hS131
     refine WO.call rfl rfl Ty.hd33 rfl (hquery_spec (g := gh) rdH_rd hA (by omega) (by omega) hqz hqn q.fr q.to hS132) (fun v134 w133 pv134 => ?_)
     obtain ⟨a3, c3, o3, rfl, ho3, hn3, hz3, hS133⟩ := pv134
     clear hS132
     refine WO.mv rfl rfl ?_
     have hS135 := hS133.permT [0, 0, 6, 6] (L' := own a3 o3.length c3 68 2 (o3.flatMap msc) :: allA serA o3 :: own a1 o1.length c1 68 2 (o1.flatMap msc) :: allA serA o1 :: hdA 126 131 103 gh A :: (rdH q.ms.a q.ms.l.length 3 (q.ms.l.flatMap mtc)) :: recA (⟨2, ⟨none, [], 0⟩, ⟨a123, d.ms.l, c124⟩, d.fr, d.to⟩ : Rcd) :: own a2 o2.length c2 68 2 (o2.flatMap msc) :: allA serA o2 :: (rdH d.ms.a d.ms.l.length 3 (d.ms.l.flatMap mtc)) :: (rdH a rs.length 5 (rs.flatMap rcc)) :: allA recA rs :: cel g4 [Value.slice q.ms.a q.ms.l.length q.ms.cap, Value.int .i64 q.fr, Value.int .i64 q.to] 26 :: cel g2 [Value.slice d.ms.a d.ms.l.length d.ms.cap, Value.int .i64 d.fr, Value.int .i64 d.to] 26 :: L) rfl
     clear hS133
     refine WO.call rfl rfl Ty.hd17 rfl (rssame_spec (X := own a3 o3.length c3 68 2 (o3.flatMap msc)) (Y := own a1 o1.length c1 68 2 (o1.flatMap msc)) (fun h => h.own_rd.1) (fun h => h.own_rd.1) (by omega) (by omega) hz3 hz1 hS135) (fun v137 w136 pv137 => ?_)
     obtain ⟨rfl, hS136⟩ := pv137
     clear hS135
     refine WO.asg rfl rfl ?_
     refine WO.nil (NX.go (WP.ret (NX.thenRet ?_)))
     refine NX.done (l := [.tmp 6]) rfl rfl ?_
     have heq : o3.map MSer.p = o1.map MSer.p := by rw [ho3, ho1]
     exact ⟨congrArg Value.bool (decide_eq_true heq), hS136.drop.drop.drop.drop.drop.drop.drop.drop.drop.drop.drop.drop.drop.drop⟩
    ·
     refine WP.skip (NX.go (WP.seq ?_))
     have ht0 : tryP A (⟨2, [], d.ms.l, d.fr, d.to⟩ : RcP) = 0 := by simpa using g75
     obtain ⟨D, hDe⟩ : ∃ qq, qq = (delF d.fr d.to d.ms.l A) := ⟨_, rfl⟩
     have hD : WfH D (32 * i) := hDe ▸ wf_del hA
     have hDl : D.length ≤ 256 := by rw [hDe, delF_len]; exact hAl
     have hS138 : St B (hdA 126 131 103 gh D :: recA (⟨2, ⟨none, [], 0⟩, ⟨a123, d.ms.l, c124⟩, d.fr, d.to⟩ : Rcd) :: own a2 o2.length c2 68 2 (o2.flatMap msc) :: allA serA o2 :: (rdH d.ms.a d.ms.l.length 3 (d.ms.l.flatMap mtc)) :: own a1 o1.length c1 68 2 (o1.flatMap msc) :: allA serA o1 :: (rdH q.ms.a q.ms.l.length 3 (q.ms.l.flatMap mtc)) :: (rdH a rs.length 5 (rs.flatMap rcc)) :: allA recA rs :: cel g4 [Value.slice q.ms.a q.ms.l.length q.ms.cap, Value.int .i64 q.fr, Value.int .i64 q.to] 26 :: cel g2 [Value.slice d.ms.a d.ms.l.length d.ms.cap, Value.int .i64 d.fr, Value.int .i64 d.to] 26 :: L) w128 := by have z := hS128; rw [applyP_del ht0, ← hDe] at z; exact z
     clear hS128
     refine WP.region rfl ?_
     refine WO.mv rfl rfl ?_
     refine WO.V (run_fa 0 ⟨g4, 0, none⟩ rfl rfl) ?_
     refine WO.V (run_load Ty.ag24 rfl ((hS138.cel_at 10 rfl 0).trans rfl)) ?_
     refine WO.V (run_fa 1 ⟨g4, 1, none⟩ rfl rfl) ?_
     refine WO.V (run_load Ty.ag2 rfl ((hS138.cel_at 10 rfl 1).trans rfl)) ?_
     refine WO.V (run_fa 2 ⟨g4, 2, none⟩ rfl rfl) ?_
     refine WO.V (run_load Ty.ag2 rfl ((hS138.cel_at 10 rfl 2).trans rfl)) ?_
     have hS139 := hS138.permT [0, 6] (L' := hdA 126 131 103 gh D :: (rdH q.ms.a q.ms.l.length 3 (q.ms.l.flatMap mtc)) :: recA (⟨2, ⟨none, [], 0⟩, ⟨a123, d.ms.l, c124⟩, d.fr, d.to⟩ : Rcd) :: own a2 o2.length c2 68 2 (o2.flatMap msc) :: allA serA o2 :: (rdH d.ms.a d.ms.l.length 3 (d.ms.l.flatMap mtc)) :: own a1 o1.length c1 68 2 (o1.flatMap msc) :: allA serA o1 :: (rdH a rs.length 5 (rs.flatMap rcc)) :: allA recA rs :: cel g4 [Value.slice q.ms.a q.ms.l.length q.ms.cap, Value.int .i64 q.fr, Value.int .i64 q.to] 26 :: cel g2 [Value.slice d.ms.a d.ms.l.length d.ms.cap, Value.int .i64 d.fr, Value.int .i64 d.to] 26 :: L) rfl
     clear hS138
     refine WO.call rfl rfl Ty.hd33 rfl (hquery_spec (g := gh) rdH_rd hD (by omega) (by omega) hqz hqn q.fr q.to hS139) (fun v141 w140 pv141 => ?_)
     obtain ⟨a3, c3, o3, rfl, ho3, hn3, hz3, hS140⟩ := pv141
     clear hS139
     refine WO.asg rfl rfl ?_
     refine WO.nil (NX.go (WP.seq (WP.region rfl ?_)))
     refine WO.asg rfl rfl ?_
     refine WO.nil (NX.go (WP.seq (WP.seq (WP.region rfl ?_))))
     refine WO.asg rfl rfl ?_
     refine WO.nil (NX.go (WP.block ?_))
     have hS142 : St B (recA (⟨2, ⟨none, [], 0⟩, ⟨a123, d.ms.l, c124⟩, d.fr, d.to⟩ : Rcd) :: own a2 o2.length c2 68 2 (o2.flatMap msc) :: allA serA o2 :: own a1 o1.length c1 68 2 (o1.flatMap msc) :: allA serA o1 :: cel g4 [Value.slice q.ms.a q.ms.l.length q.ms.cap, Value.int .i64 q.fr, Value.int .i64 q.to] 26 :: cel g2 [Value.slice d.ms.a d.ms.l.length d.ms.cap, Value.int .i64 d.fr, Value.int .i64 d.to] 26 :: own a3 o3.length c3 68 2 (o3.flatMap msc) :: allA serA o3 :: hdA 126 131 103 gh D :: (rdH q.ms.a q.ms.l.length 3 (q.ms.l.flatMap mtc)) :: (rdH d.ms.a d.ms.l.length 3 (d.ms.l.flatMap mtc)) :: (rdH a rs.length 5 (rs.flatMap rcc)) :: allA recA rs :: L) w140 := (hS140.permT [4, 4, 4, 5, 5, 7, 7] (L' := recA (⟨2, ⟨none, [], 0⟩, ⟨a123, d.ms.l, c124⟩, d.fr, d.to⟩ : Rcd) :: own a2 o2.length c2 68 2 (o2.flatMap msc) :: allA serA o2 :: own a1 o1.length c1 68 2 (o1.flatMap msc) :: allA serA o1 :: cel g4 [Value.slice q.ms.a q.ms.l.length q.ms.cap, Value.int .i64 q.fr, Value.int .i64 q.to] 26 :: cel g2 [Value.slice d.ms.a d.ms.l.length d.ms.cap, Value.int .i64 d.fr, Value.int .i64 d.to] 26 :: own a3 o3.length c3 68 2 (o3.flatMap msc) :: allA serA o3 :: hdA 126 131 103 gh D :: (rdH q.ms.a q.ms.l.length 3 (q.ms.l.flatMap mtc)) :: (rdH d.ms.a d.ms.l.length 3 (d.ms.l.flatMap mtc)) :: (rdH a rs.length 5 (rs.flatMap rcc)) :: allA recA rs :: L) rfl)
     clear hS140
     replace hS142 := (St.addPure trivial hS142 : St B (allA serA [] :: recA (⟨2, ⟨none, [], 0⟩, ⟨a123, d.ms.l, c124⟩, d.fr, d.to⟩ : Rcd) :: own a2 o2.length c2 68 2 (o2.flatMap msc) :: allA serA o2 :: own a1 o1.length c1 68 2 (o1.flatMap msc) :: allA serA o1 :: cel g4 [Value.slice q.ms.a q.ms.l.length q.ms.cap, Value.int .i64 q.fr, Value.int .i64 q.to] 26 :: cel g2 [Value.slice d.ms.a d.ms.l.length d.ms.cap, Value.int .i64 d.fr, Value.int .i64 d.to] 26 :: own a3 o3.length c3 68 2 (o3.flatMap msc) :: allA serA o3 :: hdA 126 131 103 gh D :: (rdH q.ms.a q.ms.l.length 3 (q.ms.l.flatMap mtc)) :: (rdH d.ms.a d.ms.l.length 3 (d.ms.l.flatMap mtc)) :: (rdH a rs.length 5 (rs.flatMap rcc)) :: allA recA rs :: L) w140)
     replace hS142 := hS142.own_nil 68 2
     refine WP.loop (α := Nat × List MSer × Option Addr × Nat) (fun x => match x with | ⟨n, out, oa, oc⟩ => [(0, Value.slice a rs.length cap), (4, Value.pointer (some ⟨g2, 0, none⟩)), (5, Value.pointer (some ⟨g4, 0, none⟩)), (7, Value.pointer (some ⟨gh, 0, none⟩)), (9, Value.slice a1 o1.length c1), (10, Value.slice a2 o2.length c2), (11, Value.slice a3 o3.length c3), (12, Value.slice oa out.length oc), (13, Value.int .i64 (n : Int))]) (fun x w => match x with | ⟨n, out, oa, oc⟩ => (n ≤ o1.length ∧ out.map MSer.p = wantF (o2.map MSer.p) ((o1.take n).map MSer.p) ∧ out.length ≤ n ∧ (∀ s ∈ out, s.lb.l.length ≤ 4398046511104 ∧ s.pt.l.length ≤ 4398046511104)) ∧ St B (own oa out.length oc 68 2 (out.flatMap msc) :: allA serA out :: own a1 o1.length c1 68 2 (o1.flatMap msc) :: allA serA o1 :: own a2 o2.length c2 68 2 (o2.flatMap msc) :: allA serA o2 :: cel g4 [Value.slice q.ms.a q.ms.l.length q.ms.cap, Value.int .i64 q.fr, Value.int .i64 q.to] 26 :: cel g2 [Value.slice d.ms.a d.ms.l.length d.ms.cap, Value.int .i64 d.fr, Value.int .i64 d.to] 26 :: own a3 o3.length c3 68 2 (o3.flatMap msc) :: allA serA o3 :: hdA 126 131 103 gh D :: (rdH q.ms.a q.ms.l.length 3 (q.ms.l.flatMap mtc)) :: (rdH d.ms.a d.ms.l.length 3 (d.ms.l.flatMap mtc)) :: (rdH a rs.length 5 (rs.flatMap rcc)) :: allA recA rs :: L) w) (fun x => match x with | ⟨n, out, oa, oc⟩ => o1.length - n) (0, [], none, 0) ⟨⟨Nat.zero_le _, rfl, Nat.le_refl _, (fun s h => by cases h)⟩, ((hS142.mask [true, true, false] (L' := own none 0 0 68 2 [] :: allA serA [] :: own a2 o2.length c2 68 2 (o2.flatMap msc) :: allA serA o2 :: own a1 o1.length c1 68 2 (o1.flatMap msc) :: allA serA o1 :: cel g4 [Value.slice q.ms.a q.ms.l.length q.ms.cap, Value.int .i64 q.fr, Value.int .i64 q.to] 26 :: cel g2 [Value.slice d.ms.a d.ms.l.length d.ms.cap, Value.int .i64 d.fr, Value.int .i64 d.to] 26 :: own a3 o3.length c3 68 2 (o3.flatMap msc) :: allA serA o3 :: hdA 126 131 103 gh D :: (rdH q.ms.a q.ms.l.length 3 (q.ms.l.flatMap mtc)) :: (rdH d.ms.a d.ms.l.length 3 (d.ms.l.flatMap mtc)) :: (rdH a rs.length 5 (rs.flatMap rcc)) :: allA recA rs :: L) rfl).permT [0, 0, 2, 2] (L' := own none 0 0 68 2 [] :: allA serA [] :: own a1 o1.length c1 68 2 (o1.flatMap msc) :: allA serA o1 :: own a2 o2.length c2 68 2 (o2.flatMap msc) :: allA serA o2 :: cel g4 [Value.slice q.ms.a q.ms.l.length q.ms.cap, Value.int .i64 q.fr, Value.int .i64 q.to] 26 :: cel g2 [Value.slice d.ms.a d.ms.l.length d.ms.cap, Value.int .i64 d.fr, Value.int .i64 d.to] 26 :: own a3 o3.length c3 68 2 (o3.flatMap msc) :: allA serA o3 :: hdA 126 131 103 gh D :: (rdH q.ms.a q.ms.l.length 3 (q.ms.l.flatMap mtc)) :: (rdH d.ms.a d.ms.l.length 3 (d.ms.l.flatMap mtc)) :: (rdH a rs.length 5 (rs.flatMap rcc)) :: allA recA rs :: L) rfl)⟩ (Sub.cons rfl (Sub.cons rfl (Sub.cons rfl (Sub.cons rfl (Sub.cons rfl (Sub.cons rfl (Sub.cons rfl (Sub.consE rfl (by first | rfl | first | rfl | (congr 1; omega) | (simp; done) | (simp; omega)) (Sub.consE rfl (by first | rfl | first | rfl | (congr 1; omega) | (simp; done) | (simp; omega)) (Sub.nil _)))))))))) ?_
     rintro ⟨n, out, oa, oc⟩ w143 ⟨⟨hn, hout, hon, hsz⟩, hS143⟩
     clear hS142
     refine WP.seq (WP.seq (WP.region rfl ?_))
     refine WO.mv rfl rfl ?_
     refine WO.mv rfl rfl ?_
     refine WO.V (run_len rfl Tryz.underlying37 rfl) ?_
     refine WO.V (run_lss rfl rfl) ?_
     refine WO.nil (NX.go ?_)
     refine WP.condP rfl (fun g97 => ?_) (fun g97 => ?_)
     ·
      refine WP.skip (NX.go (WP.seq (WP.block (WP.seq ?_))))
      obtain ⟨x1, hx1⟩ : ∃ qq, o1[n]? = some qq := ⟨_, List.getElem?_eq_getElem (by omega)⟩
      have hS144 := serA_get (List.mem_of_getElem? hx1) (hS143.permT [3] (L' := allA serA o1 :: own oa out.length oc 68 2 (out.flatMap msc) :: allA serA out :: own a1 o1.length c1 68 2 (o1.flatMap msc) :: own a2 o2.length c2 68 2 (o2.flatMap msc) :: allA serA o2 :: cel g4 [Value.slice q.ms.a q.ms.l.length q.ms.cap, Value.int .i64 q.fr, Value.int .i64 q.to] 26 :: cel g2 [Value.slice d.ms.a d.ms.l.length d.ms.cap, Value.int .i64 d.fr, Value.int .i64 d.to] 26 :: own a3 o3.length c3 68 2 (o3.flatMap msc) :: allA serA o3 :: hdA 126 131 103 gh D :: (rdH q.ms.a q.ms.l.length 3 (q.ms.l.flatMap mtc)) :: (rdH d.ms.a d.ms.l.length 3 (d.ms.l.flatMap mtc)) :: (rdH a rs.length 5 (rs.flatMap rcc)) :: allA recA rs :: L) rfl)
      clear hS143
      have hs1 : a1.isSome = true := rd_isSome ((hS144.own_rd_i 5 rfl)) (by omega)
      refine WP.region rfl ?_
      refine WO.mv rfl rfl ?_
      refine WO.mv rfl rfl ?_
      refine WO.V (run_indexAddr (q := adr a1 (n * 2)) Tryz.underlying37 Ty.sz68 rfl rfl (by omega) (by omega) ((hS144.own_rd_i 5 rfl).2.1 (by omega)) rfl) ?_
      refine WO.V (run_loadAgg (vs := [Value.slice x1.lb.a x1.lb.l.length x1.lb.cap, Value.slice x1.pt.a x1.pt.l.length x1.pt.cap]) Ty.ag68 Ty.sz68 rfl ((hS144.own_rd_i 5 rfl).cells (by rw [flat_len msc_len]; omega) (flat_part msc_len hx1)).1 ((hS144.own_rd_i 5 rfl).cells (by rw [flat_len msc_len]; omega) (flat_part msc_len hx1)).2) ?_
      refine WO.alloc (l := [Value.slice none 0 0, Value.slice none 0 0]) hS144 Ty.zr68 rfl rfl (fun g146 w145 lg146 hS145 => ?_)
      clear hS144
      refine WO.store (l' := [Value.slice x1.lb.a x1.lb.l.length x1.lb.cap, Value.slice x1.pt.a x1.pt.l.length x1.pt.cap]) 0 hS145 rfl Ty.sz68 rfl rfl rfl rfl rfl (Nat.le_of_ble_eq_true rfl) rfl (fun w147 (hS147 : St B (cel g146 [Value.slice x1.lb.a x1.lb.l.length x1.lb.cap, Value.slice x1.pt.a x1.pt.l.length x1.pt.cap] 68 :: (labA x1.lb) :: (ptsA x1.pt) :: allA serA o1 :: own oa out.length oc 68 2 (out.flatMap msc) :: allA serA out :: own a1 o1.length c1 68 2 (o1.flatMap msc) :: own a2 o2.length c2 68 2 (o2.flatMap msc) :: allA serA o2 :: cel g4 [Value.slice q.ms.a q.ms.l.length q.ms.cap, Value.int .i64 q.fr, Value.int .i64 q.to] 26 :: cel g2 [Value.slice d.ms.a d.ms.l.length d.ms.cap, Value.int .i64 d.fr, Value.int .i64 d.to] 26 :: own a3 o3.length c3 68 2 (o3.flatMap msc) :: allA serA o3 :: hdA 126 131 103 gh D :: (rdH q.ms.a q.ms.l.length 3 (q.ms.l.flatMap mtc)) :: (rdH d.ms.a d.ms.l.length 3 (d.ms.l.flatMap mtc)) :: (rdH a rs.length 5 (rs.flatMap rcc)) :: allA recA rs :: L) w147) => ?_)
      clear hS145
      refine WO.nil (NX.go (WP.seq (WP.seq (WP.region rfl ?_))))
      refine WO.asg rfl rfl ?_
      refine WO.nil (NX.go (WP.block ?_))
      have hS148 : St B (cel g146 [Value.slice x1.lb.a x1.lb.l.length x1.lb.cap, Value.slice x1.pt.a x1.pt.l.length x1.pt.cap] 68 :: (labA x1.lb) :: (ptsA x1.pt) :: own a2 o2.length c2 68 2 (o2.flatMap msc) :: allA serA o2 :: cel g4 [Value.slice q.ms.a q.ms.l.length q.ms.cap, Value.int .i64 q.fr, Value.int .i64 q.to] 26 :: cel g2 [Value.slice d.ms.a d.ms.l.length d.ms.cap, Value.int .i64 d.fr, Value.int .i64 d.to] 26 :: allA serA o1 :: own oa out.length oc 68 2 (out.flatMap msc) :: allA serA out :: own a1 o1.length c1 68 2 (o1.flatMap msc) :: own a3 o3.length c3 68 2 (o3.flatMap msc) :: allA serA o3 :: hdA 126 131 103 gh D :: (rdH q.ms.a q.ms.l.length 3 (q.ms.l.flatMap mtc)) :: (rdH d.ms.a d.ms.l.length 3 (d.ms.l.flatMap mtc)) :: (rdH a rs.length 5 (rs.flatMap rcc)) :: allA recA rs :: L) w147 := (hS147.permT [0, 0, 0, 4, 4, 4, 4] (L' := cel g146 [Value.slice x1.lb.a x1.lb.l.length x1.lb.cap, Value.slice x1.pt.a x1.pt.l.length x1.pt.cap] 68 :: (labA x1.lb) :: (ptsA x1.pt) :: own a2 o2.length c2 68 2 (o2.flatMap msc) :: allA serA o2 :: cel g4 [Value.slice q.ms.a q.ms.l.length q.ms.cap, Value.int .i64 q.fr, Value.int .i64 q.to] 26 :: cel g2 [Value.slice d.ms.a d.ms.l.length d.ms.cap, Value.int .i64 d.fr, Value.int .i64 d.to] 26 :: allA serA o1 :: own oa out.length oc 68 2 (out.flatMap msc) :: allA serA out :: own a1 o1.length c1 68 2 (o1.flatMap msc) :: own a3 o3.length c3 68 2 (o3.flatMap msc) :: allA serA o3 :: hdA 126 131 103 gh D :: (rdH q.ms.a q.ms.l.length 3 (q.ms.l.flatMap mtc)) :: (rdH d.ms.a d.ms.l.length 3 (d.ms.l.flatMap mtc)) :: (rdH a rs.length 5 (rs.flatMap rcc)) :: allA recA rs :: L) rfl)
      clear hS147
      refine WP.loop (α := Nat × SlV Pt) (fun x => match x with | ⟨k, u⟩ => [(0, Value.slice a rs.length cap), (4, Value.pointer (some ⟨g2, 0, none⟩)), (5, Value.pointer (some ⟨g4, 0, none⟩)), (7, Value.pointer (some ⟨gh, 0, none⟩)), (9, Value.slice a1 o1.length c1), (10, Value.slice a2 o2.length c2), (11, Value.slice a3 o3.length c3), (12, Value.slice oa out.length oc), (13, Value.int .i64 (n : Int)), (14, Value.pointer (some ⟨g146, 0, none⟩)), (15, Value.int .i64 (k : Int))]) (fun x w => match x with | ⟨k, u⟩ => (k ≤ o2.length ∧ u.l = lessA ((o2.take k).map MSer.p) x1.lb.l x1.pt.l ∧ u.l.length ≤ 4398046511104) ∧ St B (cel g146 [Value.slice x1.lb.a x1.lb.l.length x1.lb.cap, Value.slice u.a u.l.length u.cap] 68 :: (labA x1.lb) :: (ptsA u) :: own a2 o2.length c2 68 2 (o2.flatMap msc) :: allA serA o2 :: cel g4 [Value.slice q.ms.a q.ms.l.length q.ms.cap, Value.int .i64 q.fr, Value.int .i64 q.to] 26 :: cel g2 [Value.slice d.ms.a d.ms.l.length d.ms.cap, Value.int .i64 d.fr, Value.int .i64 d.to] 26 :: allA serA o1 :: own oa out.length oc 68 2 (out.flatMap msc) :: allA serA out :: own a1 o1.length c1 68 2 (o1.flatMap msc) :: own a3 o3.length c3 68 2 (o3.flatMap msc) :: allA serA o3 :: hdA 126 131 103 gh D :: (rdH q.ms.a q.ms.l.length 3 (q.ms.l.flatMap mtc)) :: (rdH d.ms.a d.ms.l.length 3 (d.ms.l.flatMap mtc)) :: (rdH a rs.length 5 (rs.flatMap rcc)) :: allA recA rs :: L) w) (fun x => match x with | ⟨k, u⟩ => o2.length - k) (0, x1.pt) ⟨⟨Nat.zero_le _, rfl, (hz1 x1 (List.mem_of_getElem? hx1)).2⟩, hS148⟩ (Sub.cons rfl (Sub.cons rfl (Sub.cons rfl (Sub.cons rfl (Sub.cons rfl (Sub.cons rfl (Sub.cons rfl (Sub.cons rfl (Sub.cons rfl (Sub.cons rfl (Sub.consE rfl (by first | rfl | first | rfl | (congr 1; omega) | (simp; done) | (simp; omega)) (Sub.nil _)))))))))))) ?_
      rintro ⟨k, u⟩ w149 ⟨⟨hk, hue, hul⟩, hS149⟩
      clear hS148
      refine WP.seq (WP.seq (WP.region rfl ?_))
      refine WO.mv rfl rfl ?_
      refine WO.mv rfl rfl ?_
      refine WO.V (run_len rfl Tryz.underlying37 rfl) ?_
      refine WO.V (run_lss rfl rfl) ?_
      refine WO.nil (NX.go ?_)
      refine WP.condP rfl (fun g107 => ?_) (fun g107 => ?_)
      ·
       refine WP.skip (NX.go (WP.seq (WP.block (WP.seq ?_))))
       obtain ⟨y1, hy1⟩ : ∃ qq, o2[k]? = some qq := ⟨_, List.getElem?_eq_getElem (by omega)⟩
       have hS150 := serA_get (List.mem_of_getElem? hy1) (hS149.permT [4] (L' := allA serA o2 :: cel g146 [Value.slice x1.lb.a x1.lb.l.length x1.lb.cap, Value.slice u.a u.l.length u.cap] 68 :: (labA x1.lb) :: (ptsA u) :: own a2 o2.length c2 68 2 (o2.flatMap msc) :: cel g4 [Value.slice q.ms.a q.ms.l.length q.ms.cap, Value.int .i64 q.fr, Value.int .i64 q.to] 26 :: cel g2 [Value.slice d.ms.a d.ms.l.length d.ms.cap, Value.int .i64 d.fr, Value.int .i64 d.to] 26 :: allA serA o1 :: own oa out.length oc 68 2 (out.flatMap msc) :: allA serA out :: own a1 o1.length c1 68 2 (o1.flatMap msc) :: own a3 o3.length c3 68 2 (o3.flatMap msc) :: allA serA o3 :: hdA 126 131 103 gh D :: (rdH q.ms.a q.ms.l.length 3 (q.ms.l.flatMap mtc)) :: (rdH d.ms.a d.ms.l.length 3 (d.ms.l.flatMap mtc)) :: (rdH a rs.length 5 (rs.flatMap rcc)) :: allA recA rs :: L) rfl)
       clear hS149
       have hs2 : a2.isSome = true := rd_isSome ((hS150.own_rd_i 6 rfl)) (by omega)
       refine WD.start (fun w => (∀ jz, World.cell? w ⟨g146, jz, none⟩ = [Value.slice x1.lb.a x1.lb.l.length x1.lb.cap, Value.slice u.a u.l.length u.cap][jz]?) ∧ (∀ jz, World.cell? w ⟨g4, jz, none⟩ = [Value.slice q.ms.a q.ms.l.length q.ms.cap, Value.int .i64 q.fr, Value.int .i64 q.to][jz]?) ∧ (∀ jz, World.cell? w ⟨g2, jz, none⟩ = [Value.slice d.ms.a d.ms.l.length d.ms.cap, Value.int .i64 d.fr, Value.int .i64 d.to][jz]?) ∧ Rd w a2 o2.length 2 (o2.flatMap msc)) [] (bt 12 0) Ty.mo rfl (by kernel_rfl) hS150 (fun _ h => ⟨h.cel_at 3 rfl, h.cel_at 7 rfl, h.cel_at 8 rfl, (h.own_rd_i 6 rfl)⟩) (fun w151 hS151 s152 => ?_)
       clear hS150
       refine DP (i := 0) t5_23 (bt 12 1) rfl rfl rfl rfl (fun w => run_move rfl) ?_
       refine DP (i := 1) t5_23 (bt 12 3) rfl rfl rfl rfl (fun w => run_move rfl) ?_
       refine DT (i := 2) t5_23 (bt 12 7) s152 rfl rfl rfl rfl (fun w hs => run_indexAddr (q := adr a2 (k * 2)) Tryz.underlying37 Ty.sz68 rfl rfl (by omega) (by omega) ((hs.2.2.2).2.1 (by omega)) rfl) ?_
       refine DP (i := 3) t5_23 (bt 12 15) rfl rfl rfl rfl (fun w => run_fa 0 (adr a2 (k * 2 + 0)) rfl (adr_add _ (by assumption) _ _)) ?_
       refine DT (i := 4) t5_23 (bt 12 31) s152 rfl rfl rfl rfl (fun w hs => run_load Ty.ag65 rfl ((hs.2.2.2).cell ((flat_get msc_len hy1 (j := 0) (by decide)).trans rfl))) ?_
       refine DP (i := 5) t5_23 (bt 12 63) rfl rfl rfl rfl (fun w => run_build (v := Value.agg #[Value.slice y1.lb.a y1.lb.l.length y1.lb.cap, Value.slice none 0 0]) rfl (fun w => by kernel_rfl)) ?_
       refine DP (i := 7) t5_23 (bt 12 191) rfl rfl rfl rfl (fun w => run_fa 0 ⟨g146, 0, none⟩ rfl rfl) ?_
       refine DT (i := 8) t5_23 (bt 12 447) s152 rfl rfl rfl rfl (fun w hs => run_load Ty.ag65 rfl ((hs.1 0).trans rfl)) ?_
       refine DP (i := 9) t5_23 (bt 12 959) rfl rfl rfl rfl (fun w => run_build (v := Value.agg #[Value.slice x1.lb.a x1.lb.l.length x1.lb.cap, Value.slice none 0 0]) rfl (fun w => by kernel_rfl)) ?_
       refine WD.two (i := 6) (k := 10) t5_23 (bt 12 1023) (bt 12 1983) rfl rfl (by kernel_rfl) ?_ ?_
       ·
        refine WO.buildSlice (l := [Value.slice y1.lb.a y1.lb.l.length y1.lb.cap, Value.slice none 0 0]) hS151 Tryz.underlying37 rfl (fun w => by kernel_rfl) rfl (fun g154 w153 lg154 hS153 => ?_)
        clear hS151
        have hS153 := hS153.own_of_cel (m := 1) (k := 2) rfl
        refine WO.nil ?_
        have s155 : (∀ jz, World.cell? w153 ⟨g146, jz, none⟩ = [Value.slice x1.lb.a x1.lb.l.length x1.lb.cap, Value.slice u.a u.l.length u.cap][jz]?) ∧ (∀ jz, World.cell? w153 ⟨g4, jz, none⟩ = [Value.slice q.ms.a q.ms.l.length q.ms.cap, Value.int .i64 q.fr, Value.int .i64 q.to][jz]?) ∧ (∀ jz, World.cell? w153 ⟨g2, jz, none⟩ = [Value.slice d.ms.a d.ms.l.length d.ms.cap, Value.int .i64 d.fr, Value.int .i64 d.to][jz]?) ∧ Rd w153 a2 o2.length 2 (o2.flatMap msc) := ⟨hS153.cel_at 4 rfl, hS153.cel_at 8 rfl, hS153.cel_at 9 rfl, (hS153.own_rd_i 7 rfl)⟩
        refine NX.held s155 ?_
        refine WD.one (i := 10) t5_23 (bt 12 2047) rfl (by kernel_rfl) ?_
        refine WO.buildSlice (l := [Value.slice x1.lb.a x1.lb.l.length x1.lb.cap, Value.slice none 0 0]) hS153 Tryz.underlying37 rfl (fun w => by kernel_rfl) rfl (fun g157 w156 lg157 hS156 => ?_)
        clear hS153
        have hS156 := hS156.own_of_cel (m := 1) (k := 2) rfl
        refine WO.nil ?_
        have s158 : (∀ jz, World.cell? w156 ⟨g146, jz, none⟩ = [Value.slice x1.lb.a x1.lb.l.length x1.lb.cap, Value.slice u.a u.l.length u.cap][jz]?) ∧ (∀ jz, World.cell? w156 ⟨g4, jz, none⟩ = [Value.slice q.ms.a q.ms.l.length q.ms.cap, Value.int .i64 q.fr, Value.int .i64 q.to][jz]?) ∧ (∀ jz, World.cell? w156 ⟨g2, jz, none⟩ = [Value.slice d.ms.a d.ms.l.length d.ms.cap, Value.int .i64 d.fr, Value.int .i64 d.to][jz]?) ∧ Rd w156 a2 o2.length 2 (o2.flatMap msc) := ⟨hS156.cel_at 5 rfl, hS156.cel_at 9 rfl, hS156.cel_at 10 rfl, (hS156.own_rd_i 8 rfl)⟩
        refine NX.held s158 ?_
        refine WD.one (i := 11) t5_23 (bt 12 4095) rfl (by kernel_rfl) ?_
        have hS159 := hS156.permT [1, 0, 0, 3] (L' := own (some ⟨g154, 0, none⟩) 1 1 68 2 [Value.slice y1.lb.a y1.lb.l.length y1.lb.cap, Value.slice none 0 0] :: own (some ⟨g157, 0, none⟩) 1 1 68 2 [Value.slice x1.lb.a x1.lb.l.length x1.lb.cap, Value.slice none 0 0] :: (labA y1.lb) :: (labA x1.lb) :: (ptsA y1.pt) :: allA serA o2 :: cel g146 [Value.slice x1.lb.a x1.lb.l.length x1.lb.cap, Value.slice u.a u.l.length u.cap] 68 :: (ptsA u) :: own a2 o2.length c2 68 2 (o2.flatMap msc) :: cel g4 [Value.slice q.ms.a q.ms.l.length q.ms.cap, Value.int .i64 q.fr, Value.int .i64 q.to] 26 :: cel g2 [Value.slice d.ms.a d.ms.l.length d.ms.cap, Value.int .i64 d.fr, Value.int .i64 d.to] 26 :: allA serA o1 :: own oa out.length oc 68 2 (out.flatMap msc) :: allA serA out :: own a1 o1.length c1 68 2 (o1.flatMap msc) :: own a3 o3.length c3 68 2 (o3.flatMap msc) :: allA serA o3 :: hdA 126 131 103 gh D :: (rdH q.ms.a q.ms.l.length 3 (q.ms.l.flatMap mtc)) :: (rdH d.ms.a d.ms.l.length 3 (d.ms.l.flatMap mtc)) :: (rdH a rs.length 5 (rs.flatMap rcc)) :: allA recA rs :: L) rfl
        clear hS156
        refine WO.call rfl rfl Ty.hd17 rfl (same1_spec (x := y1.lb) (y := x1.lb) (hz2 y1 (List.mem_of_getElem? hy1)).1 (hz1 x1 (List.mem_of_getElem? hx1)).1 hS159) (fun v161 w160 pv161 => ?_)
        obtain ⟨rfl, hS160⟩ := pv161
        clear hS159
        refine WO.nil ?_
        have s162 : (∀ jz, World.cell? w160 ⟨g146, jz, none⟩ = [Value.slice x1.lb.a x1.lb.l.length x1.lb.cap, Value.slice u.a u.l.length u.cap][jz]?) ∧ (∀ jz, World.cell? w160 ⟨g4, jz, none⟩ = [Value.slice q.ms.a q.ms.l.length q.ms.cap, Value.int .i64 q.fr, Value.int .i64 q.to][jz]?) ∧ (∀ jz, World.cell? w160 ⟨g2, jz, none⟩ = [Value.slice d.ms.a d.ms.l.length d.ms.cap, Value.int .i64 d.fr, Value.int .i64 d.to][jz]?) ∧ Rd w160 a2 o2.length 2 (o2.flatMap msc) := ⟨hS160.cel_at 4 rfl, hS160.cel_at 7 rfl, hS160.cel_at 8 rfl, (hS160.own_rd_i 6 rfl)⟩
        refine NX.held s162 ?_
        refine WD.done t5_23 (by kernel_rfl) ?_
        refine NX.go ?_
        refine WP.condP rfl (fun g121 => ?_) (fun g121 => ?_)
        ·
         refine WD.start (fun w => (∀ jz, World.cell? w ⟨g146, jz, none⟩ = [Value.slice x1.lb.a x1.lb.l.length x1.lb.cap, Value.slice u.a u.l.length u.cap][jz]?) ∧ (∀ jz, World.cell? w ⟨g4, jz, none⟩ = [Value.slice q.ms.a q.ms.l.length q.ms.cap, Value.int .i64 q.fr, Value.int .i64 q.to][jz]?) ∧ (∀ jz, World.cell? w ⟨g2, jz, none⟩ = [Value.slice d.ms.a d.ms.l.length d.ms.cap, Value.int .i64 d.fr, Value.int .i64 d.to][jz]?) ∧ Rd w a2 o2.length 2 (o2.flatMap msc)) [9] (bt 10 0) Ty.mo rfl (by kernel_rfl) hS160 (fun _ h => ⟨h.cel_at 4 rfl, h.cel_at 7 rfl, h.cel_at 8 rfl, (h.own_rd_i 6 rfl)⟩) (fun w163 hS163 s164 => ?_)
         clear hS160
         refine DP (i := 0) t5_24 (bt 10 1) rfl rfl rfl rfl (fun w => run_fa 1 ⟨g146, 1, none⟩ rfl rfl) ?_
         refine DT (i := 1) t5_24 (bt 10 3) s164 rfl rfl rfl rfl (fun w hs => run_load Ty.ag66 rfl ((hs.1 1).trans rfl)) ?_
         refine DP (i := 2) t5_24 (bt 10 7) rfl rfl rfl rfl (fun w => run_move rfl) ?_
         refine DP (i := 3) t5_24 (bt 10 15) rfl rfl rfl rfl (fun w => run_move rfl) ?_
         refine DT (i := 4) t5_24 (bt 10 31) s164 rfl rfl rfl rfl (fun w hs => run_indexAddr (q := adr a2 (k * 2)) Tryz.underlying37 Ty.sz68 rfl rfl (by omega) (by omega) ((hs.2.2.2).2.1 (by omega)) rfl) ?_
         refine DP (i := 5) t5_24 (bt 10 63) rfl rfl rfl rfl (fun w => run_fa 1 (adr a2 (k * 2 + 1)) rfl (adr_add _ (by assumption) _ _)) ?_
         refine DT (i := 6) t5_24 (bt 10 127) s164 rfl rfl rfl rfl (fun w hs => run_load Ty.ag66 rfl ((hs.2.2.2).cell ((flat_get msc_len hy1 (j := 1) (by decide)).trans rfl))) ?_
         refine WD.one (i := 7) t5_24 (bt 10 255) rfl (by kernel_rfl) ?_
         have hS165 := hS163.permT [5, 2] (L' := (ptsA u) :: (ptsA y1.pt) :: (labA y1.lb) :: (labA x1.lb) :: allA serA o2 :: cel g146 [Value.slice x1.lb.a x1.lb.l.length x1.lb.cap, Value.slice u.a u.l.length u.cap] 68 :: own a2 o2.length c2 68 2 (o2.flatMap msc) :: cel g4 [Value.slice q.ms.a q.ms.l.length q.ms.cap, Value.int .i64 q.fr, Value.int .i64 q.to] 26 :: cel g2 [Value.slice d.ms.a d.ms.l.length d.ms.cap, Value.int .i64 d.fr, Value.int .i64 d.to] 26 :: allA serA o1 :: own oa out.length oc 68 2 (out.flatMap msc) :: allA serA out :: own a1 o1.length c1 68 2 (o1.flatMap msc) :: own a3 o3.length c3 68 2 (o3.flatMap msc) :: allA serA o3 :: hdA 126 131 103 gh D :: (rdH q.ms.a q.ms.l.length 3 (q.ms.l.flatMap mtc)) :: (rdH d.ms.a d.ms.l.length 3 (d.ms.l.flatMap mtc)) :: (rdH a rs.length 5 (rs.flatMap rcc)) :: allA recA rs :: L) rfl
         clear hS163
         refine WO.call rfl rfl Ty.hd34 rfl (hless_spec (l1 := u.l) (l2 := y1.pt.l) (X := ptsA u) (Y := ptsA y1.pt) rdH_rd rdH_rd hul (hz2 y1 (List.mem_of_getElem? hy1)).2 hS165) (fun v167 w166 pv167 => ?_)
         obtain ⟨la, lc, rfl, hS166⟩ := pv167
         clear hS165
         refine WO.nil ?_
         have s168 : (∀ jz, World.cell? w166 ⟨g146, jz, none⟩ = [Value.slice x1.lb.a x1.lb.l.length x1.lb.cap, Value.slice u.a u.l.length u.cap][jz]?) ∧ (∀ jz, World.cell? w166 ⟨g4, jz, none⟩ = [Value.slice q.ms.a q.ms.l.length q.ms.cap, Value.int .i64 q.fr, Value.int .i64 q.to][jz]?) ∧ (∀ jz, World.cell? w166 ⟨g2, jz, none⟩ = [Value.slice d.ms.a d.ms.l.length d.ms.cap, Value.int .i64 d.fr, Value.int .i64 d.to][jz]?) ∧ Rd w166 a2 o2.length 2 (o2.flatMap msc) := ⟨hS166.cel_at 6 rfl, hS166.cel_at 8 rfl, hS166.cel_at 9 rfl, (hS166.own_rd_i 7 rfl)⟩
         refine NX.held s168 ?_
         refine DP (i := 8) t5_24 (bt 10 511) rfl rfl rfl rfl (fun w => run_fa 1 ⟨g146, 1, none⟩ rfl rfl) ?_
         refine WD.one (i := 9) t5_24 (bt 10 1023) rfl (by kernel_rfl) ?_
         refine WO.store (l' := [Value.slice x1.lb.a x1.lb.l.length x1.lb.cap, Value.slice la ((lessF y1.pt.l u.l).length) lc]) 6 hS166 rfl Ty.sz66 rfl rfl rfl rfl rfl (Nat.le_of_ble_eq_true rfl) rfl (fun w169 (hS169 : St B (own la ((lessF y1.pt.l u.l).length) lc 103 2 ((lessF y1.pt.l u.l).flatMap ptc) :: (ptsA u) :: (ptsA y1.pt) :: (labA y1.lb) :: (labA x1.lb) :: allA serA o2 :: cel g146 [Value.slice x1.lb.a x1.lb.l.length x1.lb.cap, Value.slice la ((lessF y1.pt.l u.l).length) lc] 68 :: own a2 o2.length c2 68 2 (o2.flatMap msc) :: cel g4 [Value.slice q.ms.a q.ms.l.length q.ms.cap, Value.int .i64 q.fr, Value.int .i64 q.to] 26 :: cel g2 [Value.slice d.ms.a d.ms.l.length d.ms.cap, Value.int .i64 d.fr, Value.int .i64 d.to] 26 :: allA serA o1 :: own oa out.length oc 68 2 (out.flatMap msc) :: allA serA out :: own a1 o1.length c1 68 2 (o1.flatMap msc) :: own a3 o3.length c3 68 2 (o3.flatMap msc) :: allA serA o3 :: hdA 126 131 103 gh D :: (rdH q.ms.a q.ms.l.length 3 (q.ms.l.flatMap mtc)) :: (rdH d.ms.a d.ms.l.length 3 (d.ms.l.flatMap mtc)) :: (rdH a rs.length 5 (rs.flatMap rcc)) :: allA recA rs :: L) w169) => ?_)
         clear hS166
         refine WO.nil ?_
         refine NX.last (by decide) ?_
         refine WD.done t5_24 (by kernel_rfl) ?_
         refine NX.blk (NX.go (WP.region rfl ?_))
         refine WO.mv rfl rfl ?_
         refine WO.V (run_add rfl rfl (IntWalk.i64_in _ (by omega))) ?_
         refine WO.asg rfl rfl ?_
         refine WO.nil ?_
         have hS170 : St B (ptsA (⟨la, lessF y1.pt.l u.l, lc⟩ : SlV Pt) :: (ptsA u) :: (ptsA y1.pt) :: (labA y1.lb) :: (labA x1.lb) :: allA serA o2 :: cel g146 [Value.slice x1.lb.a x1.lb.l.length x1.lb.cap, Value.slice la ((lessF y1.pt.l u.l).length) lc] 68 :: own a2 o2.length c2 68 2 (o2.flatMap msc) :: cel g4 [Value.slice q.ms.a q.ms.l.length q.ms.cap, Value.int .i64 q.fr, Value.int .i64 q.to] 26 :: cel g2 [Value.slice d.ms.a d.ms.l.length d.ms.cap, Value.int .i64 d.fr, Value.int .i64 d.to] 26 :: allA serA o1 :: own oa out.length oc 68 2 (out.flatMap msc) :: allA serA out :: own a1 o1.length c1 68 2 (o1.flatMap msc) :: own a3 o3.length c3 68 2 (o3.flatMap msc) :: allA serA o3 :: hdA 126 131 103 gh D :: (rdH q.ms.a q.ms.l.length 3 (q.ms.l.flatMap mtc)) :: (rdH d.ms.a d.ms.l.length 3 (d.ms.l.flatMap mtc)) :: (rdH a rs.length 5 (rs.flatMap rcc)) :: allA recA rs :: L) w169 := rdH_own hS169
         clear hS169
         exact NX.again (k + 1, (⟨la, lessF y1.pt.l u.l, lc⟩ : SlV Pt)) ⟨⟨by omega, by rw [take_snocM hy1, List.map_append, List.map_cons, List.map_nil, lessA_snoc, if_pos (show y1.p.lb = x1.lb.l from g121), ← hue]; rfl, Nat.le_trans (lessF_len ..) hul⟩, ((hS170.mask [true, false, false, false] (L' := ptsA (⟨la, lessF y1.pt.l u.l, lc⟩ : SlV Pt) :: (labA x1.lb) :: allA serA o2 :: cel g146 [Value.slice x1.lb.a x1.lb.l.length x1.lb.cap, Value.slice la ((lessF y1.pt.l u.l).length) lc] 68 :: own a2 o2.length c2 68 2 (o2.flatMap msc) :: cel g4 [Value.slice q.ms.a q.ms.l.length q.ms.cap, Value.int .i64 q.fr, Value.int .i64 q.to] 26 :: cel g2 [Value.slice d.ms.a d.ms.l.length d.ms.cap, Value.int .i64 d.fr, Value.int .i64 d.to] 26 :: allA serA o1 :: own oa out.length oc 68 2 (out.flatMap msc) :: allA serA out :: own a1 o1.length c1 68 2 (o1.flatMap msc) :: own a3 o3.length c3 68 2 (o3.flatMap msc) :: allA serA o3 :: hdA 126 131 103 gh D :: (rdH q.ms.a q.ms.l.length 3 (q.ms.l.flatMap mtc)) :: (rdH d.ms.a d.ms.l.length 3 (d.ms.l.flatMap mtc)) :: (rdH a rs.length 5 (rs.flatMap rcc)) :: allA recA rs :: L) rfl).permT [3, 1, 0, 1] (L' := cel g146 [Value.slice x1.lb.a x1.lb.l.length x1.lb.cap, Value.slice la ((lessF y1.pt.l u.l).length) lc] 68 :: (labA x1.lb) :: ptsA (⟨la, lessF y1.pt.l u.l, lc⟩ : SlV Pt) :: own a2 o2.length c2 68 2 (o2.flatMap msc) :: allA serA o2 :: cel g4 [Value.slice q.ms.a q.ms.l.length q.ms.cap, Value.int .i64 q.fr, Value.int .i64 q.to] 26 :: cel g2 [Value.slice d.ms.a d.ms.l.length d.ms.cap, Value.int .i64 d.fr, Value.int .i64 d.to] 26 :: allA serA o1 :: own oa out.length oc 68 2 (out.flatMap msc) :: allA serA out :: own a1 o1.length c1 68 2 (o1.flatMap msc) :: own a3 o3.length c3 68 2 (o3.flatMap msc) :: allA serA o3 :: hdA 126 131 103 gh D :: (rdH q.ms.a q.ms.l.length 3 (q.ms.l.flatMap mtc)) :: (rdH d.ms.a d.ms.l.length 3 (d.ms.l.flatMap mtc)) :: (rdH a rs.length 5 (rs.flatMap rcc)) :: allA recA rs :: L) rfl)⟩ (by show o2.length - (k + 1) < o2.length - k; omega) (Sub.cons rfl (Sub.cons rfl (Sub.cons rfl (Sub.cons rfl (Sub.cons rfl (Sub.cons rfl (Sub.cons rfl (Sub.cons rfl (Sub.cons rfl (Sub.cons rfl (Sub.consE rfl (by congr 1) (Sub.nil _))))))))))))
        ·
         refine WP.skip (NX.blk (NX.go (WP.region rfl ?_)))
         refine WO.mv rfl rfl ?_
         refine WO.V (run_add rfl rfl (IntWalk.i64_in _ (by omega))) ?_
         refine WO.asg rfl rfl ?_
         refine WO.nil ?_
         exact NX.again (k + 1, u) ⟨⟨by omega, by rw [take_snocM hy1, List.map_append, List.map_cons, List.map_nil, lessA_snoc, if_neg (show ¬ y1.p.lb = x1.lb.l from g121), ← hue], hul⟩, ((hS160.mask [false, true, false] (L' := (labA x1.lb) :: allA serA o2 :: cel g146 [Value.slice x1.lb.a x1.lb.l.length x1.lb.cap, Value.slice u.a u.l.length u.cap] 68 :: (ptsA u) :: own a2 o2.length c2 68 2 (o2.flatMap msc) :: cel g4 [Value.slice q.ms.a q.ms.l.length q.ms.cap, Value.int .i64 q.fr, Value.int .i64 q.to] 26 :: cel g2 [Value.slice d.ms.a d.ms.l.length d.ms.cap, Value.int .i64 d.fr, Value.int .i64 d.to] 26 :: allA serA o1 :: own oa out.length oc 68 2 (out.flatMap msc) :: allA serA out :: own a1 o1.length c1 68 2 (o1.flatMap msc) :: own a3 o3.length c3 68 2 (o3.flatMap msc) :: allA serA o3 :: hdA 126 131 103 gh D :: (rdH q.ms.a q.ms.l.length 3 (q.ms.l.flatMap mtc)) :: (rdH d.ms.a d.ms.l.length 3 (d.ms.l.flatMap mtc)) :: (rdH a rs.length 5 (rs.flatMap rcc)) :: allA recA rs :: L) rfl).permT [2, 0, 1, 1] (L' := cel g146 [Value.slice x1.lb.a x1.lb.l.length x1.lb.cap, Value.slice u.a u.l.length u.cap] 68 :: (labA x1.lb) :: (ptsA u) :: own a2 o2.length c2 68 2 (o2.flatMap msc) :: allA serA o2 :: cel g4 [Value.slice q.ms.a q.ms.l.length q.ms.cap, Value.int .i64 q.fr, Value.int .i64 q.to] 26 :: cel g2 [Value.slice d.ms.a d.ms.l.length d.ms.cap, Value.int .i64 d.fr, Value.int .i64 d.to] 26 :: allA serA o1 :: own oa out.length oc 68 2 (out.flatMap msc) :: allA serA out :: own a1 o1.length c1 68 2 (o1.flatMap msc) :: own a3 o3.length c3 68 2 (o3.flatMap msc) :: allA serA o3 :: hdA 126 131 103 gh D :: (rdH q.ms.a q.ms.l.length 3 (q.ms.l.flatMap mtc)) :: (rdH d.ms.a d.ms.l.length 3 (d.ms.l.flatMap mtc)) :: (rdH a rs.length 5 (rs.flatMap rcc)) :: allA recA rs :: L) rfl)⟩ (by show o2.length - (k + 1) < o2.length - k; omega) (Sub.cons rfl (Sub.cons rfl (Sub.cons rfl (Sub.cons rfl (Sub.cons rfl (Sub.cons rfl (Sub.cons rfl (Sub.cons rfl (Sub.cons rfl (Sub.cons rfl (Sub.consE rfl (by congr 1) (Sub.nil _))))))))))))
       ·
        refine WO.buildSlice (l := [Value.slice x1.lb.a x1.lb.l.length x1.lb.cap, Value.slice none 0 0]) hS151 Tryz.underlying37 rfl (fun w => by kernel_rfl) rfl (fun g172 w171 lg172 hS171 => ?_)
        clear hS151
        have hS171 := hS171.own_of_cel (m := 1) (k := 2) rfl
        refine WO.nil ?_
        have s173 : (∀ jz, World.cell? w171 ⟨g146, jz, none⟩ = [Value.slice x1.lb.a x1.lb.l.length x1.lb.cap, Value.slice u.a u.l.length u.cap][jz]?) ∧ (∀ jz, World.cell? w171 ⟨g4, jz, none⟩ = [Value.slice q.ms.a q.ms.l.length q.ms.cap, Value.int .i64 q.fr, Value.int .i64 q.to][jz]?) ∧ (∀ jz, World.cell? w171 ⟨g2, jz, none⟩ = [Value.slice d.ms.a d.ms.l.length d.ms.cap, Value.int .i64 d.fr, Value.int .i64 d.to][jz]?) ∧ Rd w171 a2 o2.length 2 (o2.flatMap msc) := ⟨hS171.cel_at 4 rfl, hS171.cel_at 8 rfl, hS171.cel_at 9 rfl, (hS171.own_rd_i 7 rfl)⟩
        refine NX.held s173 ?_
        refine WD.one (i := 6) t5_23 (bt 12 2047) rfl (by kernel_rfl) ?_
        refine WO.buildSlice (l := [Value.slice y1.lb.a y1.lb.l.length y1.lb.cap, Value.slice none 0 0]) hS171 Tryz.underlying37 rfl (fun w => by kernel_rfl) rfl (fun g175 w174 lg175 hS174 => ?_)
        clear hS171
        have hS174 := hS174.own_of_cel (m := 1) (k := 2) rfl
        refine WO.nil ?_
        have s176 : (∀ jz, World.cell? w174 ⟨g146, jz, none⟩ = [Value.slice x1.lb.a x1.lb.l.length x1.lb.cap, Value.slice u.a u.l.length u.cap][jz]?) ∧ (∀ jz, World.cell? w174 ⟨g4, jz, none⟩ = [Value.slice q.ms.a q.ms.l.length q.ms.cap, Value.int .i64 q.fr, Value.int .i64 q.to][jz]?) ∧ (∀ jz, World.cell? w174 ⟨g2, jz, none⟩ = [Value.slice d.ms.a d.ms.l.length d.ms.cap, Value.int .i64 d.fr, Value.int .i64 d.to][jz]?) ∧ Rd w174 a2 o2.length 2 (o2.flatMap msc) := ⟨hS174.cel_at 5 rfl, hS174.cel_at 9 rfl, hS174.cel_at 10 rfl, (hS174.own_rd_i 8 rfl)⟩
        refine NX.held s176 ?_
        refine WD.one (i := 11) t5_23 (bt 12 4095) rfl (by kernel_rfl) ?_
        have hS177 := hS174.permT [0, 0, 0, 3] (L' := own (some ⟨g175, 0, none⟩) 1 1 68 2 [Value.slice y1.lb.a y1.lb.l.length y1.lb.cap, Value.slice none 0 0] :: own (some ⟨g172, 0, none⟩) 1 1 68 2 [Value.slice x1.lb.a x1.lb.l.length x1.lb.cap, Value.slice none 0 0] :: (labA y1.lb) :: (labA x1.lb) :: (ptsA y1.pt) :: allA serA o2 :: cel g146 [Value.slice x1.lb.a x1.lb.l.length x1.lb.cap, Value.slice u.a u.l.length u.cap] 68 :: (ptsA u) :: own a2 o2.length c2 68 2 (o2.flatMap msc) :: cel g4 [Value.slice q.ms.a q.ms.l.length q.ms.cap, Value.int .i64 q.fr, Value.int .i64 q.to] 26 :: cel g2 [Value.slice d.ms.a d.ms.l.length d.ms.cap, Value.int .i64 d.fr, Value.int .i64 d.to] 26 :: allA serA o1 :: own oa out.length oc 68 2 (out.flatMap msc) :: allA serA out :: own a1 o1.length c1 68 2 (o1.flatMap msc) :: own a3 o3.length c3 68 2 (o3.flatMap msc) :: allA serA o3 :: hdA 126 131 103 gh D :: (rdH q.ms.a q.ms.l.length 3 (q.ms.l.flatMap mtc)) :: (rdH d.ms.a d.ms.l.length 3 (d.ms.l.flatMap mtc)) :: (rdH a rs.length 5 (rs.flatMap rcc)) :: allA recA rs :: L) rfl
        clear hS174
        refine WO.call rfl rfl Ty.hd17 rfl (same1_spec (x := y1.lb) (y := x1.lb) (hz2 y1 (List.mem_of_getElem? hy1)).1 (hz1 x1 (List.mem_of_getElem? hx1)).1 hS177) (fun v179 w178 pv179 => ?_)
        obtain ⟨rfl, hS178⟩ := pv179
        clear hS177
        refine WO.nil ?_
        have s180 : (∀ jz, World.cell? w178 ⟨g146, jz, none⟩ = [Value.slice x1.lb.a x1.lb.l.length x1.lb.cap, Value.slice u.a u.l.length u.cap][jz]?) ∧ (∀ jz, World.cell? w178 ⟨g4, jz, none⟩ = [Value.slice q.ms.a q.ms.l.length q.ms.cap, Value.int .i64 q.fr, Value.int .i64 q.to][jz]?) ∧ (∀ jz, World.cell? w178 ⟨g2, jz, none⟩ = [Value.slice d.ms.a d.ms.l.length d.ms.cap, Value.int .i64 d.fr, Value.int .i64 d.to][jz]?) ∧ Rd w178 a2 o2.length 2 (o2.flatMap msc) := ⟨hS178.cel_at 4 rfl, hS178.cel_at 7 rfl, hS178.cel_at 8 rfl, (hS178.own_rd_i 6 rfl)⟩
        refine NX.held s180 ?_
        refine WD.done t5_23 (by kernel_rfl) ?_
        refine NX.go ?_
        refine WP.condP rfl (fun g121 => ?_) (fun g121 => ?_)
        ·
         refine WD.start (fun w => (∀ jz, World.cell? w ⟨g146, jz, none⟩ = [Value.slice x1.lb.a x1.lb.l.length x1.lb.cap, Value.slice u.a u.l.length u.cap][jz]?) ∧ (∀ jz, World.cell? w ⟨g4, jz, none⟩ = [Value.slice q.ms.a q.ms.l.length q.ms.cap, Value.int .i64 q.fr, Value.int .i64 q.to][jz]?) ∧ (∀ jz, World.cell? w ⟨g2, jz, none⟩ = [Value.slice d.ms.a d.ms.l.length d.ms.cap, Value.int .i64 d.fr, Value.int .i64 d.to][jz]?) ∧ Rd w a2 o2.length 2 (o2.flatMap msc)) [9] (bt 10 0) Ty.mo rfl (by kernel_rfl) hS178 (fun _ h => ⟨h.cel_at 4 rfl, h.cel_at 7 rfl, h.cel_at 8 rfl, (h.own_rd_i 6 rfl)⟩) (fun w181 hS181 s182 => ?_)
         clear hS178
         refine DP (i := 0) t5_24 (bt 10 1) rfl rfl rfl rfl (fun w => run_fa 1 ⟨g146, 1, none⟩ rfl rfl) ?_
         refine DT (i := 1) t5_24 (bt 10 3) s182 rfl rfl rfl rfl (fun w hs => run_load Ty.ag66 rfl ((hs.1 1).trans rfl)) ?_
         refine DP (i := 2) t5_24 (bt 10 7) rfl rfl rfl rfl (fun w => run_move rfl) ?_
         refine DP (i := 3) t5_24 (bt 10 15) rfl rfl rfl rfl (fun w => run_move rfl) ?_
         refine DT (i := 4) t5_24 (bt 10 31) s182 rfl rfl rfl rfl (fun w hs => run_indexAddr (q := adr a2 (k * 2)) Tryz.underlying37 Ty.sz68 rfl rfl (by omega) (by omega) ((hs.2.2.2).2.1 (by omega)) rfl) ?_
         refine DP (i := 5) t5_24 (bt 10 63) rfl rfl rfl rfl (fun w => run_fa 1 (adr a2 (k * 2 + 1)) rfl (adr_add _ (by assumption) _ _)) ?_
         refine DT (i := 6) t5_24 (bt 10 127) s182 rfl rfl rfl rfl (fun w hs => run_load Ty.ag66 rfl ((hs.2.2.2).cell ((flat_get msc_len hy1 (j := 1) (by decide)).trans rfl))) ?_
         refine WD.one (i := 7) t5_24 (bt 10 255) rfl (by kernel_rfl) ?_
         have hS183 := hS181.permT [5, 2] (L' := (ptsA u) :: (ptsA y1.pt) :: (labA y1.lb) :: (labA x1.lb) :: allA serA o2 :: cel g146 [Value.slice x1.lb.a x1.lb.l.length x1.lb.cap, Value.slice u.a u.l.length u.cap] 68 :: own a2 o2.length c2 68 2 (o2.flatMap msc) :: cel g4 [Value.slice q.ms.a q.ms.l.length q.ms.cap, Value.int .i64 q.fr, Value.int .i64 q.to] 26 :: cel g2 [Value.slice d.ms.a d.ms.l.length d.ms.cap, Value.int .i64 d.fr, Value.int .i64 d.to] 26 :: allA serA o1 :: own oa out.length oc 68 2 (out.flatMap msc) :: allA serA out :: own a1 o1.length c1 68 2 (o1.flatMap msc) :: own a3 o3.length c3 68 2 (o3.flatMap msc) :: allA serA o3 :: hdA 126 131 103 gh D :: (rdH q.ms.a q.ms.l.length 3 (q.ms.l.flatMap mtc)) :: (rdH d.ms.a d.ms.l.length 3 (d.ms.l.flatMap mtc)) :: (rdH a rs.length 5 (rs.flatMap rcc)) :: allA recA rs :: L) rfl
         clear hS181
         refine WO.call rfl rfl Ty.hd34 rfl (hless_spec (l1 := u.l) (l2 := y1.pt.l) (X := ptsA u) (Y := ptsA y1.pt) rdH_rd rdH_rd hul (hz2 y1 (List.mem_of_getElem? hy1)).2 hS183) (fun v185 w184 pv185 => ?_)
         obtain ⟨la, lc, rfl, hS184⟩ := pv185
         clear hS183
         refine WO.nil ?_
         have s186 : (∀ jz, World.cell? w184 ⟨g146, jz, none⟩ = [Value.slice x1.lb.a x1.lb.l.length x1.lb.cap, Value.slice u.a u.l.length u.cap][jz]?) ∧ (∀ jz, World.cell? w184 ⟨g4, jz, none⟩ = [Value.slice q.ms.a q.ms.l.length q.ms.cap, Value.int .i64 q.fr, Value.int .i64 q.to][jz]?) ∧ (∀ jz, World.cell? w184 ⟨g2, jz, none⟩ = [Value.slice d.ms.a d.ms.l.length d.ms.cap, Value.int .i64 d.fr, Value.int .i64 d.to][jz]?) ∧ Rd w184 a2 o2.length 2 (o2.flatMap msc) := ⟨hS184.cel_at 6 rfl, hS184.cel_at 8 rfl, hS184.cel_at 9 rfl, (hS184.own_rd_i 7 rfl)⟩
         refine NX.held s186 ?_
         refine DP (i := 8) t5_24 (bt 10 511) rfl rfl rfl rfl (fun w => run_fa 1 ⟨g146, 1, none⟩ rfl rfl) ?_
         refine WD.one (i := 9) t5_24 (bt 10 1023) rfl (by kernel_rfl) ?_
         refine WO.store (l' := [Value.slice x1.lb.a x1.lb.l.length x1.lb.cap, Value.slice la ((lessF y1.pt.l u.l).length) lc]) 6 hS184 rfl Ty.sz66 rfl rfl rfl rfl rfl (Nat.le_of_ble_eq_true rfl) rfl (fun w187 (hS187 : St B (own la ((lessF y1.pt.l u.l).length) lc 103 2 ((lessF y1.pt.l u.l).flatMap ptc) :: (ptsA u) :: (ptsA y1.pt) :: (labA y1.lb) :: (labA x1.lb) :: allA serA o2 :: cel g146 [Value.slice x1.lb.a x1.lb.l.length x1.lb.cap, Value.slice la ((lessF y1.pt.l u.l).length) lc] 68 :: own a2 o2.length c2 68 2 (o2.flatMap msc) :: cel g4 [Value.slice q.ms.a q.ms.l.length q.ms.cap, Value.int .i64 q.fr, Value.int .i64 q.to] 26 :: cel g2 [Value.slice d.ms.a d.ms.l.length d.ms.cap, Value.int .i64 d.fr, Value.int .i64 d.to] 26 :: allA serA o1 :: own oa out.length oc 68 2 (out.flatMap msc) :: allA serA out :: own a1 o1.length c1 68 2 (o1.flatMap msc) :: own a3 o3.length c3 68 2 (o3.flatMap msc) :: allA serA o3 :: hdA 126 131 103 gh D :: (rdH q.ms.a q.ms.l.length 3 (q.ms.l.flatMap mtc)) :: (rdH d.ms.a d.ms.l.length 3 (d.ms.l.flatMap mtc)) :: (rdH a rs.length 5 (rs.flatMap rcc)) :: allA recA rs :: L) w187) => ?_)
         clear hS184
         refine WO.nil ?_
         refine NX.last (by decide) ?_
         refine WD.done t5_24 (by kernel_rfl) ?_
         refine NX.blk (NX.go (WP.region rfl ?_))
         refine WO.mv rfl rfl ?_
         refine WO.V (run_add rfl rfl (IntWalk.i64_in _ (by omega))) ?_
         refine WO.asg rfl rfl ?_
         refine WO.nil ?_
         have hS188 : St B (ptsA (⟨la, lessF y1.pt.l u.l, lc⟩ : SlV Pt) :: (ptsA u) :: (ptsA y1.pt) :: (labA y1.lb) :: (labA x1.lb) :: allA serA o2 :: cel g146 [Value.slice x1.lb.a x1.lb.l.length x1.lb.cap, Value.slice la ((lessF y1.pt.l u.l).length) lc] 68 :: own a2 o2.length c2 68 2 (o2.flatMap msc) :: cel g4 [Value.slice q.ms.a q.ms.l.length q.ms.cap, Value.int .i64 q.fr, Value.int .i64 q.to] 26 :: cel g2 [Value.slice d.ms.a d.ms.l.length d.ms.cap, Value.int .i64 d.fr, Value.int .i64 d.to] 26 :: allA serA o1 :: own oa out.length oc 68 2 (out.flatMap msc) :: allA serA out :: own a1 o1.length c1 68 2 (o1.flatMap msc) :: own a3 o3.length c3 68 2 (o3.flatMap msc) :: allA serA o3 :: hdA 126 131 103 gh D :: (rdH q.ms.a q.ms.l.length 3 (q.ms.l.flatMap mtc)) :: (rdH d.ms.a d.ms.l.length 3 (d.ms.l.flatMap mtc)) :: (rdH a rs.length 5 (rs.flatMap rcc)) :: allA recA rs :: L) w187 := rdH_own hS187
         clear hS187
         exact NX.again (k + 1, (⟨la, lessF y1.pt.l u.l, lc⟩ : SlV Pt)) ⟨⟨by omega, by rw [take_snocM hy1, List.map_append, List.map_cons, List.map_nil, lessA_snoc, if_pos (show y1.p.lb = x1.lb.l from g121), ← hue]; rfl, Nat.le_trans (lessF_len ..) hul⟩, ((hS188.mask [true, false, false, false] (L' := ptsA (⟨la, lessF y1.pt.l u.l, lc⟩ : SlV Pt) :: (labA x1.lb) :: allA serA o2 :: cel g146 [Value.slice x1.lb.a x1.lb.l.length x1.lb.cap, Value.slice la ((lessF y1.pt.l u.l).length) lc] 68 :: own a2 o2.length c2 68 2 (o2.flatMap msc) :: cel g4 [Value.slice q.ms.a q.ms.l.length q.ms.cap, Value.int .i64 q.fr, Value.int .i64 q.to] 26 :: cel g2 [Value.slice d.ms.a d.ms.l.length d.ms.cap, Value.int .i64 d.fr, Value.int .i64 d.to] 26 :: allA serA o1 :: own oa out.length oc 68 2 (out.flatMap msc) :: allA serA out :: own a1 o1.length c1 68 2 (o1.flatMap msc) :: own a3 o3.length c3 68 2 (o3.flatMap msc) :: allA serA o3 :: hdA 126 131 103 gh D :: (rdH q.ms.a q.ms.l.length 3 (q.ms.l.flatMap mtc)) :: (rdH d.ms.a d.ms.l.length 3 (d.ms.l.flatMap mtc)) :: (rdH a rs.length 5 (rs.flatMap rcc)) :: allA recA rs :: L) rfl).permT [3, 1, 0, 1] (L' := cel g146 [Value.slice x1.lb.a x1.lb.l.length x1.lb.cap, Value.slice la ((lessF y1.pt.l u.l).length) lc] 68 :: (labA x1.lb) :: ptsA (⟨la, lessF y1.pt.l u.l, lc⟩ : SlV Pt) :: own a2 o2.length c2 68 2 (o2.flatMap msc) :: allA serA o2 :: cel g4 [Value.slice q.ms.a q.ms.l.length q.ms.cap, Value.int .i64 q.fr, Value.int .i64 q.to] 26 :: cel g2 [Value.slice d.ms.a d.ms.l.length d.ms.cap, Value.int .i64 d.fr, Value.int .i64 d.to] 26 :: allA serA o1 :: own oa out.length oc 68 2 (out.flatMap msc) :: allA serA out :: own a1 o1.length c1 68 2 (o1.flatMap msc) :: own a3 o3.length c3 68 2 (o3.flatMap msc) :: allA serA o3 :: hdA 126 131 103 gh D :: (rdH q.ms.a q.ms.l.length 3 (q.ms.l.flatMap mtc)) :: (rdH d.ms.a d.ms.l.length 3 (d.ms.l.flatMap mtc)) :: (rdH a rs.length 5 (rs.flatMap rcc)) :: allA recA rs :: L) rfl)⟩ (by show o2.length - (k + 1) < o2.length - k; omega) (Sub.cons rfl (Sub.cons rfl (Sub.cons rfl (Sub.cons rfl (Sub.cons rfl (Sub.cons rfl (Sub.cons rfl (Sub.cons rfl (Sub.cons rfl (Sub.cons rfl (Sub.consE rfl (by congr 1) (Sub.nil _))))))))))))
        ·
         refine WP.skip (NX.blk (NX.go (WP.region rfl ?_)))
         refine WO.mv rfl rfl ?_
         refine WO.V (run_add rfl rfl (IntWalk.i64_in _ (by omega))) ?_
         refine WO.asg rfl rfl ?_
         refine WO.nil ?_
         exact NX.again (k + 1, u) ⟨⟨by omega, by rw [take_snocM hy1, List.map_append, List.map_cons, List.map_nil, lessA_snoc, if_neg (show ¬ y1.p.lb = x1.lb.l from g121), ← hue], hul⟩, ((hS178.mask [false, true, false] (L' := (labA x1.lb) :: allA serA o2 :: cel g146 [Value.slice x1.lb.a x1.lb.l.length x1.lb.cap, Value.slice u.a u.l.length u.cap] 68 :: (ptsA u) :: own a2 o2.length c2 68 2 (o2.flatMap msc) :: cel g4 [Value.slice q.ms.a q.ms.l.length q.ms.cap, Value.int .i64 q.fr, Value.int .i64 q.to] 26 :: cel g2 [Value.slice d.ms.a d.ms.l.length d.ms.cap, Value.int .i64 d.fr, Value.int .i64 d.to] 26 :: allA serA o1 :: own oa out.length oc 68 2 (out.flatMap msc) :: allA serA out :: own a1 o1.length c1 68 2 (o1.flatMap msc) :: own a3 o3.length c3 68 2 (o3.flatMap msc) :: allA serA o3 :: hdA 126 131 103 gh D :: (rdH q.ms.a q.ms.l.length 3 (q.ms.l.flatMap mtc)) :: (rdH d.ms.a d.ms.l.length 3 (d.ms.l.flatMap mtc)) :: (rdH a rs.length 5 (rs.flatMap rcc)) :: allA recA rs :: L) rfl).permT [2, 0, 1, 1] (L' := cel g146 [Value.slice x1.lb.a x1.lb.l.length x1.lb.cap, Value.slice u.a u.l.length u.cap] 68 :: (labA x1.lb) :: (ptsA u) :: own a2 o2.length c2 68 2 (o2.flatMap msc) :: allA serA o2 :: cel g4 [Value.slice q.ms.a q.ms.l.length q.ms.cap, Value.int .i64 q.fr, Value.int .i64 q.to] 26 :: cel g2 [Value.slice d.ms.a d.ms.l.length d.ms.cap, Value.int .i64 d.fr, Value.int .i64 d.to] 26 :: allA serA o1 :: own oa out.length oc 68 2 (out.flatMap msc) :: allA serA out :: own a1 o1.length c1 68 2 (o1.flatMap msc) :: own a3 o3.length c3 68 2 (o3.flatMap msc) :: allA serA o3 :: hdA 126 131 103 gh D :: (rdH q.ms.a q.ms.l.length 3 (q.ms.l.flatMap mtc)) :: (rdH d.ms.a d.ms.l.length 3 (d.ms.l.flatMap mtc)) :: (rdH a rs.length 5 (rs.flatMap rcc)) :: allA recA rs :: L) rfl)⟩ (by show o2.length - (k + 1) < o2.length - k; omega) (Sub.cons rfl (Sub.cons rfl (Sub.cons rfl (Sub.cons rfl (Sub.cons rfl (Sub.cons rfl (Sub.cons rfl (Sub.cons rfl (Sub.cons rfl (Sub.cons rfl (Sub.consE rfl (by congr 1) (Sub.nil _))))))))))))
      ·
       refine WP.exit (NX.thenExit (NX.thenExit ?_))
       refine NX.blkExit ?_
       refine NX.go (WP.seq ?_)
       have hS189 : St B (cel g146 [Value.slice x1.lb.a x1.lb.l.length x1.lb.cap, Value.slice u.a u.l.length u.cap] 68 :: (labA x1.lb) :: (ptsA u) :: own a2 o2.length c2 68 2 (o2.flatMap msc) :: allA serA o2 :: cel g4 [Value.slice q.ms.a q.ms.l.length q.ms.cap, Value.int .i64 q.fr, Value.int .i64 q.to] 26 :: cel g2 [Value.slice d.ms.a d.ms.l.length d.ms.cap, Value.int .i64 d.fr, Value.int .i64 d.to] 26 :: allA serA o1 :: own oa out.length oc 68 2 (out.flatMap msc) :: allA serA out :: own a1 o1.length c1 68 2 (o1.flatMap msc) :: own a3 o3.length c3 68 2 (o3.flatMap msc) :: allA serA o3 :: hdA 126 131 103 gh D :: (rdH q.ms.a q.ms.l.length 3 (q.ms.l.flatMap mtc)) :: (rdH d.ms.a d.ms.l.length 3 (d.ms.l.flatMap mtc)) :: (rdH a rs.length 5 (rs.flatMap rcc)) :: allA recA rs :: L) w149 := hS149
       clear hS149
       rw [List.take_of_length_le (by omega : o2.length ≤ k)] at hue
       refine WP.region rfl ?_
       refine WO.V (run_fa 1 ⟨g146, 1, none⟩ rfl rfl) ?_
       refine WO.V (run_load Ty.ag66 rfl ((hS189.cel_at 0 rfl 1).trans rfl)) ?_
       refine WO.V (run_len rfl Tryz.underlying66 rfl) ?_
       refine WO.V (run_gtr rfl rfl) ?_
       refine WO.nil (NX.go ?_)
       refine WP.condP rfl (fun g134 => ?_) (fun g134 => ?_)
       ·
        refine WP.region rfl ?_
        refine WO.mv rfl rfl ?_
        refine WO.V (run_loadAgg (vs := [Value.slice x1.lb.a x1.lb.l.length x1.lb.cap, Value.slice u.a u.l.length u.cap]) Ty.ag68 Ty.sz68 rfl rfl (cell_all (hS189.cel_at 0 rfl) 0 rfl)) ?_
        refine WO.buildSlice (l := [Value.slice x1.lb.a x1.lb.l.length x1.lb.cap, Value.slice u.a u.l.length u.cap]) hS189 Tryz.underlying37 rfl (fun w => by kernel_rfl) rfl (fun g191 w190 lg191 hS190 => ?_)
        clear hS189
        refine WO.append (news := [Value.slice x1.lb.a x1.lb.l.length x1.lb.cap, Value.slice u.a u.l.length u.cap]) 9 rfl Tryz.underlying37 Tryz.underlying37 (fun _ h => by cases h) Ty.sz68 (by decide) Ty.by68 Ty.zr68 rfl rfl rfl rfl hS190 rfl ((hS190.cel_rd 0 rfl (o := 0) (m := 1) (k := 2) rfl (Nat.le_of_ble_eq_true rfl)).src) rfl (by omega) (by omega) (fun a193 c194 w192 hS192 => ?_)
        replace hS192 : St B (cel g191 [Value.slice x1.lb.a x1.lb.l.length x1.lb.cap, Value.slice u.a u.l.length u.cap] 68 :: cel g146 [Value.slice x1.lb.a x1.lb.l.length x1.lb.cap, Value.slice u.a u.l.length u.cap] 68 :: (labA x1.lb) :: (ptsA u) :: own a2 o2.length c2 68 2 (o2.flatMap msc) :: allA serA o2 :: cel g4 [Value.slice q.ms.a q.ms.l.length q.ms.cap, Value.int .i64 q.fr, Value.int .i64 q.to] 26 :: cel g2 [Value.slice d.ms.a d.ms.l.length d.ms.cap, Value.int .i64 d.fr, Value.int .i64 d.to] 26 :: allA serA o1 :: own a193 (out.length + 1) c194 68 2 ((out.flatMap msc) ++ [Value.slice x1.lb.a x1.lb.l.length x1.lb.cap, Value.slice u.a u.l.length u.cap]) :: allA serA out :: own a1 o1.length c1 68 2 (o1.flatMap msc) :: own a3 o3.length c3 68 2 (o3.flatMap msc) :: allA serA o3 :: hdA 126 131 103 gh D :: (rdH q.ms.a q.ms.l.length 3 (q.ms.l.flatMap mtc)) :: (rdH d.ms.a d.ms.l.length 3 (d.ms.l.flatMap mtc)) :: (rdH a rs.length 5 (rs.flatMap rcc)) :: allA recA rs :: L) w192 := hS192
        clear hS190
        refine WO.asg rfl rfl ?_
        refine WO.nil (NX.blk (NX.go (WP.region rfl ?_)))
        refine WO.mv rfl rfl ?_
        refine WO.V (run_add rfl rfl (IntWalk.i64_in _ (by omega))) ?_
        refine WO.asg rfl rfl ?_
        refine WO.nil ?_
        have hS195 := ser_snoc (x := (⟨x1.lb, u⟩ : MSer)) (hS192.permT [10, 2, 2] (L' := allA serA out :: (labA x1.lb) :: (ptsA u) :: cel g191 [Value.slice x1.lb.a x1.lb.l.length x1.lb.cap, Value.slice u.a u.l.length u.cap] 68 :: cel g146 [Value.slice x1.lb.a x1.lb.l.length x1.lb.cap, Value.slice u.a u.l.length u.cap] 68 :: own a2 o2.length c2 68 2 (o2.flatMap msc) :: allA serA o2 :: cel g4 [Value.slice q.ms.a q.ms.l.length q.ms.cap, Value.int .i64 q.fr, Value.int .i64 q.to] 26 :: cel g2 [Value.slice d.ms.a d.ms.l.length d.ms.cap, Value.int .i64 d.fr, Value.int .i64 d.to] 26 :: allA serA o1 :: own a193 (out.length + 1) c194 68 2 ((out.flatMap msc) ++ [Value.slice x1.lb.a x1.lb.l.length x1.lb.cap, Value.slice u.a u.l.length u.cap]) :: own a1 o1.length c1 68 2 (o1.flatMap msc) :: own a3 o3.length c3 68 2 (o3.flatMap msc) :: allA serA o3 :: hdA 126 131 103 gh D :: (rdH q.ms.a q.ms.l.length 3 (q.ms.l.flatMap mtc)) :: (rdH d.ms.a d.ms.l.length 3 (d.ms.l.flatMap mtc)) :: (rdH a rs.length 5 (rs.flatMap rcc)) :: allA recA rs :: L) rfl)
        clear hS192
        exact NX.again (n + 1, out ++ [(⟨x1.lb, u⟩ : MSer)], a193, c194) ⟨⟨by omega, by rw [List.map_append, hout, take_snocM hx1, List.map_append, List.map_cons, List.map_nil, List.map_cons, List.map_nil, wantF_snoc, if_pos (show 0 < (lessA (o2.map MSer.p) x1.p.lb x1.p.pts).length by show 0 < (lessA (o2.map MSer.p) x1.lb.l x1.pt.l).length; rw [← hue]; omega)]; show _ ++ [SerP.mk x1.lb.l u.l] = _; rw [hue]; rfl, by rw [List.length_append]; simp; omega, fun s hs => by rcases List.mem_append.1 hs with hs | hs; (· exact hsz s hs); (· simp at hs; subst hs; exact ⟨(hz1 x1 (List.mem_of_getElem? hx1)).1, hul⟩)⟩, own_eqM ((hS195.mask [true, false, false] (L' := allA serA (out ++ [(⟨x1.lb, u⟩ : MSer)]) :: own a2 o2.length c2 68 2 (o2.flatMap msc) :: allA serA o2 :: cel g4 [Value.slice q.ms.a q.ms.l.length q.ms.cap, Value.int .i64 q.fr, Value.int .i64 q.to] 26 :: cel g2 [Value.slice d.ms.a d.ms.l.length d.ms.cap, Value.int .i64 d.fr, Value.int .i64 d.to] 26 :: allA serA o1 :: own a193 (out.length + 1) c194 68 2 ((out.flatMap msc) ++ [Value.slice x1.lb.a x1.lb.l.length x1.lb.cap, Value.slice u.a u.l.length u.cap]) :: own a1 o1.length c1 68 2 (o1.flatMap msc) :: own a3 o3.length c3 68 2 (o3.flatMap msc) :: allA serA o3 :: hdA 126 131 103 gh D :: (rdH q.ms.a q.ms.l.length 3 (q.ms.l.flatMap mtc)) :: (rdH d.ms.a d.ms.l.length 3 (d.ms.l.flatMap mtc)) :: (rdH a rs.length 5 (rs.flatMap rcc)) :: allA recA rs :: L) rfl).permT [6, 0, 5, 4] (L' := own a193 (out.length + 1) c194 68 2 ((out.flatMap msc) ++ [Value.slice x1.lb.a x1.lb.l.length x1.lb.cap, Value.slice u.a u.l.length u.cap]) :: allA serA (out ++ [(⟨x1.lb, u⟩ : MSer)]) :: own a1 o1.length c1 68 2 (o1.flatMap msc) :: allA serA o1 :: own a2 o2.length c2 68 2 (o2.flatMap msc) :: allA serA o2 :: cel g4 [Value.slice q.ms.a q.ms.l.length q.ms.cap, Value.int .i64 q.fr, Value.int .i64 q.to] 26 :: cel g2 [Value.slice d.ms.a d.ms.l.length d.ms.cap, Value.int .i64 d.fr, Value.int .i64 d.to] 26 :: own a3 o3.length c3 68 2 (o3.flatMap msc) :: allA serA o3 :: hdA 126 131 103 gh D :: (rdH q.ms.a q.ms.l.length 3 (q.ms.l.flatMap mtc)) :: (rdH d.ms.a d.ms.l.length 3 (d.ms.l.flatMap mtc)) :: (rdH a rs.length 5 (rs.flatMap rcc)) :: allA recA rs :: L) rfl) (by simp) (by simp [msc])⟩ (by show o1.length - (n + 1) < o1.length - n; omega) (Sub.cons rfl (Sub.cons rfl (Sub.cons rfl (Sub.cons rfl (Sub.cons rfl (Sub.cons rfl (Sub.cons rfl (Sub.consE rfl (by simp) (Sub.consE rfl (by congr 1) (Sub.nil _))))))))))
       ·
        refine WP.skip (NX.blk (NX.go (WP.region rfl ?_)))
        refine WO.mv rfl rfl ?_
        refine WO.V (run_add rfl rfl (IntWalk.i64_in _ (by omega))) ?_
        refine WO.asg rfl rfl ?_
        refine WO.nil ?_
        exact NX.again (n + 1, out, oa, oc) ⟨⟨by omega, by rw [hout, take_snocM hx1, List.map_append, List.map_cons, List.map_nil, wantF_snoc, if_neg (show ¬ 0 < (lessA (o2.map MSer.p) x1.p.lb x1.p.pts).length by show ¬ 0 < (lessA (o2.map MSer.p) x1.lb.l x1.pt.l).length; rw [← hue]; omega), List.append_nil], by omega, hsz⟩, (hS189.permT [0, 0, 0, 5, 5, 5, 4] (L' := cel g146 [Value.slice x1.lb.a x1.lb.l.length x1.lb.cap, Value.slice u.a u.l.length u.cap] 68 :: (labA x1.lb) :: (ptsA u) :: own oa out.length oc 68 2 (out.flatMap msc) :: allA serA out :: own a1 o1.length c1 68 2 (o1.flatMap msc) :: allA serA o1 :: own a2 o2.length c2 68 2 (o2.flatMap msc) :: allA serA o2 :: cel g4 [Value.slice q.ms.a q.ms.l.length q.ms.cap, Value.int .i64 q.fr, Value.int .i64 q.to] 26 :: cel g2 [Value.slice d.ms.a d.ms.l.length d.ms.cap, Value.int .i64 d.fr, Value.int .i64 d.to] 26 :: own a3 o3.length c3 68 2 (o3.flatMap msc) :: allA serA o3 :: hdA 126 131 103 gh D :: (rdH q.ms.a q.ms.l.length 3 (q.ms.l.flatMap mtc)) :: (rdH d.ms.a d.ms.l.length 3 (d.ms.l.flatMap mtc)) :: (rdH a rs.length 5 (rs.flatMap rcc)) :: allA recA rs :: L) rfl).drop.drop.drop⟩ (by show o1.length - (n + 1) < o1.length - n; omega) (Sub.cons rfl (Sub.cons rfl (Sub.cons rfl (Sub.cons rfl (Sub.cons rfl (Sub.cons rfl (Sub.cons rfl (Sub.consE rfl (by first | rfl | (congr 1; omega) | (simp; done) | (simp; omega)) (Sub.consE rfl (by congr 1) (Sub.nil _))))))))))
     ·
      refine WP.exit (NX.thenExit (NX.thenExit ?_))
      refine NX.blkExit ?_
      refine NX.go (WP.seq ?_)
      rw [List.take_of_length_le (by omega : o1.length ≤ n)] at hout
      refine WP.region rfl ?_
      refine WO.mv rfl rfl ?_
      refine WO.V (run_fa 0 ⟨g2, 0, none⟩ rfl rfl) ?_
      refine WO.V (run_load Ty.ag24 rfl ((hS143.cel_at 7 rfl 0).trans rfl)) ?_
      refine WO.V (run_fa 1 ⟨g2, 1, none⟩ rfl rfl) ?_
      refine WO.V (run_load Ty.ag2 rfl ((hS143.cel_at 7 rfl 1).trans rfl)) ?_
      refine WO.V (run_fa 2 ⟨g2, 2, none⟩ rfl rfl) ?_
      refine WO.V (run_load Ty.ag2 rfl ((hS143.cel_at 7 rfl 2).trans rfl)) ?_
      have hS196 := hS143.permT [10, 11] (L' := hdA 126 131 103 gh D :: (rdH d.ms.a d.ms.l.length 3 (d.ms.l.flatMap mtc)) :: own oa out.length oc 68 2 (out.flatMap msc) :: allA serA out :: own a1 o1.length c1 68 2 (o1.flatMap msc) :: allA serA o1 :: own a2 o2.length c2 68 2 (o2.flatMap msc) :: allA serA o2 :: cel g4 [Value.slice q.ms.a q.ms.l.length q.ms.cap, Value.int .i64 q.fr, Value.int .i64 q.to] 26 :: cel g2 [Value.slice d.ms.a d.ms.l.length d.ms.cap, Value.int .i64 d.fr, Value.int .i64 d.to] 26 :: own a3 o3.length c3 68 2 (o3.flatMap msc) :: allA serA o3 :: (rdH q.ms.a q.ms.l.length 3 (q.ms.l.flatMap mtc)) :: (rdH a rs.length 5 (rs.flatMap rcc)) :: allA recA rs :: L) rfl
      clear hS143
      refine WO.call rfl rfl Ty.hd33 rfl (hquery_spec (g := gh) rdH_rd hD (by omega) (by omega) hdz hdn d.fr d.to hS196) (fun v198 w197 pv198 => ?_)
      obtain ⟨a4, c4, o4, rfl, ho4, hn4, hz4, hS197⟩ := pv198
      clear hS196
      obtain rfl : o4 = [] := List.map_eq_nil_iff.1 (ho4.trans (by rw [hDe]; exact qry_del ..))
      have hS199 : St B (hdA 126 131 103 gh D :: (rdH d.ms.a d.ms.l.length 3 (d.ms.l.flatMap mtc)) :: own oa out.length oc 68 2 (out.flatMap msc) :: allA serA out :: own a1 o1.length c1 68 2 (o1.flatMap msc) :: allA serA o1 :: own a2 o2.length c2 68 2 (o2.flatMap msc) :: allA serA o2 :: cel g4 [Value.slice q.ms.a q.ms.l.length q.ms.cap, Value.int .i64 q.fr, Value.int .i64 q.to] 26 :: cel g2 [Value.slice d.ms.a d.ms.l.length d.ms.cap, Value.int .i64 d.fr, Value.int .i64 d.to] 26 :: own a3 o3.length c3 68 2 (o3.flatMap msc) :: allA serA o3 :: (rdH q.ms.a q.ms.l.length 3 (q.ms.l.flatMap mtc)) :: (rdH a rs.length 5 (rs.flatMap rcc)) :: allA recA rs :: L) w197 := hS197.drop.drop
      clear hS197
      refine WO.V (run_len rfl Tryz.underlying37 rfl) ?_
      refine WO.V (run_eql rfl rfl) ?_
      refine WO.mv rfl rfl ?_
      refine dcase (p := (0 : Int) = 0) (fun g149 d149 => ?_) (fun g149 d149 => ?_)
      ·
       refine WO.on rfl rfl d149 ?_
       refine WO.mv rfl rfl ?_
       refine WO.on rfl rfl d149 ?_
       refine WO.mv rfl rfl ?_
       refine WO.on rfl rfl d149 ?_
       have hS200 := hS199.permT [10, 10, 2, 2] (L' := own a3 o3.length c3 68 2 (o3.flatMap msc) :: allA serA o3 :: own oa out.length oc 68 2 (out.flatMap msc) :: allA serA out :: hdA 126 131 103 gh D :: (rdH d.ms.a d.ms.l.length 3 (d.ms.l.flatMap mtc)) :: own a1 o1.length c1 68 2 (o1.flatMap msc) :: allA serA o1 :: own a2 o2.length c2 68 2 (o2.flatMap msc) :: allA serA o2 :: cel g4 [Value.slice q.ms.a q.ms.l.length q.ms.cap, Value.int .i64 q.fr, Value.int .i64 q.to] 26 :: cel g2 [Value.slice d.ms.a d.ms.l.length d.ms.cap, Value.int .i64 d.fr, Value.int .i64 d.to] 26 :: (rdH q.ms.a q.ms.l.length 3 (q.ms.l.flatMap mtc)) :: (rdH a rs.length 5 (rs.flatMap rcc)) :: allA recA rs :: L) rfl
       clear hS199
       refine WO.call rfl rfl Ty.hd17 rfl (rssame_spec (X := own a3 o3.length c3 68 2 (o3.flatMap msc)) (Y := own oa out.length oc 68 2 (out.flatMap msc)) (fun h => h.own_rd.1) (fun h => h.own_rd.1) (by omega) (by omega) hz3 hsz hS200) (fun v202 w201 pv202 => ?_)
       obtain ⟨rfl, hS201⟩ := pv202
       clear hS200
       refine WO.V (run_pickT rfl d149 rfl) ?_
       refine WO.asg rfl rfl ?_
       refine WO.nil (NX.go (WP.ret ?_))
       refine NX.done (l := [.tmp 6]) rfl rfl ?_
       have heq : o3.map MSer.p = out.map MSer.p := by rw [hout, ho3, ho1, ho2, hDe]; exact (want_del hA.srt).symm
       exact ⟨congrArg Value.bool (decide_eq_true heq), hS201.drop.drop.drop.drop.drop.drop.drop.drop.drop.drop.drop.drop.drop.drop.drop⟩
      ·
       exact absurd rfl g149
end Go.Proofs.YtidoidoelgfnaaaGreatDoor.SL
