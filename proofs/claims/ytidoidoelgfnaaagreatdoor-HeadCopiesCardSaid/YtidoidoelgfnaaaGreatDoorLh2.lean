/- HeadCopies: the law. -/
import Derived.Test.YtidoidoelgfnaaaGreatDoorHl1M
import Derived.Test.YtidoidoelgfnaaaGreatDoorHk1M
import Derived.Test.YtidoidoelgfnaaaGreatDoorKrmM
namespace Go.Proofs.YtidoidoelgfnaaaGreatDoor.SL
open Go.RowKit Go.Proofs.YtidoidoelgfnaaaGreatDoor
open Go.Proofs.YtidoidoelgfnaaaGreatDoorW.PrintLast (rtab opsOf)
set_option linter.unusedVariables false
set_option linter.unusedSimpArgs false

def applyL (A : List RowP) (l : List RcP) : List RowP := l.foldl applyP A
theorem applyL_snoc {A : List RowP} {rs : List Rcd} {i : Nat} {d : Rcd} (h : rs[i]? = some d) : applyL A ((rs.take (i + 1)).map Rcd.p) = applyP (applyL A ((rs.take i).map Rcd.p)) d.p := by
  unfold applyL; rw [take_snocM h, List.map_append, List.foldl_append]; rfl
theorem t7_26 : rtab .any (opsOf Tryz.f7 26) = (true, [([], []), ([], []), ([1], [1]), ([], []), ([3], [3]), ([], []), ([5], [5]), ([0, 2, 4, 6], [0, 2, 4, 6]), ([], []), ([], []), ([9], [9]), ([], []), ([11], [11]), ([], []), ([13], [13]), ([8, 10, 12, 14, 7], [8, 10, 12, 14]), ([7, 15, 15], [7, 15]), ([16, 16, 0, 1, 2, 3, 4, 5, 6, 7, 8, 9, 10, 11, 12, 13, 14, 15, 16], [16])]) := by kernel_rfl
theorem headCopies_core {B w : World} {L : List HP} {a b : Option Addr} {cap cap2 : Nat} {rs ms : List Rcd} (q : AskV) (hrz : ∀ r ∈ rs, SzR r) (hrn : rs.length ≤ 2814749767106) (hmz : ∀ r ∈ ms, SzR r) (hmn : ms.length ≤ 2814749767106) (hqz : SzM q.ms.l) (hqn2 : q.ms.l.length ≤ 5864062014805) (hS : St B ((rdH a rs.length 5 (rs.flatMap rcc)) :: allA recA rs :: (rdH b ms.length 5 (ms.flatMap rcc)) :: allA recA ms :: (rdH q.ms.a q.ms.l.length 3 (q.ms.l.flatMap mtc)) :: L) w) : Does Tryz.prog 7 [Value.slice a rs.length cap, Value.slice b ms.length cap2, Value.agg #[Value.slice q.ms.a q.ms.l.length q.ms.cap, Value.int .i64 q.fr, Value.int .i64 q.to]] w (fun v w1 => v = .bool true ∧ St B L w1) := by
 refine enter (n := 130) Tryz.func7 rfl rfl [Value.slice a rs.length cap, Value.slice b ms.length cap2, Value.agg #[Value.slice q.ms.a q.ms.l.length q.ms.cap, Value.int .i64 q.fr, Value.int .i64 q.to]] rfl ?_
 refine WP.seq (WP.region rfl ?_)
 refine WO.box (l := [Value.slice q.ms.a q.ms.l.length q.ms.cap, Value.int .i64 q.fr, Value.int .i64 q.to]) hS rfl rfl rfl (fun g2 w1 lg2 hS1 => ?_)
 clear hS
 refine WO.asg rfl rfl ?_
 refine WO.nil (NX.go (WP.seq (WP.seq (WP.region rfl ?_))))
 refine WO.call rfl rfl Ty.hd29 rfl (hworks_spec hS1) (fun v4 w3 pv4 => ?_)
 obtain ⟨rfl, hS3⟩ := pv4
 clear hS1
 refine WO.V (run_not rfl rfl) ?_
 refine WO.nil (NX.go ?_)
 refine WP.condF rfl (notB_t rfl) ?_
 refine WP.skip (NX.go (WP.seq (WP.seq (WP.region rfl ?_))))
 refine WO.mv rfl rfl ?_
 have hS5 := hS3.permT [1, 1] (L' := (rdH a rs.length 5 (rs.flatMap rcc)) :: allA recA rs :: cel g2 [Value.slice q.ms.a q.ms.l.length q.ms.cap, Value.int .i64 q.fr, Value.int .i64 q.to] 26 :: (rdH b ms.length 5 (ms.flatMap rcc)) :: allA recA ms :: (rdH q.ms.a q.ms.l.length 3 (q.ms.l.flatMap mtc)) :: L) rfl
 clear hS3
 refine WO.call rfl rfl Ty.hd30 rfl (g13_spec rdH_rd hrz hrn hS5) (fun v7 w6 pv7 => ?_)
 obtain ⟨⟨qg, rfl, hqg⟩, hS6⟩ := pv7
 clear hS5
 refine WO.mv rfl rfl ?_
 rcases Bool.eq_false_or_eq_true qg with g17 | g17
 ·
  refine WO.off rfl rfl g17 rfl ?_
  refine WO.off rfl rfl g17 rfl ?_
  refine WO.V (run_pickT rfl g17 rfl) ?_
  refine WO.mv rfl rfl ?_
  refine WO.off rfl rfl rfl rfl ?_
  refine WO.off rfl rfl rfl rfl ?_
  refine WO.off rfl rfl rfl rfl ?_
  refine WO.off rfl rfl rfl rfl ?_
  refine WO.V (run_pickT rfl rfl rfl) ?_
  refine WO.nil (NX.go ?_)
  refine WP.condT rfl rfl ?_
  refine WP.seq (WP.region rfl ?_)
  refine WO.asg rfl rfl ?_
  refine WO.nil (NX.go (WP.ret (NX.thenRet ?_)))
  refine NX.done (l := [.tmp 6]) rfl rfl ?_
  exact ⟨rfl, hS6.drop.drop.drop.drop.drop.drop⟩
 ·
  refine WO.on rfl rfl g17 ?_
  refine WO.mv rfl rfl ?_
  refine WO.on rfl rfl g17 ?_
  have hS8 := hS6.permT [3, 3] (L' := (rdH b ms.length 5 (ms.flatMap rcc)) :: allA recA ms :: (rdH a rs.length 5 (rs.flatMap rcc)) :: allA recA rs :: cel g2 [Value.slice q.ms.a q.ms.l.length q.ms.cap, Value.int .i64 q.fr, Value.int .i64 q.to] 26 :: (rdH q.ms.a q.ms.l.length 3 (q.ms.l.flatMap mtc)) :: L) rfl
  clear hS6
  refine WO.call rfl rfl Ty.hd30 rfl (g13_spec rdH_rd hmz hmn hS8) (fun v10 w9 pv10 => ?_)
  obtain ⟨⟨qm, rfl, hqm⟩, hS9⟩ := pv10
  clear hS8
  refine WO.V (run_pickF rfl g17 rfl) ?_
  refine WO.mv rfl rfl ?_
  rcases Bool.eq_false_or_eq_true qm with g21 | g21
  ·
   refine WO.off rfl rfl g21 rfl ?_
   refine WO.off rfl rfl g21 rfl ?_
   refine WO.off rfl rfl g21 rfl ?_
   refine WO.off rfl rfl g21 rfl ?_
   refine WO.V (run_pickT rfl g21 rfl) ?_
   refine WO.nil (NX.go ?_)
   refine WP.condT rfl rfl ?_
   refine WP.seq (WP.region rfl ?_)
   refine WO.asg rfl rfl ?_
   refine WO.nil (NX.go (WP.ret (NX.thenRet ?_)))
   refine NX.done (l := [.tmp 6]) rfl rfl ?_
   exact ⟨rfl, hS9.drop.drop.drop.drop.drop.drop⟩
  ·
   refine WO.on rfl rfl g21 ?_
   refine WO.V (run_fa 0 ⟨g2, 0, none⟩ rfl rfl) ?_
   refine WO.on rfl rfl g21 ?_
   refine WO.V (run_load Ty.ag24 rfl ((hS9.cel_at 4 rfl 0).trans rfl)) ?_
   refine WO.on rfl rfl g21 ?_
   refine WO.V (run_len rfl Tryz.underlying24 rfl) ?_
   refine WO.on rfl rfl g21 ?_
   refine WO.V (run_gtr rfl rfl) ?_
   refine WO.V (run_pickF rfl g21 rfl) ?_
   refine WO.nil (NX.go ?_)
   refine WP.condP rfl (fun g26 => ?_) (fun g26 => ?_)
   ·
    refine WP.seq (WP.region rfl ?_)
    refine WO.asg rfl rfl ?_
    refine WO.nil (NX.go (WP.ret (NX.thenRet ?_)))
    refine NX.done (l := [.tmp 6]) rfl rfl ?_
    exact ⟨rfl, hS9.drop.drop.drop.drop.drop.drop⟩
   ·
    refine WP.skip (NX.go (WP.seq ?_))
    have hqn : q.ms.l.length ≤ 4398046511104 := by omega
    refine WP.region rfl ?_
    refine WO.call rfl rfl Ty.hd31 rfl (new_spec hS9) (fun v12 w11 pv12 => ?_)
    obtain ⟨gh, rfl, hS11⟩ := pv12
    clear hS9
    refine WO.asg rfl rfl ?_
    refine WO.nil (NX.go (WP.seq (WP.seq (WP.region rfl ?_))))
    refine WO.asg rfl rfl ?_
    refine WO.nil (NX.go (WP.block ?_))
    refine WP.loop (α := Nat × List RowP) (fun x => match x with | ⟨i, A⟩ => [(0, Value.slice a rs.length cap), (1, Value.slice b ms.length cap2), (5, Value.pointer (some ⟨g2, 0, none⟩)), (7, Value.pointer (some ⟨gh, 0, none⟩)), (8, Value.int .i64 (i : Int))]) (fun x w => match x with | ⟨i, A⟩ => (i ≤ rs.length ∧ i ≤ 30 ∧ WfH A (32 * i) ∧ A.length ≤ 256) ∧ St B (hdA 126 131 103 gh A :: (rdH a rs.length 5 (rs.flatMap rcc)) :: allA recA rs :: (rdH b ms.length 5 (ms.flatMap rcc)) :: allA recA ms :: (rdH q.ms.a q.ms.l.length 3 (q.ms.l.flatMap mtc)) :: cel g2 [Value.slice q.ms.a q.ms.l.length q.ms.cap, Value.int .i64 q.fr, Value.int .i64 q.to] 26 :: L) w) (fun x => match x with | ⟨i, A⟩ => rs.length - i) (0, []) ⟨⟨Nat.zero_le _, Nat.zero_le _, wf_nil _, Nat.zero_le _⟩, (hS11.permT [0, 2, 2, 0, 0, 1] (L' := hdA 126 131 103 gh [] :: (rdH a rs.length 5 (rs.flatMap rcc)) :: allA recA rs :: (rdH b ms.length 5 (ms.flatMap rcc)) :: allA recA ms :: (rdH q.ms.a q.ms.l.length 3 (q.ms.l.flatMap mtc)) :: cel g2 [Value.slice q.ms.a q.ms.l.length q.ms.cap, Value.int .i64 q.fr, Value.int .i64 q.to] 26 :: L) rfl)⟩ (Sub.cons rfl (Sub.cons rfl (Sub.cons rfl (Sub.cons rfl (Sub.consE rfl (by first | rfl | first | rfl | (congr 1; omega) | (simp; done) | (simp; omega)) (Sub.nil _)))))) ?_
    rintro ⟨i, A⟩ w13 ⟨⟨hi, hi3, hA, hAl⟩, hS13⟩
    clear hS11
    refine WP.seq (WP.seq (WP.region rfl ?_))
    refine WO.mv rfl rfl ?_
    refine WO.mv rfl rfl ?_
    refine WO.V (run_len rfl Tryz.underlying23 rfl) ?_
    refine WO.V (run_lss rfl rfl) ?_
    refine WO.mv rfl rfl ?_
    refine dcase (p := (i : Int) < ((rs.length : Nat) : Int)) (fun g32 d32 => ?_) (fun g32 d32 => ?_)
    ·
     refine WO.on rfl rfl d32 ?_
     refine WO.mv rfl rfl ?_
     refine WO.on rfl rfl d32 ?_
     refine WO.V (run_lss rfl rfl) ?_
     refine WO.V (run_pickT rfl d32 rfl) ?_
     refine WO.nil (NX.go ?_)
     refine WP.condP rfl (fun g35 => ?_) (fun g35 => ?_)
     ·
      refine WP.skip (NX.go (WP.seq (WP.block ?_)))
      obtain ⟨d1, hd1⟩ : ∃ qq, rs[i]? = some qq := ⟨_, List.getElem?_eq_getElem (by omega)⟩
      have hzd := hrz d1 (List.mem_of_getElem? hd1)
      have hS14 := allA_get recA_pers (List.mem_of_getElem? hd1) (hS13.permT [2] (L' := allA recA rs :: hdA 126 131 103 gh A :: (rdH a rs.length 5 (rs.flatMap rcc)) :: (rdH b ms.length 5 (ms.flatMap rcc)) :: allA recA ms :: (rdH q.ms.a q.ms.l.length 3 (q.ms.l.flatMap mtc)) :: cel g2 [Value.slice q.ms.a q.ms.l.length q.ms.cap, Value.int .i64 q.fr, Value.int .i64 q.to] 26 :: L) rfl)
      clear hS13
      refine WP.region rfl ?_
      refine WO.mv rfl rfl ?_
      refine WO.mv rfl rfl ?_
      refine WO.mv rfl rfl ?_
      refine WO.V (run_indexAddr (q := adr a (i * 5)) Tryz.underlying23 Ty.sz33 rfl rfl (by omega) (by omega) ((rdH_rd (hS14.focus 3 rfl)).2.1 (by omega)) rfl) ?_
      refine WO.V (run_loadAgg (vs := (rcc d1)) Ty.ag33 Ty.sz33 rfl ((rdH_rd (hS14.focus 3 rfl)).cells (by rw [flat_len rcc_len]; omega) (flat_part rcc_len hd1)).1 ((rdH_rd (hS14.focus 3 rfl)).cells (by rw [flat_len rcc_len]; omega) (flat_part rcc_len hd1)).2) ?_
      refine WO.call rfl rfl Ty.hd16 rfl (own12_spec d1 hzd hS14) (fun v16 w15 pv16 => ?_)
      obtain ⟨r1, rfl, hr1, hS15⟩ := pv16
      clear hS14
      have hS17 := hS15.permT [3] (L' := hdA 126 131 103 gh A :: recA r1 :: recA d1 :: allA recA rs :: (rdH a rs.length 5 (rs.flatMap rcc)) :: (rdH b ms.length 5 (ms.flatMap rcc)) :: allA recA ms :: (rdH q.ms.a q.ms.l.length 3 (q.ms.l.flatMap mtc)) :: cel g2 [Value.slice q.ms.a q.ms.l.length q.ms.cap, Value.int .i64 q.fr, Value.int .i64 q.to] 26 :: L) rfl
      clear hS15
      refine WO.call rfl rfl Ty.hd32 rfl ((by have z := happlyP_spec (g := gh) hA (by omega) (by omega) r1 (SzR.of_p hr1 hzd) hS17; rw [hr1] at z; exact z)) (fun v19 w18 pv19 => ?_)
      obtain ⟨rfl, hS18⟩ := pv19
      clear hS17
      refine WO.nil (NX.blk (NX.go (WP.region rfl ?_)))
      refine WO.mv rfl rfl ?_
      refine WO.V (run_add rfl rfl (IntWalk.i64_in _ (by omega))) ?_
      refine WO.asg rfl rfl ?_
      refine WO.nil ?_
      exact NX.again (i + 1, applyP A d1.p) ⟨⟨by omega, by omega, wf_applyP hA, applyP_len hAl⟩, ((hS18.mask [true, false, false] (L' := hdA 126 131 103 gh (applyP A d1.p) :: allA recA rs :: (rdH a rs.length 5 (rs.flatMap rcc)) :: (rdH b ms.length 5 (ms.flatMap rcc)) :: allA recA ms :: (rdH q.ms.a q.ms.l.length 3 (q.ms.l.flatMap mtc)) :: cel g2 [Value.slice q.ms.a q.ms.l.length q.ms.cap, Value.int .i64 q.fr, Value.int .i64 q.to] 26 :: L) rfl).permT [0, 1] (L' := hdA 126 131 103 gh (applyP A d1.p) :: (rdH a rs.length 5 (rs.flatMap rcc)) :: allA recA rs :: (rdH b ms.length 5 (ms.flatMap rcc)) :: allA recA ms :: (rdH q.ms.a q.ms.l.length 3 (q.ms.l.flatMap mtc)) :: cel g2 [Value.slice q.ms.a q.ms.l.length q.ms.cap, Value.int .i64 q.fr, Value.int .i64 q.to] 26 :: L) rfl)⟩ (by show rs.length - (i + 1) < rs.length - i; omega) (Sub.cons rfl (Sub.cons rfl (Sub.cons rfl (Sub.cons rfl (Sub.consE rfl (by congr 1) (Sub.nil _))))))
     ·
      refine WP.exit (NX.thenExit (NX.thenExit ?_))
      refine NX.blkExit ?_
      refine NX.go (WP.seq (WP.region rfl ?_))
      refine WO.mv rfl rfl ?_
      refine WO.call rfl rfl Ty.hd36 rfl (hcopy_spec (g := gh) hA (by omega) hS13) (fun v21 w20 pv21 => ?_)
      obtain ⟨gc, rfl, hS20⟩ := pv21
      clear hS13
      refine WO.asg rfl rfl ?_
      refine WO.nil (NX.go (WP.seq (WP.seq (WP.region rfl ?_))))
      refine WO.mv rfl rfl ?_
      refine WO.V (run_eqlNilP Tryz.underlying62 rfl rfl) ?_
      refine WO.nil (NX.go ?_)
      refine WP.condF rfl rfl ?_
      refine WP.skip (NX.go (WP.seq (WP.region rfl ?_)))
      refine WO.mv rfl rfl ?_
      refine WO.V (run_fa 0 ⟨g2, 0, none⟩ rfl rfl) ?_
      refine WO.V (run_load Ty.ag24 rfl ((hS20.cel_at 7 rfl 0).trans rfl)) ?_
      refine WO.V (run_fa 1 ⟨g2, 1, none⟩ rfl rfl) ?_
      refine WO.V (run_load Ty.ag2 rfl ((hS20.cel_at 7 rfl 1).trans rfl)) ?_
      refine WO.V (run_fa 2 ⟨g2, 2, none⟩ rfl rfl) ?_
      refine WO.V (run_load Ty.ag2 rfl ((hS20.cel_at 7 rfl 2).trans rfl)) ?_
      have hS22 := hS20.permT [1, 5] (L' := hdA 126 131 103 gh A :: (rdH q.ms.a q.ms.l.length 3 (q.ms.l.flatMap mtc)) :: hdA 126 131 103 gc A :: (rdH a rs.length 5 (rs.flatMap rcc)) :: allA recA rs :: (rdH b ms.length 5 (ms.flatMap rcc)) :: allA recA ms :: cel g2 [Value.slice q.ms.a q.ms.l.length q.ms.cap, Value.int .i64 q.fr, Value.int .i64 q.to] 26 :: L) rfl
      clear hS20
      refine WO.call rfl rfl Ty.hd33 rfl (hquery_spec (g := gh) rdH_rd hA (by omega) (by omega) hqz hqn q.fr q.to hS22) (fun v24 w23 pv24 => ?_)
      obtain ⟨a1, c1, o1, rfl, ho1, hn1, hz1, hS23⟩ := pv24
      clear hS22
      refine WO.asg rfl rfl ?_
      refine WO.nil (NX.go (WP.seq (WP.seq (WP.region rfl ?_))))
      refine WO.mv rfl rfl ?_
      refine WO.V (run_fa 0 ⟨g2, 0, none⟩ rfl rfl) ?_
      refine WO.V (run_load Ty.ag24 rfl ((hS23.cel_at 9 rfl 0).trans rfl)) ?_
      refine WO.V (run_fa 1 ⟨g2, 1, none⟩ rfl rfl) ?_
      refine WO.V (run_load Ty.ag2 rfl ((hS23.cel_at 9 rfl 1).trans rfl)) ?_
      refine WO.V (run_fa 2 ⟨g2, 2, none⟩ rfl rfl) ?_
      refine WO.V (run_load Ty.ag2 rfl ((hS23.cel_at 9 rfl 2).trans rfl)) ?_
      have hS25 := hS23.permT [4, 3] (L' := hdA 126 131 103 gc A :: (rdH q.ms.a q.ms.l.length 3 (q.ms.l.flatMap mtc)) :: own a1 o1.length c1 68 2 (o1.flatMap msc) :: allA serA o1 :: hdA 126 131 103 gh A :: (rdH a rs.length 5 (rs.flatMap rcc)) :: allA recA rs :: (rdH b ms.length 5 (ms.flatMap rcc)) :: allA recA ms :: cel g2 [Value.slice q.ms.a q.ms.l.length q.ms.cap, Value.int .i64 q.fr, Value.int .i64 q.to] 26 :: L) rfl
      clear hS23
      refine WO.call rfl rfl Ty.hd33 rfl (hquery_spec (g := gc) rdH_rd hA (by omega) (by omega) hqz hqn q.fr q.to hS25) (fun v27 w26 pv27 => ?_)
      obtain ⟨a2, c2, o2, rfl, ho2, hn2, hz2, hS26⟩ := pv27
      clear hS25
      refine WO.mv rfl rfl ?_
      have hS28 := hS26.permT [0, 0, 2, 2] (L' := own a2 o2.length c2 68 2 (o2.flatMap msc) :: allA serA o2 :: own a1 o1.length c1 68 2 (o1.flatMap msc) :: allA serA o1 :: hdA 126 131 103 gc A :: (rdH q.ms.a q.ms.l.length 3 (q.ms.l.flatMap mtc)) :: hdA 126 131 103 gh A :: (rdH a rs.length 5 (rs.flatMap rcc)) :: allA recA rs :: (rdH b ms.length 5 (ms.flatMap rcc)) :: allA recA ms :: cel g2 [Value.slice q.ms.a q.ms.l.length q.ms.cap, Value.int .i64 q.fr, Value.int .i64 q.to] 26 :: L) rfl
      clear hS26
      refine WO.call rfl rfl Ty.hd17 rfl (rssame_spec (X := own a2 o2.length c2 68 2 (o2.flatMap msc)) (Y := own a1 o1.length c1 68 2 (o1.flatMap msc)) (fun h => h.own_rd.1) (fun h => h.own_rd.1) (by omega) (by omega) hz2 hz1 hS28) (fun v30 w29 pv30 => ?_)
      obtain ⟨rfl, hS29⟩ := pv30
      clear hS28
      refine WO.V (run_notP rfl) ?_
      refine WO.nil (NX.go ?_)
      refine WP.condP rfl (fun g67 => ?_) (fun g67 => ?_)
      ·
       exact absurd (ho2.trans ho1.symm) g67
      ·
       refine WP.skip (NX.go (WP.seq (WP.seq ?_)))
       have hS31 : St B (own a1 o1.length c1 68 2 (o1.flatMap msc) :: allA serA o1 :: hdA 126 131 103 gc A :: (rdH q.ms.a q.ms.l.length 3 (q.ms.l.flatMap mtc)) :: hdA 126 131 103 gh A :: (rdH a rs.length 5 (rs.flatMap rcc)) :: allA recA rs :: (rdH b ms.length 5 (ms.flatMap rcc)) :: allA recA ms :: cel g2 [Value.slice q.ms.a q.ms.l.length q.ms.cap, Value.int .i64 q.fr, Value.int .i64 q.to] 26 :: L) w29 := hS29.drop.drop
       clear hS29
       refine WP.region rfl ?_
       refine WO.asg rfl rfl ?_
       refine WO.nil (NX.go (WP.block ?_))
       refine WP.loop (α := Nat × List RowP) (fun x => match x with | ⟨j, C⟩ => [(0, Value.slice a rs.length cap), (1, Value.slice b ms.length cap2), (5, Value.pointer (some ⟨g2, 0, none⟩)), (7, Value.pointer (some ⟨gh, 0, none⟩)), (9, Value.pointer (some ⟨gc, 0, none⟩)), (10, Value.slice a1 o1.length c1), (11, Value.int .i64 (j : Int))]) (fun x w => match x with | ⟨j, C⟩ => (j ≤ ms.length ∧ j ≤ 30 ∧ WfH C (960 + 32 * j) ∧ C.length ≤ 256 ∧ C = applyL A ((ms.take j).map Rcd.p)) ∧ St B (hdA 126 131 103 gc C :: hdA 126 131 103 gh A :: own a1 o1.length c1 68 2 (o1.flatMap msc) :: allA serA o1 :: (rdH a rs.length 5 (rs.flatMap rcc)) :: allA recA rs :: (rdH b ms.length 5 (ms.flatMap rcc)) :: allA recA ms :: (rdH q.ms.a q.ms.l.length 3 (q.ms.l.flatMap mtc)) :: cel g2 [Value.slice q.ms.a q.ms.l.length q.ms.cap, Value.int .i64 q.fr, Value.int .i64 q.to] 26 :: L) w) (fun x => match x with | ⟨j, C⟩ => ms.length - j) (0, A) ⟨⟨Nat.zero_le _, Nat.zero_le _, hA.mono (by omega), hAl, rfl⟩, (hS31.permT [2, 3, 0, 0, 1, 1, 1, 1] (L' := hdA 126 131 103 gc A :: hdA 126 131 103 gh A :: own a1 o1.length c1 68 2 (o1.flatMap msc) :: allA serA o1 :: (rdH a rs.length 5 (rs.flatMap rcc)) :: allA recA rs :: (rdH b ms.length 5 (ms.flatMap rcc)) :: allA recA ms :: (rdH q.ms.a q.ms.l.length 3 (q.ms.l.flatMap mtc)) :: cel g2 [Value.slice q.ms.a q.ms.l.length q.ms.cap, Value.int .i64 q.fr, Value.int .i64 q.to] 26 :: L) rfl)⟩ (Sub.cons rfl (Sub.cons rfl (Sub.cons rfl (Sub.cons rfl (Sub.cons rfl (Sub.cons rfl (Sub.consE rfl (by first | rfl | first | rfl | (congr 1; omega) | (simp; done) | (simp; omega)) (Sub.nil _)))))))) ?_
       rintro ⟨j, C⟩ w32 ⟨⟨hj, hj3, hC, hCl, hCe⟩, hS32⟩
       clear hS31
       refine WP.seq (WP.seq (WP.region rfl ?_))
       refine WO.mv rfl rfl ?_
       refine WO.mv rfl rfl ?_
       refine WO.V (run_len rfl Tryz.underlying23 rfl) ?_
       refine WO.V (run_lss rfl rfl) ?_
       refine WO.mv rfl rfl ?_
       refine dcase (p := (j : Int) < ((ms.length : Nat) : Int)) (fun g72 d72 => ?_) (fun g72 d72 => ?_)
       ·
        refine WO.on rfl rfl d72 ?_
        refine WO.mv rfl rfl ?_
        refine WO.on rfl rfl d72 ?_
        refine WO.V (run_lss rfl rfl) ?_
        refine WO.V (run_pickT rfl d72 rfl) ?_
        refine WO.nil (NX.go ?_)
        refine WP.condP rfl (fun g75 => ?_) (fun g75 => ?_)
        ·
         refine WP.skip (NX.go (WP.seq (WP.block ?_)))
         obtain ⟨d2, hd2⟩ : ∃ qq, ms[j]? = some qq := ⟨_, List.getElem?_eq_getElem (by omega)⟩
         have hzd := hmz d2 (List.mem_of_getElem? hd2)
         have hS33 := allA_get recA_pers (List.mem_of_getElem? hd2) (hS32.permT [7] (L' := allA recA ms :: hdA 126 131 103 gc C :: hdA 126 131 103 gh A :: own a1 o1.length c1 68 2 (o1.flatMap msc) :: allA serA o1 :: (rdH a rs.length 5 (rs.flatMap rcc)) :: allA recA rs :: (rdH b ms.length 5 (ms.flatMap rcc)) :: (rdH q.ms.a q.ms.l.length 3 (q.ms.l.flatMap mtc)) :: cel g2 [Value.slice q.ms.a q.ms.l.length q.ms.cap, Value.int .i64 q.fr, Value.int .i64 q.to] 26 :: L) rfl)
         clear hS32
         refine WP.region rfl ?_
         refine WO.mv rfl rfl ?_
         refine WO.mv rfl rfl ?_
         refine WO.mv rfl rfl ?_
         refine WO.V (run_indexAddr (q := adr b (j * 5)) Tryz.underlying23 Ty.sz33 rfl rfl (by omega) (by omega) ((rdH_rd (hS33.focus 8 rfl)).2.1 (by omega)) rfl) ?_
         refine WO.V (run_loadAgg (vs := (rcc d2)) Ty.ag33 Ty.sz33 rfl ((rdH_rd (hS33.focus 8 rfl)).cells (by rw [flat_len rcc_len]; omega) (flat_part rcc_len hd2)).1 ((rdH_rd (hS33.focus 8 rfl)).cells (by rw [flat_len rcc_len]; omega) (flat_part rcc_len hd2)).2) ?_
         refine WO.call rfl rfl Ty.hd16 rfl (own12_spec d2 hzd hS33) (fun v35 w34 pv35 => ?_)
         obtain ⟨r2, rfl, hr2, hS34⟩ := pv35
         clear hS33
         have hS36 := hS34.permT [3] (L' := hdA 126 131 103 gc C :: recA r2 :: recA d2 :: allA recA ms :: hdA 126 131 103 gh A :: own a1 o1.length c1 68 2 (o1.flatMap msc) :: allA serA o1 :: (rdH a rs.length 5 (rs.flatMap rcc)) :: allA recA rs :: (rdH b ms.length 5 (ms.flatMap rcc)) :: (rdH q.ms.a q.ms.l.length 3 (q.ms.l.flatMap mtc)) :: cel g2 [Value.slice q.ms.a q.ms.l.length q.ms.cap, Value.int .i64 q.fr, Value.int .i64 q.to] 26 :: L) rfl
         clear hS34
         refine WO.call rfl rfl Ty.hd32 rfl ((by have z := happlyP_spec (g := gc) hC (by omega) (by omega) r2 (SzR.of_p hr2 hzd) hS36; rw [hr2] at z; exact z)) (fun v38 w37 pv38 => ?_)
         obtain ⟨rfl, hS37⟩ := pv38
         clear hS36
         refine WO.nil (NX.blk (NX.go (WP.region rfl ?_)))
         refine WO.mv rfl rfl ?_
         refine WO.V (run_add rfl rfl (IntWalk.i64_in _ (by omega))) ?_
         refine WO.asg rfl rfl ?_
         refine WO.nil ?_
         exact NX.again (j + 1, applyP C d2.p) ⟨⟨by omega, by omega, wf_applyP hC, applyP_len hCl, by rw [applyL_snoc hd2, ← hCe]⟩, ((hS37.mask [true, false, false] (L' := hdA 126 131 103 gc (applyP C d2.p) :: allA recA ms :: hdA 126 131 103 gh A :: own a1 o1.length c1 68 2 (o1.flatMap msc) :: allA serA o1 :: (rdH a rs.length 5 (rs.flatMap rcc)) :: allA recA rs :: (rdH b ms.length 5 (ms.flatMap rcc)) :: (rdH q.ms.a q.ms.l.length 3 (q.ms.l.flatMap mtc)) :: cel g2 [Value.slice q.ms.a q.ms.l.length q.ms.cap, Value.int .i64 q.fr, Value.int .i64 q.to] 26 :: L) rfl).permT [0, 1, 1, 1, 1, 1, 1] (L' := hdA 126 131 103 gc (applyP C d2.p) :: hdA 126 131 103 gh A :: own a1 o1.length c1 68 2 (o1.flatMap msc) :: allA serA o1 :: (rdH a rs.length 5 (rs.flatMap rcc)) :: allA recA rs :: (rdH b ms.length 5 (ms.flatMap rcc)) :: allA recA ms :: (rdH q.ms.a q.ms.l.length 3 (q.ms.l.flatMap mtc)) :: cel g2 [Value.slice q.ms.a q.ms.l.length q.ms.cap, Value.int .i64 q.fr, Value.int .i64 q.to] 26 :: L) rfl)⟩ (by show ms.length - (j + 1) < ms.length - j; omega) (Sub.cons rfl (Sub.cons rfl (Sub.cons rfl (Sub.cons rfl (Sub.cons rfl (Sub.cons rfl (Sub.consE rfl (by congr 1) (Sub.nil _))))))))
        ·
         refine WP.exit (NX.thenExit (NX.thenExit ?_))
         refine NX.blkExit ?_
         refine NX.go (WP.seq (WP.seq (WP.region rfl ?_)))
         refine WO.mv rfl rfl ?_
         refine WO.V (run_fa 0 ⟨g2, 0, none⟩ rfl rfl) ?_
         refine WO.V (run_load Ty.ag24 rfl ((hS32.cel_at 9 rfl 0).trans rfl)) ?_
         refine WO.V (run_fa 1 ⟨g2, 1, none⟩ rfl rfl) ?_
         refine WO.V (run_load Ty.ag2 rfl ((hS32.cel_at 9 rfl 1).trans rfl)) ?_
         refine WO.V (run_fa 2 ⟨g2, 2, none⟩ rfl rfl) ?_
         refine WO.V (run_load Ty.ag2 rfl ((hS32.cel_at 9 rfl 2).trans rfl)) ?_
         have hS39 := hS32.permT [1, 7] (L' := hdA 126 131 103 gh A :: (rdH q.ms.a q.ms.l.length 3 (q.ms.l.flatMap mtc)) :: hdA 126 131 103 gc C :: own a1 o1.length c1 68 2 (o1.flatMap msc) :: allA serA o1 :: (rdH a rs.length 5 (rs.flatMap rcc)) :: allA recA rs :: (rdH b ms.length 5 (ms.flatMap rcc)) :: allA recA ms :: cel g2 [Value.slice q.ms.a q.ms.l.length q.ms.cap, Value.int .i64 q.fr, Value.int .i64 q.to] 26 :: L) rfl
         clear hS32
         refine WO.call rfl rfl Ty.hd33 rfl (hquery_spec (g := gh) rdH_rd hA (by omega) (by omega) hqz hqn q.fr q.to hS39) (fun v41 w40 pv41 => ?_)
         obtain ⟨a3, c3, o3, rfl, ho3, hn3, hz3, hS40⟩ := pv41
         clear hS39
         refine WO.mv rfl rfl ?_
         have hS42 := hS40.permT [0, 0, 3, 3] (L' := own a3 o3.length c3 68 2 (o3.flatMap msc) :: allA serA o3 :: own a1 o1.length c1 68 2 (o1.flatMap msc) :: allA serA o1 :: hdA 126 131 103 gh A :: (rdH q.ms.a q.ms.l.length 3 (q.ms.l.flatMap mtc)) :: hdA 126 131 103 gc C :: (rdH a rs.length 5 (rs.flatMap rcc)) :: allA recA rs :: (rdH b ms.length 5 (ms.flatMap rcc)) :: allA recA ms :: cel g2 [Value.slice q.ms.a q.ms.l.length q.ms.cap, Value.int .i64 q.fr, Value.int .i64 q.to] 26 :: L) rfl
         clear hS40
         refine WO.call rfl rfl Ty.hd17 rfl (rssame_spec (X := own a3 o3.length c3 68 2 (o3.flatMap msc)) (Y := own a1 o1.length c1 68 2 (o1.flatMap msc)) (fun h => h.own_rd.1) (fun h => h.own_rd.1) (by omega) (by omega) hz3 hz1 hS42) (fun v44 w43 pv44 => ?_)
         obtain ⟨rfl, hS43⟩ := pv44
         clear hS42
         refine WO.V (run_notP rfl) ?_
         refine WO.nil (NX.go ?_)
         refine WP.condP rfl (fun g95 => ?_) (fun g95 => ?_)
         ·
          exact absurd (ho3.trans ho1.symm) g95
         ·
          refine WP.skip (NX.go (WP.seq (WP.seq ?_)))
          have hS45 : St B (own a1 o1.length c1 68 2 (o1.flatMap msc) :: allA serA o1 :: hdA 126 131 103 gh A :: (rdH q.ms.a q.ms.l.length 3 (q.ms.l.flatMap mtc)) :: hdA 126 131 103 gc C :: (rdH a rs.length 5 (rs.flatMap rcc)) :: allA recA rs :: (rdH b ms.length 5 (ms.flatMap rcc)) :: allA recA ms :: cel g2 [Value.slice q.ms.a q.ms.l.length q.ms.cap, Value.int .i64 q.fr, Value.int .i64 q.to] 26 :: L) w43 := hS43.drop.drop
          clear hS43
          refine WP.region rfl ?_
          refine WO.asg rfl rfl ?_
          refine WO.nil (NX.go (WP.block ?_))
          refine WP.loop (α := Nat × List RowP) (fun x => match x with | ⟨k, D⟩ => [(0, Value.slice a rs.length cap), (1, Value.slice b ms.length cap2), (5, Value.pointer (some ⟨g2, 0, none⟩)), (7, Value.pointer (some ⟨gh, 0, none⟩)), (9, Value.pointer (some ⟨gc, 0, none⟩)), (10, Value.slice a1 o1.length c1), (12, Value.int .i64 (k : Int))]) (fun x w => match x with | ⟨k, D⟩ => (k ≤ ms.length ∧ k ≤ 30 ∧ WfH D (960 + 32 * k) ∧ D.length ≤ 256 ∧ D = applyL A ((ms.take k).map Rcd.p)) ∧ St B (hdA 126 131 103 gh D :: hdA 126 131 103 gc C :: own a1 o1.length c1 68 2 (o1.flatMap msc) :: allA serA o1 :: (rdH a rs.length 5 (rs.flatMap rcc)) :: allA recA rs :: (rdH b ms.length 5 (ms.flatMap rcc)) :: allA recA ms :: (rdH q.ms.a q.ms.l.length 3 (q.ms.l.flatMap mtc)) :: cel g2 [Value.slice q.ms.a q.ms.l.length q.ms.cap, Value.int .i64 q.fr, Value.int .i64 q.to] 26 :: L) w) (fun x => match x with | ⟨k, D⟩ => ms.length - k) (0, A) ⟨⟨Nat.zero_le _, Nat.zero_le _, hA.mono (by omega), hAl, rfl⟩, (hS45.permT [2, 3, 0, 0, 1, 1, 1, 1] (L' := hdA 126 131 103 gh A :: hdA 126 131 103 gc C :: own a1 o1.length c1 68 2 (o1.flatMap msc) :: allA serA o1 :: (rdH a rs.length 5 (rs.flatMap rcc)) :: allA recA rs :: (rdH b ms.length 5 (ms.flatMap rcc)) :: allA recA ms :: (rdH q.ms.a q.ms.l.length 3 (q.ms.l.flatMap mtc)) :: cel g2 [Value.slice q.ms.a q.ms.l.length q.ms.cap, Value.int .i64 q.fr, Value.int .i64 q.to] 26 :: L) rfl)⟩ (Sub.cons rfl (Sub.cons rfl (Sub.cons rfl (Sub.cons rfl (Sub.cons rfl (Sub.cons rfl (Sub.consE rfl (by first | rfl | first | rfl | (congr 1; omega) | (simp; done) | (simp; omega)) (Sub.nil _)))))))) ?_
          rintro ⟨k, D⟩ w46 ⟨⟨hk, hk3, hD, hDl, hDe⟩, hS46⟩
          clear hS45
          refine WP.seq (WP.seq (WP.region rfl ?_))
          refine WO.mv rfl rfl ?_
          refine WO.mv rfl rfl ?_
          refine WO.V (run_len rfl Tryz.underlying23 rfl) ?_
          refine WO.V (run_lss rfl rfl) ?_
          refine WO.mv rfl rfl ?_
          refine dcase (p := (k : Int) < ((ms.length : Nat) : Int)) (fun g100 d100 => ?_) (fun g100 d100 => ?_)
          ·
           refine WO.on rfl rfl d100 ?_
           refine WO.mv rfl rfl ?_
           refine WO.on rfl rfl d100 ?_
           refine WO.V (run_lss rfl rfl) ?_
           refine WO.V (run_pickT rfl d100 rfl) ?_
           refine WO.nil (NX.go ?_)
           refine WP.condP rfl (fun g103 => ?_) (fun g103 => ?_)
           ·
            refine WP.skip (NX.go (WP.seq (WP.block ?_)))
            obtain ⟨d2, hd2⟩ : ∃ qq, ms[k]? = some qq := ⟨_, List.getElem?_eq_getElem (by omega)⟩
            have hzd := hmz d2 (List.mem_of_getElem? hd2)
            have hS47 := allA_get recA_pers (List.mem_of_getElem? hd2) (hS46.permT [7] (L' := allA recA ms :: hdA 126 131 103 gh D :: hdA 126 131 103 gc C :: own a1 o1.length c1 68 2 (o1.flatMap msc) :: allA serA o1 :: (rdH a rs.length 5 (rs.flatMap rcc)) :: allA recA rs :: (rdH b ms.length 5 (ms.flatMap rcc)) :: (rdH q.ms.a q.ms.l.length 3 (q.ms.l.flatMap mtc)) :: cel g2 [Value.slice q.ms.a q.ms.l.length q.ms.cap, Value.int .i64 q.fr, Value.int .i64 q.to] 26 :: L) rfl)
            clear hS46
            refine WP.region rfl ?_
            refine WO.mv rfl rfl ?_
            refine WO.mv rfl rfl ?_
            refine WO.mv rfl rfl ?_
            refine WO.V (run_indexAddr (q := adr b (k * 5)) Tryz.underlying23 Ty.sz33 rfl rfl (by omega) (by omega) ((rdH_rd (hS47.focus 8 rfl)).2.1 (by omega)) rfl) ?_
            refine WO.V (run_loadAgg (vs := (rcc d2)) Ty.ag33 Ty.sz33 rfl ((rdH_rd (hS47.focus 8 rfl)).cells (by rw [flat_len rcc_len]; omega) (flat_part rcc_len hd2)).1 ((rdH_rd (hS47.focus 8 rfl)).cells (by rw [flat_len rcc_len]; omega) (flat_part rcc_len hd2)).2) ?_
            refine WO.call rfl rfl Ty.hd16 rfl (own12_spec d2 hzd hS47) (fun v49 w48 pv49 => ?_)
            obtain ⟨r3, rfl, hr3, hS48⟩ := pv49
            clear hS47
            have hS50 := hS48.permT [3] (L' := hdA 126 131 103 gh D :: recA r3 :: recA d2 :: allA recA ms :: hdA 126 131 103 gc C :: own a1 o1.length c1 68 2 (o1.flatMap msc) :: allA serA o1 :: (rdH a rs.length 5 (rs.flatMap rcc)) :: allA recA rs :: (rdH b ms.length 5 (ms.flatMap rcc)) :: (rdH q.ms.a q.ms.l.length 3 (q.ms.l.flatMap mtc)) :: cel g2 [Value.slice q.ms.a q.ms.l.length q.ms.cap, Value.int .i64 q.fr, Value.int .i64 q.to] 26 :: L) rfl
            clear hS48
            refine WO.call rfl rfl Ty.hd32 rfl ((by have z := happlyP_spec (g := gh) hD (by omega) (by omega) r3 (SzR.of_p hr3 hzd) hS50; rw [hr3] at z; exact z)) (fun v52 w51 pv52 => ?_)
            obtain ⟨rfl, hS51⟩ := pv52
            clear hS50
            refine WO.nil (NX.blk (NX.go (WP.region rfl ?_)))
            refine WO.mv rfl rfl ?_
            refine WO.V (run_add rfl rfl (IntWalk.i64_in _ (by omega))) ?_
            refine WO.asg rfl rfl ?_
            refine WO.nil ?_
            exact NX.again (k + 1, applyP D d2.p) ⟨⟨by omega, by omega, wf_applyP hD, applyP_len hDl, by rw [applyL_snoc hd2, ← hDe]⟩, ((hS51.mask [true, false, false] (L' := hdA 126 131 103 gh (applyP D d2.p) :: allA recA ms :: hdA 126 131 103 gc C :: own a1 o1.length c1 68 2 (o1.flatMap msc) :: allA serA o1 :: (rdH a rs.length 5 (rs.flatMap rcc)) :: allA recA rs :: (rdH b ms.length 5 (ms.flatMap rcc)) :: (rdH q.ms.a q.ms.l.length 3 (q.ms.l.flatMap mtc)) :: cel g2 [Value.slice q.ms.a q.ms.l.length q.ms.cap, Value.int .i64 q.fr, Value.int .i64 q.to] 26 :: L) rfl).permT [0, 1, 1, 1, 1, 1, 1] (L' := hdA 126 131 103 gh (applyP D d2.p) :: hdA 126 131 103 gc C :: own a1 o1.length c1 68 2 (o1.flatMap msc) :: allA serA o1 :: (rdH a rs.length 5 (rs.flatMap rcc)) :: allA recA rs :: (rdH b ms.length 5 (ms.flatMap rcc)) :: allA recA ms :: (rdH q.ms.a q.ms.l.length 3 (q.ms.l.flatMap mtc)) :: cel g2 [Value.slice q.ms.a q.ms.l.length q.ms.cap, Value.int .i64 q.fr, Value.int .i64 q.to] 26 :: L) rfl)⟩ (by show ms.length - (k + 1) < ms.length - k; omega) (Sub.cons rfl (Sub.cons rfl (Sub.cons rfl (Sub.cons rfl (Sub.cons rfl (Sub.cons rfl (Sub.consE rfl (by congr 1) (Sub.nil _))))))))
           ·
            refine WP.exit (NX.thenExit (NX.thenExit ?_))
            refine NX.blkExit ?_
            refine NX.go (WP.seq ?_)
            have hS53 : St B (hdA 126 131 103 gh D :: hdA 126 131 103 gc C :: (rdH a rs.length 5 (rs.flatMap rcc)) :: allA recA rs :: (rdH b ms.length 5 (ms.flatMap rcc)) :: allA recA ms :: (rdH q.ms.a q.ms.l.length 3 (q.ms.l.flatMap mtc)) :: cel g2 [Value.slice q.ms.a q.ms.l.length q.ms.cap, Value.int .i64 q.fr, Value.int .i64 q.to] 26 :: L) w46 := (hS46.mask [true, true, false, false] (L' := hdA 126 131 103 gh D :: hdA 126 131 103 gc C :: (rdH a rs.length 5 (rs.flatMap rcc)) :: allA recA rs :: (rdH b ms.length 5 (ms.flatMap rcc)) :: allA recA ms :: (rdH q.ms.a q.ms.l.length 3 (q.ms.l.flatMap mtc)) :: cel g2 [Value.slice q.ms.a q.ms.l.length q.ms.cap, Value.int .i64 q.fr, Value.int .i64 q.to] 26 :: L) rfl)
            clear hS46
            have hjk : k = j := by omega
            subst hjk
            refine WD.start (fun w => (∀ jz, World.cell? w ⟨g2, jz, none⟩ = [Value.slice q.ms.a q.ms.l.length q.ms.cap, Value.int .i64 q.fr, Value.int .i64 q.to][jz]?)) [] (bt 18 0) Ty.mo rfl (by kernel_rfl) hS53 (fun _ h => h.cel_at 7 rfl) (fun w54 hS54 s55 => ?_)
            clear hS53
            refine DP (i := 0) t7_26 (bt 18 1) rfl rfl rfl rfl (fun w => run_move rfl) ?_
            refine DP (i := 1) t7_26 (bt 18 3) rfl rfl rfl rfl (fun w => run_fa 0 ⟨g2, 0, none⟩ rfl rfl) ?_
            refine DT (i := 2) t7_26 (bt 18 7) s55 rfl rfl rfl rfl (fun w hs => run_load Ty.ag24 rfl ((hs 0).trans rfl)) ?_
            refine DP (i := 3) t7_26 (bt 18 15) rfl rfl rfl rfl (fun w => run_fa 1 ⟨g2, 1, none⟩ rfl rfl) ?_
            refine DT (i := 4) t7_26 (bt 18 31) s55 rfl rfl rfl rfl (fun w hs => run_load Ty.ag2 rfl ((hs 1).trans rfl)) ?_
            refine DP (i := 5) t7_26 (bt 18 63) rfl rfl rfl rfl (fun w => run_fa 2 ⟨g2, 2, none⟩ rfl rfl) ?_
            refine DT (i := 6) t7_26 (bt 18 127) s55 rfl rfl rfl rfl (fun w hs => run_load Ty.ag2 rfl ((hs 2).trans rfl)) ?_
            refine DP (i := 8) t7_26 (bt 18 383) rfl rfl rfl rfl (fun w => run_move rfl) ?_
            refine DP (i := 9) t7_26 (bt 18 895) rfl rfl rfl rfl (fun w => run_fa 0 ⟨g2, 0, none⟩ rfl rfl) ?_
            refine DT (i := 10) t7_26 (bt 18 1919) s55 rfl rfl rfl rfl (fun w hs => run_load Ty.ag24 rfl ((hs 0).trans rfl)) ?_
            refine DP (i := 11) t7_26 (bt 18 3967) rfl rfl rfl rfl (fun w => run_fa 1 ⟨g2, 1, none⟩ rfl rfl) ?_
            refine DT (i := 12) t7_26 (bt 18 8063) s55 rfl rfl rfl rfl (fun w hs => run_load Ty.ag2 rfl ((hs 1).trans rfl)) ?_
            refine DP (i := 13) t7_26 (bt 18 16255) rfl rfl rfl rfl (fun w => run_fa 2 ⟨g2, 2, none⟩ rfl rfl) ?_
            refine DT (i := 14) t7_26 (bt 18 32639) s55 rfl rfl rfl rfl (fun w hs => run_load Ty.ag2 rfl ((hs 2).trans rfl)) ?_
            refine WD.one (i := 7) t7_26 (bt 18 32767) rfl (by kernel_rfl) ?_
            have hS56 := hS54.permT [0, 5] (L' := hdA 126 131 103 gh D :: (rdH q.ms.a q.ms.l.length 3 (q.ms.l.flatMap mtc)) :: hdA 126 131 103 gc C :: (rdH a rs.length 5 (rs.flatMap rcc)) :: allA recA rs :: (rdH b ms.length 5 (ms.flatMap rcc)) :: allA recA ms :: cel g2 [Value.slice q.ms.a q.ms.l.length q.ms.cap, Value.int .i64 q.fr, Value.int .i64 q.to] 26 :: L) rfl
            clear hS54
            refine WO.call rfl rfl Ty.hd33 rfl (hquery_spec (g := gh) rdH_rd hD (by omega) (by omega) hqz hqn q.fr q.to hS56) (fun v58 w57 pv58 => ?_)
            obtain ⟨a4, c4, o4, rfl, ho4, hn4, hz4, hS57⟩ := pv58
            clear hS56
            refine WO.nil ?_
            have s59 : (∀ jz, World.cell? w57 ⟨g2, jz, none⟩ = [Value.slice q.ms.a q.ms.l.length q.ms.cap, Value.int .i64 q.fr, Value.int .i64 q.to][jz]?) := hS57.cel_at 9 rfl
            refine NX.held s59 ?_
            refine WD.one (i := 15) t7_26 (bt 18 65535) rfl (by kernel_rfl) ?_
            have hS60 := hS57.permT [4, 3] (L' := hdA 126 131 103 gc C :: (rdH q.ms.a q.ms.l.length 3 (q.ms.l.flatMap mtc)) :: own a4 o4.length c4 68 2 (o4.flatMap msc) :: allA serA o4 :: hdA 126 131 103 gh D :: (rdH a rs.length 5 (rs.flatMap rcc)) :: allA recA rs :: (rdH b ms.length 5 (ms.flatMap rcc)) :: allA recA ms :: cel g2 [Value.slice q.ms.a q.ms.l.length q.ms.cap, Value.int .i64 q.fr, Value.int .i64 q.to] 26 :: L) rfl
            clear hS57
            refine WO.call rfl rfl Ty.hd33 rfl (hquery_spec (g := gc) rdH_rd hC (by omega) (by omega) hqz hqn q.fr q.to hS60) (fun v62 w61 pv62 => ?_)
            obtain ⟨a5, c5, o5, rfl, ho5, hn5, hz5, hS61⟩ := pv62
            clear hS60
            refine WO.nil ?_
            have s63 : (∀ jz, World.cell? w61 ⟨g2, jz, none⟩ = [Value.slice q.ms.a q.ms.l.length q.ms.cap, Value.int .i64 q.fr, Value.int .i64 q.to][jz]?) := hS61.cel_at 11 rfl
            refine NX.held s63 ?_
            refine WD.one (i := 16) t7_26 (bt 18 131071) rfl (by kernel_rfl) ?_
            have hS64 := hS61.permT [4, 4] (L' := own a4 o4.length c4 68 2 (o4.flatMap msc) :: allA serA o4 :: own a5 o5.length c5 68 2 (o5.flatMap msc) :: allA serA o5 :: hdA 126 131 103 gc C :: (rdH q.ms.a q.ms.l.length 3 (q.ms.l.flatMap mtc)) :: hdA 126 131 103 gh D :: (rdH a rs.length 5 (rs.flatMap rcc)) :: allA recA rs :: (rdH b ms.length 5 (ms.flatMap rcc)) :: allA recA ms :: cel g2 [Value.slice q.ms.a q.ms.l.length q.ms.cap, Value.int .i64 q.fr, Value.int .i64 q.to] 26 :: L) rfl
            clear hS61
            refine WO.call rfl rfl Ty.hd17 rfl (rssame_spec (X := own a4 o4.length c4 68 2 (o4.flatMap msc)) (Y := own a5 o5.length c5 68 2 (o5.flatMap msc)) (fun h => h.own_rd.1) (fun h => h.own_rd.1) (by omega) (by omega) hz4 hz5 hS64) (fun v66 w65 pv66 => ?_)
            obtain ⟨rfl, hS65⟩ := pv66
            clear hS64
            refine WO.nil ?_
            have s67 : (∀ jz, World.cell? w65 ⟨g2, jz, none⟩ = [Value.slice q.ms.a q.ms.l.length q.ms.cap, Value.int .i64 q.fr, Value.int .i64 q.to][jz]?) := hS65.cel_at 11 rfl
            refine NX.held s67 ?_
            refine DP (i := 17) t7_26 (bt 18 262143) rfl rfl rfl rfl (fun w => run_assign rfl) ?_
            refine WD.done t7_26 (by kernel_rfl) ?_
            refine NX.go (WP.ret ?_)
            refine NX.done (l := [.tmp 6]) rfl rfl ?_
            have heq : o4.map MSer.p = o5.map MSer.p := by rw [ho4, ho5, hDe, ← hCe]
            exact ⟨congrArg Value.bool (decide_eq_true heq), hS65.drop.drop.drop.drop.drop.drop.drop.drop.drop.drop.drop.drop⟩
          ·
           refine WO.off rfl rfl d100 rfl ?_
           refine WO.off rfl rfl d100 rfl ?_
           refine WO.V (run_pickF rfl d100 rfl) ?_
           refine WO.nil (NX.go ?_)
           refine WP.condF rfl rfl ?_
           refine WP.exit (NX.thenExit (NX.thenExit ?_))
           refine NX.blkExit ?_
           refine NX.go (WP.seq ?_)
           have hS68 : St B (hdA 126 131 103 gh D :: hdA 126 131 103 gc C :: (rdH a rs.length 5 (rs.flatMap rcc)) :: allA recA rs :: (rdH b ms.length 5 (ms.flatMap rcc)) :: allA recA ms :: (rdH q.ms.a q.ms.l.length 3 (q.ms.l.flatMap mtc)) :: cel g2 [Value.slice q.ms.a q.ms.l.length q.ms.cap, Value.int .i64 q.fr, Value.int .i64 q.to] 26 :: L) w46 := (hS46.mask [true, true, false, false] (L' := hdA 126 131 103 gh D :: hdA 126 131 103 gc C :: (rdH a rs.length 5 (rs.flatMap rcc)) :: allA recA rs :: (rdH b ms.length 5 (ms.flatMap rcc)) :: allA recA ms :: (rdH q.ms.a q.ms.l.length 3 (q.ms.l.flatMap mtc)) :: cel g2 [Value.slice q.ms.a q.ms.l.length q.ms.cap, Value.int .i64 q.fr, Value.int .i64 q.to] 26 :: L) rfl)
           clear hS46
           have hjk : k = j := by omega
           subst hjk
           refine WD.start (fun w => (∀ jz, World.cell? w ⟨g2, jz, none⟩ = [Value.slice q.ms.a q.ms.l.length q.ms.cap, Value.int .i64 q.fr, Value.int .i64 q.to][jz]?)) [] (bt 18 0) Ty.mo rfl (by kernel_rfl) hS68 (fun _ h => h.cel_at 7 rfl) (fun w69 hS69 s70 => ?_)
           clear hS68
           refine DP (i := 0) t7_26 (bt 18 1) rfl rfl rfl rfl (fun w => run_move rfl) ?_
           refine DP (i := 1) t7_26 (bt 18 3) rfl rfl rfl rfl (fun w => run_fa 0 ⟨g2, 0, none⟩ rfl rfl) ?_
           refine DT (i := 2) t7_26 (bt 18 7) s70 rfl rfl rfl rfl (fun w hs => run_load Ty.ag24 rfl ((hs 0).trans rfl)) ?_
           refine DP (i := 3) t7_26 (bt 18 15) rfl rfl rfl rfl (fun w => run_fa 1 ⟨g2, 1, none⟩ rfl rfl) ?_
           refine DT (i := 4) t7_26 (bt 18 31) s70 rfl rfl rfl rfl (fun w hs => run_load Ty.ag2 rfl ((hs 1).trans rfl)) ?_
           refine DP (i := 5) t7_26 (bt 18 63) rfl rfl rfl rfl (fun w => run_fa 2 ⟨g2, 2, none⟩ rfl rfl) ?_
           refine DT (i := 6) t7_26 (bt 18 127) s70 rfl rfl rfl rfl (fun w hs => run_load Ty.ag2 rfl ((hs 2).trans rfl)) ?_
           refine DP (i := 8) t7_26 (bt 18 383) rfl rfl rfl rfl (fun w => run_move rfl) ?_
           refine DP (i := 9) t7_26 (bt 18 895) rfl rfl rfl rfl (fun w => run_fa 0 ⟨g2, 0, none⟩ rfl rfl) ?_
           refine DT (i := 10) t7_26 (bt 18 1919) s70 rfl rfl rfl rfl (fun w hs => run_load Ty.ag24 rfl ((hs 0).trans rfl)) ?_
           refine DP (i := 11) t7_26 (bt 18 3967) rfl rfl rfl rfl (fun w => run_fa 1 ⟨g2, 1, none⟩ rfl rfl) ?_
           refine DT (i := 12) t7_26 (bt 18 8063) s70 rfl rfl rfl rfl (fun w hs => run_load Ty.ag2 rfl ((hs 1).trans rfl)) ?_
           refine DP (i := 13) t7_26 (bt 18 16255) rfl rfl rfl rfl (fun w => run_fa 2 ⟨g2, 2, none⟩ rfl rfl) ?_
           refine DT (i := 14) t7_26 (bt 18 32639) s70 rfl rfl rfl rfl (fun w hs => run_load Ty.ag2 rfl ((hs 2).trans rfl)) ?_
           refine WD.one (i := 7) t7_26 (bt 18 32767) rfl (by kernel_rfl) ?_
           have hS71 := hS69.permT [0, 5] (L' := hdA 126 131 103 gh D :: (rdH q.ms.a q.ms.l.length 3 (q.ms.l.flatMap mtc)) :: hdA 126 131 103 gc C :: (rdH a rs.length 5 (rs.flatMap rcc)) :: allA recA rs :: (rdH b ms.length 5 (ms.flatMap rcc)) :: allA recA ms :: cel g2 [Value.slice q.ms.a q.ms.l.length q.ms.cap, Value.int .i64 q.fr, Value.int .i64 q.to] 26 :: L) rfl
           clear hS69
           refine WO.call rfl rfl Ty.hd33 rfl (hquery_spec (g := gh) rdH_rd hD (by omega) (by omega) hqz hqn q.fr q.to hS71) (fun v73 w72 pv73 => ?_)
           obtain ⟨a4, c4, o4, rfl, ho4, hn4, hz4, hS72⟩ := pv73
           clear hS71
           refine WO.nil ?_
           have s74 : (∀ jz, World.cell? w72 ⟨g2, jz, none⟩ = [Value.slice q.ms.a q.ms.l.length q.ms.cap, Value.int .i64 q.fr, Value.int .i64 q.to][jz]?) := hS72.cel_at 9 rfl
           refine NX.held s74 ?_
           refine WD.one (i := 15) t7_26 (bt 18 65535) rfl (by kernel_rfl) ?_
           have hS75 := hS72.permT [4, 3] (L' := hdA 126 131 103 gc C :: (rdH q.ms.a q.ms.l.length 3 (q.ms.l.flatMap mtc)) :: own a4 o4.length c4 68 2 (o4.flatMap msc) :: allA serA o4 :: hdA 126 131 103 gh D :: (rdH a rs.length 5 (rs.flatMap rcc)) :: allA recA rs :: (rdH b ms.length 5 (ms.flatMap rcc)) :: allA recA ms :: cel g2 [Value.slice q.ms.a q.ms.l.length q.ms.cap, Value.int .i64 q.fr, Value.int .i64 q.to] 26 :: L) rfl
           clear hS72
           refine WO.call rfl rfl Ty.hd33 rfl (hquery_spec (g := gc) rdH_rd hC (by omega) (by omega) hqz hqn q.fr q.to hS75) (fun v77 w76 pv77 => ?_)
           obtain ⟨a5, c5, o5, rfl, ho5, hn5, hz5, hS76⟩ := pv77
           clear hS75
           refine WO.nil ?_
           have s78 : (∀ jz, World.cell? w76 ⟨g2, jz, none⟩ = [Value.slice q.ms.a q.ms.l.length q.ms.cap, Value.int .i64 q.fr, Value.int .i64 q.to][jz]?) := hS76.cel_at 11 rfl
           refine NX.held s78 ?_
           refine WD.one (i := 16) t7_26 (bt 18 131071) rfl (by kernel_rfl) ?_
           have hS79 := hS76.permT [4, 4] (L' := own a4 o4.length c4 68 2 (o4.flatMap msc) :: allA serA o4 :: own a5 o5.length c5 68 2 (o5.flatMap msc) :: allA serA o5 :: hdA 126 131 103 gc C :: (rdH q.ms.a q.ms.l.length 3 (q.ms.l.flatMap mtc)) :: hdA 126 131 103 gh D :: (rdH a rs.length 5 (rs.flatMap rcc)) :: allA recA rs :: (rdH b ms.length 5 (ms.flatMap rcc)) :: allA recA ms :: cel g2 [Value.slice q.ms.a q.ms.l.length q.ms.cap, Value.int .i64 q.fr, Value.int .i64 q.to] 26 :: L) rfl
           clear hS76
           refine WO.call rfl rfl Ty.hd17 rfl (rssame_spec (X := own a4 o4.length c4 68 2 (o4.flatMap msc)) (Y := own a5 o5.length c5 68 2 (o5.flatMap msc)) (fun h => h.own_rd.1) (fun h => h.own_rd.1) (by omega) (by omega) hz4 hz5 hS79) (fun v81 w80 pv81 => ?_)
           obtain ⟨rfl, hS80⟩ := pv81
           clear hS79
           refine WO.nil ?_
           have s82 : (∀ jz, World.cell? w80 ⟨g2, jz, none⟩ = [Value.slice q.ms.a q.ms.l.length q.ms.cap, Value.int .i64 q.fr, Value.int .i64 q.to][jz]?) := hS80.cel_at 11 rfl
           refine NX.held s82 ?_
           refine DP (i := 17) t7_26 (bt 18 262143) rfl rfl rfl rfl (fun w => run_assign rfl) ?_
           refine WD.done t7_26 (by kernel_rfl) ?_
           refine NX.go (WP.ret ?_)
           refine NX.done (l := [.tmp 6]) rfl rfl ?_
           have heq : o4.map MSer.p = o5.map MSer.p := by rw [ho4, ho5, hDe, ← hCe]
           exact ⟨congrArg Value.bool (decide_eq_true heq), hS80.drop.drop.drop.drop.drop.drop.drop.drop.drop.drop.drop.drop⟩
       ·
        refine WO.off rfl rfl d72 rfl ?_
        refine WO.off rfl rfl d72 rfl ?_
        refine WO.V (run_pickF rfl d72 rfl) ?_
        refine WO.nil (NX.go ?_)
        refine WP.condF rfl rfl ?_
        refine WP.exit (NX.thenExit (NX.thenExit ?_))
        refine NX.blkExit ?_
        refine NX.go (WP.seq (WP.seq (WP.region rfl ?_)))
        refine WO.mv rfl rfl ?_
        refine WO.V (run_fa 0 ⟨g2, 0, none⟩ rfl rfl) ?_
        refine WO.V (run_load Ty.ag24 rfl ((hS32.cel_at 9 rfl 0).trans rfl)) ?_
        refine WO.V (run_fa 1 ⟨g2, 1, none⟩ rfl rfl) ?_
        refine WO.V (run_load Ty.ag2 rfl ((hS32.cel_at 9 rfl 1).trans rfl)) ?_
        refine WO.V (run_fa 2 ⟨g2, 2, none⟩ rfl rfl) ?_
        refine WO.V (run_load Ty.ag2 rfl ((hS32.cel_at 9 rfl 2).trans rfl)) ?_
        have hS83 := hS32.permT [1, 7] (L' := hdA 126 131 103 gh A :: (rdH q.ms.a q.ms.l.length 3 (q.ms.l.flatMap mtc)) :: hdA 126 131 103 gc C :: own a1 o1.length c1 68 2 (o1.flatMap msc) :: allA serA o1 :: (rdH a rs.length 5 (rs.flatMap rcc)) :: allA recA rs :: (rdH b ms.length 5 (ms.flatMap rcc)) :: allA recA ms :: cel g2 [Value.slice q.ms.a q.ms.l.length q.ms.cap, Value.int .i64 q.fr, Value.int .i64 q.to] 26 :: L) rfl
        clear hS32
        refine WO.call rfl rfl Ty.hd33 rfl (hquery_spec (g := gh) rdH_rd hA (by omega) (by omega) hqz hqn q.fr q.to hS83) (fun v85 w84 pv85 => ?_)
        obtain ⟨a3, c3, o3, rfl, ho3, hn3, hz3, hS84⟩ := pv85
        clear hS83
        refine WO.mv rfl rfl ?_
        have hS86 := hS84.permT [0, 0, 3, 3] (L' := own a3 o3.length c3 68 2 (o3.flatMap msc) :: allA serA o3 :: own a1 o1.length c1 68 2 (o1.flatMap msc) :: allA serA o1 :: hdA 126 131 103 gh A :: (rdH q.ms.a q.ms.l.length 3 (q.ms.l.flatMap mtc)) :: hdA 126 131 103 gc C :: (rdH a rs.length 5 (rs.flatMap rcc)) :: allA recA rs :: (rdH b ms.length 5 (ms.flatMap rcc)) :: allA recA ms :: cel g2 [Value.slice q.ms.a q.ms.l.length q.ms.cap, Value.int .i64 q.fr, Value.int .i64 q.to] 26 :: L) rfl
        clear hS84
        refine WO.call rfl rfl Ty.hd17 rfl (rssame_spec (X := own a3 o3.length c3 68 2 (o3.flatMap msc)) (Y := own a1 o1.length c1 68 2 (o1.flatMap msc)) (fun h => h.own_rd.1) (fun h => h.own_rd.1) (by omega) (by omega) hz3 hz1 hS86) (fun v88 w87 pv88 => ?_)
        obtain ⟨rfl, hS87⟩ := pv88
        clear hS86
        refine WO.V (run_notP rfl) ?_
        refine WO.nil (NX.go ?_)
        refine WP.condP rfl (fun g95 => ?_) (fun g95 => ?_)
        ·
         exact absurd (ho3.trans ho1.symm) g95
        ·
         refine WP.skip (NX.go (WP.seq (WP.seq ?_)))
         have hS89 : St B (own a1 o1.length c1 68 2 (o1.flatMap msc) :: allA serA o1 :: hdA 126 131 103 gh A :: (rdH q.ms.a q.ms.l.length 3 (q.ms.l.flatMap mtc)) :: hdA 126 131 103 gc C :: (rdH a rs.length 5 (rs.flatMap rcc)) :: allA recA rs :: (rdH b ms.length 5 (ms.flatMap rcc)) :: allA recA ms :: cel g2 [Value.slice q.ms.a q.ms.l.length q.ms.cap, Value.int .i64 q.fr, Value.int .i64 q.to] 26 :: L) w87 := hS87.drop.drop
         clear hS87
         refine WP.region rfl ?_
         refine WO.asg rfl rfl ?_
         refine WO.nil (NX.go (WP.block ?_))
         refine WP.loop (α := Nat × List RowP) (fun x => match x with | ⟨k, D⟩ => [(0, Value.slice a rs.length cap), (1, Value.slice b ms.length cap2), (5, Value.pointer (some ⟨g2, 0, none⟩)), (7, Value.pointer (some ⟨gh, 0, none⟩)), (9, Value.pointer (some ⟨gc, 0, none⟩)), (10, Value.slice a1 o1.length c1), (12, Value.int .i64 (k : Int))]) (fun x w => match x with | ⟨k, D⟩ => (k ≤ ms.length ∧ k ≤ 30 ∧ WfH D (960 + 32 * k) ∧ D.length ≤ 256 ∧ D = applyL A ((ms.take k).map Rcd.p)) ∧ St B (hdA 126 131 103 gh D :: hdA 126 131 103 gc C :: own a1 o1.length c1 68 2 (o1.flatMap msc) :: allA serA o1 :: (rdH a rs.length 5 (rs.flatMap rcc)) :: allA recA rs :: (rdH b ms.length 5 (ms.flatMap rcc)) :: allA recA ms :: (rdH q.ms.a q.ms.l.length 3 (q.ms.l.flatMap mtc)) :: cel g2 [Value.slice q.ms.a q.ms.l.length q.ms.cap, Value.int .i64 q.fr, Value.int .i64 q.to] 26 :: L) w) (fun x => match x with | ⟨k, D⟩ => ms.length - k) (0, A) ⟨⟨Nat.zero_le _, Nat.zero_le _, hA.mono (by omega), hAl, rfl⟩, (hS89.permT [2, 3, 0, 0, 1, 1, 1, 1] (L' := hdA 126 131 103 gh A :: hdA 126 131 103 gc C :: own a1 o1.length c1 68 2 (o1.flatMap msc) :: allA serA o1 :: (rdH a rs.length 5 (rs.flatMap rcc)) :: allA recA rs :: (rdH b ms.length 5 (ms.flatMap rcc)) :: allA recA ms :: (rdH q.ms.a q.ms.l.length 3 (q.ms.l.flatMap mtc)) :: cel g2 [Value.slice q.ms.a q.ms.l.length q.ms.cap, Value.int .i64 q.fr, Value.int .i64 q.to] 26 :: L) rfl)⟩ (Sub.cons rfl (Sub.cons rfl (Sub.cons rfl (Sub.cons rfl (Sub.cons rfl (Sub.cons rfl (Sub.consE rfl (by first | rfl | first | rfl | (congr 1; omega) | (simp; done) | (simp; omega)) (Sub.nil _)))))))) ?_
         rintro ⟨k, D⟩ w90 ⟨⟨hk, hk3, hD, hDl, hDe⟩, hS90⟩
         clear hS89
         refine WP.seq (WP.seq (WP.region rfl ?_))
         refine WO.mv rfl rfl ?_
         refine WO.mv rfl rfl ?_
         refine WO.V (run_len rfl Tryz.underlying23 rfl) ?_
         refine WO.V (run_lss rfl rfl) ?_
         refine WO.mv rfl rfl ?_
         refine dcase (p := (k : Int) < ((ms.length : Nat) : Int)) (fun g100 d100 => ?_) (fun g100 d100 => ?_)
         ·
          refine WO.on rfl rfl d100 ?_
          refine WO.mv rfl rfl ?_
          refine WO.on rfl rfl d100 ?_
          refine WO.V (run_lss rfl rfl) ?_
          refine WO.V (run_pickT rfl d100 rfl) ?_
          refine WO.nil (NX.go ?_)
          refine WP.condP rfl (fun g103 => ?_) (fun g103 => ?_)
          ·
           refine WP.skip (NX.go (WP.seq (WP.block ?_)))
           obtain ⟨d2, hd2⟩ : ∃ qq, ms[k]? = some qq := ⟨_, List.getElem?_eq_getElem (by omega)⟩
           have hzd := hmz d2 (List.mem_of_getElem? hd2)
           have hS91 := allA_get recA_pers (List.mem_of_getElem? hd2) (hS90.permT [7] (L' := allA recA ms :: hdA 126 131 103 gh D :: hdA 126 131 103 gc C :: own a1 o1.length c1 68 2 (o1.flatMap msc) :: allA serA o1 :: (rdH a rs.length 5 (rs.flatMap rcc)) :: allA recA rs :: (rdH b ms.length 5 (ms.flatMap rcc)) :: (rdH q.ms.a q.ms.l.length 3 (q.ms.l.flatMap mtc)) :: cel g2 [Value.slice q.ms.a q.ms.l.length q.ms.cap, Value.int .i64 q.fr, Value.int .i64 q.to] 26 :: L) rfl)
           clear hS90
           refine WP.region rfl ?_
           refine WO.mv rfl rfl ?_
           refine WO.mv rfl rfl ?_
           refine WO.mv rfl rfl ?_
           refine WO.V (run_indexAddr (q := adr b (k * 5)) Tryz.underlying23 Ty.sz33 rfl rfl (by omega) (by omega) ((rdH_rd (hS91.focus 8 rfl)).2.1 (by omega)) rfl) ?_
           refine WO.V (run_loadAgg (vs := (rcc d2)) Ty.ag33 Ty.sz33 rfl ((rdH_rd (hS91.focus 8 rfl)).cells (by rw [flat_len rcc_len]; omega) (flat_part rcc_len hd2)).1 ((rdH_rd (hS91.focus 8 rfl)).cells (by rw [flat_len rcc_len]; omega) (flat_part rcc_len hd2)).2) ?_
           refine WO.call rfl rfl Ty.hd16 rfl (own12_spec d2 hzd hS91) (fun v93 w92 pv93 => ?_)
           obtain ⟨r3, rfl, hr3, hS92⟩ := pv93
           clear hS91
           have hS94 := hS92.permT [3] (L' := hdA 126 131 103 gh D :: recA r3 :: recA d2 :: allA recA ms :: hdA 126 131 103 gc C :: own a1 o1.length c1 68 2 (o1.flatMap msc) :: allA serA o1 :: (rdH a rs.length 5 (rs.flatMap rcc)) :: allA recA rs :: (rdH b ms.length 5 (ms.flatMap rcc)) :: (rdH q.ms.a q.ms.l.length 3 (q.ms.l.flatMap mtc)) :: cel g2 [Value.slice q.ms.a q.ms.l.length q.ms.cap, Value.int .i64 q.fr, Value.int .i64 q.to] 26 :: L) rfl
           clear hS92
           refine WO.call rfl rfl Ty.hd32 rfl ((by have z := happlyP_spec (g := gh) hD (by omega) (by omega) r3 (SzR.of_p hr3 hzd) hS94; rw [hr3] at z; exact z)) (fun v96 w95 pv96 => ?_)
           obtain ⟨rfl, hS95⟩ := pv96
           clear hS94
           refine WO.nil (NX.blk (NX.go (WP.region rfl ?_)))
           refine WO.mv rfl rfl ?_
           refine WO.V (run_add rfl rfl (IntWalk.i64_in _ (by omega))) ?_
           refine WO.asg rfl rfl ?_
           refine WO.nil ?_
           exact NX.again (k + 1, applyP D d2.p) ⟨⟨by omega, by omega, wf_applyP hD, applyP_len hDl, by rw [applyL_snoc hd2, ← hDe]⟩, ((hS95.mask [true, false, false] (L' := hdA 126 131 103 gh (applyP D d2.p) :: allA recA ms :: hdA 126 131 103 gc C :: own a1 o1.length c1 68 2 (o1.flatMap msc) :: allA serA o1 :: (rdH a rs.length 5 (rs.flatMap rcc)) :: allA recA rs :: (rdH b ms.length 5 (ms.flatMap rcc)) :: (rdH q.ms.a q.ms.l.length 3 (q.ms.l.flatMap mtc)) :: cel g2 [Value.slice q.ms.a q.ms.l.length q.ms.cap, Value.int .i64 q.fr, Value.int .i64 q.to] 26 :: L) rfl).permT [0, 1, 1, 1, 1, 1, 1] (L' := hdA 126 131 103 gh (applyP D d2.p) :: hdA 126 131 103 gc C :: own a1 o1.length c1 68 2 (o1.flatMap msc) :: allA serA o1 :: (rdH a rs.length 5 (rs.flatMap rcc)) :: allA recA rs :: (rdH b ms.length 5 (ms.flatMap rcc)) :: allA recA ms :: (rdH q.ms.a q.ms.l.length 3 (q.ms.l.flatMap mtc)) :: cel g2 [Value.slice q.ms.a q.ms.l.length q.ms.cap, Value.int .i64 q.fr, Value.int .i64 q.to] 26 :: L) rfl)⟩ (by show ms.length - (k + 1) < ms.length - k; omega) (Sub.cons rfl (Sub.cons rfl (Sub.cons rfl (Sub.cons rfl (Sub.cons rfl (Sub.cons rfl (Sub.consE rfl (by congr 1) (Sub.nil _))))))))
          ·
           refine WP.exit (NX.thenExit (NX.thenExit ?_))
           refine NX.blkExit ?_
           refine NX.go (WP.seq ?_)
           have hS97 : St B (hdA 126 131 103 gh D :: hdA 126 131 103 gc C :: (rdH a rs.length 5 (rs.flatMap rcc)) :: allA recA rs :: (rdH b ms.length 5 (ms.flatMap rcc)) :: allA recA ms :: (rdH q.ms.a q.ms.l.length 3 (q.ms.l.flatMap mtc)) :: cel g2 [Value.slice q.ms.a q.ms.l.length q.ms.cap, Value.int .i64 q.fr, Value.int .i64 q.to] 26 :: L) w90 := (hS90.mask [true, true, false, false] (L' := hdA 126 131 103 gh D :: hdA 126 131 103 gc C :: (rdH a rs.length 5 (rs.flatMap rcc)) :: allA recA rs :: (rdH b ms.length 5 (ms.flatMap rcc)) :: allA recA ms :: (rdH q.ms.a q.ms.l.length 3 (q.ms.l.flatMap mtc)) :: cel g2 [Value.slice q.ms.a q.ms.l.length q.ms.cap, Value.int .i64 q.fr, Value.int .i64 q.to] 26 :: L) rfl)
           clear hS90
           have hjk : k = j := by omega
           subst hjk
           refine WD.start (fun w => (∀ jz, World.cell? w ⟨g2, jz, none⟩ = [Value.slice q.ms.a q.ms.l.length q.ms.cap, Value.int .i64 q.fr, Value.int .i64 q.to][jz]?)) [] (bt 18 0) Ty.mo rfl (by kernel_rfl) hS97 (fun _ h => h.cel_at 7 rfl) (fun w98 hS98 s99 => ?_)
           clear hS97
           refine DP (i := 0) t7_26 (bt 18 1) rfl rfl rfl rfl (fun w => run_move rfl) ?_
           refine DP (i := 1) t7_26 (bt 18 3) rfl rfl rfl rfl (fun w => run_fa 0 ⟨g2, 0, none⟩ rfl rfl) ?_
           refine DT (i := 2) t7_26 (bt 18 7) s99 rfl rfl rfl rfl (fun w hs => run_load Ty.ag24 rfl ((hs 0).trans rfl)) ?_
           refine DP (i := 3) t7_26 (bt 18 15) rfl rfl rfl rfl (fun w => run_fa 1 ⟨g2, 1, none⟩ rfl rfl) ?_
           refine DT (i := 4) t7_26 (bt 18 31) s99 rfl rfl rfl rfl (fun w hs => run_load Ty.ag2 rfl ((hs 1).trans rfl)) ?_
           refine DP (i := 5) t7_26 (bt 18 63) rfl rfl rfl rfl (fun w => run_fa 2 ⟨g2, 2, none⟩ rfl rfl) ?_
           refine DT (i := 6) t7_26 (bt 18 127) s99 rfl rfl rfl rfl (fun w hs => run_load Ty.ag2 rfl ((hs 2).trans rfl)) ?_
           refine DP (i := 8) t7_26 (bt 18 383) rfl rfl rfl rfl (fun w => run_move rfl) ?_
           refine DP (i := 9) t7_26 (bt 18 895) rfl rfl rfl rfl (fun w => run_fa 0 ⟨g2, 0, none⟩ rfl rfl) ?_
           refine DT (i := 10) t7_26 (bt 18 1919) s99 rfl rfl rfl rfl (fun w hs => run_load Ty.ag24 rfl ((hs 0).trans rfl)) ?_
           refine DP (i := 11) t7_26 (bt 18 3967) rfl rfl rfl rfl (fun w => run_fa 1 ⟨g2, 1, none⟩ rfl rfl) ?_
           refine DT (i := 12) t7_26 (bt 18 8063) s99 rfl rfl rfl rfl (fun w hs => run_load Ty.ag2 rfl ((hs 1).trans rfl)) ?_
           refine DP (i := 13) t7_26 (bt 18 16255) rfl rfl rfl rfl (fun w => run_fa 2 ⟨g2, 2, none⟩ rfl rfl) ?_
           refine DT (i := 14) t7_26 (bt 18 32639) s99 rfl rfl rfl rfl (fun w hs => run_load Ty.ag2 rfl ((hs 2).trans rfl)) ?_
           refine WD.one (i := 7) t7_26 (bt 18 32767) rfl (by kernel_rfl) ?_
           have hS100 := hS98.permT [0, 5] (L' := hdA 126 131 103 gh D :: (rdH q.ms.a q.ms.l.length 3 (q.ms.l.flatMap mtc)) :: hdA 126 131 103 gc C :: (rdH a rs.length 5 (rs.flatMap rcc)) :: allA recA rs :: (rdH b ms.length 5 (ms.flatMap rcc)) :: allA recA ms :: cel g2 [Value.slice q.ms.a q.ms.l.length q.ms.cap, Value.int .i64 q.fr, Value.int .i64 q.to] 26 :: L) rfl
           clear hS98
           refine WO.call rfl rfl Ty.hd33 rfl (hquery_spec (g := gh) rdH_rd hD (by omega) (by omega) hqz hqn q.fr q.to hS100) (fun v102 w101 pv102 => ?_)
           obtain ⟨a4, c4, o4, rfl, ho4, hn4, hz4, hS101⟩ := pv102
           clear hS100
           refine WO.nil ?_
           have s103 : (∀ jz, World.cell? w101 ⟨g2, jz, none⟩ = [Value.slice q.ms.a q.ms.l.length q.ms.cap, Value.int .i64 q.fr, Value.int .i64 q.to][jz]?) := hS101.cel_at 9 rfl
           refine NX.held s103 ?_
           refine WD.one (i := 15) t7_26 (bt 18 65535) rfl (by kernel_rfl) ?_
           have hS104 := hS101.permT [4, 3] (L' := hdA 126 131 103 gc C :: (rdH q.ms.a q.ms.l.length 3 (q.ms.l.flatMap mtc)) :: own a4 o4.length c4 68 2 (o4.flatMap msc) :: allA serA o4 :: hdA 126 131 103 gh D :: (rdH a rs.length 5 (rs.flatMap rcc)) :: allA recA rs :: (rdH b ms.length 5 (ms.flatMap rcc)) :: allA recA ms :: cel g2 [Value.slice q.ms.a q.ms.l.length q.ms.cap, Value.int .i64 q.fr, Value.int .i64 q.to] 26 :: L) rfl
           clear hS101
           refine WO.call rfl rfl Ty.hd33 rfl (hquery_spec (g := gc) rdH_rd hC (by omega) (by omega) hqz hqn q.fr q.to hS104) (fun v106 w105 pv106 => ?_)
           obtain ⟨a5, c5, o5, rfl, ho5, hn5, hz5, hS105⟩ := pv106
           clear hS104
           refine WO.nil ?_
           have s107 : (∀ jz, World.cell? w105 ⟨g2, jz, none⟩ = [Value.slice q.ms.a q.ms.l.length q.ms.cap, Value.int .i64 q.fr, Value.int .i64 q.to][jz]?) := hS105.cel_at 11 rfl
           refine NX.held s107 ?_
           refine WD.one (i := 16) t7_26 (bt 18 131071) rfl (by kernel_rfl) ?_
           have hS108 := hS105.permT [4, 4] (L' := own a4 o4.length c4 68 2 (o4.flatMap msc) :: allA serA o4 :: own a5 o5.length c5 68 2 (o5.flatMap msc) :: allA serA o5 :: hdA 126 131 103 gc C :: (rdH q.ms.a q.ms.l.length 3 (q.ms.l.flatMap mtc)) :: hdA 126 131 103 gh D :: (rdH a rs.length 5 (rs.flatMap rcc)) :: allA recA rs :: (rdH b ms.length 5 (ms.flatMap rcc)) :: allA recA ms :: cel g2 [Value.slice q.ms.a q.ms.l.length q.ms.cap, Value.int .i64 q.fr, Value.int .i64 q.to] 26 :: L) rfl
           clear hS105
           refine WO.call rfl rfl Ty.hd17 rfl (rssame_spec (X := own a4 o4.length c4 68 2 (o4.flatMap msc)) (Y := own a5 o5.length c5 68 2 (o5.flatMap msc)) (fun h => h.own_rd.1) (fun h => h.own_rd.1) (by omega) (by omega) hz4 hz5 hS108) (fun v110 w109 pv110 => ?_)
           obtain ⟨rfl, hS109⟩ := pv110
           clear hS108
           refine WO.nil ?_
           have s111 : (∀ jz, World.cell? w109 ⟨g2, jz, none⟩ = [Value.slice q.ms.a q.ms.l.length q.ms.cap, Value.int .i64 q.fr, Value.int .i64 q.to][jz]?) := hS109.cel_at 11 rfl
           refine NX.held s111 ?_
           refine DP (i := 17) t7_26 (bt 18 262143) rfl rfl rfl rfl (fun w => run_assign rfl) ?_
           refine WD.done t7_26 (by kernel_rfl) ?_
           refine NX.go (WP.ret ?_)
           refine NX.done (l := [.tmp 6]) rfl rfl ?_
           have heq : o4.map MSer.p = o5.map MSer.p := by rw [ho4, ho5, hDe, ← hCe]
           exact ⟨congrArg Value.bool (decide_eq_true heq), hS109.drop.drop.drop.drop.drop.drop.drop.drop.drop.drop.drop.drop⟩
         ·
          refine WO.off rfl rfl d100 rfl ?_
          refine WO.off rfl rfl d100 rfl ?_
          refine WO.V (run_pickF rfl d100 rfl) ?_
          refine WO.nil (NX.go ?_)
          refine WP.condF rfl rfl ?_
          refine WP.exit (NX.thenExit (NX.thenExit ?_))
          refine NX.blkExit ?_
          refine NX.go (WP.seq ?_)
          have hS112 : St B (hdA 126 131 103 gh D :: hdA 126 131 103 gc C :: (rdH a rs.length 5 (rs.flatMap rcc)) :: allA recA rs :: (rdH b ms.length 5 (ms.flatMap rcc)) :: allA recA ms :: (rdH q.ms.a q.ms.l.length 3 (q.ms.l.flatMap mtc)) :: cel g2 [Value.slice q.ms.a q.ms.l.length q.ms.cap, Value.int .i64 q.fr, Value.int .i64 q.to] 26 :: L) w90 := (hS90.mask [true, true, false, false] (L' := hdA 126 131 103 gh D :: hdA 126 131 103 gc C :: (rdH a rs.length 5 (rs.flatMap rcc)) :: allA recA rs :: (rdH b ms.length 5 (ms.flatMap rcc)) :: allA recA ms :: (rdH q.ms.a q.ms.l.length 3 (q.ms.l.flatMap mtc)) :: cel g2 [Value.slice q.ms.a q.ms.l.length q.ms.cap, Value.int .i64 q.fr, Value.int .i64 q.to] 26 :: L) rfl)
          clear hS90
          have hjk : k = j := by omega
          subst hjk
          refine WD.start (fun w => (∀ jz, World.cell? w ⟨g2, jz, none⟩ = [Value.slice q.ms.a q.ms.l.length q.ms.cap, Value.int .i64 q.fr, Value.int .i64 q.to][jz]?)) [] (bt 18 0) Ty.mo rfl (by kernel_rfl) hS112 (fun _ h => h.cel_at 7 rfl) (fun w113 hS113 s114 => ?_)
          clear hS112
          refine DP (i := 0) t7_26 (bt 18 1) rfl rfl rfl rfl (fun w => run_move rfl) ?_
          refine DP (i := 1) t7_26 (bt 18 3) rfl rfl rfl rfl (fun w => run_fa 0 ⟨g2, 0, none⟩ rfl rfl) ?_
          refine DT (i := 2) t7_26 (bt 18 7) s114 rfl rfl rfl rfl (fun w hs => run_load Ty.ag24 rfl ((hs 0).trans rfl)) ?_
          refine DP (i := 3) t7_26 (bt 18 15) rfl rfl rfl rfl (fun w => run_fa 1 ⟨g2, 1, none⟩ rfl rfl) ?_
          refine DT (i := 4) t7_26 (bt 18 31) s114 rfl rfl rfl rfl (fun w hs => run_load Ty.ag2 rfl ((hs 1).trans rfl)) ?_
          refine DP (i := 5) t7_26 (bt 18 63) rfl rfl rfl rfl (fun w => run_fa 2 ⟨g2, 2, none⟩ rfl rfl) ?_
          refine DT (i := 6) t7_26 (bt 18 127) s114 rfl rfl rfl rfl (fun w hs => run_load Ty.ag2 rfl ((hs 2).trans rfl)) ?_
          refine DP (i := 8) t7_26 (bt 18 383) rfl rfl rfl rfl (fun w => run_move rfl) ?_
          refine DP (i := 9) t7_26 (bt 18 895) rfl rfl rfl rfl (fun w => run_fa 0 ⟨g2, 0, none⟩ rfl rfl) ?_
          refine DT (i := 10) t7_26 (bt 18 1919) s114 rfl rfl rfl rfl (fun w hs => run_load Ty.ag24 rfl ((hs 0).trans rfl)) ?_
          refine DP (i := 11) t7_26 (bt 18 3967) rfl rfl rfl rfl (fun w => run_fa 1 ⟨g2, 1, none⟩ rfl rfl) ?_
          refine DT (i := 12) t7_26 (bt 18 8063) s114 rfl rfl rfl rfl (fun w hs => run_load Ty.ag2 rfl ((hs 1).trans rfl)) ?_
          refine DP (i := 13) t7_26 (bt 18 16255) rfl rfl rfl rfl (fun w => run_fa 2 ⟨g2, 2, none⟩ rfl rfl) ?_
          refine DT (i := 14) t7_26 (bt 18 32639) s114 rfl rfl rfl rfl (fun w hs => run_load Ty.ag2 rfl ((hs 2).trans rfl)) ?_
          refine WD.one (i := 7) t7_26 (bt 18 32767) rfl (by kernel_rfl) ?_
          have hS115 := hS113.permT [0, 5] (L' := hdA 126 131 103 gh D :: (rdH q.ms.a q.ms.l.length 3 (q.ms.l.flatMap mtc)) :: hdA 126 131 103 gc C :: (rdH a rs.length 5 (rs.flatMap rcc)) :: allA recA rs :: (rdH b ms.length 5 (ms.flatMap rcc)) :: allA recA ms :: cel g2 [Value.slice q.ms.a q.ms.l.length q.ms.cap, Value.int .i64 q.fr, Value.int .i64 q.to] 26 :: L) rfl
          clear hS113
          refine WO.call rfl rfl Ty.hd33 rfl (hquery_spec (g := gh) rdH_rd hD (by omega) (by omega) hqz hqn q.fr q.to hS115) (fun v117 w116 pv117 => ?_)
          obtain ⟨a4, c4, o4, rfl, ho4, hn4, hz4, hS116⟩ := pv117
          clear hS115
          refine WO.nil ?_
          have s118 : (∀ jz, World.cell? w116 ⟨g2, jz, none⟩ = [Value.slice q.ms.a q.ms.l.length q.ms.cap, Value.int .i64 q.fr, Value.int .i64 q.to][jz]?) := hS116.cel_at 9 rfl
          refine NX.held s118 ?_
          refine WD.one (i := 15) t7_26 (bt 18 65535) rfl (by kernel_rfl) ?_
          have hS119 := hS116.permT [4, 3] (L' := hdA 126 131 103 gc C :: (rdH q.ms.a q.ms.l.length 3 (q.ms.l.flatMap mtc)) :: own a4 o4.length c4 68 2 (o4.flatMap msc) :: allA serA o4 :: hdA 126 131 103 gh D :: (rdH a rs.length 5 (rs.flatMap rcc)) :: allA recA rs :: (rdH b ms.length 5 (ms.flatMap rcc)) :: allA recA ms :: cel g2 [Value.slice q.ms.a q.ms.l.length q.ms.cap, Value.int .i64 q.fr, Value.int .i64 q.to] 26 :: L) rfl
          clear hS116
          refine WO.call rfl rfl Ty.hd33 rfl (hquery_spec (g := gc) rdH_rd hC (by omega) (by omega) hqz hqn q.fr q.to hS119) (fun v121 w120 pv121 => ?_)
          obtain ⟨a5, c5, o5, rfl, ho5, hn5, hz5, hS120⟩ := pv121
          clear hS119
          refine WO.nil ?_
          have s122 : (∀ jz, World.cell? w120 ⟨g2, jz, none⟩ = [Value.slice q.ms.a q.ms.l.length q.ms.cap, Value.int .i64 q.fr, Value.int .i64 q.to][jz]?) := hS120.cel_at 11 rfl
          refine NX.held s122 ?_
          refine WD.one (i := 16) t7_26 (bt 18 131071) rfl (by kernel_rfl) ?_
          have hS123 := hS120.permT [4, 4] (L' := own a4 o4.length c4 68 2 (o4.flatMap msc) :: allA serA o4 :: own a5 o5.length c5 68 2 (o5.flatMap msc) :: allA serA o5 :: hdA 126 131 103 gc C :: (rdH q.ms.a q.ms.l.length 3 (q.ms.l.flatMap mtc)) :: hdA 126 131 103 gh D :: (rdH a rs.length 5 (rs.flatMap rcc)) :: allA recA rs :: (rdH b ms.length 5 (ms.flatMap rcc)) :: allA recA ms :: cel g2 [Value.slice q.ms.a q.ms.l.length q.ms.cap, Value.int .i64 q.fr, Value.int .i64 q.to] 26 :: L) rfl
          clear hS120
          refine WO.call rfl rfl Ty.hd17 rfl (rssame_spec (X := own a4 o4.length c4 68 2 (o4.flatMap msc)) (Y := own a5 o5.length c5 68 2 (o5.flatMap msc)) (fun h => h.own_rd.1) (fun h => h.own_rd.1) (by omega) (by omega) hz4 hz5 hS123) (fun v125 w124 pv125 => ?_)
          obtain ⟨rfl, hS124⟩ := pv125
          clear hS123
          refine WO.nil ?_
          have s126 : (∀ jz, World.cell? w124 ⟨g2, jz, none⟩ = [Value.slice q.ms.a q.ms.l.length q.ms.cap, Value.int .i64 q.fr, Value.int .i64 q.to][jz]?) := hS124.cel_at 11 rfl
          refine NX.held s126 ?_
          refine DP (i := 17) t7_26 (bt 18 262143) rfl rfl rfl rfl (fun w => run_assign rfl) ?_
          refine WD.done t7_26 (by kernel_rfl) ?_
          refine NX.go (WP.ret ?_)
          refine NX.done (l := [.tmp 6]) rfl rfl ?_
          have heq : o4.map MSer.p = o5.map MSer.p := by rw [ho4, ho5, hDe, ← hCe]
          exact ⟨congrArg Value.bool (decide_eq_true heq), hS124.drop.drop.drop.drop.drop.drop.drop.drop.drop.drop.drop.drop⟩
    ·
     refine WO.off rfl rfl d32 rfl ?_
     refine WO.off rfl rfl d32 rfl ?_
     refine WO.V (run_pickF rfl d32 rfl) ?_
     refine WO.nil (NX.go ?_)
     refine WP.condF rfl rfl ?_
     refine WP.exit (NX.thenExit (NX.thenExit ?_))
     refine NX.blkExit ?_
     refine NX.go (WP.seq (WP.region rfl ?_))
     refine WO.mv rfl rfl ?_
     refine WO.call rfl rfl Ty.hd36 rfl (hcopy_spec (g := gh) hA (by omega) hS13) (fun v128 w127 pv128 => ?_)
     obtain ⟨gc, rfl, hS127⟩ := pv128
     clear hS13
     refine WO.asg rfl rfl ?_
     refine WO.nil (NX.go (WP.seq (WP.seq (WP.region rfl ?_))))
     refine WO.mv rfl rfl ?_
     refine WO.V (run_eqlNilP Tryz.underlying62 rfl rfl) ?_
     refine WO.nil (NX.go ?_)
     refine WP.condF rfl rfl ?_
     refine WP.skip (NX.go (WP.seq (WP.region rfl ?_)))
     refine WO.mv rfl rfl ?_
     refine WO.V (run_fa 0 ⟨g2, 0, none⟩ rfl rfl) ?_
     refine WO.V (run_load Ty.ag24 rfl ((hS127.cel_at 7 rfl 0).trans rfl)) ?_
     refine WO.V (run_fa 1 ⟨g2, 1, none⟩ rfl rfl) ?_
     refine WO.V (run_load Ty.ag2 rfl ((hS127.cel_at 7 rfl 1).trans rfl)) ?_
     refine WO.V (run_fa 2 ⟨g2, 2, none⟩ rfl rfl) ?_
     refine WO.V (run_load Ty.ag2 rfl ((hS127.cel_at 7 rfl 2).trans rfl)) ?_
     have hS129 := hS127.permT [1, 5] (L' := hdA 126 131 103 gh A :: (rdH q.ms.a q.ms.l.length 3 (q.ms.l.flatMap mtc)) :: hdA 126 131 103 gc A :: (rdH a rs.length 5 (rs.flatMap rcc)) :: allA recA rs :: (rdH b ms.length 5 (ms.flatMap rcc)) :: allA recA ms :: cel g2 [Value.slice q.ms.a q.ms.l.length q.ms.cap, Value.int .i64 q.fr, Value.int .i64 q.to] 26 :: L) rfl
     clear hS127
     refine WO.call rfl rfl Ty.hd33 rfl (hquery_spec (g := gh) rdH_rd hA (by omega) (by omega) hqz hqn q.fr q.to hS129) (fun v131 w130 pv131 => ?_)
     obtain ⟨a1, c1, o1, rfl, ho1, hn1, hz1, hS130⟩ := pv131
     clear hS129
     refine WO.asg rfl rfl ?_
     refine WO.nil (NX.go (WP.seq (WP.seq (WP.region rfl ?_))))
     refine WO.mv rfl rfl ?_
     refine WO.V (run_fa 0 ⟨g2, 0, none⟩ rfl rfl) ?_
     refine WO.V (run_load Ty.ag24 rfl ((hS130.cel_at 9 rfl 0).trans rfl)) ?_
     refine WO.V (run_fa 1 ⟨g2, 1, none⟩ rfl rfl) ?_
     refine WO.V (run_load Ty.ag2 rfl ((hS130.cel_at 9 rfl 1).trans rfl)) ?_
     refine WO.V (run_fa 2 ⟨g2, 2, none⟩ rfl rfl) ?_
     refine WO.V (run_load Ty.ag2 rfl ((hS130.cel_at 9 rfl 2).trans rfl)) ?_
     have hS132 := hS130.permT [4, 3] (L' := hdA 126 131 103 gc A :: (rdH q.ms.a q.ms.l.length 3 (q.ms.l.flatMap mtc)) :: own a1 o1.length c1 68 2 (o1.flatMap msc) :: allA serA o1 :: hdA 126 131 103 gh A :: (rdH a rs.length 5 (rs.flatMap rcc)) :: allA recA rs :: (rdH b ms.length 5 (ms.flatMap rcc)) :: allA recA ms :: cel g2 [Value.slice q.ms.a q.ms.l.length q.ms.cap, Value.int .i64 q.fr, Value.int .i64 q.to] 26 :: L) rfl
     clear hS130
     refine WO.call rfl rfl Ty.hd33 rfl (hquery_spec (g := gc) rdH_rd hA (by omega) (by omega) hqz hqn q.fr q.to hS132) (fun v134 w133 pv134 => ?_)
     obtain ⟨a2, c2, o2, rfl, ho2, hn2, hz2, hS133⟩ := pv134
     clear hS132
     refine WO.mv rfl rfl ?_
     have hS135 := hS133.permT [0, 0, 2, 2] (L' := own a2 o2.length c2 68 2 (o2.flatMap msc) :: allA serA o2 :: own a1 o1.length c1 68 2 (o1.flatMap msc) :: allA serA o1 :: hdA 126 131 103 gc A :: (rdH q.ms.a q.ms.l.length 3 (q.ms.l.flatMap mtc)) :: hdA 126 131 103 gh A :: (rdH a rs.length 5 (rs.flatMap rcc)) :: allA recA rs :: (rdH b ms.length 5 (ms.flatMap rcc)) :: allA recA ms :: cel g2 [Value.slice q.ms.a q.ms.l.length q.ms.cap, Value.int .i64 q.fr, Value.int .i64 q.to] 26 :: L) rfl
     clear hS133
     refine WO.call rfl rfl Ty.hd17 rfl (rssame_spec (X := own a2 o2.length c2 68 2 (o2.flatMap msc)) (Y := own a1 o1.length c1 68 2 (o1.flatMap msc)) (fun h => h.own_rd.1) (fun h => h.own_rd.1) (by omega) (by omega) hz2 hz1 hS135) (fun v137 w136 pv137 => ?_)
     obtain ⟨rfl, hS136⟩ := pv137
     clear hS135
     refine WO.V (run_notP rfl) ?_
     refine WO.nil (NX.go ?_)
     refine WP.condP rfl (fun g67 => ?_) (fun g67 => ?_)
     ·
      exact absurd (ho2.trans ho1.symm) g67
     ·
      refine WP.skip (NX.go (WP.seq (WP.seq ?_)))
      have hS138 : St B (own a1 o1.length c1 68 2 (o1.flatMap msc) :: allA serA o1 :: hdA 126 131 103 gc A :: (rdH q.ms.a q.ms.l.length 3 (q.ms.l.flatMap mtc)) :: hdA 126 131 103 gh A :: (rdH a rs.length 5 (rs.flatMap rcc)) :: allA recA rs :: (rdH b ms.length 5 (ms.flatMap rcc)) :: allA recA ms :: cel g2 [Value.slice q.ms.a q.ms.l.length q.ms.cap, Value.int .i64 q.fr, Value.int .i64 q.to] 26 :: L) w136 := hS136.drop.drop
      clear hS136
      refine WP.region rfl ?_
      refine WO.asg rfl rfl ?_
      refine WO.nil (NX.go (WP.block ?_))
      refine WP.loop (α := Nat × List RowP) (fun x => match x with | ⟨j, C⟩ => [(0, Value.slice a rs.length cap), (1, Value.slice b ms.length cap2), (5, Value.pointer (some ⟨g2, 0, none⟩)), (7, Value.pointer (some ⟨gh, 0, none⟩)), (9, Value.pointer (some ⟨gc, 0, none⟩)), (10, Value.slice a1 o1.length c1), (11, Value.int .i64 (j : Int))]) (fun x w => match x with | ⟨j, C⟩ => (j ≤ ms.length ∧ j ≤ 30 ∧ WfH C (960 + 32 * j) ∧ C.length ≤ 256 ∧ C = applyL A ((ms.take j).map Rcd.p)) ∧ St B (hdA 126 131 103 gc C :: hdA 126 131 103 gh A :: own a1 o1.length c1 68 2 (o1.flatMap msc) :: allA serA o1 :: (rdH a rs.length 5 (rs.flatMap rcc)) :: allA recA rs :: (rdH b ms.length 5 (ms.flatMap rcc)) :: allA recA ms :: (rdH q.ms.a q.ms.l.length 3 (q.ms.l.flatMap mtc)) :: cel g2 [Value.slice q.ms.a q.ms.l.length q.ms.cap, Value.int .i64 q.fr, Value.int .i64 q.to] 26 :: L) w) (fun x => match x with | ⟨j, C⟩ => ms.length - j) (0, A) ⟨⟨Nat.zero_le _, Nat.zero_le _, hA.mono (by omega), hAl, rfl⟩, (hS138.permT [2, 3, 0, 0, 1, 1, 1, 1] (L' := hdA 126 131 103 gc A :: hdA 126 131 103 gh A :: own a1 o1.length c1 68 2 (o1.flatMap msc) :: allA serA o1 :: (rdH a rs.length 5 (rs.flatMap rcc)) :: allA recA rs :: (rdH b ms.length 5 (ms.flatMap rcc)) :: allA recA ms :: (rdH q.ms.a q.ms.l.length 3 (q.ms.l.flatMap mtc)) :: cel g2 [Value.slice q.ms.a q.ms.l.length q.ms.cap, Value.int .i64 q.fr, Value.int .i64 q.to] 26 :: L) rfl)⟩ (Sub.cons rfl (Sub.cons rfl (Sub.cons rfl (Sub.cons rfl (Sub.cons rfl (Sub.cons rfl (Sub.consE rfl (by first | rfl | first | rfl | (congr 1; omega) | (simp; done) | (simp; omega)) (Sub.nil _)))))))) ?_
      rintro ⟨j, C⟩ w139 ⟨⟨hj, hj3, hC, hCl, hCe⟩, hS139⟩
      clear hS138
      refine WP.seq (WP.seq (WP.region rfl ?_))
      refine WO.mv rfl rfl ?_
      refine WO.mv rfl rfl ?_
      refine WO.V (run_len rfl Tryz.underlying23 rfl) ?_
      refine WO.V (run_lss rfl rfl) ?_
      refine WO.mv rfl rfl ?_
      refine dcase (p := (j : Int) < ((ms.length : Nat) : Int)) (fun g72 d72 => ?_) (fun g72 d72 => ?_)
      ·
       refine WO.on rfl rfl d72 ?_
       refine WO.mv rfl rfl ?_
       refine WO.on rfl rfl d72 ?_
       refine WO.V (run_lss rfl rfl) ?_
       refine WO.V (run_pickT rfl d72 rfl) ?_
       refine WO.nil (NX.go ?_)
       refine WP.condP rfl (fun g75 => ?_) (fun g75 => ?_)
       ·
        refine WP.skip (NX.go (WP.seq (WP.block ?_)))
        obtain ⟨d2, hd2⟩ : ∃ qq, ms[j]? = some qq := ⟨_, List.getElem?_eq_getElem (by omega)⟩
        have hzd := hmz d2 (List.mem_of_getElem? hd2)
        have hS140 := allA_get recA_pers (List.mem_of_getElem? hd2) (hS139.permT [7] (L' := allA recA ms :: hdA 126 131 103 gc C :: hdA 126 131 103 gh A :: own a1 o1.length c1 68 2 (o1.flatMap msc) :: allA serA o1 :: (rdH a rs.length 5 (rs.flatMap rcc)) :: allA recA rs :: (rdH b ms.length 5 (ms.flatMap rcc)) :: (rdH q.ms.a q.ms.l.length 3 (q.ms.l.flatMap mtc)) :: cel g2 [Value.slice q.ms.a q.ms.l.length q.ms.cap, Value.int .i64 q.fr, Value.int .i64 q.to] 26 :: L) rfl)
        clear hS139
        refine WP.region rfl ?_
        refine WO.mv rfl rfl ?_
        refine WO.mv rfl rfl ?_
        refine WO.mv rfl rfl ?_
        refine WO.V (run_indexAddr (q := adr b (j * 5)) Tryz.underlying23 Ty.sz33 rfl rfl (by omega) (by omega) ((rdH_rd (hS140.focus 8 rfl)).2.1 (by omega)) rfl) ?_
        refine WO.V (run_loadAgg (vs := (rcc d2)) Ty.ag33 Ty.sz33 rfl ((rdH_rd (hS140.focus 8 rfl)).cells (by rw [flat_len rcc_len]; omega) (flat_part rcc_len hd2)).1 ((rdH_rd (hS140.focus 8 rfl)).cells (by rw [flat_len rcc_len]; omega) (flat_part rcc_len hd2)).2) ?_
        refine WO.call rfl rfl Ty.hd16 rfl (own12_spec d2 hzd hS140) (fun v142 w141 pv142 => ?_)
        obtain ⟨r2, rfl, hr2, hS141⟩ := pv142
        clear hS140
        have hS143 := hS141.permT [3] (L' := hdA 126 131 103 gc C :: recA r2 :: recA d2 :: allA recA ms :: hdA 126 131 103 gh A :: own a1 o1.length c1 68 2 (o1.flatMap msc) :: allA serA o1 :: (rdH a rs.length 5 (rs.flatMap rcc)) :: allA recA rs :: (rdH b ms.length 5 (ms.flatMap rcc)) :: (rdH q.ms.a q.ms.l.length 3 (q.ms.l.flatMap mtc)) :: cel g2 [Value.slice q.ms.a q.ms.l.length q.ms.cap, Value.int .i64 q.fr, Value.int .i64 q.to] 26 :: L) rfl
        clear hS141
        refine WO.call rfl rfl Ty.hd32 rfl ((by have z := happlyP_spec (g := gc) hC (by omega) (by omega) r2 (SzR.of_p hr2 hzd) hS143; rw [hr2] at z; exact z)) (fun v145 w144 pv145 => ?_)
        obtain ⟨rfl, hS144⟩ := pv145
        clear hS143
        refine WO.nil (NX.blk (NX.go (WP.region rfl ?_)))
        refine WO.mv rfl rfl ?_
        refine WO.V (run_add rfl rfl (IntWalk.i64_in _ (by omega))) ?_
        refine WO.asg rfl rfl ?_
        refine WO.nil ?_
        exact NX.again (j + 1, applyP C d2.p) ⟨⟨by omega, by omega, wf_applyP hC, applyP_len hCl, by rw [applyL_snoc hd2, ← hCe]⟩, ((hS144.mask [true, false, false] (L' := hdA 126 131 103 gc (applyP C d2.p) :: allA recA ms :: hdA 126 131 103 gh A :: own a1 o1.length c1 68 2 (o1.flatMap msc) :: allA serA o1 :: (rdH a rs.length 5 (rs.flatMap rcc)) :: allA recA rs :: (rdH b ms.length 5 (ms.flatMap rcc)) :: (rdH q.ms.a q.ms.l.length 3 (q.ms.l.flatMap mtc)) :: cel g2 [Value.slice q.ms.a q.ms.l.length q.ms.cap, Value.int .i64 q.fr, Value.int .i64 q.to] 26 :: L) rfl).permT [0, 1, 1, 1, 1, 1, 1] (L' := hdA 126 131 103 gc (applyP C d2.p) :: hdA 126 131 103 gh A :: own a1 o1.length c1 68 2 (o1.flatMap msc) :: allA serA o1 :: (rdH a rs.length 5 (rs.flatMap rcc)) :: allA recA rs :: (rdH b ms.length 5 (ms.flatMap rcc)) :: allA recA ms :: (rdH q.ms.a q.ms.l.length 3 (q.ms.l.flatMap mtc)) :: cel g2 [Value.slice q.ms.a q.ms.l.length q.ms.cap, Value.int .i64 q.fr, Value.int .i64 q.to] 26 :: L) rfl)⟩ (by show ms.length - (j + 1) < ms.length - j; omega) (Sub.cons rfl (Sub.cons rfl (Sub.cons rfl (Sub.cons rfl (Sub.cons rfl (Sub.cons rfl (Sub.consE rfl (by congr 1) (Sub.nil _))))))))
       ·
        refine WP.exit (NX.thenExit (NX.thenExit ?_))
        refine NX.blkExit ?_
        refine NX.go (WP.seq (WP.seq (WP.region rfl ?_)))
        refine WO.mv rfl rfl ?_
        refine WO.V (run_fa 0 ⟨g2, 0, none⟩ rfl rfl) ?_
        refine WO.V (run_load Ty.ag24 rfl ((hS139.cel_at 9 rfl 0).trans rfl)) ?_
        refine WO.V (run_fa 1 ⟨g2, 1, none⟩ rfl rfl) ?_
        refine WO.V (run_load Ty.ag2 rfl ((hS139.cel_at 9 rfl 1).trans rfl)) ?_
        refine WO.V (run_fa 2 ⟨g2, 2, none⟩ rfl rfl) ?_
        refine WO.V (run_load Ty.ag2 rfl ((hS139.cel_at 9 rfl 2).trans rfl)) ?_
        have hS146 := hS139.permT [1, 7] (L' := hdA 126 131 103 gh A :: (rdH q.ms.a q.ms.l.length 3 (q.ms.l.flatMap mtc)) :: hdA 126 131 103 gc C :: own a1 o1.length c1 68 2 (o1.flatMap msc) :: allA serA o1 :: (rdH a rs.length 5 (rs.flatMap rcc)) :: allA recA rs :: (rdH b ms.length 5 (ms.flatMap rcc)) :: allA recA ms :: cel g2 [Value.slice q.ms.a q.ms.l.length q.ms.cap, Value.int .i64 q.fr, Value.int .i64 q.to] 26 :: L) rfl
        clear hS139
        refine WO.call rfl rfl Ty.hd33 rfl (hquery_spec (g := gh) rdH_rd hA (by omega) (by omega) hqz hqn q.fr q.to hS146) (fun v148 w147 pv148 => ?_)
        obtain ⟨a3, c3, o3, rfl, ho3, hn3, hz3, hS147⟩ := pv148
        clear hS146
        refine WO.mv rfl rfl ?_
        have hS149 := hS147.permT [0, 0, 3, 3] (L' := own a3 o3.length c3 68 2 (o3.flatMap msc) :: allA serA o3 :: own a1 o1.length c1 68 2 (o1.flatMap msc) :: allA serA o1 :: hdA 126 131 103 gh A :: (rdH q.ms.a q.ms.l.length 3 (q.ms.l.flatMap mtc)) :: hdA 126 131 103 gc C :: (rdH a rs.length 5 (rs.flatMap rcc)) :: allA recA rs :: (rdH b ms.length 5 (ms.flatMap rcc)) :: allA recA ms :: cel g2 [Value.slice q.ms.a q.ms.l.length q.ms.cap, Value.int .i64 q.fr, Value.int .i64 q.to] 26 :: L) rfl
        clear hS147
        refine WO.call rfl rfl Ty.hd17 rfl (rssame_spec (X := own a3 o3.length c3 68 2 (o3.flatMap msc)) (Y := own a1 o1.length c1 68 2 (o1.flatMap msc)) (fun h => h.own_rd.1) (fun h => h.own_rd.1) (by omega) (by omega) hz3 hz1 hS149) (fun v151 w150 pv151 => ?_)
        obtain ⟨rfl, hS150⟩ := pv151
        clear hS149
        refine WO.V (run_notP rfl) ?_
        refine WO.nil (NX.go ?_)
        refine WP.condP rfl (fun g95 => ?_) (fun g95 => ?_)
        ·
         exact absurd (ho3.trans ho1.symm) g95
        ·
         refine WP.skip (NX.go (WP.seq (WP.seq ?_)))
         have hS152 : St B (own a1 o1.length c1 68 2 (o1.flatMap msc) :: allA serA o1 :: hdA 126 131 103 gh A :: (rdH q.ms.a q.ms.l.length 3 (q.ms.l.flatMap mtc)) :: hdA 126 131 103 gc C :: (rdH a rs.length 5 (rs.flatMap rcc)) :: allA recA rs :: (rdH b ms.length 5 (ms.flatMap rcc)) :: allA recA ms :: cel g2 [Value.slice q.ms.a q.ms.l.length q.ms.cap, Value.int .i64 q.fr, Value.int .i64 q.to] 26 :: L) w150 := hS150.drop.drop
         clear hS150
         refine WP.region rfl ?_
         refine WO.asg rfl rfl ?_
         refine WO.nil (NX.go (WP.block ?_))
         refine WP.loop (α := Nat × List RowP) (fun x => match x with | ⟨k, D⟩ => [(0, Value.slice a rs.length cap), (1, Value.slice b ms.length cap2), (5, Value.pointer (some ⟨g2, 0, none⟩)), (7, Value.pointer (some ⟨gh, 0, none⟩)), (9, Value.pointer (some ⟨gc, 0, none⟩)), (10, Value.slice a1 o1.length c1), (12, Value.int .i64 (k : Int))]) (fun x w => match x with | ⟨k, D⟩ => (k ≤ ms.length ∧ k ≤ 30 ∧ WfH D (960 + 32 * k) ∧ D.length ≤ 256 ∧ D = applyL A ((ms.take k).map Rcd.p)) ∧ St B (hdA 126 131 103 gh D :: hdA 126 131 103 gc C :: own a1 o1.length c1 68 2 (o1.flatMap msc) :: allA serA o1 :: (rdH a rs.length 5 (rs.flatMap rcc)) :: allA recA rs :: (rdH b ms.length 5 (ms.flatMap rcc)) :: allA recA ms :: (rdH q.ms.a q.ms.l.length 3 (q.ms.l.flatMap mtc)) :: cel g2 [Value.slice q.ms.a q.ms.l.length q.ms.cap, Value.int .i64 q.fr, Value.int .i64 q.to] 26 :: L) w) (fun x => match x with | ⟨k, D⟩ => ms.length - k) (0, A) ⟨⟨Nat.zero_le _, Nat.zero_le _, hA.mono (by omega), hAl, rfl⟩, (hS152.permT [2, 3, 0, 0, 1, 1, 1, 1] (L' := hdA 126 131 103 gh A :: hdA 126 131 103 gc C :: own a1 o1.length c1 68 2 (o1.flatMap msc) :: allA serA o1 :: (rdH a rs.length 5 (rs.flatMap rcc)) :: allA recA rs :: (rdH b ms.length 5 (ms.flatMap rcc)) :: allA recA ms :: (rdH q.ms.a q.ms.l.length 3 (q.ms.l.flatMap mtc)) :: cel g2 [Value.slice q.ms.a q.ms.l.length q.ms.cap, Value.int .i64 q.fr, Value.int .i64 q.to] 26 :: L) rfl)⟩ (Sub.cons rfl (Sub.cons rfl (Sub.cons rfl (Sub.cons rfl (Sub.cons rfl (Sub.cons rfl (Sub.consE rfl (by first | rfl | first | rfl | (congr 1; omega) | (simp; done) | (simp; omega)) (Sub.nil _)))))))) ?_
         rintro ⟨k, D⟩ w153 ⟨⟨hk, hk3, hD, hDl, hDe⟩, hS153⟩
         clear hS152
         refine WP.seq (WP.seq (WP.region rfl ?_))
         refine WO.mv rfl rfl ?_
         refine WO.mv rfl rfl ?_
         refine WO.V (run_len rfl Tryz.underlying23 rfl) ?_
         refine WO.V (run_lss rfl rfl) ?_
         refine WO.mv rfl rfl ?_
         refine dcase (p := (k : Int) < ((ms.length : Nat) : Int)) (fun g100 d100 => ?_) (fun g100 d100 => ?_)
         ·
          refine WO.on rfl rfl d100 ?_
          refine WO.mv rfl rfl ?_
          refine WO.on rfl rfl d100 ?_
          refine WO.V (run_lss rfl rfl) ?_
          refine WO.V (run_pickT rfl d100 rfl) ?_
          refine WO.nil (NX.go ?_)
          refine WP.condP rfl (fun g103 => ?_) (fun g103 => ?_)
          ·
           refine WP.skip (NX.go (WP.seq (WP.block ?_)))
           obtain ⟨d2, hd2⟩ : ∃ qq, ms[k]? = some qq := ⟨_, List.getElem?_eq_getElem (by omega)⟩
           have hzd := hmz d2 (List.mem_of_getElem? hd2)
           have hS154 := allA_get recA_pers (List.mem_of_getElem? hd2) (hS153.permT [7] (L' := allA recA ms :: hdA 126 131 103 gh D :: hdA 126 131 103 gc C :: own a1 o1.length c1 68 2 (o1.flatMap msc) :: allA serA o1 :: (rdH a rs.length 5 (rs.flatMap rcc)) :: allA recA rs :: (rdH b ms.length 5 (ms.flatMap rcc)) :: (rdH q.ms.a q.ms.l.length 3 (q.ms.l.flatMap mtc)) :: cel g2 [Value.slice q.ms.a q.ms.l.length q.ms.cap, Value.int .i64 q.fr, Value.int .i64 q.to] 26 :: L) rfl)
           clear hS153
           refine WP.region rfl ?_
           refine WO.mv rfl rfl ?_
           refine WO.mv rfl rfl ?_
           refine WO.mv rfl rfl ?_
           refine WO.V (run_indexAddr (q := adr b (k * 5)) Tryz.underlying23 Ty.sz33 rfl rfl (by omega) (by omega) ((rdH_rd (hS154.focus 8 rfl)).2.1 (by omega)) rfl) ?_
           refine WO.V (run_loadAgg (vs := (rcc d2)) Ty.ag33 Ty.sz33 rfl ((rdH_rd (hS154.focus 8 rfl)).cells (by rw [flat_len rcc_len]; omega) (flat_part rcc_len hd2)).1 ((rdH_rd (hS154.focus 8 rfl)).cells (by rw [flat_len rcc_len]; omega) (flat_part rcc_len hd2)).2) ?_
           refine WO.call rfl rfl Ty.hd16 rfl (own12_spec d2 hzd hS154) (fun v156 w155 pv156 => ?_)
           obtain ⟨r3, rfl, hr3, hS155⟩ := pv156
           clear hS154
           have hS157 := hS155.permT [3] (L' := hdA 126 131 103 gh D :: recA r3 :: recA d2 :: allA recA ms :: hdA 126 131 103 gc C :: own a1 o1.length c1 68 2 (o1.flatMap msc) :: allA serA o1 :: (rdH a rs.length 5 (rs.flatMap rcc)) :: allA recA rs :: (rdH b ms.length 5 (ms.flatMap rcc)) :: (rdH q.ms.a q.ms.l.length 3 (q.ms.l.flatMap mtc)) :: cel g2 [Value.slice q.ms.a q.ms.l.length q.ms.cap, Value.int .i64 q.fr, Value.int .i64 q.to] 26 :: L) rfl
           clear hS155
           refine WO.call rfl rfl Ty.hd32 rfl ((by have z := happlyP_spec (g := gh) hD (by omega) (by omega) r3 (SzR.of_p hr3 hzd) hS157; rw [hr3] at z; exact z)) (fun v159 w158 pv159 => ?_)
           obtain ⟨rfl, hS158⟩ := pv159
           clear hS157
           refine WO.nil (NX.blk (NX.go (WP.region rfl ?_)))
           refine WO.mv rfl rfl ?_
           refine WO.V (run_add rfl rfl (IntWalk.i64_in _ (by omega))) ?_
           refine WO.asg rfl rfl ?_
           refine WO.nil ?_
           exact NX.again (k + 1, applyP D d2.p) ⟨⟨by omega, by omega, wf_applyP hD, applyP_len hDl, by rw [applyL_snoc hd2, ← hDe]⟩, ((hS158.mask [true, false, false] (L' := hdA 126 131 103 gh (applyP D d2.p) :: allA recA ms :: hdA 126 131 103 gc C :: own a1 o1.length c1 68 2 (o1.flatMap msc) :: allA serA o1 :: (rdH a rs.length 5 (rs.flatMap rcc)) :: allA recA rs :: (rdH b ms.length 5 (ms.flatMap rcc)) :: (rdH q.ms.a q.ms.l.length 3 (q.ms.l.flatMap mtc)) :: cel g2 [Value.slice q.ms.a q.ms.l.length q.ms.cap, Value.int .i64 q.fr, Value.int .i64 q.to] 26 :: L) rfl).permT [0, 1, 1, 1, 1, 1, 1] (L' := hdA 126 131 103 gh (applyP D d2.p) :: hdA 126 131 103 gc C :: own a1 o1.length c1 68 2 (o1.flatMap msc) :: allA serA o1 :: (rdH a rs.length 5 (rs.flatMap rcc)) :: allA recA rs :: (rdH b ms.length 5 (ms.flatMap rcc)) :: allA recA ms :: (rdH q.ms.a q.ms.l.length 3 (q.ms.l.flatMap mtc)) :: cel g2 [Value.slice q.ms.a q.ms.l.length q.ms.cap, Value.int .i64 q.fr, Value.int .i64 q.to] 26 :: L) rfl)⟩ (by show ms.length - (k + 1) < ms.length - k; omega) (Sub.cons rfl (Sub.cons rfl (Sub.cons rfl (Sub.cons rfl (Sub.cons rfl (Sub.cons rfl (Sub.consE rfl (by congr 1) (Sub.nil _))))))))
          ·
           refine WP.exit (NX.thenExit (NX.thenExit ?_))
           refine NX.blkExit ?_
           refine NX.go (WP.seq ?_)
           have hS160 : St B (hdA 126 131 103 gh D :: hdA 126 131 103 gc C :: (rdH a rs.length 5 (rs.flatMap rcc)) :: allA recA rs :: (rdH b ms.length 5 (ms.flatMap rcc)) :: allA recA ms :: (rdH q.ms.a q.ms.l.length 3 (q.ms.l.flatMap mtc)) :: cel g2 [Value.slice q.ms.a q.ms.l.length q.ms.cap, Value.int .i64 q.fr, Value.int .i64 q.to] 26 :: L) w153 := (hS153.mask [true, true, false, false] (L' := hdA 126 131 103 gh D :: hdA 126 131 103 gc C :: (rdH a rs.length 5 (rs.flatMap rcc)) :: allA recA rs :: (rdH b ms.length 5 (ms.flatMap rcc)) :: allA recA ms :: (rdH q.ms.a q.ms.l.length 3 (q.ms.l.flatMap mtc)) :: cel g2 [Value.slice q.ms.a q.ms.l.length q.ms.cap, Value.int .i64 q.fr, Value.int .i64 q.to] 26 :: L) rfl)
           clear hS153
           have hjk : k = j := by omega
           subst hjk
           refine WD.start (fun w => (∀ jz, World.cell? w ⟨g2, jz, none⟩ = [Value.slice q.ms.a q.ms.l.length q.ms.cap, Value.int .i64 q.fr, Value.int .i64 q.to][jz]?)) [] (bt 18 0) Ty.mo rfl (by kernel_rfl) hS160 (fun _ h => h.cel_at 7 rfl) (fun w161 hS161 s162 => ?_)
           clear hS160
           refine DP (i := 0) t7_26 (bt 18 1) rfl rfl rfl rfl (fun w => run_move rfl) ?_
           refine DP (i := 1) t7_26 (bt 18 3) rfl rfl rfl rfl (fun w => run_fa 0 ⟨g2, 0, none⟩ rfl rfl) ?_
           refine DT (i := 2) t7_26 (bt 18 7) s162 rfl rfl rfl rfl (fun w hs => run_load Ty.ag24 rfl ((hs 0).trans rfl)) ?_
           refine DP (i := 3) t7_26 (bt 18 15) rfl rfl rfl rfl (fun w => run_fa 1 ⟨g2, 1, none⟩ rfl rfl) ?_
           refine DT (i := 4) t7_26 (bt 18 31) s162 rfl rfl rfl rfl (fun w hs => run_load Ty.ag2 rfl ((hs 1).trans rfl)) ?_
           refine DP (i := 5) t7_26 (bt 18 63) rfl rfl rfl rfl (fun w => run_fa 2 ⟨g2, 2, none⟩ rfl rfl) ?_
           refine DT (i := 6) t7_26 (bt 18 127) s162 rfl rfl rfl rfl (fun w hs => run_load Ty.ag2 rfl ((hs 2).trans rfl)) ?_
           refine DP (i := 8) t7_26 (bt 18 383) rfl rfl rfl rfl (fun w => run_move rfl) ?_
           refine DP (i := 9) t7_26 (bt 18 895) rfl rfl rfl rfl (fun w => run_fa 0 ⟨g2, 0, none⟩ rfl rfl) ?_
           refine DT (i := 10) t7_26 (bt 18 1919) s162 rfl rfl rfl rfl (fun w hs => run_load Ty.ag24 rfl ((hs 0).trans rfl)) ?_
           refine DP (i := 11) t7_26 (bt 18 3967) rfl rfl rfl rfl (fun w => run_fa 1 ⟨g2, 1, none⟩ rfl rfl) ?_
           refine DT (i := 12) t7_26 (bt 18 8063) s162 rfl rfl rfl rfl (fun w hs => run_load Ty.ag2 rfl ((hs 1).trans rfl)) ?_
           refine DP (i := 13) t7_26 (bt 18 16255) rfl rfl rfl rfl (fun w => run_fa 2 ⟨g2, 2, none⟩ rfl rfl) ?_
           refine DT (i := 14) t7_26 (bt 18 32639) s162 rfl rfl rfl rfl (fun w hs => run_load Ty.ag2 rfl ((hs 2).trans rfl)) ?_
           refine WD.one (i := 7) t7_26 (bt 18 32767) rfl (by kernel_rfl) ?_
           have hS163 := hS161.permT [0, 5] (L' := hdA 126 131 103 gh D :: (rdH q.ms.a q.ms.l.length 3 (q.ms.l.flatMap mtc)) :: hdA 126 131 103 gc C :: (rdH a rs.length 5 (rs.flatMap rcc)) :: allA recA rs :: (rdH b ms.length 5 (ms.flatMap rcc)) :: allA recA ms :: cel g2 [Value.slice q.ms.a q.ms.l.length q.ms.cap, Value.int .i64 q.fr, Value.int .i64 q.to] 26 :: L) rfl
           clear hS161
           refine WO.call rfl rfl Ty.hd33 rfl (hquery_spec (g := gh) rdH_rd hD (by omega) (by omega) hqz hqn q.fr q.to hS163) (fun v165 w164 pv165 => ?_)
           obtain ⟨a4, c4, o4, rfl, ho4, hn4, hz4, hS164⟩ := pv165
           clear hS163
           refine WO.nil ?_
           have s166 : (∀ jz, World.cell? w164 ⟨g2, jz, none⟩ = [Value.slice q.ms.a q.ms.l.length q.ms.cap, Value.int .i64 q.fr, Value.int .i64 q.to][jz]?) := hS164.cel_at 9 rfl
           refine NX.held s166 ?_
           refine WD.one (i := 15) t7_26 (bt 18 65535) rfl (by kernel_rfl) ?_
           have hS167 := hS164.permT [4, 3] (L' := hdA 126 131 103 gc C :: (rdH q.ms.a q.ms.l.length 3 (q.ms.l.flatMap mtc)) :: own a4 o4.length c4 68 2 (o4.flatMap msc) :: allA serA o4 :: hdA 126 131 103 gh D :: (rdH a rs.length 5 (rs.flatMap rcc)) :: allA recA rs :: (rdH b ms.length 5 (ms.flatMap rcc)) :: allA recA ms :: cel g2 [Value.slice q.ms.a q.ms.l.length q.ms.cap, Value.int .i64 q.fr, Value.int .i64 q.to] 26 :: L) rfl
           clear hS164
           refine WO.call rfl rfl Ty.hd33 rfl (hquery_spec (g := gc) rdH_rd hC (by omega) (by omega) hqz hqn q.fr q.to hS167) (fun v169 w168 pv169 => ?_)
           obtain ⟨a5, c5, o5, rfl, ho5, hn5, hz5, hS168⟩ := pv169
           clear hS167
           refine WO.nil ?_
           have s170 : (∀ jz, World.cell? w168 ⟨g2, jz, none⟩ = [Value.slice q.ms.a q.ms.l.length q.ms.cap, Value.int .i64 q.fr, Value.int .i64 q.to][jz]?) := hS168.cel_at 11 rfl
           refine NX.held s170 ?_
           refine WD.one (i := 16) t7_26 (bt 18 131071) rfl (by kernel_rfl) ?_
           have hS171 := hS168.permT [4, 4] (L' := own a4 o4.length c4 68 2 (o4.flatMap msc) :: allA serA o4 :: own a5 o5.length c5 68 2 (o5.flatMap msc) :: allA serA o5 :: hdA 126 131 103 gc C :: (rdH q.ms.a q.ms.l.length 3 (q.ms.l.flatMap mtc)) :: hdA 126 131 103 gh D :: (rdH a rs.length 5 (rs.flatMap rcc)) :: allA recA rs :: (rdH b ms.length 5 (ms.flatMap rcc)) :: allA recA ms :: cel g2 [Value.slice q.ms.a q.ms.l.length q.ms.cap, Value.int .i64 q.fr, Value.int .i64 q.to] 26 :: L) rfl
           clear hS168
           refine WO.call rfl rfl Ty.hd17 rfl (rssame_spec (X := own a4 o4.length c4 68 2 (o4.flatMap msc)) (Y := own a5 o5.length c5 68 2 (o5.flatMap msc)) (fun h => h.own_rd.1) (fun h => h.own_rd.1) (by omega) (by omega) hz4 hz5 hS171) (fun v173 w172 pv173 => ?_)
           obtain ⟨rfl, hS172⟩ := pv173
           clear hS171
           refine WO.nil ?_
           have s174 : (∀ jz, World.cell? w172 ⟨g2, jz, none⟩ = [Value.slice q.ms.a q.ms.l.length q.ms.cap, Value.int .i64 q.fr, Value.int .i64 q.to][jz]?) := hS172.cel_at 11 rfl
           refine NX.held s174 ?_
           refine DP (i := 17) t7_26 (bt 18 262143) rfl rfl rfl rfl (fun w => run_assign rfl) ?_
           refine WD.done t7_26 (by kernel_rfl) ?_
           refine NX.go (WP.ret ?_)
           refine NX.done (l := [.tmp 6]) rfl rfl ?_
           have heq : o4.map MSer.p = o5.map MSer.p := by rw [ho4, ho5, hDe, ← hCe]
           exact ⟨congrArg Value.bool (decide_eq_true heq), hS172.drop.drop.drop.drop.drop.drop.drop.drop.drop.drop.drop.drop⟩
         ·
          refine WO.off rfl rfl d100 rfl ?_
          refine WO.off rfl rfl d100 rfl ?_
          refine WO.V (run_pickF rfl d100 rfl) ?_
          refine WO.nil (NX.go ?_)
          refine WP.condF rfl rfl ?_
          refine WP.exit (NX.thenExit (NX.thenExit ?_))
          refine NX.blkExit ?_
          refine NX.go (WP.seq ?_)
          have hS175 : St B (hdA 126 131 103 gh D :: hdA 126 131 103 gc C :: (rdH a rs.length 5 (rs.flatMap rcc)) :: allA recA rs :: (rdH b ms.length 5 (ms.flatMap rcc)) :: allA recA ms :: (rdH q.ms.a q.ms.l.length 3 (q.ms.l.flatMap mtc)) :: cel g2 [Value.slice q.ms.a q.ms.l.length q.ms.cap, Value.int .i64 q.fr, Value.int .i64 q.to] 26 :: L) w153 := (hS153.mask [true, true, false, false] (L' := hdA 126 131 103 gh D :: hdA 126 131 103 gc C :: (rdH a rs.length 5 (rs.flatMap rcc)) :: allA recA rs :: (rdH b ms.length 5 (ms.flatMap rcc)) :: allA recA ms :: (rdH q.ms.a q.ms.l.length 3 (q.ms.l.flatMap mtc)) :: cel g2 [Value.slice q.ms.a q.ms.l.length q.ms.cap, Value.int .i64 q.fr, Value.int .i64 q.to] 26 :: L) rfl)
          clear hS153
          have hjk : k = j := by omega
          subst hjk
          refine WD.start (fun w => (∀ jz, World.cell? w ⟨g2, jz, none⟩ = [Value.slice q.ms.a q.ms.l.length q.ms.cap, Value.int .i64 q.fr, Value.int .i64 q.to][jz]?)) [] (bt 18 0) Ty.mo rfl (by kernel_rfl) hS175 (fun _ h => h.cel_at 7 rfl) (fun w176 hS176 s177 => ?_)
          clear hS175
          refine DP (i := 0) t7_26 (bt 18 1) rfl rfl rfl rfl (fun w => run_move rfl) ?_
          refine DP (i := 1) t7_26 (bt 18 3) rfl rfl rfl rfl (fun w => run_fa 0 ⟨g2, 0, none⟩ rfl rfl) ?_
          refine DT (i := 2) t7_26 (bt 18 7) s177 rfl rfl rfl rfl (fun w hs => run_load Ty.ag24 rfl ((hs 0).trans rfl)) ?_
          refine DP (i := 3) t7_26 (bt 18 15) rfl rfl rfl rfl (fun w => run_fa 1 ⟨g2, 1, none⟩ rfl rfl) ?_
          refine DT (i := 4) t7_26 (bt 18 31) s177 rfl rfl rfl rfl (fun w hs => run_load Ty.ag2 rfl ((hs 1).trans rfl)) ?_
          refine DP (i := 5) t7_26 (bt 18 63) rfl rfl rfl rfl (fun w => run_fa 2 ⟨g2, 2, none⟩ rfl rfl) ?_
          refine DT (i := 6) t7_26 (bt 18 127) s177 rfl rfl rfl rfl (fun w hs => run_load Ty.ag2 rfl ((hs 2).trans rfl)) ?_
          refine DP (i := 8) t7_26 (bt 18 383) rfl rfl rfl rfl (fun w => run_move rfl) ?_
          refine DP (i := 9) t7_26 (bt 18 895) rfl rfl rfl rfl (fun w => run_fa 0 ⟨g2, 0, none⟩ rfl rfl) ?_
          refine DT (i := 10) t7_26 (bt 18 1919) s177 rfl rfl rfl rfl (fun w hs => run_load Ty.ag24 rfl ((hs 0).trans rfl)) ?_
          refine DP (i := 11) t7_26 (bt 18 3967) rfl rfl rfl rfl (fun w => run_fa 1 ⟨g2, 1, none⟩ rfl rfl) ?_
          refine DT (i := 12) t7_26 (bt 18 8063) s177 rfl rfl rfl rfl (fun w hs => run_load Ty.ag2 rfl ((hs 1).trans rfl)) ?_
          refine DP (i := 13) t7_26 (bt 18 16255) rfl rfl rfl rfl (fun w => run_fa 2 ⟨g2, 2, none⟩ rfl rfl) ?_
          refine DT (i := 14) t7_26 (bt 18 32639) s177 rfl rfl rfl rfl (fun w hs => run_load Ty.ag2 rfl ((hs 2).trans rfl)) ?_
          refine WD.one (i := 7) t7_26 (bt 18 32767) rfl (by kernel_rfl) ?_
          have hS178 := hS176.permT [0, 5] (L' := hdA 126 131 103 gh D :: (rdH q.ms.a q.ms.l.length 3 (q.ms.l.flatMap mtc)) :: hdA 126 131 103 gc C :: (rdH a rs.length 5 (rs.flatMap rcc)) :: allA recA rs :: (rdH b ms.length 5 (ms.flatMap rcc)) :: allA recA ms :: cel g2 [Value.slice q.ms.a q.ms.l.length q.ms.cap, Value.int .i64 q.fr, Value.int .i64 q.to] 26 :: L) rfl
          clear hS176
          refine WO.call rfl rfl Ty.hd33 rfl (hquery_spec (g := gh) rdH_rd hD (by omega) (by omega) hqz hqn q.fr q.to hS178) (fun v180 w179 pv180 => ?_)
          obtain ⟨a4, c4, o4, rfl, ho4, hn4, hz4, hS179⟩ := pv180
          clear hS178
          refine WO.nil ?_
          have s181 : (∀ jz, World.cell? w179 ⟨g2, jz, none⟩ = [Value.slice q.ms.a q.ms.l.length q.ms.cap, Value.int .i64 q.fr, Value.int .i64 q.to][jz]?) := hS179.cel_at 9 rfl
          refine NX.held s181 ?_
          refine WD.one (i := 15) t7_26 (bt 18 65535) rfl (by kernel_rfl) ?_
          have hS182 := hS179.permT [4, 3] (L' := hdA 126 131 103 gc C :: (rdH q.ms.a q.ms.l.length 3 (q.ms.l.flatMap mtc)) :: own a4 o4.length c4 68 2 (o4.flatMap msc) :: allA serA o4 :: hdA 126 131 103 gh D :: (rdH a rs.length 5 (rs.flatMap rcc)) :: allA recA rs :: (rdH b ms.length 5 (ms.flatMap rcc)) :: allA recA ms :: cel g2 [Value.slice q.ms.a q.ms.l.length q.ms.cap, Value.int .i64 q.fr, Value.int .i64 q.to] 26 :: L) rfl
          clear hS179
          refine WO.call rfl rfl Ty.hd33 rfl (hquery_spec (g := gc) rdH_rd hC (by omega) (by omega) hqz hqn q.fr q.to hS182) (fun v184 w183 pv184 => ?_)
          obtain ⟨a5, c5, o5, rfl, ho5, hn5, hz5, hS183⟩ := pv184
          clear hS182
          refine WO.nil ?_
          have s185 : (∀ jz, World.cell? w183 ⟨g2, jz, none⟩ = [Value.slice q.ms.a q.ms.l.length q.ms.cap, Value.int .i64 q.fr, Value.int .i64 q.to][jz]?) := hS183.cel_at 11 rfl
          refine NX.held s185 ?_
          refine WD.one (i := 16) t7_26 (bt 18 131071) rfl (by kernel_rfl) ?_
          have hS186 := hS183.permT [4, 4] (L' := own a4 o4.length c4 68 2 (o4.flatMap msc) :: allA serA o4 :: own a5 o5.length c5 68 2 (o5.flatMap msc) :: allA serA o5 :: hdA 126 131 103 gc C :: (rdH q.ms.a q.ms.l.length 3 (q.ms.l.flatMap mtc)) :: hdA 126 131 103 gh D :: (rdH a rs.length 5 (rs.flatMap rcc)) :: allA recA rs :: (rdH b ms.length 5 (ms.flatMap rcc)) :: allA recA ms :: cel g2 [Value.slice q.ms.a q.ms.l.length q.ms.cap, Value.int .i64 q.fr, Value.int .i64 q.to] 26 :: L) rfl
          clear hS183
          refine WO.call rfl rfl Ty.hd17 rfl (rssame_spec (X := own a4 o4.length c4 68 2 (o4.flatMap msc)) (Y := own a5 o5.length c5 68 2 (o5.flatMap msc)) (fun h => h.own_rd.1) (fun h => h.own_rd.1) (by omega) (by omega) hz4 hz5 hS186) (fun v188 w187 pv188 => ?_)
          obtain ⟨rfl, hS187⟩ := pv188
          clear hS186
          refine WO.nil ?_
          have s189 : (∀ jz, World.cell? w187 ⟨g2, jz, none⟩ = [Value.slice q.ms.a q.ms.l.length q.ms.cap, Value.int .i64 q.fr, Value.int .i64 q.to][jz]?) := hS187.cel_at 11 rfl
          refine NX.held s189 ?_
          refine DP (i := 17) t7_26 (bt 18 262143) rfl rfl rfl rfl (fun w => run_assign rfl) ?_
          refine WD.done t7_26 (by kernel_rfl) ?_
          refine NX.go (WP.ret ?_)
          refine NX.done (l := [.tmp 6]) rfl rfl ?_
          have heq : o4.map MSer.p = o5.map MSer.p := by rw [ho4, ho5, hDe, ← hCe]
          exact ⟨congrArg Value.bool (decide_eq_true heq), hS187.drop.drop.drop.drop.drop.drop.drop.drop.drop.drop.drop.drop⟩
      ·
       refine WO.off rfl rfl d72 rfl ?_
       refine WO.off rfl rfl d72 rfl ?_
       refine WO.V (run_pickF rfl d72 rfl) ?_
       refine WO.nil (NX.go ?_)
       refine WP.condF rfl rfl ?_
       refine WP.exit (NX.thenExit (NX.thenExit ?_))
       refine NX.blkExit ?_
       refine NX.go (WP.seq (WP.seq (WP.region rfl ?_)))
       refine WO.mv rfl rfl ?_
       refine WO.V (run_fa 0 ⟨g2, 0, none⟩ rfl rfl) ?_
       refine WO.V (run_load Ty.ag24 rfl ((hS139.cel_at 9 rfl 0).trans rfl)) ?_
       refine WO.V (run_fa 1 ⟨g2, 1, none⟩ rfl rfl) ?_
       refine WO.V (run_load Ty.ag2 rfl ((hS139.cel_at 9 rfl 1).trans rfl)) ?_
       refine WO.V (run_fa 2 ⟨g2, 2, none⟩ rfl rfl) ?_
       refine WO.V (run_load Ty.ag2 rfl ((hS139.cel_at 9 rfl 2).trans rfl)) ?_
       have hS190 := hS139.permT [1, 7] (L' := hdA 126 131 103 gh A :: (rdH q.ms.a q.ms.l.length 3 (q.ms.l.flatMap mtc)) :: hdA 126 131 103 gc C :: own a1 o1.length c1 68 2 (o1.flatMap msc) :: allA serA o1 :: (rdH a rs.length 5 (rs.flatMap rcc)) :: allA recA rs :: (rdH b ms.length 5 (ms.flatMap rcc)) :: allA recA ms :: cel g2 [Value.slice q.ms.a q.ms.l.length q.ms.cap, Value.int .i64 q.fr, Value.int .i64 q.to] 26 :: L) rfl
       clear hS139
       refine WO.call rfl rfl Ty.hd33 rfl (hquery_spec (g := gh) rdH_rd hA (by omega) (by omega) hqz hqn q.fr q.to hS190) (fun v192 w191 pv192 => ?_)
       obtain ⟨a3, c3, o3, rfl, ho3, hn3, hz3, hS191⟩ := pv192
       clear hS190
       refine WO.mv rfl rfl ?_
       have hS193 := hS191.permT [0, 0, 3, 3] (L' := own a3 o3.length c3 68 2 (o3.flatMap msc) :: allA serA o3 :: own a1 o1.length c1 68 2 (o1.flatMap msc) :: allA serA o1 :: hdA 126 131 103 gh A :: (rdH q.ms.a q.ms.l.length 3 (q.ms.l.flatMap mtc)) :: hdA 126 131 103 gc C :: (rdH a rs.length 5 (rs.flatMap rcc)) :: allA recA rs :: (rdH b ms.length 5 (ms.flatMap rcc)) :: allA recA ms :: cel g2 [Value.slice q.ms.a q.ms.l.length q.ms.cap, Value.int .i64 q.fr, Value.int .i64 q.to] 26 :: L) rfl
       clear hS191
       refine WO.call rfl rfl Ty.hd17 rfl (rssame_spec (X := own a3 o3.length c3 68 2 (o3.flatMap msc)) (Y := own a1 o1.length c1 68 2 (o1.flatMap msc)) (fun h => h.own_rd.1) (fun h => h.own_rd.1) (by omega) (by omega) hz3 hz1 hS193) (fun v195 w194 pv195 => ?_)
       obtain ⟨rfl, hS194⟩ := pv195
       clear hS193
       refine WO.V (run_notP rfl) ?_
       refine WO.nil (NX.go ?_)
       refine WP.condP rfl (fun g95 => ?_) (fun g95 => ?_)
       ·
        exact absurd (ho3.trans ho1.symm) g95
       ·
        refine WP.skip (NX.go (WP.seq (WP.seq ?_)))
        have hS196 : St B (own a1 o1.length c1 68 2 (o1.flatMap msc) :: allA serA o1 :: hdA 126 131 103 gh A :: (rdH q.ms.a q.ms.l.length 3 (q.ms.l.flatMap mtc)) :: hdA 126 131 103 gc C :: (rdH a rs.length 5 (rs.flatMap rcc)) :: allA recA rs :: (rdH b ms.length 5 (ms.flatMap rcc)) :: allA recA ms :: cel g2 [Value.slice q.ms.a q.ms.l.length q.ms.cap, Value.int .i64 q.fr, Value.int .i64 q.to] 26 :: L) w194 := hS194.drop.drop
        clear hS194
        refine WP.region rfl ?_
        refine WO.asg rfl rfl ?_
        refine WO.nil (NX.go (WP.block ?_))
        refine WP.loop (α := Nat × List RowP) (fun x => match x with | ⟨k, D⟩ => [(0, Value.slice a rs.length cap), (1, Value.slice b ms.length cap2), (5, Value.pointer (some ⟨g2, 0, none⟩)), (7, Value.pointer (some ⟨gh, 0, none⟩)), (9, Value.pointer (some ⟨gc, 0, none⟩)), (10, Value.slice a1 o1.length c1), (12, Value.int .i64 (k : Int))]) (fun x w => match x with | ⟨k, D⟩ => (k ≤ ms.length ∧ k ≤ 30 ∧ WfH D (960 + 32 * k) ∧ D.length ≤ 256 ∧ D = applyL A ((ms.take k).map Rcd.p)) ∧ St B (hdA 126 131 103 gh D :: hdA 126 131 103 gc C :: own a1 o1.length c1 68 2 (o1.flatMap msc) :: allA serA o1 :: (rdH a rs.length 5 (rs.flatMap rcc)) :: allA recA rs :: (rdH b ms.length 5 (ms.flatMap rcc)) :: allA recA ms :: (rdH q.ms.a q.ms.l.length 3 (q.ms.l.flatMap mtc)) :: cel g2 [Value.slice q.ms.a q.ms.l.length q.ms.cap, Value.int .i64 q.fr, Value.int .i64 q.to] 26 :: L) w) (fun x => match x with | ⟨k, D⟩ => ms.length - k) (0, A) ⟨⟨Nat.zero_le _, Nat.zero_le _, hA.mono (by omega), hAl, rfl⟩, (hS196.permT [2, 3, 0, 0, 1, 1, 1, 1] (L' := hdA 126 131 103 gh A :: hdA 126 131 103 gc C :: own a1 o1.length c1 68 2 (o1.flatMap msc) :: allA serA o1 :: (rdH a rs.length 5 (rs.flatMap rcc)) :: allA recA rs :: (rdH b ms.length 5 (ms.flatMap rcc)) :: allA recA ms :: (rdH q.ms.a q.ms.l.length 3 (q.ms.l.flatMap mtc)) :: cel g2 [Value.slice q.ms.a q.ms.l.length q.ms.cap, Value.int .i64 q.fr, Value.int .i64 q.to] 26 :: L) rfl)⟩ (Sub.cons rfl (Sub.cons rfl (Sub.cons rfl (Sub.cons rfl (Sub.cons rfl (Sub.cons rfl (Sub.consE rfl (by first | rfl | first | rfl | (congr 1; omega) | (simp; done) | (simp; omega)) (Sub.nil _)))))))) ?_
        rintro ⟨k, D⟩ w197 ⟨⟨hk, hk3, hD, hDl, hDe⟩, hS197⟩
        clear hS196
        refine WP.seq (WP.seq (WP.region rfl ?_))
        refine WO.mv rfl rfl ?_
        refine WO.mv rfl rfl ?_
        refine WO.V (run_len rfl Tryz.underlying23 rfl) ?_
        refine WO.V (run_lss rfl rfl) ?_
        refine WO.mv rfl rfl ?_
        refine dcase (p := (k : Int) < ((ms.length : Nat) : Int)) (fun g100 d100 => ?_) (fun g100 d100 => ?_)
        ·
         refine WO.on rfl rfl d100 ?_
         refine WO.mv rfl rfl ?_
         refine WO.on rfl rfl d100 ?_
         refine WO.V (run_lss rfl rfl) ?_
         refine WO.V (run_pickT rfl d100 rfl) ?_
         refine WO.nil (NX.go ?_)
         refine WP.condP rfl (fun g103 => ?_) (fun g103 => ?_)
         ·
          refine WP.skip (NX.go (WP.seq (WP.block ?_)))
          obtain ⟨d2, hd2⟩ : ∃ qq, ms[k]? = some qq := ⟨_, List.getElem?_eq_getElem (by omega)⟩
          have hzd := hmz d2 (List.mem_of_getElem? hd2)
          have hS198 := allA_get recA_pers (List.mem_of_getElem? hd2) (hS197.permT [7] (L' := allA recA ms :: hdA 126 131 103 gh D :: hdA 126 131 103 gc C :: own a1 o1.length c1 68 2 (o1.flatMap msc) :: allA serA o1 :: (rdH a rs.length 5 (rs.flatMap rcc)) :: allA recA rs :: (rdH b ms.length 5 (ms.flatMap rcc)) :: (rdH q.ms.a q.ms.l.length 3 (q.ms.l.flatMap mtc)) :: cel g2 [Value.slice q.ms.a q.ms.l.length q.ms.cap, Value.int .i64 q.fr, Value.int .i64 q.to] 26 :: L) rfl)
          clear hS197
          refine WP.region rfl ?_
          refine WO.mv rfl rfl ?_
          refine WO.mv rfl rfl ?_
          refine WO.mv rfl rfl ?_
          refine WO.V (run_indexAddr (q := adr b (k * 5)) Tryz.underlying23 Ty.sz33 rfl rfl (by omega) (by omega) ((rdH_rd (hS198.focus 8 rfl)).2.1 (by omega)) rfl) ?_
          refine WO.V (run_loadAgg (vs := (rcc d2)) Ty.ag33 Ty.sz33 rfl ((rdH_rd (hS198.focus 8 rfl)).cells (by rw [flat_len rcc_len]; omega) (flat_part rcc_len hd2)).1 ((rdH_rd (hS198.focus 8 rfl)).cells (by rw [flat_len rcc_len]; omega) (flat_part rcc_len hd2)).2) ?_
          refine WO.call rfl rfl Ty.hd16 rfl (own12_spec d2 hzd hS198) (fun v200 w199 pv200 => ?_)
          obtain ⟨r3, rfl, hr3, hS199⟩ := pv200
          clear hS198
          have hS201 := hS199.permT [3] (L' := hdA 126 131 103 gh D :: recA r3 :: recA d2 :: allA recA ms :: hdA 126 131 103 gc C :: own a1 o1.length c1 68 2 (o1.flatMap msc) :: allA serA o1 :: (rdH a rs.length 5 (rs.flatMap rcc)) :: allA recA rs :: (rdH b ms.length 5 (ms.flatMap rcc)) :: (rdH q.ms.a q.ms.l.length 3 (q.ms.l.flatMap mtc)) :: cel g2 [Value.slice q.ms.a q.ms.l.length q.ms.cap, Value.int .i64 q.fr, Value.int .i64 q.to] 26 :: L) rfl
          clear hS199
          refine WO.call rfl rfl Ty.hd32 rfl ((by have z := happlyP_spec (g := gh) hD (by omega) (by omega) r3 (SzR.of_p hr3 hzd) hS201; rw [hr3] at z; exact z)) (fun v203 w202 pv203 => ?_)
          obtain ⟨rfl, hS202⟩ := pv203
          clear hS201
          refine WO.nil (NX.blk (NX.go (WP.region rfl ?_)))
          refine WO.mv rfl rfl ?_
          refine WO.V (run_add rfl rfl (IntWalk.i64_in _ (by omega))) ?_
          refine WO.asg rfl rfl ?_
          refine WO.nil ?_
          exact NX.again (k + 1, applyP D d2.p) ⟨⟨by omega, by omega, wf_applyP hD, applyP_len hDl, by rw [applyL_snoc hd2, ← hDe]⟩, ((hS202.mask [true, false, false] (L' := hdA 126 131 103 gh (applyP D d2.p) :: allA recA ms :: hdA 126 131 103 gc C :: own a1 o1.length c1 68 2 (o1.flatMap msc) :: allA serA o1 :: (rdH a rs.length 5 (rs.flatMap rcc)) :: allA recA rs :: (rdH b ms.length 5 (ms.flatMap rcc)) :: (rdH q.ms.a q.ms.l.length 3 (q.ms.l.flatMap mtc)) :: cel g2 [Value.slice q.ms.a q.ms.l.length q.ms.cap, Value.int .i64 q.fr, Value.int .i64 q.to] 26 :: L) rfl).permT [0, 1, 1, 1, 1, 1, 1] (L' := hdA 126 131 103 gh (applyP D d2.p) :: hdA 126 131 103 gc C :: own a1 o1.length c1 68 2 (o1.flatMap msc) :: allA serA o1 :: (rdH a rs.length 5 (rs.flatMap rcc)) :: allA recA rs :: (rdH b ms.length 5 (ms.flatMap rcc)) :: allA recA ms :: (rdH q.ms.a q.ms.l.length 3 (q.ms.l.flatMap mtc)) :: cel g2 [Value.slice q.ms.a q.ms.l.length q.ms.cap, Value.int .i64 q.fr, Value.int .i64 q.to] 26 :: L) rfl)⟩ (by show ms.length - (k + 1) < ms.length - k; omega) (Sub.cons rfl (Sub.cons rfl (Sub.cons rfl (Sub.cons rfl (Sub.cons rfl (Sub.cons rfl (Sub.consE rfl (by congr 1) (Sub.nil _))))))))
         ·
          refine WP.exit (NX.thenExit (NX.thenExit ?_))
          refine NX.blkExit ?_
          refine NX.go (WP.seq ?_)
          have hS204 : St B (hdA 126 131 103 gh D :: hdA 126 131 103 gc C :: (rdH a rs.length 5 (rs.flatMap rcc)) :: allA recA rs :: (rdH b ms.length 5 (ms.flatMap rcc)) :: allA recA ms :: (rdH q.ms.a q.ms.l.length 3 (q.ms.l.flatMap mtc)) :: cel g2 [Value.slice q.ms.a q.ms.l.length q.ms.cap, Value.int .i64 q.fr, Value.int .i64 q.to] 26 :: L) w197 := (hS197.mask [true, true, false, false] (L' := hdA 126 131 103 gh D :: hdA 126 131 103 gc C :: (rdH a rs.length 5 (rs.flatMap rcc)) :: allA recA rs :: (rdH b ms.length 5 (ms.flatMap rcc)) :: allA recA ms :: (rdH q.ms.a q.ms.l.length 3 (q.ms.l.flatMap mtc)) :: cel g2 [Value.slice q.ms.a q.ms.l.length q.ms.cap, Value.int .i64 q.fr, Value.int .i64 q.to] 26 :: L) rfl)
          clear hS197
          have hjk : k = j := by omega
          subst hjk
          refine WD.start (fun w => (∀ jz, World.cell? w ⟨g2, jz, none⟩ = [Value.slice q.ms.a q.ms.l.length q.ms.cap, Value.int .i64 q.fr, Value.int .i64 q.to][jz]?)) [] (bt 18 0) Ty.mo rfl (by kernel_rfl) hS204 (fun _ h => h.cel_at 7 rfl) (fun w205 hS205 s206 => ?_)
          clear hS204
          refine DP (i := 0) t7_26 (bt 18 1) rfl rfl rfl rfl (fun w => run_move rfl) ?_
          refine DP (i := 1) t7_26 (bt 18 3) rfl rfl rfl rfl (fun w => run_fa 0 ⟨g2, 0, none⟩ rfl rfl) ?_
          refine DT (i := 2) t7_26 (bt 18 7) s206 rfl rfl rfl rfl (fun w hs => run_load Ty.ag24 rfl ((hs 0).trans rfl)) ?_
          refine DP (i := 3) t7_26 (bt 18 15) rfl rfl rfl rfl (fun w => run_fa 1 ⟨g2, 1, none⟩ rfl rfl) ?_
          refine DT (i := 4) t7_26 (bt 18 31) s206 rfl rfl rfl rfl (fun w hs => run_load Ty.ag2 rfl ((hs 1).trans rfl)) ?_
          refine DP (i := 5) t7_26 (bt 18 63) rfl rfl rfl rfl (fun w => run_fa 2 ⟨g2, 2, none⟩ rfl rfl) ?_
          refine DT (i := 6) t7_26 (bt 18 127) s206 rfl rfl rfl rfl (fun w hs => run_load Ty.ag2 rfl ((hs 2).trans rfl)) ?_
          refine DP (i := 8) t7_26 (bt 18 383) rfl rfl rfl rfl (fun w => run_move rfl) ?_
          refine DP (i := 9) t7_26 (bt 18 895) rfl rfl rfl rfl (fun w => run_fa 0 ⟨g2, 0, none⟩ rfl rfl) ?_
          refine DT (i := 10) t7_26 (bt 18 1919) s206 rfl rfl rfl rfl (fun w hs => run_load Ty.ag24 rfl ((hs 0).trans rfl)) ?_
          refine DP (i := 11) t7_26 (bt 18 3967) rfl rfl rfl rfl (fun w => run_fa 1 ⟨g2, 1, none⟩ rfl rfl) ?_
          refine DT (i := 12) t7_26 (bt 18 8063) s206 rfl rfl rfl rfl (fun w hs => run_load Ty.ag2 rfl ((hs 1).trans rfl)) ?_
          refine DP (i := 13) t7_26 (bt 18 16255) rfl rfl rfl rfl (fun w => run_fa 2 ⟨g2, 2, none⟩ rfl rfl) ?_
          refine DT (i := 14) t7_26 (bt 18 32639) s206 rfl rfl rfl rfl (fun w hs => run_load Ty.ag2 rfl ((hs 2).trans rfl)) ?_
          refine WD.one (i := 7) t7_26 (bt 18 32767) rfl (by kernel_rfl) ?_
          have hS207 := hS205.permT [0, 5] (L' := hdA 126 131 103 gh D :: (rdH q.ms.a q.ms.l.length 3 (q.ms.l.flatMap mtc)) :: hdA 126 131 103 gc C :: (rdH a rs.length 5 (rs.flatMap rcc)) :: allA recA rs :: (rdH b ms.length 5 (ms.flatMap rcc)) :: allA recA ms :: cel g2 [Value.slice q.ms.a q.ms.l.length q.ms.cap, Value.int .i64 q.fr, Value.int .i64 q.to] 26 :: L) rfl
          clear hS205
          refine WO.call rfl rfl Ty.hd33 rfl (hquery_spec (g := gh) rdH_rd hD (by omega) (by omega) hqz hqn q.fr q.to hS207) (fun v209 w208 pv209 => ?_)
          obtain ⟨a4, c4, o4, rfl, ho4, hn4, hz4, hS208⟩ := pv209
          clear hS207
          refine WO.nil ?_
          have s210 : (∀ jz, World.cell? w208 ⟨g2, jz, none⟩ = [Value.slice q.ms.a q.ms.l.length q.ms.cap, Value.int .i64 q.fr, Value.int .i64 q.to][jz]?) := hS208.cel_at 9 rfl
          refine NX.held s210 ?_
          refine WD.one (i := 15) t7_26 (bt 18 65535) rfl (by kernel_rfl) ?_
          have hS211 := hS208.permT [4, 3] (L' := hdA 126 131 103 gc C :: (rdH q.ms.a q.ms.l.length 3 (q.ms.l.flatMap mtc)) :: own a4 o4.length c4 68 2 (o4.flatMap msc) :: allA serA o4 :: hdA 126 131 103 gh D :: (rdH a rs.length 5 (rs.flatMap rcc)) :: allA recA rs :: (rdH b ms.length 5 (ms.flatMap rcc)) :: allA recA ms :: cel g2 [Value.slice q.ms.a q.ms.l.length q.ms.cap, Value.int .i64 q.fr, Value.int .i64 q.to] 26 :: L) rfl
          clear hS208
          refine WO.call rfl rfl Ty.hd33 rfl (hquery_spec (g := gc) rdH_rd hC (by omega) (by omega) hqz hqn q.fr q.to hS211) (fun v213 w212 pv213 => ?_)
          obtain ⟨a5, c5, o5, rfl, ho5, hn5, hz5, hS212⟩ := pv213
          clear hS211
          refine WO.nil ?_
          have s214 : (∀ jz, World.cell? w212 ⟨g2, jz, none⟩ = [Value.slice q.ms.a q.ms.l.length q.ms.cap, Value.int .i64 q.fr, Value.int .i64 q.to][jz]?) := hS212.cel_at 11 rfl
          refine NX.held s214 ?_
          refine WD.one (i := 16) t7_26 (bt 18 131071) rfl (by kernel_rfl) ?_
          have hS215 := hS212.permT [4, 4] (L' := own a4 o4.length c4 68 2 (o4.flatMap msc) :: allA serA o4 :: own a5 o5.length c5 68 2 (o5.flatMap msc) :: allA serA o5 :: hdA 126 131 103 gc C :: (rdH q.ms.a q.ms.l.length 3 (q.ms.l.flatMap mtc)) :: hdA 126 131 103 gh D :: (rdH a rs.length 5 (rs.flatMap rcc)) :: allA recA rs :: (rdH b ms.length 5 (ms.flatMap rcc)) :: allA recA ms :: cel g2 [Value.slice q.ms.a q.ms.l.length q.ms.cap, Value.int .i64 q.fr, Value.int .i64 q.to] 26 :: L) rfl
          clear hS212
          refine WO.call rfl rfl Ty.hd17 rfl (rssame_spec (X := own a4 o4.length c4 68 2 (o4.flatMap msc)) (Y := own a5 o5.length c5 68 2 (o5.flatMap msc)) (fun h => h.own_rd.1) (fun h => h.own_rd.1) (by omega) (by omega) hz4 hz5 hS215) (fun v217 w216 pv217 => ?_)
          obtain ⟨rfl, hS216⟩ := pv217
          clear hS215
          refine WO.nil ?_
          have s218 : (∀ jz, World.cell? w216 ⟨g2, jz, none⟩ = [Value.slice q.ms.a q.ms.l.length q.ms.cap, Value.int .i64 q.fr, Value.int .i64 q.to][jz]?) := hS216.cel_at 11 rfl
          refine NX.held s218 ?_
          refine DP (i := 17) t7_26 (bt 18 262143) rfl rfl rfl rfl (fun w => run_assign rfl) ?_
          refine WD.done t7_26 (by kernel_rfl) ?_
          refine NX.go (WP.ret ?_)
          refine NX.done (l := [.tmp 6]) rfl rfl ?_
          have heq : o4.map MSer.p = o5.map MSer.p := by rw [ho4, ho5, hDe, ← hCe]
          exact ⟨congrArg Value.bool (decide_eq_true heq), hS216.drop.drop.drop.drop.drop.drop.drop.drop.drop.drop.drop.drop⟩
        ·
         refine WO.off rfl rfl d100 rfl ?_
         refine WO.off rfl rfl d100 rfl ?_
         refine WO.V (run_pickF rfl d100 rfl) ?_
         refine WO.nil (NX.go ?_)
         refine WP.condF rfl rfl ?_
         refine WP.exit (NX.thenExit (NX.thenExit ?_))
         refine NX.blkExit ?_
         refine NX.go (WP.seq ?_)
         have hS219 : St B (hdA 126 131 103 gh D :: hdA 126 131 103 gc C :: (rdH a rs.length 5 (rs.flatMap rcc)) :: allA recA rs :: (rdH b ms.length 5 (ms.flatMap rcc)) :: allA recA ms :: (rdH q.ms.a q.ms.l.length 3 (q.ms.l.flatMap mtc)) :: cel g2 [Value.slice q.ms.a q.ms.l.length q.ms.cap, Value.int .i64 q.fr, Value.int .i64 q.to] 26 :: L) w197 := (hS197.mask [true, true, false, false] (L' := hdA 126 131 103 gh D :: hdA 126 131 103 gc C :: (rdH a rs.length 5 (rs.flatMap rcc)) :: allA recA rs :: (rdH b ms.length 5 (ms.flatMap rcc)) :: allA recA ms :: (rdH q.ms.a q.ms.l.length 3 (q.ms.l.flatMap mtc)) :: cel g2 [Value.slice q.ms.a q.ms.l.length q.ms.cap, Value.int .i64 q.fr, Value.int .i64 q.to] 26 :: L) rfl)
         clear hS197
         have hjk : k = j := by omega
         subst hjk
         refine WD.start (fun w => (∀ jz, World.cell? w ⟨g2, jz, none⟩ = [Value.slice q.ms.a q.ms.l.length q.ms.cap, Value.int .i64 q.fr, Value.int .i64 q.to][jz]?)) [] (bt 18 0) Ty.mo rfl (by kernel_rfl) hS219 (fun _ h => h.cel_at 7 rfl) (fun w220 hS220 s221 => ?_)
         clear hS219
         refine DP (i := 0) t7_26 (bt 18 1) rfl rfl rfl rfl (fun w => run_move rfl) ?_
         refine DP (i := 1) t7_26 (bt 18 3) rfl rfl rfl rfl (fun w => run_fa 0 ⟨g2, 0, none⟩ rfl rfl) ?_
         refine DT (i := 2) t7_26 (bt 18 7) s221 rfl rfl rfl rfl (fun w hs => run_load Ty.ag24 rfl ((hs 0).trans rfl)) ?_
         refine DP (i := 3) t7_26 (bt 18 15) rfl rfl rfl rfl (fun w => run_fa 1 ⟨g2, 1, none⟩ rfl rfl) ?_
         refine DT (i := 4) t7_26 (bt 18 31) s221 rfl rfl rfl rfl (fun w hs => run_load Ty.ag2 rfl ((hs 1).trans rfl)) ?_
         refine DP (i := 5) t7_26 (bt 18 63) rfl rfl rfl rfl (fun w => run_fa 2 ⟨g2, 2, none⟩ rfl rfl) ?_
         refine DT (i := 6) t7_26 (bt 18 127) s221 rfl rfl rfl rfl (fun w hs => run_load Ty.ag2 rfl ((hs 2).trans rfl)) ?_
         refine DP (i := 8) t7_26 (bt 18 383) rfl rfl rfl rfl (fun w => run_move rfl) ?_
         refine DP (i := 9) t7_26 (bt 18 895) rfl rfl rfl rfl (fun w => run_fa 0 ⟨g2, 0, none⟩ rfl rfl) ?_
         refine DT (i := 10) t7_26 (bt 18 1919) s221 rfl rfl rfl rfl (fun w hs => run_load Ty.ag24 rfl ((hs 0).trans rfl)) ?_
         refine DP (i := 11) t7_26 (bt 18 3967) rfl rfl rfl rfl (fun w => run_fa 1 ⟨g2, 1, none⟩ rfl rfl) ?_
         refine DT (i := 12) t7_26 (bt 18 8063) s221 rfl rfl rfl rfl (fun w hs => run_load Ty.ag2 rfl ((hs 1).trans rfl)) ?_
         refine DP (i := 13) t7_26 (bt 18 16255) rfl rfl rfl rfl (fun w => run_fa 2 ⟨g2, 2, none⟩ rfl rfl) ?_
         refine DT (i := 14) t7_26 (bt 18 32639) s221 rfl rfl rfl rfl (fun w hs => run_load Ty.ag2 rfl ((hs 2).trans rfl)) ?_
         refine WD.one (i := 7) t7_26 (bt 18 32767) rfl (by kernel_rfl) ?_
         have hS222 := hS220.permT [0, 5] (L' := hdA 126 131 103 gh D :: (rdH q.ms.a q.ms.l.length 3 (q.ms.l.flatMap mtc)) :: hdA 126 131 103 gc C :: (rdH a rs.length 5 (rs.flatMap rcc)) :: allA recA rs :: (rdH b ms.length 5 (ms.flatMap rcc)) :: allA recA ms :: cel g2 [Value.slice q.ms.a q.ms.l.length q.ms.cap, Value.int .i64 q.fr, Value.int .i64 q.to] 26 :: L) rfl
         clear hS220
         refine WO.call rfl rfl Ty.hd33 rfl (hquery_spec (g := gh) rdH_rd hD (by omega) (by omega) hqz hqn q.fr q.to hS222) (fun v224 w223 pv224 => ?_)
         obtain ⟨a4, c4, o4, rfl, ho4, hn4, hz4, hS223⟩ := pv224
         clear hS222
         refine WO.nil ?_
         have s225 : (∀ jz, World.cell? w223 ⟨g2, jz, none⟩ = [Value.slice q.ms.a q.ms.l.length q.ms.cap, Value.int .i64 q.fr, Value.int .i64 q.to][jz]?) := hS223.cel_at 9 rfl
         refine NX.held s225 ?_
         refine WD.one (i := 15) t7_26 (bt 18 65535) rfl (by kernel_rfl) ?_
         have hS226 := hS223.permT [4, 3] (L' := hdA 126 131 103 gc C :: (rdH q.ms.a q.ms.l.length 3 (q.ms.l.flatMap mtc)) :: own a4 o4.length c4 68 2 (o4.flatMap msc) :: allA serA o4 :: hdA 126 131 103 gh D :: (rdH a rs.length 5 (rs.flatMap rcc)) :: allA recA rs :: (rdH b ms.length 5 (ms.flatMap rcc)) :: allA recA ms :: cel g2 [Value.slice q.ms.a q.ms.l.length q.ms.cap, Value.int .i64 q.fr, Value.int .i64 q.to] 26 :: L) rfl
         clear hS223
         refine WO.call rfl rfl Ty.hd33 rfl (hquery_spec (g := gc) rdH_rd hC (by omega) (by omega) hqz hqn q.fr q.to hS226) (fun v228 w227 pv228 => ?_)
         obtain ⟨a5, c5, o5, rfl, ho5, hn5, hz5, hS227⟩ := pv228
         clear hS226
         refine WO.nil ?_
         have s229 : (∀ jz, World.cell? w227 ⟨g2, jz, none⟩ = [Value.slice q.ms.a q.ms.l.length q.ms.cap, Value.int .i64 q.fr, Value.int .i64 q.to][jz]?) := hS227.cel_at 11 rfl
         refine NX.held s229 ?_
         refine WD.one (i := 16) t7_26 (bt 18 131071) rfl (by kernel_rfl) ?_
         have hS230 := hS227.permT [4, 4] (L' := own a4 o4.length c4 68 2 (o4.flatMap msc) :: allA serA o4 :: own a5 o5.length c5 68 2 (o5.flatMap msc) :: allA serA o5 :: hdA 126 131 103 gc C :: (rdH q.ms.a q.ms.l.length 3 (q.ms.l.flatMap mtc)) :: hdA 126 131 103 gh D :: (rdH a rs.length 5 (rs.flatMap rcc)) :: allA recA rs :: (rdH b ms.length 5 (ms.flatMap rcc)) :: allA recA ms :: cel g2 [Value.slice q.ms.a q.ms.l.length q.ms.cap, Value.int .i64 q.fr, Value.int .i64 q.to] 26 :: L) rfl
         clear hS227
         refine WO.call rfl rfl Ty.hd17 rfl (rssame_spec (X := own a4 o4.length c4 68 2 (o4.flatMap msc)) (Y := own a5 o5.length c5 68 2 (o5.flatMap msc)) (fun h => h.own_rd.1) (fun h => h.own_rd.1) (by omega) (by omega) hz4 hz5 hS230) (fun v232 w231 pv232 => ?_)
         obtain ⟨rfl, hS231⟩ := pv232
         clear hS230
         refine WO.nil ?_
         have s233 : (∀ jz, World.cell? w231 ⟨g2, jz, none⟩ = [Value.slice q.ms.a q.ms.l.length q.ms.cap, Value.int .i64 q.fr, Value.int .i64 q.to][jz]?) := hS231.cel_at 11 rfl
         refine NX.held s233 ?_
         refine DP (i := 17) t7_26 (bt 18 262143) rfl rfl rfl rfl (fun w => run_assign rfl) ?_
         refine WD.done t7_26 (by kernel_rfl) ?_
         refine NX.go (WP.ret ?_)
         refine NX.done (l := [.tmp 6]) rfl rfl ?_
         have heq : o4.map MSer.p = o5.map MSer.p := by rw [ho4, ho5, hDe, ← hCe]
         exact ⟨congrArg Value.bool (decide_eq_true heq), hS231.drop.drop.drop.drop.drop.drop.drop.drop.drop.drop.drop.drop⟩
end Go.Proofs.YtidoidoelgfnaaaGreatDoor.SL
