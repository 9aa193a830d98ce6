/- MergeHistory: the law. -/
import Derived.Test.YtidoidoelgfnaaaGreatDoorHis5
import Derived.Test.YtidoidoelgfnaaaGreatDoorMhM
import Derived.Test.YtidoidoelgfnaaaGreatDoorKp1M
import Derived.Test.YtidoidoelgfnaaaGreatDoorKrmM
import Derived.Test.YtidoidoelgfnaaaGreatDoorRhM
namespace Go.Proofs.YtidoidoelgfnaaaGreatDoor.SL
open Go.RowKit Go.Proofs.YtidoidoelgfnaaaGreatDoor
open Go.Proofs.YtidoidoelgfnaaaGreatDoorW.PrintLast (rtab opsOf)
set_option linter.unusedVariables false
set_option linter.unusedSimpArgs false
theorem t9_22 : rtab .any (opsOf Tryz.f9 22) = (true, [([], []), ([0], [0]), ([], []), ([2], [2]), ([], []), ([], []), ([5], [5]), ([1, 3, 4, 6], [1, 3, 4, 6]), ([], []), ([], []), ([9], [9]), ([], []), ([], []), ([12], [12]), ([8, 10, 11, 13, 7], [8, 10, 11, 13]), ([7, 14, 14], [7, 14]), ([15, 15, 0, 1, 2, 3, 4, 5, 6, 7, 8, 9, 10, 11, 12, 13, 14, 15], [15])]) := by kernel_rfl
theorem mergeHistory_core {B w : World} {L : List HP} {a b : Option Addr} {cap cap2 : Nat} {rs : List Rcd} {cl : List Bool} (hrz : ∀ r ∈ rs, SzR r) (hrng : ∀ r ∈ rs, RngP r.p) (hrn : rs.length ≤ 2814749767106) (hcn : cl.length ≤ 140737488355328) (q : AskV) (hqz : SzM q.ms.l) (hqn2 : q.ms.l.length ≤ 5864062014805) (hqf : -9223372036854775808 ≤ q.fr ∧ q.fr ≤ 9223372036854775807) (hqt : -9223372036854775808 ≤ q.to ∧ q.to ≤ 9223372036854775807) (mark : Int) (hmk : -9223372036854775808 ≤ mark ∧ mark ≤ 9223372036854775807) (hS : St B ((rdH a rs.length 5 (rs.flatMap rcc)) :: allA recA rs :: (rdH b cl.length 1 (cl.map Value.bool)) :: (rdH q.ms.a q.ms.l.length 3 (q.ms.l.flatMap mtc)) :: L) w) : Does Tryz.prog 9 [Value.slice a rs.length cap, Value.slice b cl.length cap2, Value.agg #[Value.slice q.ms.a q.ms.l.length q.ms.cap, Value.int .i64 q.fr, Value.int .i64 q.to], Value.int .i64 mark] w (fun v w1 => v = .bool true ∧ St B L w1) := by
 refine enter (n := 128) Tryz.func9 rfl rfl [Value.slice a rs.length cap, Value.slice b cl.length cap2, Value.agg #[Value.slice q.ms.a q.ms.l.length q.ms.cap, Value.int .i64 q.fr, Value.int .i64 q.to], Value.int .i64 mark] rfl ?_
 refine WP.seq (WP.region rfl ?_)
 refine WO.box (l := [Value.slice q.ms.a q.ms.l.length q.ms.cap, Value.int .i64 q.fr, Value.int .i64 q.to]) hS rfl rfl rfl (fun g2 w1 lg2 hS1 => ?_)
 clear hS
 refine WO.asg rfl rfl ?_
 refine WO.nil (NX.go (WP.seq (WP.seq (WP.region rfl ?_))))
 refine WO.call rfl rfl Ty.hd42 rfl (works16_spec hS1) (fun v4 w3 pv4 => ?_)
 obtain ⟨rfl, hS3⟩ := pv4
 clear hS1
 refine WO.V (run_not rfl rfl) ?_
 refine WO.nil (NX.go ?_)
 refine WP.condF rfl (notB_t rfl) ?_
 refine WP.skip (NX.go (WP.seq (WP.seq (WP.region rfl ?_))))
 refine WO.mv rfl rfl ?_
 have hS5 := hS3.permT [1, 1] (L' := (rdH a rs.length 5 (rs.flatMap rcc)) :: allA recA rs :: cel g2 [Value.slice q.ms.a q.ms.l.length q.ms.cap, Value.int .i64 q.fr, Value.int .i64 q.to] 26 :: (rdH b cl.length 1 (cl.map Value.bool)) :: (rdH q.ms.a q.ms.l.length 3 (q.ms.l.flatMap mtc)) :: L) rfl
 clear hS3
 refine WO.call rfl rfl Ty.hd30 rfl (g13_spec rdH_rd hrz hrn hS5) (fun v7 w6 pv7 => ?_)
 obtain ⟨⟨qg, rfl, hqg⟩, hS6⟩ := pv7
 clear hS5
 refine WO.mv rfl rfl ?_
 rcases Bool.eq_false_or_eq_true qg with g22 | g22
 ·
  refine WO.off rfl rfl g22 rfl ?_
  refine WO.off rfl rfl g22 rfl ?_
  refine WO.off rfl rfl g22 rfl ?_
  refine WO.off rfl rfl g22 rfl ?_
  refine WO.V (run_pickT rfl g22 rfl) ?_
  refine WO.nil (NX.go ?_)
  refine WP.condT rfl rfl ?_
  refine WP.seq (WP.region rfl ?_)
  refine WO.asg rfl rfl ?_
  refine WO.nil (NX.go (WP.ret (NX.thenRet ?_)))
  refine NX.done (l := [.tmp 8]) rfl rfl ?_
  exact ⟨rfl, hS6.drop.drop.drop.drop.drop⟩
 ·
  refine WO.on rfl rfl g22 ?_
  refine WO.V (run_fa 0 ⟨g2, 0, none⟩ rfl rfl) ?_
  refine WO.on rfl rfl g22 ?_
  refine WO.V (run_load Ty.ag24 rfl ((hS6.cel_at 2 rfl 0).trans rfl)) ?_
  refine WO.on rfl rfl g22 ?_
  refine WO.V (run_len rfl Tryz.underlying24 rfl) ?_
  refine WO.on rfl rfl g22 ?_
  refine WO.V (run_gtr rfl rfl) ?_
  refine WO.V (run_pickF rfl g22 rfl) ?_
  refine WO.nil (NX.go ?_)
  refine WP.condP rfl (fun g27 => ?_) (fun g27 => ?_)
  ·
   refine WP.seq (WP.region rfl ?_)
   refine WO.asg rfl rfl ?_
   refine WO.nil (NX.go (WP.ret (NX.thenRet ?_)))
   refine NX.done (l := [.tmp 8]) rfl rfl ?_
   exact ⟨rfl, hS6.drop.drop.drop.drop.drop⟩
  ·
   refine WP.skip (NX.go (WP.seq ?_))
   have hqn : q.ms.l.length ≤ 4398046511104 := by omega
   refine WP.region rfl ?_
   refine WO.mv rfl rfl ?_
   refine WO.mv rfl rfl ?_
   have hS8 := hS6.permT [0, 0, 1] (L' := (rdH a rs.length 5 (rs.flatMap rcc)) :: allA recA rs :: (rdH b cl.length 1 (cl.map Value.bool)) :: cel g2 [Value.slice q.ms.a q.ms.l.length q.ms.cap, Value.int .i64 q.fr, Value.int .i64 q.to] 26 :: (rdH q.ms.a q.ms.l.length 3 (q.ms.l.flatMap mtc)) :: L) rfl
   clear hS6
   refine WO.call rfl rfl Ty.hd43 rfl (spans_spec hrz hrng hrn hcn hS8) (fun v10 w9 pv10 => ?_)
   obtain ⟨cs, bs, ba, bc, il, ia, ic, A, rfl, hC, hfl, hrun, hil, hAl, hsub, hS9⟩ := pv10
   clear hS8
   have hO := hist_ok hC hfl hrun (by rw [List.length_map]; exact hil)
   have hmz : ∀ b ∈ bs, MzB b := fun b hb => mz_of (hC.sz b hb)
   have hb30 := hO.len
   have hb64 : bs.length ≤ 64 := by omega
   have hbcap := hS9.own_le_i 0 rfl
   refine WO.mv rfl rfl ?_
   refine WO.V (run_extract rfl rfl) ?_
   refine WO.V (run_extract rfl rfl) ?_
   refine WO.V (run_extract rfl rfl) ?_
   refine WO.asg rfl rfl ?_
   refine WO.asg rfl rfl ?_
   refine WO.asg rfl rfl ?_
   refine WO.nil (NX.go (WP.seq (WP.seq (WP.region rfl ?_))))
   refine WO.mv rfl rfl ?_
   refine WO.V (run_not rfl rfl) ?_
   refine WO.nil (NX.go ?_)
   refine WP.condF rfl (notB_t rfl) ?_
   refine WP.skip (NX.go (WP.seq (WP.region rfl ?_)))
   refine WO.V (run_build (v := Value.agg #[Value.slice none 0 0]) rfl (fun w => by kernel_rfl)) ?_
   refine WO.box (l := [Value.slice none 0 0]) hS9 rfl rfl rfl (fun g12 w11 lg12 hS11 => ?_)
   clear hS9
   refine WO.asg rfl rfl ?_
   refine WO.nil (NX.go (WP.seq (WP.seq ?_)))
   have hS13 := (hS11.own_nil 95 3)
   clear hS11
   have hS14 : St B (allA (rhwA 103) [] :: own none 0 0 95 3 [] :: cel g12 [Value.slice none 0 0] 79 :: own ba bs.length bc 46 4 (bs.flatMap blc) :: allA blA bs :: own ia il.length ic 33 5 (il.flatMap rcc) :: allA recA il :: (rdH a rs.length 5 (rs.flatMap rcc)) :: allA recA rs :: (rdH b cl.length 1 (cl.map Value.bool)) :: cel g2 [Value.slice q.ms.a q.ms.l.length q.ms.cap, Value.int .i64 q.fr, Value.int .i64 q.to] 26 :: (rdH q.ms.a q.ms.l.length 3 (q.ms.l.flatMap mtc)) :: L) w11 := hS13.addPure trivial
   clear hS13
   have hS15 := rf_shut (tH := 79) (tR := 95) (tP := 103) (g := g12) (S := []) (A := []) rfl (hS14.permT [2, 1] (L' := cel g12 [Value.slice none 0 0] 79 :: own none 0 0 95 3 [] :: allA (rhwA 103) [] :: own ba bs.length bc 46 4 (bs.flatMap blc) :: allA blA bs :: own ia il.length ic 33 5 (il.flatMap rcc) :: allA recA il :: (rdH a rs.length 5 (rs.flatMap rcc)) :: allA recA rs :: (rdH b cl.length 1 (cl.map Value.bool)) :: cel g2 [Value.slice q.ms.a q.ms.l.length q.ms.cap, Value.int .i64 q.fr, Value.int .i64 q.to] 26 :: (rdH q.ms.a q.ms.l.length 3 (q.ms.l.flatMap mtc)) :: L) rfl)
   clear hS14
   obtain ⟨gr, hgr, hS16⟩ : ∃ qq, g12 = qq ∧ St B (rfA 79 95 103 qq [] :: own ba bs.length bc 46 4 (bs.flatMap blc) :: allA blA bs :: own ia il.length ic 33 5 (il.flatMap rcc) :: allA recA il :: (rdH a rs.length 5 (rs.flatMap rcc)) :: allA recA rs :: (rdH b cl.length 1 (cl.map Value.bool)) :: cel g2 [Value.slice q.ms.a q.ms.l.length q.ms.cap, Value.int .i64 q.fr, Value.int .i64 q.to] 26 :: (rdH q.ms.a q.ms.l.length 3 (q.ms.l.flatMap mtc)) :: L) w11 := ⟨_, rfl, hS15⟩
   clear hS15
   refine WP.as (d := 38) (v := Value.pointer (some ⟨gr, 0, none⟩)) rfl (by rw [hgr]) ?_
   refine WP.as (d := 12) (v := Value.pointer (some ⟨gr, 0, none⟩)) rfl (by rw [hgr]) ?_
   refine WP.region rfl ?_
   refine WO.asg rfl rfl ?_
   refine WO.nil (NX.go (WP.block ?_))
   refine WP.loop (α := Nat × List RowP) (fun x => match x with | ⟨k, Ak⟩ => [(3, Value.int .i64 mark), (6, Value.pointer (some ⟨g2, 0, none⟩)), (9, Value.slice ba bs.length bc), (10, Value.slice ia il.length ic), (12, Value.pointer (some ⟨gr, 0, none⟩)), (13, Value.int .i64 (k : Int))]) (fun x w => match x with | ⟨k, Ak⟩ => (k ≤ il.length ∧ WfH Ak (32 * k) ∧ Ak.length ≤ 256 ∧ runP Ak ((il.drop k).map Rcd.p) = (0, A)) ∧ St B (rfA 79 95 103 gr Ak :: own ia il.length ic 33 5 (il.flatMap rcc) :: allA recA il :: own ba bs.length bc 46 4 (bs.flatMap blc) :: allA blA bs :: (rdH q.ms.a q.ms.l.length 3 (q.ms.l.flatMap mtc)) :: cel g2 [Value.slice q.ms.a q.ms.l.length q.ms.cap, Value.int .i64 q.fr, Value.int .i64 q.to] 26 :: L) w) (fun x => match x with | ⟨k, Ak⟩ => il.length - k) (0, []) ⟨⟨Nat.zero_le _, wf_nil _, Nat.zero_le _, hrun⟩, ((hS16.mask [true, true, true, true, true, false, false, false] (L' := rfA 79 95 103 gr [] :: own ba bs.length bc 46 4 (bs.flatMap blc) :: allA blA bs :: own ia il.length ic 33 5 (il.flatMap rcc) :: allA recA il :: cel g2 [Value.slice q.ms.a q.ms.l.length q.ms.cap, Value.int .i64 q.fr, Value.int .i64 q.to] 26 :: (rdH q.ms.a q.ms.l.length 3 (q.ms.l.flatMap mtc)) :: L) rfl).permT [0, 2, 2, 0, 0, 1] (L' := rfA 79 95 103 gr [] :: own ia il.length ic 33 5 (il.flatMap rcc) :: allA recA il :: own ba bs.length bc 46 4 (bs.flatMap blc) :: allA blA bs :: (rdH q.ms.a q.ms.l.length 3 (q.ms.l.flatMap mtc)) :: cel g2 [Value.slice q.ms.a q.ms.l.length q.ms.cap, Value.int .i64 q.fr, Value.int .i64 q.to] 26 :: L) rfl)⟩ (Sub.cons rfl (Sub.cons rfl (Sub.cons rfl (Sub.cons rfl (Sub.cons rfl (Sub.consE rfl (by first | rfl | first | rfl | (congr 1; omega) | (simp; done) | (simp; omega)) (Sub.nil _))))))) ?_
   rintro ⟨k, Ak⟩ w17 ⟨⟨hk, hAk, hAkl, hrk⟩, hS17⟩
   clear hS16
   refine WP.seq (WP.seq (WP.region rfl ?_))
   refine WO.mv rfl rfl ?_
   refine WO.mv rfl rfl ?_
   refine WO.V (run_len rfl Tryz.underlying23 rfl) ?_
   refine WO.V (run_lss rfl rfl) ?_
   refine WO.nil (NX.go ?_)
   refine WP.condP rfl (fun g42 => ?_) (fun g42 => ?_)
   ·
    refine WP.skip (NX.go (WP.seq (WP.block ?_)))
    obtain ⟨d2, hd2⟩ : ∃ qq, il[k]? = some qq := ⟨_, List.getElem?_eq_getElem (by omega)⟩
    have hzd := hrz d2 (hsub d2 (List.mem_of_getElem? hd2))
    rw [drop_cons hd2, List.map_cons] at hrk
    have hrk2 := run_cons hrk
    have hS18 := allA_get recA_pers (List.mem_of_getElem? hd2) (hS17.permT [2] (L' := allA recA il :: rfA 79 95 103 gr Ak :: own ia il.length ic 33 5 (il.flatMap rcc) :: own ba bs.length bc 46 4 (bs.flatMap blc) :: allA blA bs :: (rdH q.ms.a q.ms.l.length 3 (q.ms.l.flatMap mtc)) :: cel g2 [Value.slice q.ms.a q.ms.l.length q.ms.cap, Value.int .i64 q.fr, Value.int .i64 q.to] 26 :: L) rfl)
    clear hS17
    have hsi : ia.isSome = true := rd_isSome ((hS18.own_rd_i 3 rfl)) (by omega)
    refine WP.region rfl ?_
    refine WO.mv rfl rfl ?_
    refine WO.mv rfl rfl ?_
    refine WO.mv rfl rfl ?_
    refine WO.V (run_indexAddr (q := adr ia (k * 5)) Tryz.underlying23 Ty.sz33 rfl rfl (by omega) (by omega) ((hS18.own_rd_i 3 rfl).2.1 (by omega)) rfl) ?_
    refine WO.V (run_loadAgg (vs := (rcc d2)) Ty.ag33 Ty.sz33 rfl ((hS18.own_rd_i 3 rfl).cells (by rw [flat_len rcc_len]; omega) (flat_part rcc_len hd2)).1 ((hS18.own_rd_i 3 rfl).cells (by rw [flat_len rcc_len]; omega) (flat_part rcc_len hd2)).2) ?_
    have hS19 := hS18.permT [2] (L' := rfA 79 95 103 gr Ak :: recA d2 :: allA recA il :: own ia il.length ic 33 5 (il.flatMap rcc) :: own ba bs.length bc 46 4 (bs.flatMap blc) :: allA blA bs :: (rdH q.ms.a q.ms.l.length 3 (q.ms.l.flatMap mtc)) :: cel g2 [Value.slice q.ms.a q.ms.l.length q.ms.cap, Value.int .i64 q.fr, Value.int .i64 q.to] 26 :: L) rfl
    clear hS18
    refine WO.call rfl rfl Ty.hd39 rfl (rhapply_spec (g := gr) hAk (by omega) (by omega) d2 hzd hS19) (fun v21 w20 pv21 => ?_)
    obtain ⟨rfl, hS20⟩ := pv21
    clear hS19
    refine WO.nil (NX.blk (NX.go (WP.region rfl ?_)))
    refine WO.mv rfl rfl ?_
    refine WO.V (run_add rfl rfl (IntWalk.i64_in _ (by omega))) ?_
    refine WO.asg rfl rfl ?_
    refine WO.nil ?_
    exact NX.again (k + 1, applyP Ak d2.p) ⟨⟨by omega, wf_applyP hAk, applyP_len hAkl, hrk2.2⟩, ((hS20.mask [true, false] (L' := rfA 79 95 103 gr (applyP Ak d2.p) :: allA recA il :: own ia il.length ic 33 5 (il.flatMap rcc) :: own ba bs.length bc 46 4 (bs.flatMap blc) :: allA blA bs :: (rdH q.ms.a q.ms.l.length 3 (q.ms.l.flatMap mtc)) :: cel g2 [Value.slice q.ms.a q.ms.l.length q.ms.cap, Value.int .i64 q.fr, Value.int .i64 q.to] 26 :: L) rfl).permT [0, 1] (L' := rfA 79 95 103 gr (applyP Ak d2.p) :: own ia il.length ic 33 5 (il.flatMap rcc) :: allA recA il :: own ba bs.length bc 46 4 (bs.flatMap blc) :: allA blA bs :: (rdH q.ms.a q.ms.l.length 3 (q.ms.l.flatMap mtc)) :: cel g2 [Value.slice q.ms.a q.ms.l.length q.ms.cap, Value.int .i64 q.fr, Value.int .i64 q.to] 26 :: L) rfl)⟩ (by show il.length - (k + 1) < il.length - k; omega) (Sub.cons rfl (Sub.cons rfl (Sub.cons rfl (Sub.cons rfl (Sub.cons rfl (Sub.consE rfl (by congr 1) (Sub.nil _)))))))
   ·
    refine WP.exit (NX.thenExit (NX.thenExit ?_))
    refine NX.blkExit ?_
    refine NX.go (WP.seq ?_)
    obtain rfl : Ak = A := by rw [List.drop_of_length_le (by omega)] at hrk; rw [List.map_nil, runP] at hrk; exact congrArg Prod.snd hrk
    have hA9 : WfH Ak (32 * 30) := hAk.mono (by omega)
    have hRng : RngA Ak := rng_run (W := []) (fun r h => by cases h) (fun r hr => by obtain ⟨d, hd, rfl⟩ := List.mem_map.1 hr; exact hrng d (hsub d hd)) hrun
    obtain ⟨u1, u2, u3⟩ := tots hO.chk hO.wgt
    refine WP.region rfl ?_
    refine WO.mv rfl rfl ?_
    refine WO.V (run_fa 0 ⟨g2, 0, none⟩ rfl rfl) ?_
    refine WO.V (run_load Ty.ag24 rfl ((hS17.cel_at 6 rfl 0).trans rfl)) ?_
    refine WO.V (run_fa 1 ⟨g2, 1, none⟩ rfl rfl) ?_
    refine WO.V (run_load Ty.ag2 rfl ((hS17.cel_at 6 rfl 1).trans rfl)) ?_
    refine WO.V (run_fa 2 ⟨g2, 2, none⟩ rfl rfl) ?_
    refine WO.V (run_load Ty.ag2 rfl ((hS17.cel_at 6 rfl 2).trans rfl)) ?_
    have hS22 := hS17.permT [0, 4] (L' := rfA 79 95 103 gr Ak :: (rdH q.ms.a q.ms.l.length 3 (q.ms.l.flatMap mtc)) :: own ia il.length ic 33 5 (il.flatMap rcc) :: allA recA il :: own ba bs.length bc 46 4 (bs.flatMap blc) :: allA blA bs :: cel g2 [Value.slice q.ms.a q.ms.l.length q.ms.cap, Value.int .i64 q.fr, Value.int .i64 q.to] 26 :: L) rfl
    clear hS17
    refine WO.call rfl rfl Ty.hd44 rfl (rhquery_spec (g := gr) rdH_rd hA9 (by omega) (by omega) hqz hqn q.fr q.to hS22) (fun v24 w23 pv24 => ?_)
    obtain ⟨a1, c1, o1, rfl, ho1, hn1, hz1, hS23⟩ := pv24
    clear hS22
    refine WO.asg rfl rfl ?_
    refine WO.nil (NX.go (WP.seq (WP.seq (WP.region rfl ?_))))
    refine WO.mv rfl rfl ?_
    have hS25 := hS23.permT [6, 6] (L' := own ba bs.length bc 46 4 (bs.flatMap blc) :: allA blA bs :: own a1 o1.length c1 68 2 (o1.flatMap msc) :: allA serA o1 :: rfA 79 95 103 gr Ak :: (rdH q.ms.a q.ms.l.length 3 (q.ms.l.flatMap mtc)) :: own ia il.length ic 33 5 (il.flatMap rcc) :: allA recA il :: cel g2 [Value.slice q.ms.a q.ms.l.length q.ms.cap, Value.int .i64 q.fr, Value.int .i64 q.to] 26 :: L) rfl
    clear hS23
    refine WO.call rfl rfl Ty.hd21 rfl ((by have z := pfollow_spec (cap := bc) (X := own ba bs.length bc 46 4 (bs.flatMap blc)) (fun h => h.own_rd.1) hmz hb64 hO.wgt hS25; rw [hO.fol] at z; exact z)) (fun v27 w26 pv27 => ?_)
    obtain ⟨rfl, hS26⟩ := pv27
    clear hS25
    refine WO.V (run_neq rfl rfl) ?_
    refine WO.mv rfl rfl ?_
    refine WO.on rfl rfl (by decide) ?_
    refine WO.mv rfl rfl ?_
    refine WO.on rfl rfl (by decide) ?_
    refine WO.V (run_fa 0 ⟨g2, 0, none⟩ rfl rfl) ?_
    refine WO.on rfl rfl (by decide) ?_
    refine WO.V (run_load Ty.ag24 rfl ((hS26.cel_at 8 rfl 0).trans rfl)) ?_
    refine WO.on rfl rfl (by decide) ?_
    refine WO.V (run_fa 1 ⟨g2, 1, none⟩ rfl rfl) ?_
    refine WO.on rfl rfl (by decide) ?_
    refine WO.V (run_load Ty.ag2 rfl ((hS26.cel_at 8 rfl 1).trans rfl)) ?_
    refine WO.on rfl rfl (by decide) ?_
    refine WO.V (run_fa 2 ⟨g2, 2, none⟩ rfl rfl) ?_
    refine WO.on rfl rfl (by decide) ?_
    refine WO.V (run_load Ty.ag2 rfl ((hS26.cel_at 8 rfl 2).trans rfl)) ?_
    refine WO.on rfl rfl (by decide) ?_
    have hS28 : St B (allA recA [] :: own ba bs.length bc 46 4 (bs.flatMap blc) :: allA blA bs :: own a1 o1.length c1 68 2 (o1.flatMap msc) :: allA serA o1 :: rfA 79 95 103 gr Ak :: (rdH q.ms.a q.ms.l.length 3 (q.ms.l.flatMap mtc)) :: own ia il.length ic 33 5 (il.flatMap rcc) :: allA recA il :: cel g2 [Value.slice q.ms.a q.ms.l.length q.ms.cap, Value.int .i64 q.fr, Value.int .i64 q.to] 26 :: L) w26 := hS26.addPure trivial
    clear hS26
    have hS29 : St B (.pure True :: allA recA [] :: own ba bs.length bc 46 4 (bs.flatMap blc) :: allA blA bs :: own a1 o1.length c1 68 2 (o1.flatMap msc) :: allA serA o1 :: rfA 79 95 103 gr Ak :: (rdH q.ms.a q.ms.l.length 3 (q.ms.l.flatMap mtc)) :: own ia il.length ic 33 5 (il.flatMap rcc) :: allA recA il :: cel g2 [Value.slice q.ms.a q.ms.l.length q.ms.cap, Value.int .i64 q.fr, Value.int .i64 q.to] 26 :: L) w26 := hS28.addPure trivial
    clear hS28
    have hS30 := hS29.permT [2, 2, 0, 0, 3] (L' := own ba bs.length bc 46 4 (bs.flatMap blc) :: allA blA bs :: .pure True :: allA recA [] :: (rdH q.ms.a q.ms.l.length 3 (q.ms.l.flatMap mtc)) :: own a1 o1.length c1 68 2 (o1.flatMap msc) :: allA serA o1 :: rfA 79 95 103 gr Ak :: own ia il.length ic 33 5 (il.flatMap rcc) :: allA recA il :: cel g2 [Value.slice q.ms.a q.ms.l.length q.ms.cap, Value.int .i64 q.fr, Value.int .i64 q.to] 26 :: L) rfl
    clear hS29
    refine WO.call rfl rfl Ty.hd18 rfl (pquery_spec (cap := bc) (cap2 := 0) (cap3 := q.ms.cap) (b := none) (dels := []) (X := own ba bs.length bc 46 4 (bs.flatMap blc)) (D := .pure True) (fun h => h.own_rd.1) (fun _ => rd_nilQ 5) rdH_rd hC.sz (fun r hr => by cases hr) (fun b hb => checkB_chk (hO.chk b hb)) hqz hqn hbcap (by omega) (by omega) (by omega) (by show 0 + _ ≤ _; omega) q.fr q.to hS30) (fun v32 w31 pv32 => ?_)
    obtain ⟨a2, c2, o2, rfl, ho2, hn2, hz2, hS31⟩ := pv32
    clear hS30
    rw [show ([] : List Rcd).map Rcd.p = [] from rfl, hO.left] at ho2
    refine WO.on rfl rfl (by decide) ?_
    refine WO.mv rfl rfl ?_
    refine WO.on rfl rfl (by decide) ?_
    have hS33 := hS31.permT [0, 0, 5, 5] (L' := own a2 o2.length c2 68 2 (o2.flatMap msc) :: allA serA o2 :: own a1 o1.length c1 68 2 (o1.flatMap msc) :: allA serA o1 :: own ba bs.length bc 46 4 (bs.flatMap blc) :: allA blA bs :: .pure True :: allA recA [] :: (rdH q.ms.a q.ms.l.length 3 (q.ms.l.flatMap mtc)) :: rfA 79 95 103 gr Ak :: own ia il.length ic 33 5 (il.flatMap rcc) :: allA recA il :: cel g2 [Value.slice q.ms.a q.ms.l.length q.ms.cap, Value.int .i64 q.fr, Value.int .i64 q.to] 26 :: L) rfl
    clear hS31
    refine WO.call rfl rfl Ty.hd17 rfl (rssame_spec (X := own a2 o2.length c2 68 2 (o2.flatMap msc)) (Y := own a1 o1.length c1 68 2 (o1.flatMap msc)) (fun h => h.own_rd.1) (fun h => h.own_rd.1) (by omega) (by omega) hz2 hz1 hS33) (fun v35 w34 pv35 => ?_)
    obtain ⟨rfl, hS34⟩ := pv35
    clear hS33
    refine WO.on rfl rfl (by decide) ?_
    refine WO.V (run_notP rfl) ?_
    refine WO.V (run_pickF rfl (by decide) rfl) ?_
    refine WO.nil (NX.go ?_)
    refine WP.condP rfl (fun g74 => ?_) (fun g74 => ?_)
    ·
     exact absurd (ho2.trans ho1.symm) (by simpa using g74)
    ·
     refine WP.skip (NX.go (WP.seq (WP.seq ?_)))
     have hS36 : St B (own a1 o1.length c1 68 2 (o1.flatMap msc) :: allA serA o1 :: own ba bs.length bc 46 4 (bs.flatMap blc) :: allA blA bs :: (rdH q.ms.a q.ms.l.length 3 (q.ms.l.flatMap mtc)) :: rfA 79 95 103 gr Ak :: own ia il.length ic 33 5 (il.flatMap rcc) :: allA recA il :: cel g2 [Value.slice q.ms.a q.ms.l.length q.ms.cap, Value.int .i64 q.fr, Value.int .i64 q.to] 26 :: L) w34 := (hS34.mask [false, false, true, true, true, true, false, false] (L' := own a1 o1.length c1 68 2 (o1.flatMap msc) :: allA serA o1 :: own ba bs.length bc 46 4 (bs.flatMap blc) :: allA blA bs :: (rdH q.ms.a q.ms.l.length 3 (q.ms.l.flatMap mtc)) :: rfA 79 95 103 gr Ak :: own ia il.length ic 33 5 (il.flatMap rcc) :: allA recA il :: cel g2 [Value.slice q.ms.a q.ms.l.length q.ms.cap, Value.int .i64 q.fr, Value.int .i64 q.to] 26 :: L) rfl)
     clear hS34
     refine WP.region rfl ?_
     refine WO.mv rfl rfl ?_
     refine WO.V (run_len rfl Tryz.underlying39 rfl) ?_
     refine WO.V (run_eql rfl rfl) ?_
     refine WO.nil (NX.go ?_)
     refine WP.condP rfl (fun g77 => ?_) (fun g77 => ?_)
     ·
      refine WP.seq ?_
      have hbn : bs = [] := List.length_eq_zero_iff.1 (by omega)
      have ho10 : o1.length = 0 := by rw [hO.nil hbn] at ho1; have h9 := congrArg List.length ho1; rw [List.length_map] at h9; exact h9
      refine WP.region rfl ?_
      refine WO.mv rfl rfl ?_
      refine WO.V (run_len rfl Tryz.underlying37 rfl) ?_
      refine WO.V (run_eql rfl rfl) ?_
      refine WO.asg rfl rfl ?_
      refine WO.nil (NX.go (WP.ret (NX.thenRet ?_)))
      refine NX.done (l := [.tmp 8]) rfl rfl ?_
      exact ⟨congrArg Value.bool (decide_eq_true (by omega)), hS36.drop.drop.drop.drop.drop.drop.drop.drop.drop⟩
     ·
      refine WP.skip (NX.go (WP.seq ?_))
      have hne : bs ≠ [] := fun e => g77 (by rw [e]; rfl)
      have hS37 : St B (own ba bs.length bc 46 4 (bs.flatMap blc) :: allA blA bs :: (rdH q.ms.a q.ms.l.length 3 (q.ms.l.flatMap mtc)) :: rfA 79 95 103 gr Ak :: own ia il.length ic 33 5 (il.flatMap rcc) :: allA recA il :: cel g2 [Value.slice q.ms.a q.ms.l.length q.ms.cap, Value.int .i64 q.fr, Value.int .i64 q.to] 26 :: L) w34 := hS36.drop.drop
      clear hS36
      refine WP.region rfl ?_
      refine WO.mv rfl rfl ?_
      refine WO.mv rfl rfl ?_
      refine WO.call rfl rfl Ty.hd22 rfl ((by have z := pjoin_spec (cap := bc) (X := own ba bs.length bc 46 4 (bs.flatMap blc)) (fun h => h.own_rd.1) hmz hb64 hO.wgt hbcap mark hS37; rw [hO.j2 hne mark, hO.j1 hne mark] at z; exact z)) (fun v39 w38 pv39 => ?_)
      obtain ⟨c9, rfl, hp9, hs9, hS38⟩ := pv39
      clear hS37
      refine WO.mv rfl rfl ?_
      refine WO.V (run_extract rfl rfl) ?_
      refine WO.V (run_extract rfl rfl) ?_
      refine WO.alloc (l := [Value.int .i64 0, Value.int .i64 0, Value.slice none 0 0, Value.slice none 0 0]) hS38 Ty.zr46 rfl rfl (fun g41 w40 lg41 hS40 => ?_)
      clear hS38
      refine WO.store (l' := (blc c9)) 0 hS40 rfl Ty.sz46 rfl rfl rfl rfl rfl (Nat.le_of_ble_eq_true rfl) rfl (fun w42 (hS42 : St B (cel g41 (blc c9) 46 :: blA c9 :: own ba bs.length bc 46 4 (bs.flatMap blc) :: allA blA bs :: (rdH q.ms.a q.ms.l.length 3 (q.ms.l.flatMap mtc)) :: rfA 79 95 103 gr Ak :: own ia il.length ic 33 5 (il.flatMap rcc) :: allA recA il :: cel g2 [Value.slice q.ms.a q.ms.l.length q.ms.cap, Value.int .i64 q.fr, Value.int .i64 q.to] 26 :: L) w42) => ?_)
      clear hS40
      refine WO.asg rfl rfl ?_
      refine WO.nil (NX.go (WP.seq (WP.seq ?_)))
      have hil1 : 1 ≤ il.length := Nat.pos_of_ne_zero fun e => hne (List.length_eq_zero_iff.1 (by have h9 := flat_ge hC.ne; rw [hfl, List.length_map, e] at h9; have h8 := hC.len; omega))
      have h1 := one_ok hp9 hA9 hAl (by rw [List.length_map]; omega) (by rw [List.length_map]; omega)
      have hto : c9.to = ((il.length : Nat) : Int) := by have h9 := congrArg BlkP.to hp9; rw [List.length_map] at h9; exact h9
      have hdl : c9.ds.l.length = 0 := by have h9 := congrArg (fun z => z.dels.length) hp9; have h8 : (c9.ds.l.map Rcd.p).length = 0 := h9; rwa [List.length_map] at h8
      refine WP.region rfl ?_
      refine WO.mv rfl rfl ?_
      refine WO.V (run_neq rfl rfl) ?_
      refine WO.mv rfl rfl ?_
      refine WO.on rfl rfl (by decide) ?_
      refine WO.V (run_fa 1 ⟨g41, 1, none⟩ rfl rfl) ?_
      refine WO.on rfl rfl (by decide) ?_
      refine WO.V (run_load Ty.ag3 rfl ((hS42.cel_at 0 rfl 1).trans rfl)) ?_
      refine WO.on rfl rfl (by decide) ?_
      refine WO.mv rfl rfl ?_
      refine WO.on rfl rfl (by decide) ?_
      refine WO.V (run_len rfl Tryz.underlying23 rfl) ?_
      refine WO.on rfl rfl (by decide) ?_
      refine WO.V (run_neq rfl rfl) ?_
      refine WO.V (run_pickF rfl (by decide) rfl) ?_
      refine WO.mv rfl rfl ?_
      refine dcase (p := ¬ c9.to = ((il.length : Nat) : Int)) (fun g96 d96 => ?_) (fun g96 d96 => ?_)
      ·
       exact absurd hto g96
      ·
       refine WO.on rfl rfl d96 ?_
       refine WO.V (run_fa 3 ⟨g41, 3, none⟩ rfl rfl) ?_
       refine WO.on rfl rfl d96 ?_
       refine WO.V (run_load Ty.ag23 rfl ((hS42.cel_at 0 rfl 3).trans rfl)) ?_
       refine WO.on rfl rfl d96 ?_
       refine WO.V (run_len rfl Tryz.underlying23 rfl) ?_
       refine WO.on rfl rfl d96 ?_
       refine WO.V (run_neq rfl rfl) ?_
       refine WO.V (run_pickF rfl d96 rfl) ?_
       refine WO.mv rfl rfl ?_
       refine dcase (p := ¬ ((c9.ds.l.length : Nat) : Int) = 0) (fun g102 d102 => ?_) (fun g102 d102 => ?_)
       ·
        exact absurd (by omega) g102
       ·
        refine WO.on rfl rfl d102 ?_
        refine WO.V (run_loadAgg (vs := (blc c9)) Ty.ag46 Ty.sz46 rfl rfl (cell_all (hS42.cel_at 0 rfl) 0 rfl)) ?_
        refine WO.on rfl rfl d102 ?_
        refine WO.buildSlice (l := (blc c9)) hS42 Tryz.underlying39 rfl (fun w => by kernel_rfl) rfl (fun g44 w43 lg44 hS43 => ?_)
        clear hS42
        have hS43 := hS43.own_of_cel (m := 1) (k := 4) rfl
        refine WO.on rfl rfl d102 ?_
        replace hS43 := (St.addPure trivial hS43 : St B (allA blA [] :: own (some ⟨g44, 0, none⟩) 1 1 46 4 (blc c9) :: cel g41 (blc c9) 46 :: blA c9 :: own ba bs.length bc 46 4 (bs.flatMap blc) :: allA blA bs :: (rdH q.ms.a q.ms.l.length 3 (q.ms.l.flatMap mtc)) :: rfA 79 95 103 gr Ak :: own ia il.length ic 33 5 (il.flatMap rcc) :: allA recA il :: cel g2 [Value.slice q.ms.a q.ms.l.length q.ms.cap, Value.int .i64 q.fr, Value.int .i64 q.to] 26 :: L) w43)
        have hS45 := allA_snoc (f := blA) (l := []) (x := c9) (hS43.permT [0, 2] (L' := allA blA [] :: blA c9 :: own (some ⟨g44, 0, none⟩) 1 1 46 4 (blc c9) :: cel g41 (blc c9) 46 :: own ba bs.length bc 46 4 (bs.flatMap blc) :: allA blA bs :: (rdH q.ms.a q.ms.l.length 3 (q.ms.l.flatMap mtc)) :: rfA 79 95 103 gr Ak :: own ia il.length ic 33 5 (il.flatMap rcc) :: allA recA il :: cel g2 [Value.slice q.ms.a q.ms.l.length q.ms.cap, Value.int .i64 q.fr, Value.int .i64 q.to] 26 :: L) rfl)
        clear hS43
        have hS46 : St B (own (some ⟨g44, 0, none⟩) ([c9].length) 1 46 4 ([c9].flatMap blc) :: allA blA [c9] :: cel g41 (blc c9) 46 :: own ba bs.length bc 46 4 (bs.flatMap blc) :: allA blA bs :: (rdH q.ms.a q.ms.l.length 3 (q.ms.l.flatMap mtc)) :: rfA 79 95 103 gr Ak :: own ia il.length ic 33 5 (il.flatMap rcc) :: allA recA il :: cel g2 [Value.slice q.ms.a q.ms.l.length q.ms.cap, Value.int .i64 q.fr, Value.int .i64 q.to] 26 :: L) w43 := (hS45.permT [1] (L' := own (some ⟨g44, 0, none⟩) 1 1 46 4 (blc c9) :: allA blA [c9] :: cel g41 (blc c9) 46 :: own ba bs.length bc 46 4 (bs.flatMap blc) :: allA blA bs :: (rdH q.ms.a q.ms.l.length 3 (q.ms.l.flatMap mtc)) :: rfA 79 95 103 gr Ak :: own ia il.length ic 33 5 (il.flatMap rcc) :: allA recA il :: cel g2 [Value.slice q.ms.a q.ms.l.length q.ms.cap, Value.int .i64 q.fr, Value.int .i64 q.to] 26 :: L) rfl)
        clear hS45
        refine WO.call rfl rfl Ty.hd21 rfl ((by have z := pfollow_spec (cap := 1) (bs := [c9]) (X := own (some ⟨g44, 0, none⟩) ([c9].length) 1 46 4 ([c9].flatMap blc)) (fun h => h.own_rd.1) (fun b hb => by rw [List.mem_singleton.1 hb]; exact mz_of h1.sz) (by show (1 : Nat) ≤ _; decide) h1.wgt hS46; rw [h1.fol] at z; exact z)) (fun v48 w47 pv48 => ?_)
        obtain ⟨rfl, hS47⟩ := pv48
        clear hS46
        have hS49 := allA_get blA_pers (List.mem_singleton_self c9) (hS47.permT [1] (L' := allA blA [c9] :: own (some ⟨g44, 0, none⟩) ([c9].length) 1 46 4 ([c9].flatMap blc) :: cel g41 (blc c9) 46 :: own ba bs.length bc 46 4 (bs.flatMap blc) :: allA blA bs :: (rdH q.ms.a q.ms.l.length 3 (q.ms.l.flatMap mtc)) :: rfA 79 95 103 gr Ak :: own ia il.length ic 33 5 (il.flatMap rcc) :: allA recA il :: cel g2 [Value.slice q.ms.a q.ms.l.length q.ms.cap, Value.int .i64 q.fr, Value.int .i64 q.to] 26 :: L) rfl)
        clear hS47
        have hS50 : St B (blA c9 :: cel g41 (blc c9) 46 :: own ba bs.length bc 46 4 (bs.flatMap blc) :: allA blA bs :: (rdH q.ms.a q.ms.l.length 3 (q.ms.l.flatMap mtc)) :: rfA 79 95 103 gr Ak :: own ia il.length ic 33 5 (il.flatMap rcc) :: allA recA il :: cel g2 [Value.slice q.ms.a q.ms.l.length q.ms.cap, Value.int .i64 q.fr, Value.int .i64 q.to] 26 :: L) w47 := (hS49.mask [true, false, false] (L' := blA c9 :: cel g41 (blc c9) 46 :: own ba bs.length bc 46 4 (bs.flatMap blc) :: allA blA bs :: (rdH q.ms.a q.ms.l.length 3 (q.ms.l.flatMap mtc)) :: rfA 79 95 103 gr Ak :: own ia il.length ic 33 5 (il.flatMap rcc) :: allA recA il :: cel g2 [Value.slice q.ms.a q.ms.l.length q.ms.cap, Value.int .i64 q.fr, Value.int .i64 q.to] 26 :: L) rfl)
        clear hS49
        refine WO.on rfl rfl d102 ?_
        refine WO.V (run_neq rfl rfl) ?_
        refine WO.V (run_pickF rfl d102 rfl) ?_
        refine WO.nil (NX.go ?_)
        refine WP.condF rfl (by decide) ?_
        refine WP.skip (NX.go (WP.seq (WP.region rfl ?_)))
        refine WO.V (run_fa 1 ⟨g2, 1, none⟩ rfl rfl) ?_
        refine WO.V (run_load Ty.ag2 rfl ((hS50.cel_at 8 rfl 1).trans rfl)) ?_
        refine WO.mv rfl rfl ?_
        refine WO.V (run_max rfl (maxI _ _)) ?_
        refine WO.asg rfl rfl ?_
        refine WO.nil (NX.go (WP.seq ?_))
        refine WD.start (fun w => (∀ jz, World.cell? w ⟨g41, jz, none⟩ = (blc c9)[jz]?) ∧ (∀ jz, World.cell? w ⟨g2, jz, none⟩ = [Value.slice q.ms.a q.ms.l.length q.ms.cap, Value.int .i64 q.fr, Value.int .i64 q.to][jz]?)) [] (bt 17 0) Ty.mo rfl (by kernel_rfl) hS50 (fun _ h => ⟨h.cel_at 1 rfl, h.cel_at 8 rfl⟩) (fun w51 hS51 s52 => ?_)
        clear hS50
        refine DT (i := 0) t9_22 (bt 17 1) s52 rfl rfl rfl rfl (fun w hs => run_loadAgg (vs := (blc c9)) Ty.ag46 Ty.sz46 rfl rfl (cell_all (hs.1) 0 rfl)) ?_
        refine DP (i := 2) t9_22 (bt 17 5) rfl rfl rfl rfl (fun w => run_fa 0 ⟨g2, 0, none⟩ rfl rfl) ?_
        refine DT (i := 3) t9_22 (bt 17 13) s52 rfl rfl rfl rfl (fun w hs => run_load Ty.ag24 rfl ((hs.2 0).trans rfl)) ?_
        refine DP (i := 4) t9_22 (bt 17 29) rfl rfl rfl rfl (fun w => run_move rfl) ?_
        refine DP (i := 5) t9_22 (bt 17 61) rfl rfl rfl rfl (fun w => run_fa 2 ⟨g2, 2, none⟩ rfl rfl) ?_
        refine DT (i := 6) t9_22 (bt 17 125) s52 rfl rfl rfl rfl (fun w hs => run_load Ty.ag2 rfl ((hs.2 2).trans rfl)) ?_
        refine DP (i := 8) t9_22 (bt 17 381) rfl rfl rfl rfl (fun w => run_move rfl) ?_
        refine DP (i := 9) t9_22 (bt 17 893) rfl rfl rfl rfl (fun w => run_fa 0 ⟨g2, 0, none⟩ rfl rfl) ?_
        refine DT (i := 10) t9_22 (bt 17 1917) s52 rfl rfl rfl rfl (fun w hs => run_load Ty.ag24 rfl ((hs.2 0).trans rfl)) ?_
        refine DP (i := 11) t9_22 (bt 17 3965) rfl rfl rfl rfl (fun w => run_move rfl) ?_
        refine DP (i := 12) t9_22 (bt 17 8061) rfl rfl rfl rfl (fun w => run_fa 2 ⟨g2, 2, none⟩ rfl rfl) ?_
        refine DT (i := 13) t9_22 (bt 17 16253) s52 rfl rfl rfl rfl (fun w hs => run_load Ty.ag2 rfl ((hs.2 2).trans rfl)) ?_
        refine WD.one (i := 1) t9_22 (bt 17 16255) rfl (by kernel_rfl) ?_
        refine WO.buildSlice (l := (blc c9)) hS51 Tryz.underlying39 rfl (fun w => by kernel_rfl) rfl (fun g54 w53 lg54 hS53 => ?_)
        clear hS51
        have hS53 := hS53.own_of_cel (m := 1) (k := 4) rfl
        refine WO.nil ?_
        have s55 : (∀ jz, World.cell? w53 ⟨g41, jz, none⟩ = (blc c9)[jz]?) ∧ (∀ jz, World.cell? w53 ⟨g2, jz, none⟩ = [Value.slice q.ms.a q.ms.l.length q.ms.cap, Value.int .i64 q.fr, Value.int .i64 q.to][jz]?) := ⟨hS53.cel_at 2 rfl, hS53.cel_at 9 rfl⟩
        refine NX.held s55 ?_
        refine WD.one (i := 7) t9_22 (bt 17 16383) rfl (by kernel_rfl) ?_
        replace hS53 := (St.addPure trivial hS53 : St B (allA blA [] :: own (some ⟨g54, 0, none⟩) 1 1 46 4 (blc c9) :: blA c9 :: cel g41 (blc c9) 46 :: own ba bs.length bc 46 4 (bs.flatMap blc) :: allA blA bs :: (rdH q.ms.a q.ms.l.length 3 (q.ms.l.flatMap mtc)) :: rfA 79 95 103 gr Ak :: own ia il.length ic 33 5 (il.flatMap rcc) :: allA recA il :: cel g2 [Value.slice q.ms.a q.ms.l.length q.ms.cap, Value.int .i64 q.fr, Value.int .i64 q.to] 26 :: L) w53)
        have hS56 := allA_snoc (f := blA) (l := []) (x := c9) (hS53.permT [0, 1] (L' := allA blA [] :: blA c9 :: own (some ⟨g54, 0, none⟩) 1 1 46 4 (blc c9) :: cel g41 (blc c9) 46 :: own ba bs.length bc 46 4 (bs.flatMap blc) :: allA blA bs :: (rdH q.ms.a q.ms.l.length 3 (q.ms.l.flatMap mtc)) :: rfA 79 95 103 gr Ak :: own ia il.length ic 33 5 (il.flatMap rcc) :: allA recA il :: cel g2 [Value.slice q.ms.a q.ms.l.length q.ms.cap, Value.int .i64 q.fr, Value.int .i64 q.to] 26 :: L) rfl)
        clear hS53
        have hS57 : St B (own (some ⟨g54, 0, none⟩) ([c9].length) 1 46 4 ([c9].flatMap blc) :: allA blA [c9] :: cel g41 (blc c9) 46 :: own ba bs.length bc 46 4 (bs.flatMap blc) :: allA blA bs :: (rdH q.ms.a q.ms.l.length 3 (q.ms.l.flatMap mtc)) :: rfA 79 95 103 gr Ak :: own ia il.length ic 33 5 (il.flatMap rcc) :: allA recA il :: cel g2 [Value.slice q.ms.a q.ms.l.length q.ms.cap, Value.int .i64 q.fr, Value.int .i64 q.to] 26 :: L) w53 := (hS56.permT [1] (L' := own (some ⟨g54, 0, none⟩) 1 1 46 4 (blc c9) :: allA blA [c9] :: cel g41 (blc c9) 46 :: own ba bs.length bc 46 4 (bs.flatMap blc) :: allA blA bs :: (rdH q.ms.a q.ms.l.length 3 (q.ms.l.flatMap mtc)) :: rfA 79 95 103 gr Ak :: own ia il.length ic 33 5 (il.flatMap rcc) :: allA recA il :: cel g2 [Value.slice q.ms.a q.ms.l.length q.ms.cap, Value.int .i64 q.fr, Value.int .i64 q.to] 26 :: L) rfl)
        clear hS56
        have hc1 := hS57.own_le_i 0 rfl
        have hS59 : St B (allA recA [] :: own (some ⟨g54, 0, none⟩) ([c9].length) 1 46 4 ([c9].flatMap blc) :: allA blA [c9] :: cel g41 (blc c9) 46 :: own ba bs.length bc 46 4 (bs.flatMap blc) :: allA blA bs :: (rdH q.ms.a q.ms.l.length 3 (q.ms.l.flatMap mtc)) :: rfA 79 95 103 gr Ak :: own ia il.length ic 33 5 (il.flatMap rcc) :: allA recA il :: cel g2 [Value.slice q.ms.a q.ms.l.length q.ms.cap, Value.int .i64 q.fr, Value.int .i64 q.to] 26 :: L) w53 := hS57.addPure trivial
        clear hS57
        have hS60 : St B (.pure True :: allA recA [] :: own (some ⟨g54, 0, none⟩) ([c9].length) 1 46 4 ([c9].flatMap blc) :: allA blA [c9] :: cel g41 (blc c9) 46 :: own ba bs.length bc 46 4 (bs.flatMap blc) :: allA blA bs :: (rdH q.ms.a q.ms.l.length 3 (q.ms.l.flatMap mtc)) :: rfA 79 95 103 gr Ak :: own ia il.length ic 33 5 (il.flatMap rcc) :: allA recA il :: cel g2 [Value.slice q.ms.a q.ms.l.length q.ms.cap, Value.int .i64 q.fr, Value.int .i64 q.to] 26 :: L) w53 := hS59.addPure trivial
        clear hS59
        have hS61 := hS60.permT [2, 2, 0, 0, 3] (L' := own (some ⟨g54, 0, none⟩) ([c9].length) 1 46 4 ([c9].flatMap blc) :: allA blA [c9] :: .pure True :: allA recA [] :: (rdH q.ms.a q.ms.l.length 3 (q.ms.l.flatMap mtc)) :: cel g41 (blc c9) 46 :: own ba bs.length bc 46 4 (bs.flatMap blc) :: allA blA bs :: rfA 79 95 103 gr Ak :: own ia il.length ic 33 5 (il.flatMap rcc) :: allA recA il :: cel g2 [Value.slice q.ms.a q.ms.l.length q.ms.cap, Value.int .i64 q.fr, Value.int .i64 q.to] 26 :: L) rfl
        clear hS60
        refine WO.call rfl rfl Ty.hd18 rfl (pquery_spec (cap := 1) (cap2 := 0) (cap3 := q.ms.cap) (b := none) (dels := []) (bs := [c9]) (X := own (some ⟨g54, 0, none⟩) ([c9].length) 1 46 4 ([c9].flatMap blc)) (D := .pure True) (fun h => h.own_rd.1) (fun _ => rd_nilQ 5) rdH_rd (fun b hb => by rw [List.mem_singleton.1 hb]; exact h1.sz) (fun r hr => by cases hr) h1.ck hqz hqn hc1 (by show (1 : Nat) ≤ _; decide) (Nat.le_trans h1.rt (by decide)) (Nat.le_trans h1.pt (by decide)) (by rw [h1.dt]; decide) (max q.fr mark) q.to hS61) (fun v63 w62 pv63 => ?_)
        obtain ⟨a3, c3, o3, rfl, ho3, hn3, hz3, hS62⟩ := pv63
        clear hS61
        rw [show ([] : List Rcd).map Rcd.p = [] from rfl, show [c9].map BlkV.p = [c9.p] from rfl, h1.left, qry_mark (Int.le_max_right ..) hRng] at ho3
        refine WO.nil ?_
        have s64 : (∀ jz, World.cell? w62 ⟨g41, jz, none⟩ = (blc c9)[jz]?) ∧ (∀ jz, World.cell? w62 ⟨g2, jz, none⟩ = [Value.slice q.ms.a q.ms.l.length q.ms.cap, Value.int .i64 q.fr, Value.int .i64 q.to][jz]?) := ⟨hS62.cel_at 7 rfl, hS62.cel_at 13 rfl⟩
        refine NX.held s64 ?_
        refine WD.one (i := 14) t9_22 (bt 17 32767) rfl (by kernel_rfl) ?_
        have hS65 := hS62.permT [10, 6] (L' := rfA 79 95 103 gr Ak :: (rdH q.ms.a q.ms.l.length 3 (q.ms.l.flatMap mtc)) :: own a3 o3.length c3 68 2 (o3.flatMap msc) :: allA serA o3 :: own (some ⟨g54, 0, none⟩) ([c9].length) 1 46 4 ([c9].flatMap blc) :: allA blA [c9] :: .pure True :: allA recA [] :: cel g41 (blc c9) 46 :: own ba bs.length bc 46 4 (bs.flatMap blc) :: allA blA bs :: own ia il.length ic 33 5 (il.flatMap rcc) :: allA recA il :: cel g2 [Value.slice q.ms.a q.ms.l.length q.ms.cap, Value.int .i64 q.fr, Value.int .i64 q.to] 26 :: L) rfl
        clear hS62
        refine WO.call rfl rfl Ty.hd44 rfl (rhquery_spec (g := gr) rdH_rd hA9 (by omega) (by omega) hqz hqn (max q.fr mark) q.to hS65) (fun v67 w66 pv67 => ?_)
        obtain ⟨a4, c4, o4, rfl, ho4, hn4, hz4, hS66⟩ := pv67
        clear hS65
        refine WO.nil ?_
        have s68 : (∀ jz, World.cell? w66 ⟨g41, jz, none⟩ = (blc c9)[jz]?) ∧ (∀ jz, World.cell? w66 ⟨g2, jz, none⟩ = [Value.slice q.ms.a q.ms.l.length q.ms.cap, Value.int .i64 q.fr, Value.int .i64 q.to][jz]?) := ⟨hS66.cel_at 10 rfl, hS66.cel_at 15 rfl⟩
        refine NX.held s68 ?_
        refine WD.one (i := 15) t9_22 (bt 17 65535) rfl (by kernel_rfl) ?_
        have hS69 := hS66.permT [4, 4] (L' := own a3 o3.length c3 68 2 (o3.flatMap msc) :: allA serA o3 :: own a4 o4.length c4 68 2 (o4.flatMap msc) :: allA serA o4 :: rfA 79 95 103 gr Ak :: (rdH q.ms.a q.ms.l.length 3 (q.ms.l.flatMap mtc)) :: own (some ⟨g54, 0, none⟩) ([c9].length) 1 46 4 ([c9].flatMap blc) :: allA blA [c9] :: .pure True :: allA recA [] :: cel g41 (blc c9) 46 :: own ba bs.length bc 46 4 (bs.flatMap blc) :: allA blA bs :: own ia il.length ic 33 5 (il.flatMap rcc) :: allA recA il :: cel g2 [Value.slice q.ms.a q.ms.l.length q.ms.cap, Value.int .i64 q.fr, Value.int .i64 q.to] 26 :: L) rfl
        clear hS66
        refine WO.call rfl rfl Ty.hd17 rfl (rssame_spec (X := own a3 o3.length c3 68 2 (o3.flatMap msc)) (Y := own a4 o4.length c4 68 2 (o4.flatMap msc)) (fun h => h.own_rd.1) (fun h => h.own_rd.1) (by omega) (by omega) hz3 hz4 hS69) (fun v71 w70 pv71 => ?_)
        obtain ⟨rfl, hS70⟩ := pv71
        clear hS69
        refine WO.nil ?_
        have s72 : (∀ jz, World.cell? w70 ⟨g41, jz, none⟩ = (blc c9)[jz]?) ∧ (∀ jz, World.cell? w70 ⟨g2, jz, none⟩ = [Value.slice q.ms.a q.ms.l.length q.ms.cap, Value.int .i64 q.fr, Value.int .i64 q.to][jz]?) := ⟨hS70.cel_at 10 rfl, hS70.cel_at 15 rfl⟩
        refine NX.held s72 ?_
        refine DP (i := 16) t9_22 (bt 17 131071) rfl rfl rfl rfl (fun w => run_assign rfl) ?_
        refine WD.done t9_22 (by kernel_rfl) ?_
        refine NX.go (WP.ret ?_)
        refine NX.done (l := [.tmp 8]) rfl rfl ?_
        have heq : o3.map MSer.p = o4.map MSer.p := by rw [ho3, ho4]
        exact ⟨congrArg Value.bool (decide_eq_true heq), hS70.drop.drop.drop.drop.drop.drop.drop.drop.drop.drop.drop.drop.drop.drop.drop.drop⟩
end Go.Proofs.YtidoidoelgfnaaaGreatDoor.SL
