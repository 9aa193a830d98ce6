/- MergeLasts: the law. -/
import Derived.Test.YtidoidoelgfnaaaGreatDoorMhM
import Derived.Test.YtidoidoelgfnaaaGreatDoorHis1M
import Derived.Test.YtidoidoelgfnaaaGreatDoorKj1M
import Derived.Test.YtidoidoelgfnaaaGreatDoorRhM
namespace Go.Proofs.YtidoidoelgfnaaaGreatDoor.SL
open Go.RowKit Go.Proofs.YtidoidoelgfnaaaGreatDoor
open Go.Proofs.YtidoidoelgfnaaaGreatDoorW.PrintLast (rtab opsOf)
set_option linter.unusedVariables false
set_option linter.unusedSimpArgs false

theorem HistOk.j2 {bs : List BlkV} {L : List RcP} {A : List RowP} (h : HistOk bs L A) (hn : bs ≠ []) (mark : Int) : (joinV bs mark).2 = 0 := by rw [h.join hn mark]
theorem HistOk.j1 {bs : List BlkV} {L : List RcP} {A : List RowP} (h : HistOk bs L A) (hn : bs ≠ []) (mark : Int) : (joinV bs mark).1 = ⟨1, (L.length : Int), A.map (flt (inF mark 9223372036854775807)), []⟩ := by rw [h.join hn mark]
theorem run_cons {r : RcP} {l : List RcP} {W A : List RowP} (h : runP W (r :: l) = (0, A)) : tryP W r = 0 ∧ runP (applyP W r) l = (0, A) := by
  rw [runP] at h
  split at h
  · exact ⟨by assumption, h⟩
  · rename_i ht; exact absurd (congrArg Prod.fst h) ht
theorem map_at {l S : List MRow} {g : RowP → RowP} {i : Nat} {u r : MRow} (h : l.map MRow.p = (S.map MRow.p).map g) (hu : l[i]? = some u) (hr : S[i]? = some r) : u.p = g r.p := by
  have h1 : (l.map MRow.p)[i]? = some u.p := by rw [List.getElem?_map, hu]; rfl
  rw [h, List.getElem?_map, List.getElem?_map, hr] at h1
  exact (Option.some.inj h1).symm
theorem t11_19 : rtab .any (opsOf Tryz.f11 19) = (true, [([], []), ([], []), ([0, 1], [0, 1]), ([2], [2]), ([3], [3]), ([], []), ([5], [5]), ([6], [6]), ([7], [7]), ([], []), ([8, 9], [8, 9]), ([10], [10]), ([11], [11]), ([4, 12], [4, 12]), ([13], [13]), ([14, 13], [14]), ([15], [15]), ([15], [15]), ([16, 17, 15], [15, 16, 17]), ([18, 15], [15, 18]), ([19, 15], [15, 19]), ([15], [15]), ([21, 15], [15, 21]), ([22, 15], [15, 22]), ([23, 15], [15, 23]), ([15], [15]), ([24, 25, 15], [15, 24, 25]), ([26, 15], [15, 26]), ([27, 15], [15, 27]), ([20, 28, 15], [15, 20, 28]), ([15, 29], [15, 29]), ([30, 15], [30]), ([31], [31]), ([31], [31]), ([32, 33, 31], [31, 32, 33]), ([34, 31], [31, 34]), ([35, 31], [31, 35]), ([36, 31], [31, 36]), ([37, 31], [31, 37]), ([31, 38], [31, 38])]) := by kernel_rfl
theorem t11_24 : rtab .any (opsOf Tryz.f11 24) = (true, [([], []), ([0], [0]), ([1], [1]), ([2], [2]), ([3, 2], [2, 3]), ([4, 2], [2, 4]), ([2], [2]), ([6, 2], [2, 6]), ([7, 2], [2, 7]), ([8, 2], [2, 8]), ([9, 2], [2, 9]), ([5, 10, 2], [2, 5, 10]), ([2, 11], [2, 11])]) := by kernel_rfl
theorem t11_29 : rtab .any (opsOf Tryz.f11 29) = (true, [([], []), ([0], [0]), ([], []), ([1, 2], [1, 2]), ([3], [3]), ([4], [4]), ([], []), ([6], [6]), ([7], [7]), ([8], [8]), ([], []), ([9, 10], [9, 10]), ([11], [11]), ([12], [12]), ([5, 13], [5, 13])]) := by kernel_rfl
theorem mergeLasts_core {B w : World} {L : List HP} {a b : Option Addr} {cap cap2 : Nat} {rs : List Rcd} {cl : List Bool} (hrz : ∀ r ∈ rs, SzR r) (hrng : ∀ r ∈ rs, RngP r.p) (hrn : rs.length ≤ 2814749767106) (hcn : cl.length ≤ 140737488355328) (mark : Int) (hmk : -9223372036854775808 ≤ mark ∧ mark ≤ 9223372036854775807) (hS : St B ((rdH a rs.length 5 (rs.flatMap rcc)) :: allA recA rs :: (rdH b cl.length 1 (cl.map Value.bool)) :: L) w) : Does Tryz.prog 11 [Value.slice a rs.length cap, Value.slice b cl.length cap2, Value.int .i64 mark] w (fun v w1 => v = .bool true ∧ St B L w1) := by
 refine enter (n := 144) Tryz.func11 rfl rfl [Value.slice a rs.length cap, Value.slice b cl.length cap2, Value.int .i64 mark] rfl ?_
 refine WP.seq (WP.region rfl ?_)
 refine WO.asg rfl rfl ?_
 refine WO.nil (NX.go (WP.seq (WP.seq (WP.region rfl ?_))))
 refine WO.call rfl rfl Ty.hd42 rfl (works16_spec hS) (fun v2 w1 pv2 => ?_)
 obtain ⟨rfl, hS1⟩ := pv2
 clear hS
 refine WO.V (run_not rfl rfl) ?_
 refine WO.nil (NX.go ?_)
 refine WP.condF rfl (notB_t rfl) ?_
 refine WP.skip (NX.go (WP.seq (WP.seq (WP.region rfl ?_))))
 refine WO.mv rfl rfl ?_
 refine WO.call rfl rfl Ty.hd30 rfl (g13_spec rdH_rd hrz hrn hS1) (fun v4 w3 pv4 => ?_)
 obtain ⟨⟨qg, rfl, hqg⟩, hS3⟩ := pv4
 clear hS1
 refine WO.nil (NX.go ?_)
 refine WP.condB rfl (fun g20 => ?_) (fun g20 => ?_)
 ·
  refine WP.seq (WP.region rfl ?_)
  refine WO.asg rfl rfl ?_
  refine WO.nil (NX.go (WP.ret (NX.thenRet ?_)))
  refine NX.done (l := [.tmp 6]) rfl rfl ?_
  exact ⟨rfl, hS3.drop.drop.drop⟩
 ·
  refine WP.skip (NX.go (WP.seq (WP.region rfl ?_)))
  refine WO.mv rfl rfl ?_
  refine WO.mv rfl rfl ?_
  refine WO.call rfl rfl Ty.hd43 rfl (spans_spec hrz hrng hrn hcn hS3) (fun v6 w5 pv6 => ?_)
  obtain ⟨cs, bs, ba, bc, il, ia, ic, A, rfl, hC, hfl, hrun, hil, hAl, hsub, hS5⟩ := pv6
  clear hS3
  have hO := hist_ok hC hfl hrun (by rw [List.length_map]; exact hil)
  have hmz : ∀ b ∈ bs, MzB b := fun b hb => mz_of (hC.sz b hb)
  have hb30 := hO.len
  have hb64 : bs.length ≤ 64 := by omega
  have hbcap := hS5.own_le_i 0 rfl
  refine WO.mv rfl rfl ?_
  refine WO.V (run_extract rfl rfl) ?_
  refine WO.V (run_extract rfl rfl) ?_
  refine WO.V (run_extract rfl rfl) ?_
  refine WO.asg rfl rfl ?_
  refine WO.asg rfl rfl ?_
  refine WO.asg rfl rfl ?_
  refine WO.nil (NX.go (WP.seq (WP.seq (WP.region rfl ?_))))
  refine WO.mv rfl rfl ?_
  refine WO.V (run_not rfl rfl) ?_
  refine WO.nil (NX.go ?_)
  refine WP.condF rfl (notB_t rfl) ?_
  refine WP.skip (NX.go (WP.seq (WP.region rfl ?_)))
  refine WO.V (run_build (v := Value.agg #[Value.slice none 0 0]) rfl (fun w => by kernel_rfl)) ?_
  refine WO.box (l := [Value.slice none 0 0]) hS5 rfl rfl rfl (fun g8 w7 lg8 hS7 => ?_)
  clear hS5
  refine WO.asg rfl rfl ?_
  refine WO.nil (NX.go (WP.seq (WP.seq ?_)))
  have hS9 := (hS7.own_nil 95 3)
  clear hS7
  have hS10 : St B (allA (rhwA 103) [] :: own none 0 0 95 3 [] :: cel g8 [Value.slice none 0 0] 79 :: own ba bs.length bc 46 4 (bs.flatMap blc) :: allA blA bs :: own ia il.length ic 33 5 (il.flatMap rcc) :: allA recA il :: _::_::_::L) w7 := hS9.addPure trivial
  clear hS9
  have hS11 := rf_shut (tH := 79) (tR := 95) (tP := 103) (g := g8) (S := []) (A := []) rfl (hS10.permT [2, 1] (L' := _::_::_::_::_::_::_::_::_::_::L) rfl)
  clear hS10
  obtain ⟨gr, hgr, hS12⟩ : ∃ qq, g8 = qq ∧ St B (rfA 79 95 103 qq [] :: own ba bs.length bc 46 4 (bs.flatMap blc) :: allA blA bs :: own ia il.length ic 33 5 (il.flatMap rcc) :: allA recA il :: (rdH a rs.length 5 (rs.flatMap rcc)) :: allA recA rs :: (rdH b cl.length 1 (cl.map Value.bool)) :: L) w7 := ⟨_, rfl, hS11⟩
  clear hS11
  refine WP.as (d := 31) (v := Value.pointer (some ⟨gr, 0, none⟩)) rfl (by rw [hgr]) ?_
  refine WP.as (d := 10) (v := Value.pointer (some ⟨gr, 0, none⟩)) rfl (by rw [hgr]) ?_
  refine WP.region rfl ?_
  refine WO.asg rfl rfl ?_
  refine WO.nil (NX.go (WP.block ?_))
  refine WP.loop (α := Nat × List RowP) (fun x => match x with | ⟨k, Ak⟩ => [(2, Value.int .i64 mark), (7, Value.slice ba bs.length bc), (8, Value.slice ia il.length ic), (10, Value.pointer (some ⟨gr, 0, none⟩)), (11, Value.int .i64 (k : Int))]) (fun x w => match x with | ⟨k, Ak⟩ => (k ≤ il.length ∧ WfH Ak (32 * k) ∧ Ak.length ≤ 256 ∧ runP Ak ((il.drop k).map Rcd.p) = (0, A)) ∧ St B (rfA 79 95 103 gr Ak :: own ia il.length ic 33 5 (il.flatMap rcc) :: allA recA il :: own ba bs.length bc 46 4 (bs.flatMap blc) :: allA blA bs :: L) w) (fun x => match x with | ⟨k, Ak⟩ => il.length - k) (0, []) ⟨⟨Nat.zero_le _, wf_nil _, Nat.zero_le _, hrun⟩, ((hS12.mask [true, true, true, true, true, false, false, false] (L' := _::_::_::_::_::L) rfl).permT [0, 2, 2] (L' := _::_::_::_::_::L) rfl)⟩ (Sub.cons rfl (Sub.cons rfl (Sub.cons rfl (Sub.cons rfl (Sub.consE rfl (by first | rfl | first | rfl | (congr 1; omega) | (simp; done) | (simp; omega)) (Sub.nil _)))))) ?_
  rintro ⟨k, Ak⟩ w13 ⟨⟨hk, hAk, hAkl, hrk⟩, hS13⟩
  clear hS12
  refine WP.seq (WP.seq (WP.region rfl ?_))
  refine WO.mv rfl rfl ?_
  refine WO.mv rfl rfl ?_
  refine WO.V (run_len rfl Tryz.underlying23 rfl) ?_
  refine WO.V (run_lss rfl rfl) ?_
  refine WO.nil (NX.go ?_)
  refine WP.condP rfl (fun g35 => ?_) (fun g35 => ?_)
  ·
   refine WP.skip (NX.go (WP.seq (WP.block ?_)))
   obtain ⟨d2, hd2⟩ : ∃ qq, il[k]? = some qq := ⟨_, List.getElem?_eq_getElem (by omega)⟩
   have hzd := hrz d2 (hsub d2 (List.mem_of_getElem? hd2))
   rw [drop_cons hd2, List.map_cons] at hrk
   have hrk2 := run_cons hrk
   have hS14 := allA_get recA_pers (List.mem_of_getElem? hd2) (hS13.permT [2] (L' := _::_::_::_::_::L) rfl)
   clear hS13
   have hsi : ia.isSome = true := rd_isSome ((hS14.own_rd_i 3 rfl)) (by omega)
   refine WP.region rfl ?_
   refine WO.mv rfl rfl ?_
   refine WO.mv rfl rfl ?_
   refine WO.mv rfl rfl ?_
   refine WO.V (run_indexAddr (q := adr ia (k * 5)) Tryz.underlying23 Ty.sz33 rfl rfl (by omega) (by omega) ((hS14.own_rd_i 3 rfl).2.1 (by omega)) rfl) ?_
   refine WO.V (run_loadAgg (vs := (rcc d2)) Ty.ag33 Ty.sz33 rfl ((hS14.own_rd_i 3 rfl).cells (by rw [flat_len rcc_len]; omega) (flat_part rcc_len hd2)).1 ((hS14.own_rd_i 3 rfl).cells (by rw [flat_len rcc_len]; omega) (flat_part rcc_len hd2)).2) ?_
   have hS15 := hS14.permT [2] (L' := _::_::_::_::_::_::L) rfl
   clear hS14
   refine WO.call rfl rfl Ty.hd39 rfl (rhapply_spec (g := gr) hAk (by omega) (by omega) d2 hzd hS15) (fun v17 w16 pv17 => ?_)
   obtain ⟨rfl, hS16⟩ := pv17
   clear hS15
   refine WO.nil (NX.blk (NX.go (WP.region rfl ?_)))
   refine WO.mv rfl rfl ?_
   refine WO.V (run_add rfl rfl (IntWalk.i64_in _ (by omega))) ?_
   refine WO.asg rfl rfl ?_
   refine WO.nil ?_
   exact NX.again (k + 1, applyP Ak d2.p) ⟨⟨by omega, wf_applyP hAk, applyP_len hAkl, hrk2.2⟩, ((hS16.mask [true, false] (L' := _::_::_::_::_::L) rfl).permT [0, 1] (L' := _::_::_::_::_::L) rfl)⟩ (by show il.length - (k + 1) < il.length - k; omega) (Sub.cons rfl (Sub.cons rfl (Sub.cons rfl (Sub.cons rfl (Sub.consE rfl (by congr 1) (Sub.nil _))))))
  ·
   refine WP.exit (NX.thenExit (NX.thenExit ?_))
   refine NX.blkExit ?_
   refine NX.go (WP.seq ?_)
   obtain rfl : Ak = A := by rw [List.drop_of_length_le (by omega)] at hrk; rw [List.map_nil, runP] at hrk; exact congrArg Prod.snd hrk
   have hA9 : WfH Ak (32 * 30) := hAk.mono (by omega)
   refine WP.region rfl ?_
   refine WO.mv rfl rfl ?_
   have hS18 := hS13.permT [3, 3] (L' := _::_::_::_::_::L) rfl
   clear hS13
   refine WO.call rfl rfl Ty.hd27 rfl (plasts_spec (cap := bc) (X := own ba bs.length bc 46 4 (bs.flatMap blc)) (fun h => h.own_rd.1) hmz hb64 hO.wgt hO.chk hS18) (fun v20 w19 pv20 => ?_)
   obtain ⟨xa, xc, l1, rfl, hm1, hl1, hc1, hq1, hS19⟩ := pv20
   clear hS18
   refine WO.asg rfl rfl ?_
   refine WO.nil (NX.go (WP.seq (WP.seq ?_)))
   obtain ⟨S, ra, rc, hSA, hS21⟩ := rf_open (hS19.permT [4] (L' := _::_::_::_::_::_::_::L) rfl)
   clear hS19
   have hSl : S.length = Ak.length := by rw [← hSA, List.length_map]
   have hlS : l1.length = S.length := by have h9 := congrArg List.length (hm1.trans hO.last); rw [List.length_map, List.length_map] at h9; omega
   refine WP.region rfl ?_
   refine WO.mv rfl rfl ?_
   refine WO.V (run_len rfl Tryz.underlying44 rfl) ?_
   refine WO.mv rfl rfl ?_
   refine WO.V (run_nilCheck rfl) ?_
   refine WO.V (run_fa 0 ⟨gr, 0, none⟩ rfl rfl) ?_
   refine WO.V (run_load Ty.ag77 rfl ((hS21.cel_at 0 rfl 0).trans rfl)) ?_
   refine WO.V (run_len rfl Tryz.underlying77 rfl) ?_
   refine WO.V (run_neq rfl rfl) ?_
   refine WO.nil (NX.go ?_)
   refine WP.condP rfl (fun g53 => ?_) (fun g53 => ?_)
   ·
    exact absurd (by omega) g53
   ·
    refine WP.skip (NX.go (WP.seq (WP.seq (WP.region rfl ?_))))
    refine WO.asg rfl rfl ?_
    refine WO.nil (NX.go (WP.block ?_))
    refine WP.loop (α := Nat) (fun x => match x with | i => [(2, Value.int .i64 mark), (7, Value.slice ba bs.length bc), (10, Value.pointer (some ⟨gr, 0, none⟩)), (12, Value.slice xa l1.length xc), (13, Value.int .i64 (i : Int))]) (fun x w => match x with | i => (i ≤ l1.length) ∧ St B (own xa l1.length xc 93 3 (l1.flatMap mrc) :: allA mrA l1 :: cel gr [Value.slice ra S.length rc] 79 :: own ra S.length rc 95 3 (S.flatMap hsc) :: allA (rhwA 103) S :: own ba bs.length bc 46 4 (bs.flatMap blc) :: allA blA bs :: L) w) (fun x => match x with | i => l1.length - i) 0 ⟨Nat.zero_le _, ((hS21.mask [true, true, true, true, true, true, true, false, false] (L' := _::_::_::_::_::_::_::L) rfl).permT [3, 3] (L' := _::_::_::_::_::_::_::L) rfl)⟩ (Sub.cons rfl (Sub.cons rfl (Sub.cons rfl (Sub.cons rfl (Sub.consE rfl (by first | rfl | first | rfl | (congr 1; omega) | (simp; done) | (simp; omega)) (Sub.nil _)))))) ?_
    rintro i w22 ⟨hi, hS22⟩
    clear hS21
    refine WP.seq (WP.seq (WP.region rfl ?_))
    refine WO.mv rfl rfl ?_
    refine WO.mv rfl rfl ?_
    refine WO.V (run_len rfl Tryz.underlying44 rfl) ?_
    refine WO.V (run_lss rfl rfl) ?_
    refine WO.nil (NX.go ?_)
    refine WP.condP rfl (fun g57 => ?_) (fun g57 => ?_)
    ·
     refine WP.skip (NX.go (WP.seq (WP.block (WP.seq ?_))))
     obtain ⟨u, hu⟩ : ∃ qq, l1[i]? = some qq := ⟨_, List.getElem?_eq_getElem (by omega)⟩
     obtain ⟨r, hr⟩ : ∃ qq, S[i]? = some qq := ⟨_, List.getElem?_eq_getElem (by omega)⟩
     have hur := map_at (g := stripR) (l := l1) (S := S) (by rw [hSA, hm1, hO.last]) hu hr
     have e1 : u.lb.l = r.lb.l := congrArg RowP.lb hur
     have e2 : u.last = r.last := congrArg RowP.last hur
     have e3 : u.pt.l = [] := congrArg RowP.pts hur
     have hS23 := mrA_get (List.mem_of_getElem? hu) (hS22.permT [1] (L' := _::_::_::_::_::_::_::L) rfl)
     clear hS22
     have hS24 := rw_lab hr (hS23.permT [6] (L' := _::_::_::_::_::_::_::_::_::L) rfl)
     clear hS23
     have hsx : xa.isSome = true := rd_isSome ((hS24.own_rd_i 5 rfl)) (by omega)
     have hsr : ra.isSome = true := rd_isSome ((hS24.own_rd_i 7 rfl)) (by omega)
     have hul : u.lb.l.length ≤ 4398046511104 := (chk_SzP (hc1 u (List.mem_of_getElem? hu))).2
     have hrl : r.lb.l.length ≤ 4398046511104 := by rw [← e1]; exact hul
     refine WD.start (fun w => (∀ jz, World.cell? w ⟨gr, jz, none⟩ = [Value.slice ra S.length rc][jz]?) ∧ Rd w xa l1.length 3 (l1.flatMap mrc) ∧ Rd w ra S.length 3 (S.flatMap hsc)) [] (bt 40 0) Ty.mo rfl (by kernel_rfl) hS24 (fun _ h => ⟨h.cel_at 6 rfl, (h.own_rd_i 5 rfl), (h.own_rd_i 7 rfl)⟩) (fun w25 hS25 s26 => ?_)
     clear hS24
     refine DP (i := 0) t11_19 (bt 40 1) rfl rfl rfl rfl (fun w => run_move rfl) ?_
     refine DP (i := 1) t11_19 (bt 40 3) rfl rfl rfl rfl (fun w => run_move rfl) ?_
     refine DT (i := 2) t11_19 (bt 40 7) s26 rfl rfl rfl rfl (fun w hs => run_indexAddr (q := adr xa (i * 3)) Tryz.underlying44 Ty.sz93 rfl rfl (by omega) (by omega) ((hs.2.1).2.1 (by omega)) rfl) ?_
     refine DP (i := 3) t11_19 (bt 40 15) rfl rfl rfl rfl (fun w => run_fa 0 (adr xa (i * 3 + 0)) rfl (adr_add _ (by assumption) _ _)) ?_
     refine DT (i := 4) t11_19 (bt 40 31) s26 rfl rfl rfl rfl (fun w hs => run_load Ty.ag65 rfl ((hs.2.1).cell ((flat_get mrc_len hu (j := 0) (by decide)).trans rfl))) ?_
     refine DP (i := 5) t11_19 (bt 40 63) rfl rfl rfl rfl (fun w => run_move rfl) ?_
     refine DP (i := 6) t11_19 (bt 40 127) rfl rfl rfl rfl (fun w => run_nilCheck rfl) ?_
     refine DP (i := 7) t11_19 (bt 40 255) rfl rfl rfl rfl (fun w => run_fa 0 ⟨gr, 0, none⟩ rfl rfl) ?_
     refine DT (i := 8) t11_19 (bt 40 511) s26 rfl rfl rfl rfl (fun w hs => run_load Ty.ag77 rfl ((hs.1 0).trans rfl)) ?_
     refine DP (i := 9) t11_19 (bt 40 1023) rfl rfl rfl rfl (fun w => run_move rfl) ?_
     refine DT (i := 10) t11_19 (bt 40 2047) s26 rfl rfl rfl rfl (fun w hs => run_indexAddr (q := adr ra (i * 3)) Tryz.underlying77 Ty.sz95 rfl rfl (by omega) (by omega) ((hs.2.2).2.1 (by omega)) rfl) ?_
     refine DP (i := 11) t11_19 (bt 40 4095) rfl rfl rfl rfl (fun w => run_fa 0 (adr ra (i * 3 + 0)) rfl (adr_add _ (by assumption) _ _)) ?_
     refine DT (i := 12) t11_19 (bt 40 8191) s26 rfl rfl rfl rfl (fun w hs => run_load Ty.ag65 rfl ((hs.2.2).cell ((flat_get hsc_len hr (j := 0) (by decide)).trans rfl))) ?_
     refine WD.one (i := 13) t11_19 (bt 40 16383) rfl (by kernel_rfl) ?_
     have hS27 := hS25.permT [2] (L' := _::_::_::_::_::_::_::_::_::_::L) rfl
     clear hS25
     refine WO.call rfl rfl Ty.hd45 rfl (rsame_spec rdH_rd rdH_rd hul hrl hS27) (fun v29 w28 pv29 => ?_)
     obtain ⟨rfl, hS28⟩ := pv29
     clear hS27
     refine WO.nil ?_
     have s30 : (∀ jz, World.cell? w28 ⟨gr, jz, none⟩ = [Value.slice ra S.length rc][jz]?) ∧ Rd w28 xa l1.length 3 (l1.flatMap mrc) ∧ Rd w28 ra S.length 3 (S.flatMap hsc) := ⟨hS28.cel_at 6 rfl, (hS28.own_rd_i 5 rfl), (hS28.own_rd_i 7 rfl)⟩
     refine NX.held s30 ?_
     refine DP (i := 14) t11_19 (bt 40 32767) rfl rfl rfl rfl (fun w => run_notP rfl) ?_
     refine DP (i := 15) t11_19 (bt 40 65535) rfl rfl rfl rfl (fun w => run_move rfl) ?_
     refine dcase (p := ¬ (u.lb.l = r.lb.l)) (fun g75 d75 => ?_) (fun g75 d75 => ?_)
     ·
      exact absurd e1 g75
     ·
      refine DPn (i := 16) t11_19 (bt 40 131071) rfl rfl rfl d75 rfl (fun w => run_move rfl) ?_
      refine DPn (i := 17) t11_19 (bt 40 262143) rfl rfl rfl d75 rfl (fun w => run_move rfl) ?_
      refine DTn (i := 18) t11_19 (bt 40 524287) s30 rfl rfl rfl d75 rfl (fun w hs => run_indexAddr (q := adr xa (i * 3)) Tryz.underlying44 Ty.sz93 rfl rfl (by omega) (by omega) ((hs.2.1).2.1 (by omega)) rfl) ?_
      refine DPn (i := 19) t11_19 (bt 40 1048575) rfl rfl rfl d75 rfl (fun w => run_fa 1 (adr xa (i * 3 + 1)) rfl (adr_add _ (by assumption) _ _)) ?_
      refine DTn (i := 20) t11_19 (bt 40 2097151) s30 rfl rfl rfl d75 rfl (fun w hs => run_load Ty.ag2 rfl ((hs.2.1).cell ((flat_get mrc_len hu (j := 1) (by decide)).trans rfl))) ?_
      refine DPn (i := 21) t11_19 (bt 40 4194303) rfl rfl rfl d75 rfl (fun w => run_move rfl) ?_
      refine DPn (i := 22) t11_19 (bt 40 8388607) rfl rfl rfl d75 rfl (fun w => run_nilCheck rfl) ?_
      refine DPn (i := 23) t11_19 (bt 40 16777215) rfl rfl rfl d75 rfl (fun w => run_fa 0 ⟨gr, 0, none⟩ rfl rfl) ?_
      refine DTn (i := 24) t11_19 (bt 40 33554431) s30 rfl rfl rfl d75 rfl (fun w hs => run_load Ty.ag77 rfl ((hs.1 0).trans rfl)) ?_
      refine DPn (i := 25) t11_19 (bt 40 67108863) rfl rfl rfl d75 rfl (fun w => run_move rfl) ?_
      refine DTn (i := 26) t11_19 (bt 40 134217727) s30 rfl rfl rfl d75 rfl (fun w hs => run_indexAddr (q := adr ra (i * 3)) Tryz.underlying77 Ty.sz95 rfl rfl (by omega) (by omega) ((hs.2.2).2.1 (by omega)) rfl) ?_
      refine DPn (i := 27) t11_19 (bt 40 268435455) rfl rfl rfl d75 rfl (fun w => run_fa 2 (adr ra (i * 3 + 2)) rfl (adr_add _ (by assumption) _ _)) ?_
      refine DTn (i := 28) t11_19 (bt 40 536870911) s30 rfl rfl rfl d75 rfl (fun w hs => run_load Ty.ag2 rfl ((hs.2.2).cell ((flat_get hsc_len hr (j := 2) (by decide)).trans rfl))) ?_
      refine DPn (i := 29) t11_19 (bt 40 1073741823) rfl rfl rfl d75 rfl (fun w => run_neq rfl rfl) ?_
      refine DP (i := 30) t11_19 (bt 40 2147483647) rfl rfl rfl rfl (fun w => run_pickF rfl d75 rfl) ?_
      refine DP (i := 31) t11_19 (bt 40 4294967295) rfl rfl rfl rfl (fun w => run_move rfl) ?_
      refine dcase (p := ¬ u.last = r.last) (fun g91 d91 => ?_) (fun g91 d91 => ?_)
      ·
       exact absurd e2 g91
      ·
       refine DPn (i := 32) t11_19 (bt 40 8589934591) rfl rfl rfl d91 rfl (fun w => run_move rfl) ?_
       refine DPn (i := 33) t11_19 (bt 40 17179869183) rfl rfl rfl d91 rfl (fun w => run_move rfl) ?_
       refine DTn (i := 34) t11_19 (bt 40 34359738367) s30 rfl rfl rfl d91 rfl (fun w hs => run_indexAddr (q := adr xa (i * 3)) Tryz.underlying44 Ty.sz93 rfl rfl (by omega) (by omega) ((hs.2.1).2.1 (by omega)) rfl) ?_
       refine DPn (i := 35) t11_19 (bt 40 68719476735) rfl rfl rfl d91 rfl (fun w => run_fa 2 (adr xa (i * 3 + 2)) rfl (adr_add _ (by assumption) _ _)) ?_
       refine DTn (i := 36) t11_19 (bt 40 137438953471) s30 rfl rfl rfl d91 rfl (fun w hs => run_load Ty.ag66 rfl ((hs.2.1).cell ((flat_get mrc_len hu (j := 2) (by decide)).trans rfl))) ?_
       refine DPn (i := 37) t11_19 (bt 40 274877906943) rfl rfl rfl d91 rfl (fun w => run_len rfl Tryz.underlying66 rfl) ?_
       refine DPn (i := 38) t11_19 (bt 40 549755813887) rfl rfl rfl d91 rfl (fun w => run_neq rfl rfl) ?_
       refine DP (i := 39) t11_19 (bt 40 1099511627775) rfl rfl rfl rfl (fun w => run_pickF rfl d91 rfl) ?_
       refine WD.done t11_19 (by kernel_rfl) ?_
       refine NX.go ?_
       refine WP.condP rfl (fun g99 => ?_) (fun g99 => ?_)
       ·
        exact absurd (by rw [e3]; rfl) g99
       ·
        refine WP.skip (NX.blk (NX.go (WP.region rfl ?_)))
        refine WO.mv rfl rfl ?_
        refine WO.V (run_add rfl rfl (IntWalk.i64_in _ (by omega))) ?_
        refine WO.asg rfl rfl ?_
        refine WO.nil ?_
        exact NX.again (i + 1) ⟨by omega, ((hS28.mask [false, false, true, false] (L' := _::_::_::_::_::_::_::L) rfl).permT [2, 1, 1, 1] (L' := _::_::_::_::_::_::_::L) rfl)⟩ (by show l1.length - (i + 1) < l1.length - i; omega) (Sub.cons rfl (Sub.cons rfl (Sub.cons rfl (Sub.cons rfl (Sub.consE rfl (by congr 1) (Sub.nil _))))))
    ·
     refine WP.exit (NX.thenExit (NX.thenExit ?_))
     refine NX.blkExit ?_
     refine NX.go (WP.seq (WP.seq (WP.region rfl ?_)))
     refine WO.mv rfl rfl ?_
     refine WO.V (run_len rfl Tryz.underlying39 rfl) ?_
     refine WO.V (run_eql rfl rfl) ?_
     refine WO.nil (NX.go ?_)
     refine WP.condP rfl (fun g102 => ?_) (fun g102 => ?_)
     ·
      refine WP.seq (WP.region rfl ?_)
      refine WO.asg rfl rfl ?_
      refine WO.nil (NX.go (WP.ret (NX.thenRet ?_)))
      refine NX.done (l := [.tmp 6]) rfl rfl ?_
      exact ⟨rfl, hS22.drop.drop.drop.drop.drop.drop.drop⟩
     ·
      refine WP.skip (NX.go (WP.seq ?_))
      have hne : bs ≠ [] := fun e => g102 (by rw [e]; rfl)
      refine WP.region rfl ?_
      refine WO.mv rfl rfl ?_
      refine WO.mv rfl rfl ?_
      have hS31 := hS22.permT [5, 5] (L' := _::_::_::_::_::_::_::L) rfl
      clear hS22
      refine WO.call rfl rfl Ty.hd22 rfl ((by have z := pjoin_spec (cap := bc) (X := own ba bs.length bc 46 4 (bs.flatMap blc)) (fun h => h.own_rd.1) hmz hb64 hO.wgt hbcap mark hS31; rw [hO.j2 hne mark, hO.j1 hne mark] at z; exact z)) (fun v33 w32 pv33 => ?_)
      obtain ⟨c9, rfl, hp9, hs9, hS32⟩ := pv33
      clear hS31
      refine WO.mv rfl rfl ?_
      refine WO.V (run_extract rfl rfl) ?_
      refine WO.V (run_extract rfl rfl) ?_
      refine WO.alloc (l := [Value.int .i64 0, Value.int .i64 0, Value.slice none 0 0, Value.slice none 0 0]) hS32 Ty.zr46 rfl rfl (fun g36 w34 lg36 hS34 => ?_)
      clear hS32
      refine WO.store (l' := (blc c9)) 0 hS34 rfl Ty.sz46 rfl rfl rfl rfl rfl (Nat.le_of_ble_eq_true rfl) rfl (fun w37 (hS37 : St B (cel g36 (blc c9) 46 :: blA c9 :: _::_::_::_::_::_::_::L) w37) => ?_)
      clear hS34
      refine WO.asg rfl rfl ?_
      refine WO.nil (NX.go (WP.seq (WP.seq ?_)))
      have hl9 : c9.rs.l.length = S.length := by have h9 := congrArg (fun z => z.rows.length) hp9; have h8 : (c9.rs.l.map MRow.p).length = (Ak.map (flt (inF mark 9223372036854775807))).length := h9; rw [List.length_map, List.length_map] at h8; omega
      refine WD.start (fun w => (∀ jz, World.cell? w ⟨g36, jz, none⟩ = (blc c9)[jz]?) ∧ (∀ jz, World.cell? w ⟨gr, jz, none⟩ = [Value.slice ra S.length rc][jz]?)) [] (bt 13 0) Ty.mo rfl (by kernel_rfl) hS37 (fun _ h => ⟨h.cel_at 0 rfl, h.cel_at 6 rfl⟩) (fun w38 hS38 s39 => ?_)
      clear hS37
      refine DP (i := 0) t11_24 (bt 13 1) rfl rfl rfl rfl (fun w => run_move rfl) ?_
      refine DP (i := 1) t11_24 (bt 13 3) rfl rfl rfl rfl (fun w => run_neq rfl rfl) ?_
      refine DP (i := 2) t11_24 (bt 13 7) rfl rfl rfl rfl (fun w => run_move rfl) ?_
      refine DPn (i := 3) t11_24 (bt 13 15) rfl rfl rfl (by decide) rfl (fun w => run_fa 2 ⟨g36, 2, none⟩ rfl rfl) ?_
      refine DTn (i := 4) t11_24 (bt 13 31) s39 rfl rfl rfl (by decide) rfl (fun w hs => run_load Ty.ag44 rfl ((hs.1 2).trans rfl)) ?_
      refine DPn (i := 5) t11_24 (bt 13 63) rfl rfl rfl (by decide) rfl (fun w => run_len rfl Tryz.underlying44 rfl) ?_
      refine DPn (i := 6) t11_24 (bt 13 127) rfl rfl rfl (by decide) rfl (fun w => run_move rfl) ?_
      refine DPn (i := 7) t11_24 (bt 13 255) rfl rfl rfl (by decide) rfl (fun w => run_nilCheck rfl) ?_
      refine DPn (i := 8) t11_24 (bt 13 511) rfl rfl rfl (by decide) rfl (fun w => run_fa 0 ⟨gr, 0, none⟩ rfl rfl) ?_
      refine DTn (i := 9) t11_24 (bt 13 1023) s39 rfl rfl rfl (by decide) rfl (fun w hs => run_load Ty.ag77 rfl ((hs.2 0).trans rfl)) ?_
      refine DPn (i := 10) t11_24 (bt 13 2047) rfl rfl rfl (by decide) rfl (fun w => run_len rfl Tryz.underlying77 rfl) ?_
      refine DPn (i := 11) t11_24 (bt 13 4095) rfl rfl rfl (by decide) rfl (fun w => run_neq rfl rfl) ?_
      refine DP (i := 12) t11_24 (bt 13 8191) rfl rfl rfl rfl (fun w => run_pickF rfl (by decide) rfl) ?_
      refine WD.done t11_24 (by kernel_rfl) ?_
      refine NX.go ?_
      refine WP.condP rfl (fun g121 => ?_) (fun g121 => ?_)
      ·
       exact absurd (by omega) g121
      ·
       refine WP.skip (NX.go (WP.seq (WP.seq ?_)))
       have hS40 := blA_open (hS38.permT [1] (L' := _::_::_::_::_::_::_::_::_::L) rfl)
       clear hS38
       refine WP.region rfl ?_
       refine WO.asg rfl rfl ?_
       refine WO.nil (NX.go (WP.block ?_))
       refine WP.loop (α := Nat) (fun x => match x with | i => [(10, Value.pointer (some ⟨gr, 0, none⟩)), (14, Value.pointer (some ⟨g36, 0, none⟩)), (16, Value.int .i64 (i : Int))]) (fun x w => match x with | i => (i ≤ c9.rs.l.length) ∧ St B (cel g36 (blc c9) 46 :: (rsA c9.rs) :: cel gr [Value.slice ra S.length rc] 79 :: own ra S.length rc 95 3 (S.flatMap hsc) :: allA (rhwA 103) S :: L) w) (fun x => match x with | i => c9.rs.l.length - i) 0 ⟨Nat.zero_le _, ((hS40.mask [true, false, false, false, false, true, false, false, false, false] (L' := _::_::_::_::_::L) rfl).permT [1] (L' := _::_::_::_::_::L) rfl)⟩ (Sub.cons rfl (Sub.cons rfl (Sub.consE rfl (by first | rfl | first | rfl | (congr 1; omega) | (simp; done) | (simp; omega)) (Sub.nil _)))) ?_
       rintro i w41 ⟨hi2, hS41⟩
       clear hS40
       refine WP.seq (WP.seq (WP.region rfl ?_))
       refine WO.mv rfl rfl ?_
       refine WO.V (run_fa 2 ⟨g36, 2, none⟩ rfl rfl) ?_
       refine WO.V (run_load Ty.ag44 rfl ((hS41.cel_at 0 rfl 2).trans rfl)) ?_
       refine WO.V (run_len rfl Tryz.underlying44 rfl) ?_
       refine WO.V (run_lss rfl rfl) ?_
       refine WO.nil (NX.go ?_)
       refine WP.condP rfl (fun g126 => ?_) (fun g126 => ?_)
       ·
        refine WP.skip (NX.go (WP.seq (WP.block (WP.seq ?_))))
        obtain ⟨u2, hu2⟩ : ∃ qq, c9.rs.l[i]? = some qq := ⟨_, List.getElem?_eq_getElem (by omega)⟩
        obtain ⟨r2, hr2⟩ : ∃ qq, S[i]? = some qq := ⟨_, List.getElem?_eq_getElem (by omega)⟩
        have e4 : u2.last = r2.last := congrArg RowP.last (map_at (g := flt (inF mark 9223372036854775807)) (l := c9.rs.l) (S := S) (by rw [hSA]; exact congrArg BlkP.rows hp9) hu2 hr2)
        have hsy : c9.rs.a.isSome = true := rd_isSome ((rdH_rd (hS41.focus 1 rfl))) (by omega)
        have hsr2 : ra.isSome = true := rd_isSome ((hS41.own_rd_i 3 rfl)) (by omega)
        refine WD.start (fun w => (∀ jz, World.cell? w ⟨g36, jz, none⟩ = (blc c9)[jz]?) ∧ (∀ jz, World.cell? w ⟨gr, jz, none⟩ = [Value.slice ra S.length rc][jz]?) ∧ Rd w c9.rs.a c9.rs.l.length 3 (c9.rs.l.flatMap mrc) ∧ Rd w ra S.length 3 (S.flatMap hsc)) [] (bt 15 0) Ty.mo rfl (by kernel_rfl) hS41 (fun _ h => ⟨h.cel_at 0 rfl, h.cel_at 2 rfl, (rdH_rd (h.focus 1 rfl)), (h.own_rd_i 3 rfl)⟩) (fun w42 hS42 s43 => ?_)
        clear hS41
        refine DP (i := 0) t11_29 (bt 15 1) rfl rfl rfl rfl (fun w => run_fa 2 ⟨g36, 2, none⟩ rfl rfl) ?_
        refine DT (i := 1) t11_29 (bt 15 3) s43 rfl rfl rfl rfl (fun w hs => run_load Ty.ag44 rfl ((hs.1 2).trans rfl)) ?_
        refine DP (i := 2) t11_29 (bt 15 7) rfl rfl rfl rfl (fun w => run_move rfl) ?_
        refine DT (i := 3) t11_29 (bt 15 15) s43 rfl rfl rfl rfl (fun w hs => run_indexAddr (q := adr c9.rs.a (i * 3)) Tryz.underlying44 Ty.sz93 rfl rfl (by omega) (by omega) ((hs.2.2.1).2.1 (by omega)) rfl) ?_
        refine DP (i := 4) t11_29 (bt 15 31) rfl rfl rfl rfl (fun w => run_fa 1 (adr c9.rs.a (i * 3 + 1)) rfl (adr_add _ (by assumption) _ _)) ?_
        refine DT (i := 5) t11_29 (bt 15 63) s43 rfl rfl rfl rfl (fun w hs => run_load Ty.ag2 rfl ((hs.2.2.1).cell ((flat_get mrc_len hu2 (j := 1) (by decide)).trans rfl))) ?_
        refine DP (i := 6) t11_29 (bt 15 127) rfl rfl rfl rfl (fun w => run_move rfl) ?_
        refine DP (i := 7) t11_29 (bt 15 255) rfl rfl rfl rfl (fun w => run_nilCheck rfl) ?_
        refine DP (i := 8) t11_29 (bt 15 511) rfl rfl rfl rfl (fun w => run_fa 0 ⟨gr, 0, none⟩ rfl rfl) ?_
        refine DT (i := 9) t11_29 (bt 15 1023) s43 rfl rfl rfl rfl (fun w hs => run_load Ty.ag77 rfl ((hs.2.1 0).trans rfl)) ?_
        refine DP (i := 10) t11_29 (bt 15 2047) rfl rfl rfl rfl (fun w => run_move rfl) ?_
        refine DT (i := 11) t11_29 (bt 15 4095) s43 rfl rfl rfl rfl (fun w hs => run_indexAddr (q := adr ra (i * 3)) Tryz.underlying77 Ty.sz95 rfl rfl (by omega) (by omega) ((hs.2.2.2).2.1 (by omega)) rfl) ?_
        refine DP (i := 12) t11_29 (bt 15 8191) rfl rfl rfl rfl (fun w => run_fa 2 (adr ra (i * 3 + 2)) rfl (adr_add _ (by assumption) _ _)) ?_
        refine DT (i := 13) t11_29 (bt 15 16383) s43 rfl rfl rfl rfl (fun w hs => run_load Ty.ag2 rfl ((hs.2.2.2).cell ((flat_get hsc_len hr2 (j := 2) (by decide)).trans rfl))) ?_
        refine DP (i := 14) t11_29 (bt 15 32767) rfl rfl rfl rfl (fun w => run_neq rfl rfl) ?_
        refine WD.done t11_29 (by kernel_rfl) ?_
        refine NX.go ?_
        refine WP.condP rfl (fun g143 => ?_) (fun g143 => ?_)
        ·
         exact absurd e4 g143
        ·
         refine WP.skip (NX.blk (NX.go (WP.region rfl ?_)))
         refine WO.mv rfl rfl ?_
         refine WO.V (run_add rfl rfl (IntWalk.i64_in _ (by omega))) ?_
         refine WO.asg rfl rfl ?_
         refine WO.nil ?_
         exact NX.again (i + 1) ⟨by omega, hS42⟩ (by show c9.rs.l.length - (i + 1) < c9.rs.l.length - i; omega) (Sub.cons rfl (Sub.cons rfl (Sub.consE rfl (by congr 1) (Sub.nil _))))
       ·
        refine WP.exit (NX.thenExit (NX.thenExit ?_))
        refine NX.blkExit ?_
        refine NX.go (WP.seq (WP.region rfl ?_))
        refine WO.asg rfl rfl ?_
        refine WO.nil (NX.go (WP.ret ?_))
        refine NX.done (l := [.tmp 6]) rfl rfl ?_
        exact ⟨rfl, hS41.drop.drop.drop.drop.drop⟩
end Go.Proofs.YtidoidoelgfnaaaGreatDoor.SL
