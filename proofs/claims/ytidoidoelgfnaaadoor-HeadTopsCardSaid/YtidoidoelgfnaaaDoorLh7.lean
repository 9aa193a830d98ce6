/- HeadTops: the law. -/
import Derived.Test.YtidoidoelgfnaaaDoorHl1M
import Derived.Test.YtidoidoelgfnaaaDoorHk8
import Derived.Test.YtidoidoelgfnaaaDoorHt
namespace Go.Proofs.YtidoidoelgfnaaaDoor.SL
open Go.RowKit Go.Proofs.YtidoidoelgfnaaaDoor
open Go.Proofs.YtidoidoelgfnaaaDoorW.PrintLast (rtab opsOf)
set_option linter.unusedVariables false
set_option linter.unusedSimpArgs false
theorem headTops_core {B w : World} {L : List HP} {a : Option Addr} {cap : Nat} {rs : List Rcd} (hrz : ∀ r ∈ rs, SzR r) (hrn : rs.length ≤ 2814749767106) (hS : St B ((rdH a rs.length 5 (rs.flatMap rcc)) :: allA recA rs :: L) w) : Does Tryd.prog 4 [Value.slice a rs.length cap] w (fun v w1 => v = .bool true ∧ St B L w1) := by
 refine enter (n := 80) Tryd.func4 rfl rfl [Value.slice a rs.length cap] rfl ?_
 refine WP.seq (WP.region rfl ?_)
 refine WO.asg rfl rfl ?_
 refine WO.nil (NX.go (WP.seq (WP.seq (WP.region rfl ?_))))
 refine WO.call rfl rfl Ty.hd5 rfl (hworks_spec hS) (fun v2 w1 pv2 => ?_)
 obtain ⟨rfl, hS1⟩ := pv2
 clear hS
 refine WO.V (run_not rfl rfl) ?_
 refine WO.nil (NX.go ?_)
 refine WP.condF rfl (notB_t rfl) ?_
 refine WP.skip (NX.go (WP.seq (WP.seq (WP.region rfl ?_))))
 refine WO.mv rfl rfl ?_
 refine WO.call rfl rfl Ty.hd6 rfl (g13_spec rdH_rd hrz hrn hS1) (fun v4 w3 pv4 => ?_)
 obtain ⟨⟨qg, rfl, hqg⟩, hS3⟩ := pv4
 clear hS1
 refine WO.nil (NX.go ?_)
 refine WP.condB rfl (fun g13 => ?_) (fun g13 => ?_)
 ·
  refine WP.seq (WP.region rfl ?_)
  refine WO.asg rfl rfl ?_
  refine WO.nil (NX.go (WP.ret (NX.thenRet ?_)))
  refine NX.done (l := [.tmp 2]) rfl rfl ?_
  exact ⟨rfl, hS3.drop.drop⟩
 ·
  refine WP.skip (NX.go (WP.seq (WP.region rfl ?_)))
  refine WO.call rfl rfl Ty.hd8 rfl (new_spec hS3) (fun v6 w5 pv6 => ?_)
  obtain ⟨gh, rfl, hS5⟩ := pv6
  clear hS3
  refine WO.asg rfl rfl ?_
  refine WO.nil (NX.go (WP.seq (WP.region rfl ?_)))
  refine WO.asg rfl rfl ?_
  refine WO.nil (NX.go (WP.seq (WP.region rfl ?_)))
  refine WO.asg rfl rfl ?_
  refine WO.nil (NX.go (WP.seq (WP.seq (WP.region rfl ?_))))
  refine WO.asg rfl rfl ?_
  refine WO.nil (NX.go (WP.block ?_))
  refine WP.loop (α := Nat × List RowP × Int) (fun x => match x with | ⟨i, A, t⟩ => [(0, Value.slice a rs.length cap), (3, Value.pointer (some ⟨gh, 0, none⟩)), (4, Value.int .i64 t), (5, Value.bool (decide (0 < A.length))), (6, Value.int .i64 (i : Int))]) (fun x w => match x with | ⟨i, A, t⟩ => (i ≤ rs.length ∧ i ≤ 40 ∧ WfH A (32 * i) ∧ A.length ≤ 256 ∧ TopOf A t) ∧ St B (hdA 56 61 51 gh A :: (rdH a rs.length 5 (rs.flatMap rcc)) :: allA recA rs :: L) w) (fun x => match x with | ⟨i, A, t⟩ => rs.length - i) (0, [], 0) ⟨⟨Nat.zero_le _, Nat.zero_le _, wf_nil _, Nat.zero_le _, .inl ⟨rfl, rfl⟩⟩, hS5⟩ (Sub.cons rfl (Sub.cons rfl (Sub.consE rfl (by first | rfl | first | rfl | (congr 1; omega) | (simp; done) | (simp; omega)) (Sub.consE rfl (congrArg Value.bool (by simp)) (Sub.consE rfl (by first | rfl | first | rfl | (congr 1; omega) | (simp; done) | (simp; omega)) (Sub.nil _)))))) ?_
  rintro ⟨i, A, t⟩ w7 ⟨⟨hi, hi4, hA, hAl, htop⟩, hS7⟩
  clear hS5
  refine WP.seq (WP.seq (WP.region rfl ?_))
  refine WO.mv rfl rfl ?_
  refine WO.mv rfl rfl ?_
  refine WO.V (run_len rfl Tryd.underlying22 rfl) ?_
  refine WO.V (run_lss rfl rfl) ?_
  refine WO.mv rfl rfl ?_
  refine dcase (p := (i : Int) < ((rs.length : Nat) : Int)) (fun g19 d19 => ?_) (fun g19 d19 => ?_)
  ·
   refine WO.on rfl rfl d19 ?_
   refine WO.mv rfl rfl ?_
   refine WO.on rfl rfl d19 ?_
   refine WO.V (run_lss rfl rfl) ?_
   refine WO.V (run_pickT rfl d19 rfl) ?_
   refine WO.nil (NX.go ?_)
   refine WP.condP rfl (fun g22 => ?_) (fun g22 => ?_)
   ·
    refine WP.skip (NX.go (WP.seq (WP.block (WP.seq (WP.seq ?_)))))
    obtain ⟨d1, hd1⟩ : ∃ qq, rs[i]? = some qq := ⟨_, List.getElem?_eq_getElem (by omega)⟩
    have hzd := hrz d1 (List.mem_of_getElem? hd1)
    have hS8 := allA_get recA_pers (List.mem_of_getElem? hd1) (hS7.permT [2] (L' := allA recA rs :: hdA 56 61 51 gh A :: (rdH a rs.length 5 (rs.flatMap rcc)) :: L) rfl)
    clear hS7
    have hsa : a.isSome = true := rd_isSome ((rdH_rd (hS8.focus 3 rfl))) (by omega)
    refine WP.region rfl ?_
    refine WO.mv rfl rfl ?_
    refine WO.mv rfl rfl ?_
    refine WO.mv rfl rfl ?_
    refine WO.V (run_indexAddr (q := adr a (i * 5)) Tryd.underlying22 Ty.sz26 rfl rfl (by omega) (by omega) ((rdH_rd (hS8.focus 3 rfl)).2.1 (by omega)) rfl) ?_
    refine WO.V (run_loadAgg (vs := (rcc d1)) Ty.ag26 Ty.sz26 rfl ((rdH_rd (hS8.focus 3 rfl)).cells (by rw [flat_len rcc_len]; omega) (flat_part rcc_len hd1)).1 ((rdH_rd (hS8.focus 3 rfl)).cells (by rw [flat_len rcc_len]; omega) (flat_part rcc_len hd1)).2) ?_
    refine WO.call rfl rfl Ty.hd10 rfl (own12_spec d1 hzd hS8) (fun v10 w9 pv10 => ?_)
    obtain ⟨r1, rfl, hr1, hS9⟩ := pv10
    clear hS8
    have hS11 := hS9.permT [3] (L' := hdA 56 61 51 gh A :: recA r1 :: recA d1 :: allA recA rs :: (rdH a rs.length 5 (rs.flatMap rcc)) :: L) rfl
    clear hS9
    refine WO.call rfl rfl Ty.hd9 rfl ((by have z := happlyP_spec (g := gh) hA (by omega) (by omega) r1 (SzR.of_p hr1 hzd) hS11; rw [hr1] at z; exact z)) (fun v13 w12 pv13 => ?_)
    obtain ⟨rfl, hS12⟩ := pv13
    clear hS11
    refine WO.V (run_eql rfl rfl) ?_
    refine WO.nil (NX.go ?_)
    refine WP.condP rfl (fun g32 => ?_) (fun g32 => ?_)
    ·
     refine WP.seq ?_
     have hS14 := recA_open (hS12.permT [2] (L' := recA d1 :: hdA 56 61 51 gh (applyP A d1.p) :: recA r1 :: allA recA rs :: (rdH a rs.length 5 (rs.flatMap rcc)) :: L) rfl)
     clear hS12
     have ht0 : tryP A d1.p = 0 := by simpa using g32
     obtain ⟨hc, A9, h9, hA9⟩ := try_zero ht0
     have hns := hzd.ns
     have hss := (rcheckP_smp hc).2
     rw [show d1.p.ss = d1.ss.l.map Smp.p from rfl, List.length_map] at hss
     have hcs : ∀ z ∈ d1.ss.l, chk z.lb.l = true := fun z hz9 => (rcheckP_smp hc).1 z.p (List.mem_map.2 ⟨z, hz9, rfl⟩)
     refine WP.region rfl ?_
     refine WO.asg rfl rfl ?_
     refine WO.nil (NX.go (WP.block ?_))
     refine WP.loop (α := Nat × List RowP × Int) (fun x => match x with | ⟨k, Ak, t2⟩ => [(0, Value.slice a rs.length cap), (3, Value.pointer (some ⟨gh, 0, none⟩)), (4, Value.int .i64 t2), (5, Value.bool (decide (0 < Ak.length))), (6, Value.int .i64 (i : Int)), (7, Value.int .i64 (k : Int))]) (fun x w => match x with | ⟨k, Ak, t2⟩ => (k ≤ d1.ss.l.length ∧ putAll Ak ((d1.ss.l.drop k).map Smp.p) = some A9 ∧ WfH Ak (32 * i + k) ∧ TopOf Ak t2) ∧ St B (hdA 56 61 51 gh (applyP A d1.p) :: (rdH d1.ss.a d1.ss.l.length 3 (d1.ss.l.flatMap smc)) :: smsA d1.ss.l :: recA d1 :: (rdH a rs.length 5 (rs.flatMap rcc)) :: allA recA rs :: L) w) (fun x => match x with | ⟨k, Ak, t2⟩ => d1.ss.l.length - k) (0, A, t) ⟨⟨Nat.zero_le _, h9, hA, htop⟩, ((hS14.mask [true, false, true, true, true, false] (L' := (rdH d1.ss.a d1.ss.l.length 3 (d1.ss.l.flatMap smc)) :: smsA d1.ss.l :: recA d1 :: hdA 56 61 51 gh (applyP A d1.p) :: allA recA rs :: (rdH a rs.length 5 (rs.flatMap rcc)) :: L) rfl).permT [3, 0, 0, 0, 1] (L' := hdA 56 61 51 gh (applyP A d1.p) :: (rdH d1.ss.a d1.ss.l.length 3 (d1.ss.l.flatMap smc)) :: smsA d1.ss.l :: recA d1 :: (rdH a rs.length 5 (rs.flatMap rcc)) :: allA recA rs :: L) rfl)⟩ (Sub.cons rfl (Sub.cons rfl (Sub.consE rfl (by first | rfl | first | rfl | (congr 1; omega) | (simp; done) | (simp; omega)) (Sub.consE rfl (by first | rfl | first | rfl | (congr 1; omega) | (simp; done) | (simp; omega)) (Sub.cons rfl (Sub.consE rfl (by first | rfl | first | rfl | (congr 1; omega) | (simp; done) | (simp; omega)) (Sub.nil _))))))) ?_
     rintro ⟨k, Ak, t2⟩ w15 ⟨⟨hk, hpa, hWk, htk⟩, hS15⟩
     clear hS14
     refine WP.seq (WP.seq (WP.region rfl ?_))
     refine WO.mv rfl rfl ?_
     refine WO.mv rfl rfl ?_
     refine WO.mv rfl rfl ?_
     refine WO.V (run_indexAddr (q := adr a (i * 5)) Tryd.underlying22 Ty.sz26 rfl rfl (by omega) (by omega) ((rdH_rd (hS15.focus 4 rfl)).2.1 (by omega)) rfl) ?_
     refine WO.V (run_fa 1 (adr a (i * 5 + 1)) rfl (adr_add _ (by assumption) _ _)) ?_
     refine WO.V (run_load Ty.ag23 rfl ((rdH_rd (hS15.focus 4 rfl)).cell ((flat_get rcc_len hd1 (j := 1) (by decide)).trans rfl))) ?_
     refine WO.V (run_len rfl Tryd.underlying23 rfl) ?_
     refine WO.V (run_lss rfl rfl) ?_
     refine WO.nil (NX.go ?_)
     refine WP.condP rfl (fun g40 => ?_) (fun g40 => ?_)
     ·
      refine WP.skip (NX.go (WP.seq (WP.block (WP.seq (WP.seq ?_)))))
      obtain ⟨z, hz1⟩ : ∃ qq, d1.ss.l[k]? = some qq := ⟨_, List.getElem?_eq_getElem (by omega)⟩
      have hzz := hzd.s z (List.mem_of_getElem? hz1)
      have hcz := hcs z (List.mem_of_getElem? hz1)
      rw [drop_cons hz1, List.map_cons, putAll] at hpa
      have hold : oldF Ak (z.lb.l, z.t, z.v) = false := by cases hq : oldF Ak (z.lb.l, z.t, z.v) with | false => rfl | true => (rw [if_pos (show oldF Ak z.p = true from hq)] at hpa; cases hpa)
      rw [if_neg (show ¬ oldF Ak z.p = true by rw [show oldF Ak z.p = false from hold]; decide)] at hpa
      have hss1 : d1.ss.a.isSome = true := rd_isSome ((rdH_rd (hS15.focus 1 rfl))) (by omega)
      refine WP.region rfl ?_
      refine WO.mv rfl rfl ?_
      refine WO.V (run_notP rfl) ?_
      refine WO.mv rfl rfl ?_
      refine dcase (p := ¬ (0 < Ak.length)) (fun g45 d45 => ?_) (fun g45 d45 => ?_)
      ·
       refine WO.off rfl rfl d45 rfl ?_
       refine WO.off rfl rfl d45 rfl ?_
       refine WO.off rfl rfl d45 rfl ?_
       refine WO.off rfl rfl d45 rfl ?_
       refine WO.off rfl rfl d45 rfl ?_
       refine WO.off rfl rfl d45 rfl ?_
       refine WO.off rfl rfl d45 rfl ?_
       refine WO.off rfl rfl d45 rfl ?_
       refine WO.off rfl rfl d45 rfl ?_
       refine WO.off rfl rfl d45 rfl ?_
       refine WO.off rfl rfl d45 rfl ?_
       refine WO.V (run_pickT rfl d45 rfl) ?_
       refine WO.nil (NX.go ?_)
       refine WP.condT rfl rfl ?_
       refine WP.region rfl ?_
       refine WO.mv rfl rfl ?_
       refine WO.mv rfl rfl ?_
       refine WO.V (run_indexAddr (q := adr a (i * 5)) Tryd.underlying22 Ty.sz26 rfl rfl (by omega) (by omega) ((rdH_rd (hS15.focus 4 rfl)).2.1 (by omega)) rfl) ?_
       refine WO.V (run_fa 1 (adr a (i * 5 + 1)) rfl (adr_add _ (by assumption) _ _)) ?_
       refine WO.V (run_load Ty.ag23 rfl ((rdH_rd (hS15.focus 4 rfl)).cell ((flat_get rcc_len hd1 (j := 1) (by decide)).trans rfl))) ?_
       refine WO.mv rfl rfl ?_
       refine WO.V (run_indexAddr (q := adr d1.ss.a (k * 3)) Tryd.underlying23 Ty.sz40 rfl rfl (by omega) (by omega) ((rdH_rd (hS15.focus 1 rfl)).2.1 (by omega)) rfl) ?_
       refine WO.V (run_fa 1 (adr d1.ss.a (k * 3 + 1)) rfl (adr_add _ (by assumption) _ _)) ?_
       refine WO.V (run_load Ty.ag2 rfl ((rdH_rd (hS15.focus 1 rfl)).cell ((flat_get smc_len hz1 (j := 1) (by decide)).trans rfl))) ?_
       refine WO.asg rfl rfl ?_
       refine WO.nil (NX.go (WP.region rfl ?_))
       refine WO.asg rfl rfl ?_
       refine WO.nil (NX.blk (NX.go (WP.region rfl ?_)))
       refine WO.mv rfl rfl ?_
       refine WO.V (run_add rfl rfl (IntWalk.i64_in _ (by omega))) ?_
       refine WO.asg rfl rfl ?_
       refine WO.nil ?_
       exact NX.again (k + 1, addF Ak z.lb.l z.t [⟨z.t, z.v⟩], z.t) ⟨⟨by omega, hpa, wf_add hWk hcz hold, by have z9 := topOf_add (lb := z.lb.l) (u := z.t) (ps := [⟨z.t, z.v⟩]) hWk.srt htk; rwa [if_pos (.inl g45)] at z9⟩, hS15⟩ (by show d1.ss.l.length - (k + 1) < d1.ss.l.length - k; omega) (Sub.cons rfl (Sub.cons rfl (Sub.consE rfl rfl (Sub.consE rfl (congrArg Value.bool (decide_eq_true addF_pos).symm) (Sub.cons rfl (Sub.consE rfl (by congr 1) (Sub.nil _)))))))
      ·
       refine WO.on rfl rfl d45 ?_
       refine WO.mv rfl rfl ?_
       refine WO.on rfl rfl d45 ?_
       refine WO.mv rfl rfl ?_
       refine WO.on rfl rfl d45 ?_
       refine WO.V (run_indexAddr (q := adr a (i * 5)) Tryd.underlying22 Ty.sz26 rfl rfl (by omega) (by omega) ((rdH_rd (hS15.focus 4 rfl)).2.1 (by omega)) rfl) ?_
       refine WO.on rfl rfl d45 ?_
       refine WO.V (run_fa 1 (adr a (i * 5 + 1)) rfl (adr_add _ (by assumption) _ _)) ?_
       refine WO.on rfl rfl d45 ?_
       refine WO.V (run_load Ty.ag23 rfl ((rdH_rd (hS15.focus 4 rfl)).cell ((flat_get rcc_len hd1 (j := 1) (by decide)).trans rfl))) ?_
       refine WO.on rfl rfl d45 ?_
       refine WO.mv rfl rfl ?_
       refine WO.on rfl rfl d45 ?_
       refine WO.V (run_indexAddr (q := adr d1.ss.a (k * 3)) Tryd.underlying23 Ty.sz40 rfl rfl (by omega) (by omega) ((rdH_rd (hS15.focus 1 rfl)).2.1 (by omega)) rfl) ?_
       refine WO.on rfl rfl d45 ?_
       refine WO.V (run_fa 1 (adr d1.ss.a (k * 3 + 1)) rfl (adr_add _ (by assumption) _ _)) ?_
       refine WO.on rfl rfl d45 ?_
       refine WO.V (run_load Ty.ag2 rfl ((rdH_rd (hS15.focus 1 rfl)).cell ((flat_get smc_len hz1 (j := 1) (by decide)).trans rfl))) ?_
       refine WO.on rfl rfl d45 ?_
       refine WO.mv rfl rfl ?_
       refine WO.on rfl rfl d45 ?_
       refine WO.V (run_gtr rfl rfl) ?_
       refine WO.V (run_pickF rfl d45 rfl) ?_
       refine WO.nil (NX.go ?_)
       refine WP.condP rfl (fun g57 => ?_) (fun g57 => ?_)
       ·
        refine WP.region rfl ?_
        refine WO.mv rfl rfl ?_
        refine WO.mv rfl rfl ?_
        refine WO.V (run_indexAddr (q := adr a (i * 5)) Tryd.underlying22 Ty.sz26 rfl rfl (by omega) (by omega) ((rdH_rd (hS15.focus 4 rfl)).2.1 (by omega)) rfl) ?_
        refine WO.V (run_fa 1 (adr a (i * 5 + 1)) rfl (adr_add _ (by assumption) _ _)) ?_
        refine WO.V (run_load Ty.ag23 rfl ((rdH_rd (hS15.focus 4 rfl)).cell ((flat_get rcc_len hd1 (j := 1) (by decide)).trans rfl))) ?_
        refine WO.mv rfl rfl ?_
        refine WO.V (run_indexAddr (q := adr d1.ss.a (k * 3)) Tryd.underlying23 Ty.sz40 rfl rfl (by omega) (by omega) ((rdH_rd (hS15.focus 1 rfl)).2.1 (by omega)) rfl) ?_
        refine WO.V (run_fa 1 (adr d1.ss.a (k * 3 + 1)) rfl (adr_add _ (by assumption) _ _)) ?_
        refine WO.V (run_load Ty.ag2 rfl ((rdH_rd (hS15.focus 1 rfl)).cell ((flat_get smc_len hz1 (j := 1) (by decide)).trans rfl))) ?_
        refine WO.asg rfl rfl ?_
        refine WO.nil (NX.go (WP.region rfl ?_))
        refine WO.asg rfl rfl ?_
        refine WO.nil (NX.blk (NX.go (WP.region rfl ?_)))
        refine WO.mv rfl rfl ?_
        refine WO.V (run_add rfl rfl (IntWalk.i64_in _ (by omega))) ?_
        refine WO.asg rfl rfl ?_
        refine WO.nil ?_
        exact NX.again (k + 1, addF Ak z.lb.l z.t [⟨z.t, z.v⟩], z.t) ⟨⟨by omega, hpa, wf_add hWk hcz hold, by have z9 := topOf_add (lb := z.lb.l) (u := z.t) (ps := [⟨z.t, z.v⟩]) hWk.srt htk; rwa [if_pos (.inr g57)] at z9⟩, hS15⟩ (by show d1.ss.l.length - (k + 1) < d1.ss.l.length - k; omega) (Sub.cons rfl (Sub.cons rfl (Sub.consE rfl rfl (Sub.consE rfl (congrArg Value.bool (decide_eq_true addF_pos).symm) (Sub.cons rfl (Sub.consE rfl (by congr 1) (Sub.nil _)))))))
       ·
        refine WP.skip (NX.go (WP.region rfl ?_))
        refine WO.asg rfl rfl ?_
        refine WO.nil (NX.blk (NX.go (WP.region rfl ?_)))
        refine WO.mv rfl rfl ?_
        refine WO.V (run_add rfl rfl (IntWalk.i64_in _ (by omega))) ?_
        refine WO.asg rfl rfl ?_
        refine WO.nil ?_
        exact NX.again (k + 1, addF Ak z.lb.l z.t [⟨z.t, z.v⟩], t2) ⟨⟨by omega, hpa, wf_add hWk hcz hold, by have z9 := topOf_add (lb := z.lb.l) (u := z.t) (ps := [⟨z.t, z.v⟩]) hWk.srt htk; rwa [if_neg (fun h => h.elim (fun k => k (List.length_pos_iff.2 (by simpa using g45))) g57)] at z9⟩, hS15⟩ (by show d1.ss.l.length - (k + 1) < d1.ss.l.length - k; omega) (Sub.cons rfl (Sub.cons rfl (Sub.consE rfl rfl (Sub.consE rfl (congrArg Value.bool (decide_eq_true addF_pos).symm) (Sub.cons rfl (Sub.consE rfl (by congr 1) (Sub.nil _)))))))
     ·
      refine WP.exit (NX.thenExit (NX.thenExit ?_))
      refine NX.blkExit ?_
      refine NX.go (WP.seq ?_)
      obtain rfl : Ak = A9 := by rw [List.drop_of_length_le (by omega), List.map_nil, putAll] at hpa; exact Option.some.inj hpa
      have hap := apply_ok (r := d1.p) ht0 h9
      have hap2 : applyP A d1.p = _ := hap
      obtain ⟨tt, htt⟩ : ∃ qq, qq = t2 := ⟨_, rfl⟩
      have htop2 : TopOf (applyP A d1.p) tt := by rw [hap2, htt]; split; (· exact topOf_del htk); (· exact htk)
      have hlen2 : (applyP A d1.p).length = Ak.length := by rw [hap2]; split; (· exact delF_len ..); (· rfl)
      refine WP.as (d := 4) (v := Value.int .i64 tt) rfl (by rw [htt]) ?_
      refine WP.as (d := 5) (v := Value.bool (decide (0 < (applyP A d1.p).length))) rfl (by rw [hlen2]) ?_
      refine WP.region rfl ?_
      refine WO.mv rfl rfl ?_
      refine WO.call rfl rfl Ty.hd13 rfl (htop_spec (g := gh) hS15) (fun v17 w16 pv17 => ?_)
      obtain ⟨t1, ht1, rfl, hS16⟩ := pv17
      clear hS15
      refine WO.mv rfl rfl ?_
      refine WO.V (run_extract rfl rfl) ?_
      refine WO.V (run_extract rfl rfl) ?_
      refine WO.asg rfl rfl ?_
      refine WO.asg rfl rfl ?_
      refine WO.nil (NX.go (WP.seq (WP.region rfl ?_)))
      refine WO.mv rfl rfl ?_
      refine WO.mv rfl rfl ?_
      refine WO.V (run_neqB Tryd.underlying4 rfl rfl rfl) ?_
      refine WO.mv rfl rfl ?_
      refine WO.on rfl rfl (by simp) ?_
      refine WO.mv rfl rfl ?_
      refine WO.on rfl rfl (by simp) ?_
      refine WO.mv rfl rfl ?_
      refine WO.on rfl rfl (by simp) ?_
      refine WO.V (run_neq rfl rfl) ?_
      refine WO.V (run_pickF rfl (by simp) rfl) ?_
      refine WO.nil (NX.go ?_)
      refine WP.condP rfl (fun g79 => ?_) (fun g79 => ?_)
      ·
       exact absurd (topOf_one ht1 htop2) g79
      ·
       refine WP.skip (NX.blk (NX.go (WP.region rfl ?_)))
       refine WO.mv rfl rfl ?_
       refine WO.V (run_add rfl rfl (IntWalk.i64_in _ (by omega))) ?_
       refine WO.asg rfl rfl ?_
       refine WO.nil ?_
       exact NX.again (i + 1, (applyP A d1.p), tt) ⟨⟨by omega, by omega, wf_applyP hA, applyP_len hAl, htop2⟩, (hS16.mask [true, false, false, false] (L' := hdA 56 61 51 gh (applyP A d1.p) :: (rdH a rs.length 5 (rs.flatMap rcc)) :: allA recA rs :: L) rfl)⟩ (by show rs.length - (i + 1) < rs.length - i; omega) (Sub.cons rfl (Sub.cons rfl (Sub.consE rfl rfl (Sub.consE rfl rfl (Sub.consE rfl (by congr 1) (Sub.nil _))))))
    ·
     refine WP.skip (NX.go (WP.seq ?_))
     have htop2 := htop
     have hS18 : St B (hdA 56 61 51 gh A :: recA r1 :: recA d1 :: allA recA rs :: (rdH a rs.length 5 (rs.flatMap rcc)) :: L) w12 := by have z := hS12; rw [applyP_bad g32] at z; exact z
     clear hS12
     refine WP.region rfl ?_
     refine WO.mv rfl rfl ?_
     refine WO.call rfl rfl Ty.hd13 rfl (htop_spec (g := gh) hS18) (fun v20 w19 pv20 => ?_)
     obtain ⟨t1, ht1, rfl, hS19⟩ := pv20
     clear hS18
     refine WO.mv rfl rfl ?_
     refine WO.V (run_extract rfl rfl) ?_
     refine WO.V (run_extract rfl rfl) ?_
     refine WO.asg rfl rfl ?_
     refine WO.asg rfl rfl ?_
     refine WO.nil (NX.go (WP.seq (WP.region rfl ?_)))
     refine WO.mv rfl rfl ?_
     refine WO.mv rfl rfl ?_
     refine WO.V (run_neqB Tryd.underlying4 rfl rfl rfl) ?_
     refine WO.mv rfl rfl ?_
     refine WO.on rfl rfl (by simp) ?_
     refine WO.mv rfl rfl ?_
     refine WO.on rfl rfl (by simp) ?_
     refine WO.mv rfl rfl ?_
     refine WO.on rfl rfl (by simp) ?_
     refine WO.V (run_neq rfl rfl) ?_
     refine WO.V (run_pickF rfl (by simp) rfl) ?_
     refine WO.nil (NX.go ?_)
     refine WP.condP rfl (fun g79 => ?_) (fun g79 => ?_)
     ·
      exact absurd (topOf_one ht1 htop2) g79
     ·
      refine WP.skip (NX.blk (NX.go (WP.region rfl ?_)))
      refine WO.mv rfl rfl ?_
      refine WO.V (run_add rfl rfl (IntWalk.i64_in _ (by omega))) ?_
      refine WO.asg rfl rfl ?_
      refine WO.nil ?_
      exact NX.again (i + 1, A, t) ⟨⟨by omega, by omega, hA.mono (by omega), hAl, htop⟩, ((hS19.mask [true, false, false] (L' := hdA 56 61 51 gh A :: allA recA rs :: (rdH a rs.length 5 (rs.flatMap rcc)) :: L) rfl).permT [0, 1] (L' := hdA 56 61 51 gh A :: (rdH a rs.length 5 (rs.flatMap rcc)) :: allA recA rs :: L) rfl)⟩ (by show rs.length - (i + 1) < rs.length - i; omega) (Sub.cons rfl (Sub.cons rfl (Sub.consE rfl rfl (Sub.consE rfl rfl (Sub.consE rfl (by congr 1) (Sub.nil _))))))
   ·
    refine WP.exit (NX.thenExit (NX.thenExit ?_))
    refine NX.blkExit ?_
    refine NX.go (WP.seq (WP.region rfl ?_))
    refine WO.asg rfl rfl ?_
    refine WO.nil (NX.go (WP.ret ?_))
    refine NX.done (l := [.tmp 2]) rfl rfl ?_
    exact ⟨rfl, hS7.drop.drop.drop⟩
  ·
   refine WO.off rfl rfl d19 rfl ?_
   refine WO.off rfl rfl d19 rfl ?_
   refine WO.V (run_pickF rfl d19 rfl) ?_
   refine WO.nil (NX.go ?_)
   refine WP.condF rfl rfl ?_
   refine WP.exit (NX.thenExit (NX.thenExit ?_))
   refine NX.blkExit ?_
   refine NX.go (WP.seq (WP.region rfl ?_))
   refine WO.asg rfl rfl ?_
   refine WO.nil (NX.go (WP.ret ?_))
   refine NX.done (l := [.tmp 2]) rfl rfl ?_
   exact ⟨rfl, hS7.drop.drop.drop⟩
end Go.Proofs.YtidoidoelgfnaaaDoor.SL
