import Derived.Test.YtidoidoelgfnaaaGreatDoorBk
import Derived.Test.YtidoidoelgfnaaaGreatDoorKc
import Derived.Test.YtidoidoelgfnaaaGreatDoorRhM
import Derived.Test.YtidoidoelgfnaaaGreatDoorHv1M
import Derived.Test.YtidoidoelgfnaaaGreatDoorKb
import Derived.Test.YtidoidoelgfnaaaGreatDoorHl1M
/- Rows of a block are put in order. -/
namespace Go.Proofs.YtidoidoelgfnaaaGreatDoor.SL
open Go.RowKit Go.Proofs.YtidoidoelgfnaaaGreatDoor
open Go.Proofs.YtidoidoelgfnaaaGreatDoorW.PrintLast (rtab opsOf)
set_option linter.unusedVariables false
set_option linter.unusedSimpArgs false
theorem t132_4 : rtab .any (opsOf Tryz.f132 4) = (true, [([], []), ([0], [0]), ([1], [1]), ([2], [2]), ([2], [2]), ([3, 4, 2], [2, 3, 4]), ([5, 2], [2, 5]), ([6, 2], [2, 6]), ([2], [2]), ([2], [2]), ([9, 2], [2, 9]), ([8, 10, 2], [2, 8, 10]), ([11, 2], [2, 11]), ([12, 2], [2, 12]), ([7, 13, 2, 2], [2, 7, 13]), ([14, 2], [2, 14]), ([2, 15], [2, 15])]) := by kernel_rfl
theorem t132_6 : rtab .any (opsOf Tryz.f132 6) = (true, [([], []), ([], []), ([], []), ([], []), ([3], [3]), ([], []), ([], []), ([6], [6]), ([5, 7], [5, 7]), ([8], [8]), ([], []), ([], []), ([10, 11], [10, 11]), ([12], [12]), ([0, 1, 0, 1, 5, 6, 7, 8, 9, 13], [0, 1]), ([14, 9, 0, 1, 5, 6, 7, 8, 9, 13], [9, 14]), ([2, 4, 0, 1, 2, 3, 4, 5, 6, 7, 8, 9, 10, 11, 12, 13, 14, 15], [2, 4]), ([16, 13, 15, 0, 1, 2, 3, 4, 5, 6, 7, 8, 9, 10, 11, 12, 13, 14, 15], [13, 16])]) := by kernel_rfl
theorem bsort_spec {B w : World} {L : List HP} {a : Option Addr} {cap : Nat} {R : List MRow} (hn : R.length ≤ 1000000) (hsz : ∀ r ∈ R, r.lb.l.length ≤ 4398046511104) (hS : St B (own a R.length cap 93 3 (R.flatMap mrc) :: allA mrA R :: L) w) : Does Tryz.prog 132 [Value.slice a R.length cap] w (fun v w1 => v = .tuple #[] ∧ ∃ T : List MRow, T.Perm R ∧ T.Pairwise (fun x y => ¬ cmpF y.lb.l x.lb.l < 0) ∧ St B (own a R.length cap 93 3 (T.flatMap mrc) :: allA mrA R :: L) w1) := by
 refine enter (n := 46) Tryz.func132 rfl rfl [Value.slice a R.length cap] rfl ?_
 refine WP.seq (WP.region rfl ?_)
 refine WO.mv rfl rfl ?_
 refine WO.V (run_len rfl Tryz.underlying44 rfl) ?_
 refine WO.mv rfl rfl ?_
 refine WO.nil (NX.go (WP.block ?_))
 refine WP.loop (α := Nat × List MRow) (fun x => match x with | ⟨i, T⟩ => [(0, Value.slice a R.length cap), (5, Value.int .i64 ((R.length : Nat) : Int)), (6, Value.int .i64 (i : Int))]) (fun x w => match x with | ⟨i, T⟩ => (i ≤ R.length ∧ T.Perm R ∧ SrtN T i) ∧ St B (own a R.length cap 93 3 (T.flatMap mrc) :: allA mrA R :: L) w) (fun x => match x with | ⟨i, T⟩ => R.length - i) (0, R) ⟨⟨Nat.zero_le _, List.Perm.refl _, fun j1 j2 x y h1 h2 => absurd h2 (Nat.not_lt_zero _)⟩, hS⟩ (Sub.cons rfl (Sub.cons rfl (Sub.consE rfl (by first | rfl | first | rfl | (congr 1; omega) | (simp; done) | (simp; omega)) (Sub.nil _)))) ?_
 rintro ⟨i, T⟩ w1 ⟨⟨hi, hpm, hso⟩, hS1⟩
 clear hS
 refine WP.seq (WP.region rfl ?_)
 refine WO.V (run_lss rfl rfl) ?_
 refine WO.nil (NX.go (WP.seq ?_))
 refine WP.condP rfl (fun g7 => ?_) (fun g7 => ?_)
 ·
  refine WP.skip (NX.go (WP.seq (WP.block (WP.seq (WP.region rfl ?_)))))
  refine WO.mv rfl rfl ?_
  refine WO.asg rfl rfl ?_
  refine WO.nil (NX.go (WP.seq (WP.region rfl ?_)))
  refine WO.mv rfl rfl ?_
  refine WO.asg rfl rfl ?_
  refine WO.nil (NX.go (WP.block ?_))
  refine WP.loop (α := Nat × List MRow) (fun x => match x with | ⟨k, V⟩ => [(0, Value.slice a R.length cap), (3, Value.int .i64 (k : Int)), (5, Value.int .i64 ((R.length : Nat) : Int)), (6, Value.int .i64 (i : Int))]) (fun x w => match x with | ⟨k, V⟩ => (k ≤ i ∧ V.Perm R ∧ InsR V i k) ∧ St B (own a R.length cap 93 3 (V.flatMap mrc) :: allA mrA R :: L) w) (fun x => match x with | ⟨k, V⟩ => k) (i, T) ⟨⟨Nat.le_refl _, hpm, InsR.start hso⟩, hS1⟩ (Sub.cons rfl (Sub.consE rfl (by first | rfl | first | rfl | (congr 1; omega) | (simp; done) | (simp; omega)) (Sub.cons rfl (Sub.cons rfl (Sub.nil _))))) ?_
  rintro ⟨k, V⟩ w2 ⟨⟨hk, hpv, hins⟩, hS2⟩
  clear hS1
  refine WP.seq (WP.seq ?_)
  refine WD.start (fun w => Rd w a R.length 3 (V.flatMap mrc)) [] (bt 17 0) Ty.mo rfl (by kernel_rfl) hS2 (fun _ h => (h.own_rd_i 0 rfl)) (fun w3 hS3 s4 => ?_)
  clear hS2
  refine DP (i := 0) t132_4 (bt 17 1) rfl rfl rfl rfl (fun w => run_move rfl) ?_
  refine DP (i := 1) t132_4 (bt 17 3) rfl rfl rfl rfl (fun w => run_gtr rfl rfl) ?_
  refine DP (i := 2) t132_4 (bt 17 7) rfl rfl rfl rfl (fun w => run_move rfl) ?_
  refine dcase (p := 0 < (k : Int)) (fun g12 d12 => ?_) (fun g12 d12 => ?_)
  ·
   have hvl := hpv.length_eq
   have h0k : 0 < k := by omega
   obtain ⟨x, hx⟩ : ∃ qq, V[k]? = some qq := ⟨_, List.getElem?_eq_getElem (by omega)⟩
   obtain ⟨y, hy⟩ : ∃ qq, V[k - 1]? = some qq := ⟨_, List.getElem?_eq_getElem (by omega)⟩
   have hxR : x ∈ R := hpv.subset (List.mem_of_getElem? hx)
   have hyR : y ∈ R := hpv.subset (List.mem_of_getElem? hy)
   have hsa : a.isSome = true := rd_isSome ((hS3.own_rd_i 0 rfl)) (by omega)
   refine DPn (i := 3) t132_4 (bt 17 15) rfl rfl rfl d12 rfl (fun w => run_move rfl) ?_
   refine DPn (i := 4) t132_4 (bt 17 31) rfl rfl rfl d12 rfl (fun w => run_move rfl) ?_
   refine DTn (i := 5) t132_4 (bt 17 63) s4 rfl rfl rfl d12 rfl (fun w hs => run_indexAddr (q := adr a (k * 3)) Tryz.underlying44 Ty.sz93 rfl rfl (by omega) (by omega) ((hs).2.1 (by omega)) rfl) ?_
   refine DPn (i := 6) t132_4 (bt 17 127) rfl rfl rfl d12 rfl (fun w => run_fa 0 (adr a (k * 3 + 0)) rfl (adr_add _ (by assumption) _ _)) ?_
   refine DTn (i := 7) t132_4 (bt 17 255) s4 rfl rfl rfl d12 rfl (fun w hs => run_load Ty.ag65 rfl ((hs).cell ((flat_get mrc_len hx (j := 0) (by decide)).trans rfl))) ?_
   refine DPn (i := 8) t132_4 (bt 17 511) rfl rfl rfl d12 rfl (fun w => run_move rfl) ?_
   refine DPn (i := 9) t132_4 (bt 17 1023) rfl rfl rfl d12 rfl (fun w => run_move rfl) ?_
   refine DPn (i := 10) t132_4 (bt 17 2047) rfl rfl rfl d12 rfl (fun w => run_sub rfl rfl (show IntKind.i64.wrap ((k : Int) - 1) = ((k - 1 : Nat) : Int) from (IntWalk.i64_in _ (by omega)).trans (by omega))) ?_
   refine DTn (i := 11) t132_4 (bt 17 4095) s4 rfl rfl rfl d12 rfl (fun w hs => run_indexAddr (q := adr a ((k - 1) * 3)) Tryz.underlying44 Ty.sz93 rfl rfl (by omega) (by omega) ((hs).2.1 (by omega)) rfl) ?_
   refine DPn (i := 12) t132_4 (bt 17 8191) rfl rfl rfl d12 rfl (fun w => run_fa 0 (adr a ((k - 1) * 3 + 0)) rfl (adr_add _ (by assumption) _ _)) ?_
   refine DTn (i := 13) t132_4 (bt 17 16383) s4 rfl rfl rfl d12 rfl (fun w hs => run_load Ty.ag65 rfl ((hs).cell ((flat_get mrc_len hy (j := 0) (by decide)).trans rfl))) ?_
   refine WD.one (i := 14) t132_4 (bt 17 32767) rfl (by kernel_rfl) ?_
   refine WO.on rfl rfl d12 ?_
   have hS5 := mrA_get hxR (hS3.permT [1] (L' := _::_::L) rfl)
   clear hS3
   have hS6 := mrA_get hyR (hS5.permT [2] (L' := _::_::_::_::L) rfl)
   clear hS5
   have hS7 := hS6.permT [3] (L' := _::_::_::_::_::_::L) rfl
   clear hS6
   refine WO.call rfl rfl Ty.hd95 rfl (lcmp_spec rdH_rd rdH_rd (hsz x hxR) (hsz y hyR) hS7) (fun v9 w8 pv9 => ?_)
   obtain ⟨rfl, hS8⟩ := pv9
   clear hS7
   refine WO.nil ?_
   have s10 : Rd w8 a R.length 3 (V.flatMap mrc) := (hS8.own_rd_i 5 rfl)
   refine NX.held s10 ?_
   refine DPn (i := 15) t132_4 (bt 17 65535) rfl rfl rfl d12 rfl (fun w => run_lss rfl rfl) ?_
   refine DP (i := 16) t132_4 (bt 17 131071) rfl rfl rfl rfl (fun w => run_pickT rfl d12 rfl) ?_
   refine WD.done t132_4 (by kernel_rfl) ?_
   refine NX.go ?_
   refine WP.condP rfl (fun g26 => ?_) (fun g26 => ?_)
   ·
    refine WP.skip (NX.go (WP.seq (WP.block ?_)))
    have hadr := ((hS8.own_rd_i 5 rfl)).2.1 (by omega)
    refine WD.start (fun w => Rd w a R.length 3 (V.flatMap mrc)) [15, 17] (bt 18 0) Ty.mo rfl (by kernel_rfl) hS8 (fun _ h => (h.own_rd_i 5 rfl)) (fun w11 hS11 s12 => ?_)
    clear hS8
    refine DP (i := 0) t132_6 (bt 18 1) rfl rfl rfl rfl (fun w => run_move rfl) ?_
    refine DP (i := 1) t132_6 (bt 18 3) rfl rfl rfl rfl (fun w => run_move rfl) ?_
    refine DP (i := 2) t132_6 (bt 18 7) rfl rfl rfl rfl (fun w => run_move rfl) ?_
    refine DP (i := 3) t132_6 (bt 18 15) rfl rfl rfl rfl (fun w => run_move rfl) ?_
    refine DP (i := 4) t132_6 (bt 18 31) rfl rfl rfl rfl (fun w => run_sub rfl rfl (show IntKind.i64.wrap ((k : Int) - 1) = ((k - 1 : Nat) : Int) from (IntWalk.i64_in _ (by omega)).trans (by omega))) ?_
    refine DP (i := 5) t132_6 (bt 18 63) rfl rfl rfl rfl (fun w => run_move rfl) ?_
    refine DP (i := 6) t132_6 (bt 18 127) rfl rfl rfl rfl (fun w => run_move rfl) ?_
    refine DP (i := 7) t132_6 (bt 18 255) rfl rfl rfl rfl (fun w => run_sub rfl rfl (show IntKind.i64.wrap ((k : Int) - 1) = ((k - 1 : Nat) : Int) from (IntWalk.i64_in _ (by omega)).trans (by omega))) ?_
    refine DT (i := 8) t132_6 (bt 18 511) s12 rfl rfl rfl rfl (fun w hs => run_indexAddr (q := adr a ((k - 1) * 3)) Tryz.underlying44 Ty.sz93 rfl rfl (by omega) (by omega) ((hs).2.1 (by omega)) rfl) ?_
    refine DT (i := 9) t132_6 (bt 18 1023) s12 rfl rfl rfl rfl (fun w hs => run_loadAgg (vs := (mrc y)) Ty.ag93 Ty.sz93 rfl ((hs).cells (by rw [flat_len mrc_len]; omega) (flat_part mrc_len hy)).1 ((hs).cells (by rw [flat_len mrc_len]; omega) (flat_part mrc_len hy)).2) ?_
    refine DP (i := 10) t132_6 (bt 18 2047) rfl rfl rfl rfl (fun w => run_move rfl) ?_
    refine DP (i := 11) t132_6 (bt 18 4095) rfl rfl rfl rfl (fun w => run_move rfl) ?_
    refine DT (i := 12) t132_6 (bt 18 8191) s12 rfl rfl rfl rfl (fun w hs => run_indexAddr (q := adr a (k * 3)) Tryz.underlying44 Ty.sz93 rfl rfl (by omega) (by omega) ((hs).2.1 (by omega)) rfl) ?_
    refine DT (i := 13) t132_6 (bt 18 16383) s12 rfl rfl rfl rfl (fun w hs => run_loadAgg (vs := (mrc x)) Ty.ag93 Ty.sz93 rfl ((hs).cells (by rw [flat_len mrc_len]; omega) (flat_part mrc_len hx)).1 ((hs).cells (by rw [flat_len mrc_len]; omega) (flat_part mrc_len hx)).2) ?_
    refine DT (i := 14) t132_6 (bt 18 32767) s12 rfl rfl rfl rfl (fun w hs => run_indexAddr (q := adr a (k * 3)) Tryz.underlying44 Ty.sz93 rfl rfl (by omega) (by omega) ((hs).2.1 (by omega)) rfl) ?_
    refine WD.one (i := 15) t132_6 (bt 18 65535) rfl (by kernel_rfl) ?_
    refine WO.storeOwn (l' := ((V.set k y).flatMap mrc)) 5 hS11 rfl Ty.sz93 rfl rfl rfl rfl rfl (by decide) (by rw [flat_len mrc_len]; omega) (flat_splice mrc_len y (by omega)) (fun w13 (hS13 : St B (_::_::_::_::_::own a R.length cap 93 3 ((V.set k y).flatMap mrc) :: L) w13) => ?_)
    clear hS11
    refine WO.nil ?_
    refine NX.last (by decide) ?_
    refine DP (i := 16) t132_6 (bt 18 131071) rfl rfl rfl rfl (fun w => run_indexAddr (q := adr a ((k - 1) * 3)) Tryz.underlying44 Ty.sz93 rfl rfl (by omega) (by omega) hadr rfl) ?_
    refine WD.one (i := 17) t132_6 (bt 18 262143) rfl (by kernel_rfl) ?_
    refine WO.storeOwn (l' := (((V.set k y).set (k - 1) x).flatMap mrc)) 5 hS13 rfl Ty.sz93 rfl rfl rfl rfl rfl (by decide) (by rw [flat_len mrc_len, List.length_set]; omega) (flat_splice mrc_len x (by rw [List.length_set]; omega)) (fun w14 (hS14 : St B (_::_::_::_::_::own a R.length cap 93 3 (((V.set k y).set (k - 1) x).flatMap mrc) :: L) w14) => ?_)
    clear hS13
    refine WO.nil ?_
    refine NX.last (by decide) ?_
    refine WD.done t132_6 (by kernel_rfl) ?_
    refine NX.blk (NX.go (WP.region rfl ?_))
    refine WO.mv rfl rfl ?_
    refine WO.V (run_sub rfl rfl (IntWalk.i64_in _ (by omega))) ?_
    refine WO.asg rfl rfl ?_
    refine WO.nil ?_
    exact NX.again (k - 1, (V.set k y).set (k - 1) x) ⟨⟨by omega, (swap_perm h0k hx hy).trans hpv, hins.step h0k hk (by omega) hx hy g26⟩, ((hS14.mask [false, false, false, true, false] (L' := _::_::L) rfl).permT [1] (L' := _::_::L) rfl)⟩ (by show k - 1 < k; omega) (Sub.cons rfl (Sub.consE rfl (by congr 1; omega) (Sub.cons rfl (Sub.cons rfl (Sub.nil _)))))
   ·
    refine WP.exit (NX.thenExit (NX.thenExit ?_))
    refine NX.blkExit ?_
    refine NX.blk (NX.go (WP.region rfl ?_))
    refine WO.V (run_add rfl rfl (IntWalk.i64_in _ (by omega))) ?_
    refine WO.mv rfl rfl ?_
    refine WO.nil ?_
    exact NX.again (i + 1, V) ⟨⟨by omega, hpv, hins.done (.inr ⟨x, y, hx, hy, g26⟩) hk⟩, ((hS8.mask [false, false, false, true, false] (L' := _::_::L) rfl).permT [1] (L' := _::_::L) rfl)⟩ (by show R.length - (i + 1) < R.length - i; omega) (Sub.cons rfl (Sub.cons rfl (Sub.consE rfl (by congr 1) (Sub.nil _))))
  ·
   refine DO (i := 3) t132_4 (bt 17 15) rfl rfl rfl d12 rfl ?_
   refine DO (i := 4) t132_4 (bt 17 31) rfl rfl rfl d12 rfl ?_
   refine DO (i := 5) t132_4 (bt 17 63) rfl rfl rfl d12 rfl ?_
   refine DO (i := 6) t132_4 (bt 17 127) rfl rfl rfl d12 rfl ?_
   refine DO (i := 7) t132_4 (bt 17 255) rfl rfl rfl d12 rfl ?_
   refine DO (i := 8) t132_4 (bt 17 511) rfl rfl rfl d12 rfl ?_
   refine DO (i := 9) t132_4 (bt 17 1023) rfl rfl rfl d12 rfl ?_
   refine DO (i := 10) t132_4 (bt 17 2047) rfl rfl rfl d12 rfl ?_
   refine DO (i := 11) t132_4 (bt 17 4095) rfl rfl rfl d12 rfl ?_
   refine DO (i := 12) t132_4 (bt 17 8191) rfl rfl rfl d12 rfl ?_
   refine DO (i := 13) t132_4 (bt 17 16383) rfl rfl rfl d12 rfl ?_
   refine DO (i := 14) t132_4 (bt 17 32767) rfl rfl rfl d12 rfl ?_
   refine DO (i := 15) t132_4 (bt 17 65535) rfl rfl rfl d12 rfl ?_
   refine DP (i := 16) t132_4 (bt 17 131071) rfl rfl rfl rfl (fun w => run_pickF rfl d12 rfl) ?_
   refine WD.done t132_4 (by kernel_rfl) ?_
   refine NX.go ?_
   refine WP.condF rfl rfl ?_
   refine WP.exit (NX.thenExit (NX.thenExit ?_))
   refine NX.blkExit ?_
   refine NX.blk (NX.go (WP.region rfl ?_))
   refine WO.V (run_add rfl rfl (IntWalk.i64_in _ (by omega))) ?_
   refine WO.mv rfl rfl ?_
   refine WO.nil ?_
   exact NX.again (i + 1, V) ⟨⟨by omega, hpv, hins.done (.inl (by omega)) hk⟩, hS3⟩ (by show R.length - (i + 1) < R.length - i; omega) (Sub.cons rfl (Sub.cons rfl (Sub.consE rfl (by congr 1) (Sub.nil _))))
 ·
  refine WP.exit (NX.thenExit (NX.thenExit ?_))
  refine NX.blkExit ?_
  refine NX.ended (l := []) rfl rfl ?_
  exact ⟨rfl, T, hpm, srtN_all (by have hq : T.length = i := (by rw [hpm.length_eq]; omega); rw [hq]; exact hso), hS1⟩
end Go.Proofs.YtidoidoelgfnaaaGreatDoor.SL

/- The rows of a block: all series of a head. -/
namespace Go.Proofs.YtidoidoelgfnaaaGreatDoor.SL
open Go.RowKit Go.Proofs.YtidoidoelgfnaaaGreatDoor
open Go.Proofs.YtidoidoelgfnaaaGreatDoorW.PrintLast (rtab opsOf)
set_option linter.unusedVariables false
set_option linter.unusedSimpArgs false
theorem t113_20 : rtab .any (opsOf Tryz.f113 20) = (true, [([], []), ([], []), ([], []), ([2], [2]), ([1, 3], [1, 3]), ([], []), ([], []), ([], []), ([6, 7], [6, 7]), ([4, 5, 8], [4, 5, 8]), ([9], [9]), ([0, 10, 4], [0, 10]), ([11, 11, 0, 1, 2, 3, 4, 5, 6, 7, 8, 9, 10, 11], [0, 11])]) := by kernel_rfl
theorem brows_spec {B w : World} {L : List HP} {X : HP} {g M : Nat} {b : Option Addr} {cap : Nat} {rs : List Rcd} {A : List RowP} (hX : ∀ {L : List HP} {w : World}, St B (X :: L) w → Rd w b rs.length 5 (rs.flatMap rcc)) (hA : WfH A M) (hM : M ≤ 4398046511104) (hAl : A.length ≤ 256) (hR : RngA A) (hH : HasL A (rs.map Rcd.p)) (hz : ∀ r ∈ rs, SzR r) (hn : rs.length ≤ 2814749767106) (hS : St B (hdA 126 131 103 g A :: X :: allA recA rs :: L) w) : Does Tryz.prog 113 [Value.pointer (some ⟨g, 0, none⟩), Value.slice b rs.length cap] w (fun v w1 => ∃ (a2 : Option Addr) (c2 : Nat) (T : List MRow), v = .slice a2 T.length c2 ∧ T.map MRow.p = A ∧ St B (own a2 T.length c2 93 3 (T.flatMap mrc) :: allA mrA T :: hdA 126 131 103 g A :: X :: allA recA rs :: L) w1) := by
 refine enter (n := 88) Tryz.func113 rfl rfl [Value.pointer (some ⟨g, 0, none⟩), Value.slice b rs.length cap] rfl ?_
 refine WP.seq (WP.region rfl ?_)
 refine WO.asg rfl rfl ?_
 refine WO.nil (NX.go (WP.seq (WP.region rfl ?_)))
 refine WO.makeMap hS rfl (fun r2 w1 hS1 => ?_)
 clear hS
 refine WO.asg rfl rfl ?_
 refine WO.nil (NX.go (WP.seq (WP.seq (WP.region rfl ?_))))
 refine WO.mv rfl rfl ?_
 have hS3 : St B (.pure True :: mpS r2 [] :: _::_::_::L) w1 := hS1.addPure trivial
 clear hS1
 have hS4 := hS3.permT [2] (L' := _::_::_::_::_::L) rfl
 clear hS3
 refine WO.call rfl rfl Ty.hd33 rfl (hquery_spec (g := g) (M := .pure True) (m := none) (cap := 0) (ask := []) (fun _ => rd_nilQ 3) hA hM (by omega) (fun p hp => by cases hp) (by decide) (-9223372036854775808) 9223372036854775807 hS4) (fun v6 w5 pv6 => ?_)
 obtain ⟨a1, c1, o1, rfl, ho1, hn1, hz1, hS5⟩ := pv6
 clear hS4
 have hoc := ser_chk ho1 hR hA.chk
 refine WO.V (run_len rfl Tryz.underlying37 rfl) ?_
 refine WO.mv rfl rfl ?_
 refine WO.nil (NX.go (WP.block ?_))
 refine WP.loop (α := Nat) (fun x => match x with | j => [(0, Value.pointer (some ⟨g, 0, none⟩)), (1, Value.slice b rs.length cap), (4, Value.slice none 0 0), (5, Value.map (some r2)), (22, Value.slice a1 o1.length c1), (23, Value.int .i64 ((o1.length : Nat) : Int)), (24, Value.int .i64 (j : Int))]) (fun x w => match x with | j => (j ≤ o1.length) ∧ St B (mpS r2 ((o1.take j).map kvS) :: own a1 o1.length c1 68 2 (o1.flatMap msc) :: allA serA o1 :: hdA 126 131 103 g A :: X :: allA recA rs :: L) w) (fun x => match x with | j => o1.length - j) 0 ⟨Nat.zero_le _, ((hS5.mask [true, true, true, false] (L' := _::_::_::_::_::_::L) rfl).permT [3] (L' := _::_::_::_::_::_::L) rfl)⟩ (Sub.cons rfl (Sub.cons rfl (Sub.cons rfl (Sub.cons rfl (Sub.cons rfl (Sub.cons rfl (Sub.consE rfl (by first | rfl | first | rfl | (congr 1; omega) | (simp; done) | (simp; omega)) (Sub.nil _)))))))) ?_
 rintro j w7 ⟨hj, hS7⟩
 clear hS5
 refine WP.seq (WP.region rfl ?_)
 refine WO.V (run_lss rfl rfl) ?_
 refine WO.nil (NX.go (WP.seq ?_))
 refine WP.condP rfl (fun g25 => ?_) (fun g25 => ?_)
 ·
  refine WP.skip (NX.go (WP.seq (WP.block (WP.seq ?_))))
  obtain ⟨s1, hs1⟩ : ∃ qq, o1[j]? = some qq := ⟨_, List.getElem?_eq_getElem (by omega)⟩
  have hS8 := serA_get (List.mem_of_getElem? hs1) (hS7.permT [2] (L' := _::_::_::_::_::_::L) rfl)
  clear hS7
  have hsa : a1.isSome = true := rd_isSome ((hS8.own_rd_i 4 rfl)) (by omega)
  have hcs := hoc s1 (List.mem_of_getElem? hs1)
  refine WP.region rfl ?_
  refine WO.V (run_indexAddr (q := adr a1 (j * 2)) Tryz.underlying37 Ty.sz68 rfl rfl (by omega) (by omega) ((hS8.own_rd_i 4 rfl).2.1 (by omega)) rfl) ?_
  refine WO.V (run_loadAgg (vs := [Value.slice s1.lb.a s1.lb.l.length s1.lb.cap, Value.slice s1.pt.a s1.pt.l.length s1.pt.cap]) Ty.ag68 Ty.sz68 rfl ((hS8.own_rd_i 4 rfl).cells (by rw [flat_len msc_len]; omega) (flat_part msc_len hs1)).1 ((hS8.own_rd_i 4 rfl).cells (by rw [flat_len msc_len]; omega) (flat_part msc_len hs1)).2) ?_
  refine WO.alloc (l := [Value.slice none 0 0, Value.slice none 0 0]) hS8 Ty.zr68 rfl rfl (fun g10 w9 lg10 hS9 => ?_)
  clear hS8
  refine WO.store (l' := [Value.slice s1.lb.a s1.lb.l.length s1.lb.cap, Value.slice s1.pt.a s1.pt.l.length s1.pt.cap]) 0 hS9 rfl Ty.sz68 rfl rfl rfl rfl rfl (Nat.le_of_ble_eq_true rfl) rfl (fun w11 (hS11 : St B (cel g10 [Value.slice s1.lb.a s1.lb.l.length s1.lb.cap, Value.slice s1.pt.a s1.pt.l.length s1.pt.cap] 68 :: (labA s1.lb) :: (ptsA s1.pt) :: _::_::_::_::_::_::L) w11) => ?_)
  clear hS9
  refine WO.nil (NX.go (WP.seq (WP.region rfl ?_)))
  refine WO.V (run_fa 0 ⟨g10, 0, none⟩ rfl rfl) ?_
  refine WO.V (run_load Ty.ag65 rfl ((hS11.cel_at 0 rfl 0).trans rfl)) ?_
  have hS12 := hS11.permT [1] (L' := _::_::_::_::_::_::_::_::_::L) rfl
  clear hS11
  refine WO.call rfl rfl Ty.hd59 rfl (lenc_spec rdH_rd (chk_SzP hcs).1 (chk_SzP hcs).2 hS12) (fun v14 w13 pv14 => ?_)
  obtain ⟨rfl, hS13⟩ := pv14
  clear hS12
  refine WO.mv rfl rfl ?_
  refine WO.V (run_extract rfl rfl) ?_
  refine WO.V (run_extract rfl rfl) ?_
  refine WO.asg rfl rfl ?_
  refine WO.asg rfl rfl ?_
  refine WO.nil (NX.go (WP.region rfl ?_))
  refine WO.mv rfl rfl ?_
  refine WO.mv rfl rfl ?_
  refine WO.V (run_fa 1 ⟨g10, 1, none⟩ rfl rfl) ?_
  refine WO.V (run_load Ty.ag66 rfl ((hS13.cel_at 1 rfl 1).trans rfl)) ?_
  refine WO.mapUpdateS 4 hS13 rfl Tryz.underlying195 Tryz.underlying9 rfl rfl rfl (fun w15 hS15 => ?_)
  replace hS15 : St B (_::_::_::_::mpS r2 ((o1.take (j + 1)).map kvS) :: _::_::_::_::L) w15 := (by have z9 := hS15; rw [putS_new (ser_none ho1 hA.srt hoc hs1)] at z9; rw [take_snocM hs1, List.map_append]; exact z9)
  clear hS13
  refine WO.nil (NX.blk (NX.go (WP.region rfl ?_)))
  refine WO.V (run_add rfl rfl (IntWalk.i64_in _ (by omega))) ?_
  refine WO.mv rfl rfl ?_
  refine WO.nil ?_
  exact NX.again (j + 1) ⟨by omega, (hS15.permT [0, 0, 0, 1, 1] (L' := _::_::_::_::_::_::_::_::_::L) rfl).drop.drop.drop⟩ (by show o1.length - (j + 1) < o1.length - j; omega) (Sub.cons rfl (Sub.cons rfl (Sub.cons rfl (Sub.cons rfl (Sub.cons rfl (Sub.cons rfl (Sub.consE rfl (by congr 1) (Sub.nil _))))))))
 ·
  refine WP.exit (NX.thenExit (NX.thenExit ?_))
  refine NX.blkExit ?_
  refine NX.go (WP.seq (WP.region rfl ?_))
  refine WO.asg rfl rfl ?_
  refine WO.nil (NX.go (WP.seq (WP.region rfl ?_)))
  refine WO.makeMap hS7 rfl (fun r17 w16 hS16 => ?_)
  clear hS7
  refine WO.asg rfl rfl ?_
  refine WO.nil (NX.go (WP.seq (WP.seq (WP.region rfl ?_))))
  refine WO.mv rfl rfl ?_
  refine WO.V (run_len rfl Tryz.underlying23 rfl) ?_
  refine WO.mv rfl rfl ?_
  refine WO.nil (NX.go (WP.block ?_))
  have hjl : o1.take j = o1 := List.take_of_length_le (by omega)
  have hS18 : St B (mpS r17 [] :: mpS r2 (o1.map kvS) :: own a1 o1.length c1 68 2 (o1.flatMap msc) :: allA serA o1 :: hdA 126 131 103 g A :: X :: allA recA rs :: L) w16 := by have z9 := hS16; rw [hjl] at z9; exact z9
  clear hS16
  replace hS18 := (St.addPure trivial hS18 : St B (allA mrA [] :: mpS r17 [] :: mpS r2 (o1.map kvS) :: own a1 o1.length c1 68 2 (o1.flatMap msc) :: allA serA o1 :: hdA 126 131 103 g A :: X :: allA recA rs :: L) w16)
  replace hS18 := hS18.own_nil 93 3
  refine WP.loop (α := Nat × List MRow × Option Addr × Nat) (fun x => match x with | ⟨i, out, oa, oc⟩ => [(0, Value.pointer (some ⟨g, 0, none⟩)), (1, Value.slice b rs.length cap), (4, Value.slice none 0 0), (5, Value.map (some r2)), (10, Value.slice oa out.length oc), (11, Value.map (some r17)), (40, Value.slice b rs.length cap), (41, Value.int .i64 ((rs.length : Nat) : Int)), (42, Value.int .i64 (i : Int))]) (fun x w => match x with | ⟨i, out, oa, oc⟩ => (i ≤ rs.length ∧ OutOk A out ∧ CovR out (rs.take i)) ∧ St B (own oa out.length oc 93 3 (out.flatMap mrc) :: allA mrA out :: mpS r17 (out.map kvO) :: mpS r2 (o1.map kvS) :: allA serA o1 :: hdA 126 131 103 g A :: X :: allA recA rs :: L) w) (fun x => match x with | ⟨i, out, oa, oc⟩ => rs.length - i) (0, [], none, 0) ⟨⟨Nat.zero_le _, ⟨(fun x h => by cases h), List.Pairwise.nil⟩, fun d hd => by cases hd⟩, (hS18.mask [true, true, true, true, false] (L' := _::_::_::_::_::_::_::_::L) rfl)⟩ (Sub.cons rfl (Sub.cons rfl (Sub.cons rfl (Sub.cons rfl (Sub.consE rfl (by first | rfl | first | rfl | (congr 1; omega) | (simp; done) | (simp; omega)) (Sub.cons rfl (Sub.cons rfl (Sub.cons rfl (Sub.consE rfl (by first | rfl | first | rfl | (congr 1; omega) | (simp; done) | (simp; omega)) (Sub.nil _)))))))))) ?_
  rintro ⟨i, out, oa, oc⟩ w19 ⟨⟨hi, hO, hC⟩, hS19⟩
  clear hS18
  refine WP.seq (WP.region rfl ?_)
  refine WO.V (run_lss rfl rfl) ?_
  refine WO.nil (NX.go (WP.seq ?_))
  refine WP.condP rfl (fun g43 => ?_) (fun g43 => ?_)
  ·
   refine WP.skip (NX.go (WP.seq (WP.block (WP.seq ?_))))
   obtain ⟨d1, hd1⟩ : ∃ qq, rs[i]? = some qq := ⟨_, List.getElem?_eq_getElem (by omega)⟩
   have hzd := hz d1 (List.mem_of_getElem? hd1)
   have hS20 := recA_open (allA_get recA_pers (List.mem_of_getElem? hd1) (hS19.permT [7] (L' := _::_::_::_::_::_::_::_::L) rfl))
   clear hS19
   have hsb : b.isSome = true := rd_isSome ((hX (hS20.focus 11 rfl))) (by omega)
   have hns9 := hzd.ns
   refine WP.region rfl ?_
   refine WO.V (run_indexAddr (q := adr b (i * 5)) Tryz.underlying23 Ty.sz33 rfl rfl (by omega) (by omega) ((hX (hS20.focus 11 rfl)).2.1 (by omega)) rfl) ?_
   refine WO.V (run_loadAgg (vs := (rcc d1)) Ty.ag33 Ty.sz33 rfl ((hX (hS20.focus 11 rfl)).cells (by rw [flat_len rcc_len]; omega) (flat_part rcc_len hd1)).1 ((hX (hS20.focus 11 rfl)).cells (by rw [flat_len rcc_len]; omega) (flat_part rcc_len hd1)).2) ?_
   refine WO.alloc (l := [Value.int .i64 0, Value.slice none 0 0, Value.slice none 0 0, Value.int .i64 0, Value.int .i64 0]) hS20 Ty.zr33 rfl rfl (fun g22 w21 lg22 hS21 => ?_)
   clear hS20
   refine WO.store (l' := (rcc d1)) 0 hS21 rfl Ty.sz33 rfl rfl rfl rfl rfl (Nat.le_of_ble_eq_true rfl) rfl (fun w23 (hS23 : St B (cel g22 (rcc d1) 33 :: (rdH d1.ss.a d1.ss.l.length 3 (d1.ss.l.flatMap smc)) :: (rdH d1.ms.a d1.ms.l.length 3 (d1.ms.l.flatMap mtc)) :: smsA d1.ss.l :: recA d1 :: _::_::_::_::_::_::_::_::L) w23) => ?_)
   clear hS21
   refine WO.nil (NX.go (WP.seq (WP.region rfl ?_)))
   refine WO.V (run_fa 1 ⟨g22, 1, none⟩ rfl rfl) ?_
   refine WO.V (run_load Ty.ag31 rfl ((hS23.cel_at 0 rfl 1).trans rfl)) ?_
   refine WO.V (run_len rfl Tryz.underlying31 rfl) ?_
   refine WO.mv rfl rfl ?_
   refine WO.nil (NX.go (WP.block ?_))
   refine WP.loop (α := Nat × List MRow × Option Addr × Nat) (fun x => match x with | ⟨k, out, oa, oc⟩ => [(0, Value.pointer (some ⟨g, 0, none⟩)), (1, Value.slice b rs.length cap), (4, Value.slice none 0 0), (5, Value.map (some r2)), (10, Value.slice oa out.length oc), (11, Value.map (some r17)), (40, Value.slice b rs.length cap), (41, Value.int .i64 ((rs.length : Nat) : Int)), (42, Value.int .i64 (i : Int)), (47, Value.slice d1.ss.a d1.ss.l.length d1.ss.cap), (48, Value.int .i64 ((d1.ss.l.length : Nat) : Int)), (49, Value.int .i64 (k : Int))]) (fun x w => match x with | ⟨k, out, oa, oc⟩ => (k ≤ d1.ss.l.length ∧ OutOk A out ∧ CovR out (rs.take i) ∧ CovL out (d1.ss.l.take k)) ∧ St B (own oa out.length oc 93 3 (out.flatMap mrc) :: allA mrA out :: mpS r17 (out.map kvO) :: mpS r2 (o1.map kvS) :: allA serA o1 :: hdA 126 131 103 g A :: X :: allA recA rs :: (rdH d1.ss.a d1.ss.l.length 3 (d1.ss.l.flatMap smc)) :: smsA d1.ss.l :: L) w) (fun x => match x with | ⟨k, out, oa, oc⟩ => d1.ss.l.length - k) (0, out, oa, oc) ⟨⟨Nat.zero_le _, hO, hC, fun s hs => by cases hs⟩, ((hS23.mask [false, true, false, true, false] (L' := _::_::_::_::_::_::_::_::_::_::L) rfl).permT [3, 3, 3, 3, 3, 3, 3, 2] (L' := _::_::_::_::_::_::_::_::_::_::L) rfl)⟩ (Sub.cons rfl (Sub.cons rfl (Sub.cons rfl (Sub.cons rfl (Sub.cons rfl (Sub.cons rfl (Sub.cons rfl (Sub.cons rfl (Sub.cons rfl (Sub.cons rfl (Sub.cons rfl (Sub.consE rfl (by first | rfl | first | rfl | (congr 1; omega) | (simp; done) | (simp; omega)) (Sub.nil _))))))))))))) ?_
   rintro ⟨k, out, oa, oc⟩ w24 ⟨⟨hk, hO, hC, hL⟩, hS24⟩
   clear hS23
   refine WP.seq (WP.region rfl ?_)
   refine WO.V (run_lss rfl rfl) ?_
   refine WO.nil (NX.go (WP.seq ?_))
   refine WP.condP rfl (fun g50 => ?_) (fun g50 => ?_)
   ·
    refine WP.skip (NX.go (WP.seq (WP.block (WP.seq ?_))))
    obtain ⟨z1, hz1⟩ : ∃ qq, d1.ss.l[k]? = some qq := ⟨_, List.getElem?_eq_getElem (by omega)⟩
    have hzz := hzd.s z1 (List.mem_of_getElem? hz1)
    obtain ⟨r1, hr1, hr1e⟩ : ∃ r ∈ A, r.lb = z1.lb.l := hH.2 d1.p (List.mem_map.2 ⟨d1, List.mem_of_getElem? hd1, rfl⟩) z1.p (List.mem_map.2 ⟨z1, List.mem_of_getElem? hz1, rfl⟩)
    have hcz : chk z1.lb.l = true := hr1e ▸ hA.chk r1 hr1
    have houtc : ∀ x ∈ out, chk x.lb.l = true := fun x hx => hA.chk x.p (hO.mem x hx)
    have hOl := hO.len
    have hS25 := smsA_get hz1 (hS24.permT [9] (L' := _::_::_::_::_::_::_::_::_::_::L) rfl)
    clear hS24
    have hsd : d1.ss.a.isSome = true := rd_isSome ((rdH_rd (hS25.focus 10 rfl))) (by omega)
    refine WP.region rfl ?_
    refine WO.V (run_indexAddr (q := adr d1.ss.a (k * 3)) Tryz.underlying31 Ty.sz83 rfl rfl (by omega) (by omega) ((rdH_rd (hS25.focus 10 rfl)).2.1 (by omega)) rfl) ?_
    refine WO.V (run_loadAgg (vs := (smc z1)) Ty.ag83 Ty.sz83 rfl ((rdH_rd (hS25.focus 10 rfl)).cells (by rw [flat_len smc_len]; omega) (flat_part smc_len hz1)).1 ((rdH_rd (hS25.focus 10 rfl)).cells (by rw [flat_len smc_len]; omega) (flat_part smc_len hz1)).2) ?_
    refine WO.alloc (l := [Value.slice none 0 0, Value.int .i64 0, Value.int .u64 0]) hS25 Ty.zr83 rfl rfl (fun g27 w26 lg27 hS26 => ?_)
    clear hS25
    refine WO.store (l' := (smc z1)) 0 hS26 rfl Ty.sz83 rfl rfl rfl rfl rfl (Nat.le_of_ble_eq_true rfl) rfl (fun w28 (hS28 : St B (cel g27 (smc z1) 83 :: (labA z1.lb) :: _::_::_::_::_::_::_::_::_::_::L) w28) => ?_)
    clear hS26
    refine WO.nil (NX.go (WP.seq (WP.region rfl ?_)))
    refine WO.V (run_fa 0 ⟨g27, 0, none⟩ rfl rfl) ?_
    refine WO.V (run_load Ty.ag65 rfl ((hS28.cel_at 0 rfl 0).trans rfl)) ?_
    have hS29 := hS28.permT [1] (L' := _::_::_::_::_::_::_::_::_::_::_::_::L) rfl
    clear hS28
    refine WO.call rfl rfl Ty.hd59 rfl (lenc_spec rdH_rd (chk_SzP hcz).1 (chk_SzP hcz).2 hS29) (fun v31 w30 pv31 => ?_)
    obtain ⟨rfl, hS30⟩ := pv31
    clear hS29
    refine WO.mv rfl rfl ?_
    refine WO.V (run_extract rfl rfl) ?_
    refine WO.V (run_extract rfl rfl) ?_
    refine WO.asg rfl rfl ?_
    refine WO.asg rfl rfl ?_
    refine WO.nil (NX.go (WP.seq (WP.seq (WP.region rfl ?_))))
    refine WO.mv rfl rfl ?_
    refine WO.mv rfl rfl ?_
    refine WO.V (run_lookupS 5 hS30 rfl Tryz.underlying196 Tryz.underlying9 Ty.zr4 rfl rfl (look_seen hcz houtc)) ?_
    refine WO.nil (NX.go ?_)
    refine WP.condP rfl (fun g61 => ?_) (fun g61 => ?_)
    ·
     refine WP.exit (NX.thenExit ?_)
     refine NX.blkExit ?_
     refine NX.go (WP.region rfl ?_)
     refine WO.V (run_add rfl rfl (IntWalk.i64_in _ (by omega))) ?_
     refine WO.mv rfl rfl ?_
     refine WO.nil ?_
     exact NX.again (k + 1, out, oa, oc) ⟨⟨by omega, hO, hC, hL.snoc hz1 g61⟩, (hS30.permT [0, 0, 1, 1, 1, 1, 1, 1, 1, 1, 1] (L' := _::_::_::_::_::_::_::_::_::_::_::_::L) rfl).drop.drop⟩ (by show d1.ss.l.length - (k + 1) < d1.ss.l.length - k; omega) (Sub.cons rfl (Sub.cons rfl (Sub.cons rfl (Sub.cons rfl (Sub.consE rfl (by first | rfl | (congr 1; omega) | (simp; done) | (simp; omega)) (Sub.cons rfl (Sub.cons rfl (Sub.cons rfl (Sub.cons rfl (Sub.cons rfl (Sub.cons rfl (Sub.consE rfl (by congr 1) (Sub.nil _)))))))))))))
    ·
     refine WP.skip (NX.go (WP.seq (WP.region rfl ?_)))
     refine WO.mv rfl rfl ?_
     refine WO.mv rfl rfl ?_
     refine WO.mapUpdateS 5 hS30 rfl Tryz.underlying196 Tryz.underlying9 rfl rfl rfl (fun w32 hS32 => ?_)
     replace hS32 : St B (_::_::_::_::_::mpS r17 (out.map kvO ++ [(keyB z1.lb.l, .bool true)]) :: _::_::_::_::_::_::L) w32 := (by have z9 := hS32; rw [putS_new (seen_none hcz houtc g61)] at z9; exact z9)
     clear hS30
     refine WO.nil (NX.go (WP.seq (WP.region rfl ?_)))
     refine WO.mv rfl rfl ?_
     refine WO.V (run_fa 0 ⟨g27, 0, none⟩ rfl rfl) ?_
     refine WO.V (run_load Ty.ag65 rfl ((hS32.cel_at 1 rfl 0).trans rfl)) ?_
     have hS33 := hS32.permT [8] (L' := _::_::_::_::_::_::_::_::_::_::_::_::L) rfl
     clear hS32
     refine WO.call rfl rfl Ty.hd78 rfl (hlast_spec (g := g) (Y := labA z1.lb) rdH_rd hA (chk_SzP hcz).1 (chk_SzP hcz).2 hS33) (fun v35 w34 pv35 => ?_)
     obtain ⟨rfl, hS34⟩ := pv35
     clear hS33
     refine WO.mv rfl rfl ?_
     refine WO.V (run_extract rfl rfl) ?_
     refine WO.V (run_extract rfl rfl) ?_
     refine WO.asg rfl rfl ?_
     refine WO.asg rfl rfl ?_
     refine WO.nil (NX.go ?_)
     have hlast : lastF A z1.lb.l = some r1.last := hr1e ▸ lastF_mem hA.srt hr1
     obtain ⟨q1, hq1, hq1l, hq1o⟩ := look_ser ho1 hA.srt hR hA.chk hr1
     rw [hr1e] at hq1
     refine WD.start (fun w => (∀ jz, World.cell? w ⟨g27, jz, none⟩ = (smc z1)[jz]?) ∧ (∃ (BB : World) (LL : List HP), St BB (mpS r2 (o1.map kvS) :: LL) w )) [] (bt 13 0) Ty.mo rfl (by kernel_rfl) hS34 (fun _ h => ⟨h.cel_at 2 rfl, (by first | exact ⟨_, _, h.focus 0 rfl⟩ | exact ⟨_, _, h.focus 1 rfl⟩ | exact ⟨_, _, h.focus 2 rfl⟩ | exact ⟨_, _, h.focus 3 rfl⟩ | exact ⟨_, _, h.focus 4 rfl⟩ | exact ⟨_, _, h.focus 5 rfl⟩ | exact ⟨_, _, h.focus 6 rfl⟩ | exact ⟨_, _, h.focus 7 rfl⟩ | exact ⟨_, _, h.focus 8 rfl⟩ | exact ⟨_, _, h.focus 9 rfl⟩)⟩) (fun w36 hS36 s37 => ?_)
     clear hS34
     refine DP (i := 0) t113_20 (bt 13 1) rfl rfl rfl rfl (fun w => run_move rfl) ?_
     refine DP (i := 2) t113_20 (bt 13 5) rfl rfl rfl rfl (fun w => run_fa 0 ⟨g27, 0, none⟩ rfl rfl) ?_
     refine DT (i := 3) t113_20 (bt 13 13) s37 rfl rfl rfl rfl (fun w hs => run_load Ty.ag65 rfl ((hs.1 0).trans rfl)) ?_
     refine DP (i := 5) t113_20 (bt 13 45) rfl rfl rfl rfl (fun w => run_move rfl) ?_
     refine DP (i := 6) t113_20 (bt 13 109) rfl rfl rfl rfl (fun w => run_move rfl) ?_
     refine DP (i := 7) t113_20 (bt 13 237) rfl rfl rfl rfl (fun w => run_move rfl) ?_
     refine DT (i := 8) t113_20 (bt 13 493) s37 rfl rfl rfl rfl (fun w hs => run_lookSW hs.2 Tryz.underlying195 Tryz.underlying9 Ty.zr66 rfl rfl hq1) ?_
     refine WD.one (i := 1) t113_20 (bt 13 495) rfl (by kernel_rfl) ?_
     refine WO.buildSlice (l := []) hS36 Tryz.underlying65 rfl (fun w => by kernel_rfl) rfl (fun g39 w38 lg39 hS38 => ?_)
     clear hS36
     have hS38 := hS38.own_of_cel (m := 0) (k := 2) rfl
     refine WO.nil ?_
     have s40 : (∀ jz, World.cell? w38 ⟨g27, jz, none⟩ = (smc z1)[jz]?) ∧ (∃ (BB : World) (LL : List HP), St BB (mpS r2 (o1.map kvS) :: LL) w38 ) := ⟨hS38.cel_at 3 rfl, (by first | exact ⟨_, _, hS38.focus 0 rfl⟩ | exact ⟨_, _, hS38.focus 1 rfl⟩ | exact ⟨_, _, hS38.focus 2 rfl⟩ | exact ⟨_, _, hS38.focus 3 rfl⟩ | exact ⟨_, _, hS38.focus 4 rfl⟩ | exact ⟨_, _, hS38.focus 5 rfl⟩ | exact ⟨_, _, hS38.focus 6 rfl⟩ | exact ⟨_, _, hS38.focus 7 rfl⟩ | exact ⟨_, _, hS38.focus 8 rfl⟩ | exact ⟨_, _, hS38.focus 9 rfl⟩)⟩
     refine NX.held s40 ?_
     refine WD.one (i := 4) t113_20 (bt 13 511) rfl (by kernel_rfl) ?_
     refine WO.append (news := (z1.lb.l.flatMap prc)) 0 rfl Tryz.underlying65 Tryz.underlying65 (fun _ h => by cases h) Ty.sz105 (by decide) Ty.by105 Ty.zr105 rfl rfl rfl rfl hS38 rfl ((rdH_rd (hS38.focus 2 rfl)).src) (flat_noAgg prc_na _) (by omega) (by omega) (fun a42 c43 w41 hS41 => ?_)
     replace hS41 : St B (own a42 z1.lb.l.length c43 105 2 (z1.lb.l.flatMap prc) :: _::_::_::_::_::_::_::_::_::_::_::_::L) w41 := (by have z9 := hS41; rw [Nat.zero_add z1.lb.l.length, List.nil_append (z1.lb.l.flatMap prc)] at z9; exact z9)
     refine WO.as (d := 75) (v := Value.slice a42 z1.lb.l.length c43) rfl (congrArg (fun z => Value.slice _ z _) (Nat.zero_add _)) ?_
     clear hS38
     refine WO.nil ?_
     have s44 : (∀ jz, World.cell? w41 ⟨g27, jz, none⟩ = (smc z1)[jz]?) ∧ (∃ (BB : World) (LL : List HP), St BB (mpS r2 (o1.map kvS) :: LL) w41 ) := ⟨hS41.cel_at 3 rfl, (by first | exact ⟨_, _, hS41.focus 0 rfl⟩ | exact ⟨_, _, hS41.focus 1 rfl⟩ | exact ⟨_, _, hS41.focus 2 rfl⟩ | exact ⟨_, _, hS41.focus 3 rfl⟩ | exact ⟨_, _, hS41.focus 4 rfl⟩ | exact ⟨_, _, hS41.focus 5 rfl⟩ | exact ⟨_, _, hS41.focus 6 rfl⟩ | exact ⟨_, _, hS41.focus 7 rfl⟩ | exact ⟨_, _, hS41.focus 8 rfl⟩ | exact ⟨_, _, hS41.focus 9 rfl⟩)⟩
     refine NX.held s44 ?_
     refine DP (i := 9) t113_20 (bt 13 1023) rfl rfl rfl rfl (fun w => run_build (v := Value.agg #[Value.slice a42 z1.lb.l.length c43, Value.int .i64 ((lastF A z1.lb.l).getD 0), Value.slice q1.a q1.l.length q1.cap]) rfl (fun w => by kernel_rfl)) ?_
     refine WD.one (i := 10) t113_20 (bt 13 2047) rfl (by kernel_rfl) ?_
     refine WO.buildSlice (l := [Value.slice a42 z1.lb.l.length c43, Value.int .i64 ((lastF A z1.lb.l).getD 0), Value.slice q1.a q1.l.length q1.cap]) hS41 Tryz.underlying44 rfl (fun w => by kernel_rfl) rfl (fun g46 w45 lg46 hS45 => ?_)
     clear hS41
     refine WO.nil ?_
     have s47 : (∀ jz, World.cell? w45 ⟨g27, jz, none⟩ = (smc z1)[jz]?) ∧ (∃ (BB : World) (LL : List HP), St BB (mpS r2 (o1.map kvS) :: LL) w45 ) := ⟨hS45.cel_at 4 rfl, (by first | exact ⟨_, _, hS45.focus 0 rfl⟩ | exact ⟨_, _, hS45.focus 1 rfl⟩ | exact ⟨_, _, hS45.focus 2 rfl⟩ | exact ⟨_, _, hS45.focus 3 rfl⟩ | exact ⟨_, _, hS45.focus 4 rfl⟩ | exact ⟨_, _, hS45.focus 5 rfl⟩ | exact ⟨_, _, hS45.focus 6 rfl⟩ | exact ⟨_, _, hS45.focus 7 rfl⟩ | exact ⟨_, _, hS45.focus 8 rfl⟩ | exact ⟨_, _, hS45.focus 9 rfl⟩)⟩
     refine NX.held s47 ?_
     refine WD.one (i := 11) t113_20 (bt 13 4095) rfl (by kernel_rfl) ?_
     refine WO.append (news := [Value.slice a42 z1.lb.l.length c43, Value.int .i64 ((lastF A z1.lb.l).getD 0), Value.slice q1.a q1.l.length q1.cap]) 6 rfl Tryz.underlying44 Tryz.underlying44 (fun _ h => by cases h) Ty.sz93 (by decide) Ty.by93 Ty.zr93 rfl rfl rfl rfl hS45 rfl ((hS45.cel_rd 0 rfl (o := 0) (m := 1) (k := 3) rfl (Nat.le_of_ble_eq_true rfl)).src) rfl (by omega) (by omega) (fun a49 c50 w48 hS48 => ?_)
     replace hS48 : St B (cel g46 [Value.slice a42 z1.lb.l.length c43, Value.int .i64 ((lastF A z1.lb.l).getD 0), Value.slice q1.a q1.l.length q1.cap] 93 :: _::_::_::_::_::own a49 (out.length + 1) c50 93 3 ((out.flatMap mrc) ++ [Value.slice a42 z1.lb.l.length c43, Value.int .i64 ((lastF A z1.lb.l).getD 0), Value.slice q1.a q1.l.length q1.cap]) :: _::_::_::_::_::_::_::L) w48 := hS48
     clear hS45
     refine WO.nil ?_
     have s51 : (∀ jz, World.cell? w48 ⟨g27, jz, none⟩ = (smc z1)[jz]?) ∧ (∃ (BB : World) (LL : List HP), St BB (mpS r2 (o1.map kvS) :: LL) w48 ) := ⟨hS48.cel_at 4 rfl, (by first | exact ⟨_, _, hS48.focus 0 rfl⟩ | exact ⟨_, _, hS48.focus 1 rfl⟩ | exact ⟨_, _, hS48.focus 2 rfl⟩ | exact ⟨_, _, hS48.focus 3 rfl⟩ | exact ⟨_, _, hS48.focus 4 rfl⟩ | exact ⟨_, _, hS48.focus 5 rfl⟩ | exact ⟨_, _, hS48.focus 6 rfl⟩ | exact ⟨_, _, hS48.focus 7 rfl⟩ | exact ⟨_, _, hS48.focus 8 rfl⟩ | exact ⟨_, _, hS48.focus 9 rfl⟩)⟩
     refine NX.held s51 ?_
     refine DP (i := 12) t113_20 (bt 13 8191) rfl rfl rfl rfl (fun w => run_assign rfl) ?_
     refine WD.done t113_20 (by kernel_rfl) ?_
     refine NX.blk (NX.go (WP.region rfl ?_))
     refine WO.V (run_add rfl rfl (IntWalk.i64_in _ (by omega))) ?_
     refine WO.mv rfl rfl ?_
     refine WO.nil ?_
     have hS52 : St B (labA ⟨a42, z1.lb.l, c43⟩ :: _::_::_::_::_::_::_::_::_::_::_::_::_::L) w48 := rdH_own (hS48.permT [1] (L' := _::_::_::_::_::_::_::_::_::_::_::_::_::_::L) rfl)
     clear hS48
     have hS53 := ser_pts hq1o (hS52.permT [10] (L' := _::_::_::_::_::_::_::_::_::_::_::_::_::_::L) rfl)
     clear hS52
     have hS54 := mr_snoc (x := (⟨⟨a42, z1.lb.l, c43⟩, (lastF A z1.lb.l).getD 0, q1⟩ : MRow)) (hS53.permT [2, 0, 7] (L' := _::_::_::_::_::_::_::_::_::_::_::_::_::_::_::L) rfl)
     clear hS53
     have hnw : (⟨⟨a42, z1.lb.l, c43⟩, (lastF A z1.lb.l).getD 0, q1⟩ : MRow).p ∈ A := by show RowP.mk z1.lb.l ((lastF A z1.lb.l).getD 0) q1.l ∈ A; rw [hlast, hq1l, ← hr1e]; exact hr1
     exact NX.again (k + 1, out ++ [(⟨⟨a42, z1.lb.l, c43⟩, (lastF A z1.lb.l).getD 0, q1⟩ : MRow)], a49, c50) ⟨⟨by omega, hO.snoc hnw g61, hC.more, hL.more.snoc hz1 (by rw [List.map_append]; exact List.mem_append_right _ (List.mem_singleton_self _))⟩, by have z9 := own_eqM (n' := (out ++ [(⟨⟨a42, z1.lb.l, c43⟩, (lastF A z1.lb.l).getD 0, q1⟩ : MRow)]).length) (l' := (out ++ [(⟨⟨a42, z1.lb.l, c43⟩, (lastF A z1.lb.l).getD 0, q1⟩ : MRow)]).flatMap mrc) (((hS54.mask [true, true, false, true, false, false] (L' := _::_::_::_::_::_::_::_::_::_::L) rfl).permT [4, 0, 3, 3, 0, 0, 1, 1, 1] (L' := _::_::_::_::_::_::_::_::_::_::L) rfl)) (by simp) (by simp [mrc]); rw [show out.map kvO ++ [(keyB z1.lb.l, Value.bool true)] = (out ++ [(⟨⟨a42, z1.lb.l, c43⟩, (lastF A z1.lb.l).getD 0, q1⟩ : MRow)]).map kvO by rw [List.map_append]; rfl] at z9; exact z9⟩ (by show d1.ss.l.length - (k + 1) < d1.ss.l.length - k; omega) (Sub.cons rfl (Sub.cons rfl (Sub.cons rfl (Sub.cons rfl (Sub.consE rfl (by simp) (Sub.cons rfl (Sub.cons rfl (Sub.cons rfl (Sub.cons rfl (Sub.cons rfl (Sub.cons rfl (Sub.consE rfl (by congr 1) (Sub.nil _)))))))))))))
   ·
    refine WP.exit (NX.thenExit (NX.thenExit ?_))
    refine NX.blkExit ?_
    refine NX.blk (NX.go (WP.region rfl ?_))
    refine WO.V (run_add rfl rfl (IntWalk.i64_in _ (by omega))) ?_
    refine WO.mv rfl rfl ?_
    refine WO.nil ?_
    exact NX.again (i + 1, out, oa, oc) ⟨⟨by omega, hO, hC.snoc hd1 (by rw [List.take_of_length_le (by omega)] at hL; exact hL)⟩, (hS24.mask [true, true, true, true, true, true, true, true, false, false] (L' := _::_::_::_::_::_::_::_::L) rfl)⟩ (by show rs.length - (i + 1) < rs.length - i; omega) (Sub.cons rfl (Sub.cons rfl (Sub.cons rfl (Sub.cons rfl (Sub.consE rfl (by first | rfl | (congr 1; omega) | (simp; done) | (simp; omega)) (Sub.cons rfl (Sub.cons rfl (Sub.cons rfl (Sub.consE rfl (by congr 1) (Sub.nil _))))))))))
  ·
   refine WP.exit (NX.thenExit (NX.thenExit ?_))
   refine NX.blkExit ?_
   refine NX.go (WP.seq ?_)
   have houtc : ∀ x ∈ out, chk x.lb.l = true := fun x hx => hA.chk x.p (hO.mem x hx)
   have hC9 : CovR out rs := by rw [List.take_of_length_le (by omega)] at hC; exact hC
   have hol : out.length ≤ 256 := by have h9 := (rows_perm hA.srt hO.mem hO.nd (fun r hr => by obtain ⟨d, hd, s, hs, e⟩ := hH.1 r hr; obtain ⟨d2, hd2, rfl⟩ := List.mem_map.1 hd; obtain ⟨s2, hs2, rfl⟩ := List.mem_map.1 hs; rw [← e]; exact hC9 d2 hd2 s2 hs2)).length_eq; rw [List.length_map] at h9; omega
   refine WP.region rfl ?_
   refine WO.mv rfl rfl ?_
   refine WO.call rfl rfl Ty.hd132 rfl (bsort_spec (R := out) (by omega) (fun r hr => (chk_SzP (houtc r hr)).2) hS19) (fun v56 w55 pv56 => ?_)
   obtain ⟨rfl, T, hTp, hTo, hS55⟩ := pv56
   clear hS19
   refine WO.nil (NX.go (WP.seq (WP.region rfl ?_)))
   refine WO.mv rfl rfl ?_
   refine WO.asg rfl rfl ?_
   refine WO.nil (NX.go (WP.ret ?_))
   refine NX.done (l := [.tmp 4]) rfl rfl ?_
   have hS57 := allA_sub mrA_pers (l := T) (fun x hx => hTp.subset hx) (hS55.permT [1] (L' := _::_::_::_::_::_::_::_::L) rfl)
   have hTA := out_done hA.srt hH hO hC9 hTp hTo
   exact ⟨oa, oc, T, by rw [hTp.length_eq]; rfl, hTA, own_eqM (((hS57.mask [true, false, true, false, false, false] (L' := _::_::_::_::_::L) rfl).permT [1] (L' := _::_::_::_::_::L) rfl)) hTp.length_eq.symm rfl⟩
end Go.Proofs.YtidoidoelgfnaaaGreatDoor.SL

/- A block of records. -/
namespace Go.Proofs.YtidoidoelgfnaaaGreatDoor.SL
open Go.RowKit Go.Proofs.YtidoidoelgfnaaaGreatDoor
open Go.Proofs.YtidoidoelgfnaaaGreatDoorW.PrintLast (rtab opsOf)
set_option linter.unusedVariables false
set_option linter.unusedSimpArgs false

def zB0 : BlkV := ⟨0, 0, ⟨none, [], 0⟩, ⟨none, [], 0⟩⟩
theorem zB0_sz : SzB zB0 := ⟨Nat.zero_le _, Nat.zero_le _, (fun r h => by cases h), fun d h => by cases h⟩
theorem zB0_at {B w : World} {L : List HP} (h : St B L w) : St B (blA zB0 :: L) w := by
  have hq1 : St B (allA recA [] :: L) w := h.addPure trivial
  have hq2 := rdH_zero (a := none) (k := 5) (l := []) rfl hq1
  have hq3 := hq2.addPure (p := True) trivial
  exact blA_shut (b := zB0) (rdH_zero (a := none) (k := 3) (l := []) rfl hq3)
theorem rec_mk {B w : World} {L : List HP} (r : Rcd) (h : St B (rdH r.ss.a r.ss.l.length 3 (r.ss.l.flatMap smc) :: rdH r.ms.a r.ms.l.length 3 (r.ms.l.flatMap mtc) :: smsA r.ss.l :: L) w) : St B (recA r :: L) w := by
  have h1 := (h.permT [1, 1, 0] (L' := _::_::_::L) rfl).join
  exact (h1.permT [1, 0] (L' := _::_::L) rfl).join
theorem bof_spec {B w : World} {L : List HP} {X : HP} {b : Option Addr} {cap : Nat} {rs : List Rcd} (hX : ∀ {L : List HP} {w : World}, St B (X :: L) w → Rd w b rs.length 5 (rs.flatMap rcc)) (first : Int) (hrng : ∀ r ∈ rs, RngP r.p) (hz : ∀ r ∈ rs, SzR r) (hn : rs.length ≤ 2814749767106) (hf : -9223372036854775808 ≤ first ∧ first ≤ 9223372036854775807) (hS : St B (X :: allA recA rs :: L) w) : Does Tryz.prog 80 [Value.int .i64 first, Value.slice b rs.length cap] w (fun v w1 => ∃ b1 : BlkV, v = .tuple #[.agg (blc b1).toArray, .int .i64 (ofE first (rs.map Rcd.p))] ∧ (ofE first (rs.map Rcd.p) = 0 → b1.p = ofB first (rs.map Rcd.p)) ∧ (ofE first (rs.map Rcd.p) ≠ 0 → b1.p = ⟨0, 0, [], []⟩) ∧ SzB b1 ∧ b1.rs.l.length ≤ 256 ∧ St B (blA b1 :: X :: allA recA rs :: L) w1) := by
 refine enter (n := 72) Tryz.func80 rfl rfl [Value.int .i64 first, Value.slice b rs.length cap] rfl ?_
 refine WP.seq (WP.region rfl ?_)
 refine WO.alloc (l := [Value.int .i64 0, Value.int .i64 0, Value.slice none 0 0, Value.slice none 0 0]) hS Ty.zr46 rfl rfl (fun g2 w1 lg2 hS1 => ?_)
 clear hS
 refine WO.asg rfl rfl ?_
 refine WO.nil (NX.go (WP.seq (WP.seq (WP.region rfl ?_))))
 refine WO.mv rfl rfl ?_
 refine WO.V (run_lss rfl rfl) ?_
 refine WO.mv rfl rfl ?_
 refine dcase (p := first < 1) (fun g13 d13 => ?_) (fun g13 d13 => ?_)
 ·
  refine WO.off rfl rfl d13 rfl ?_
  refine WO.off rfl rfl d13 rfl ?_
  refine WO.V (run_pickT rfl d13 rfl) ?_
  refine WO.mv rfl rfl ?_
  refine WO.off rfl rfl rfl rfl ?_
  refine WO.off rfl rfl rfl rfl ?_
  refine WO.off rfl rfl rfl rfl ?_
  refine WO.V (run_pickT rfl rfl rfl) ?_
  refine WO.mv rfl rfl ?_
  refine WO.off rfl rfl rfl rfl ?_
  refine WO.off rfl rfl rfl rfl ?_
  refine WO.off rfl rfl rfl rfl ?_
  refine WO.off rfl rfl rfl rfl ?_
  refine WO.off rfl rfl rfl rfl ?_
  refine WO.off rfl rfl rfl rfl ?_
  refine WO.V (run_pickT rfl rfl rfl) ?_
  refine WO.nil (NX.go ?_)
  refine WP.condT rfl rfl ?_
  refine WP.seq (WP.region rfl ?_)
  refine WO.V (run_build (v := Value.agg #[Value.int .i64 0, Value.int .i64 0, Value.slice none 0 0, Value.slice none 0 0]) rfl (fun w => by kernel_rfl)) ?_
  refine WO.store (l' := [Value.int .i64 0, Value.int .i64 0, Value.slice none 0 0, Value.slice none 0 0]) 0 hS1 rfl Ty.sz46 rfl rfl rfl rfl rfl (Nat.le_of_ble_eq_true rfl) rfl (fun w3 (hS3 : St B (cel g2 [Value.int .i64 0, Value.int .i64 0, Value.slice none 0 0, Value.slice none 0 0] 46 :: _::_::L) w3) => ?_)
  clear hS1
  refine WO.asg rfl rfl ?_
  refine WO.nil (NX.go (WP.ret (NX.thenRet ?_)))
  refine NX.doneC (l := [.cell 4 46, .tmp 5]) rfl (.cons (.cell rfl (loadVar_agg (vs := [Value.int .i64 0, Value.int .i64 0, Value.slice none 0 0, Value.slice none 0 0]) Ty.ag46 Ty.sz46 rfl (cell_all (hS3.cel_at 0 rfl) 0 rfl))) (.cons (.tmp rfl) .nil)) ?_
  have he : ofE first (rs.map Rcd.p) = 2 := if_pos (by rw [List.length_map]; omega)
  exact ⟨zB0, by rw [he]; rfl, (fun h => by rw [he] at h; cases h), (fun _ => rfl), zB0_sz, Nat.zero_le _, zB0_at (hS3.drop)⟩
 ·
  refine WO.on rfl rfl d13 ?_
  refine WO.mv rfl rfl ?_
  refine WO.on rfl rfl d13 ?_
  refine WO.V (run_gtr rfl rfl) ?_
  refine WO.V (run_pickF rfl d13 rfl) ?_
  refine WO.mv rfl rfl ?_
  refine dcase (p := 99999999 < first) (fun g17 d17 => ?_) (fun g17 d17 => ?_)
  ·
   refine WO.off rfl rfl d17 rfl ?_
   refine WO.off rfl rfl d17 rfl ?_
   refine WO.off rfl rfl d17 rfl ?_
   refine WO.V (run_pickT rfl d17 rfl) ?_
   refine WO.mv rfl rfl ?_
   refine WO.off rfl rfl rfl rfl ?_
   refine WO.off rfl rfl rfl rfl ?_
   refine WO.off rfl rfl rfl rfl ?_
   refine WO.off rfl rfl rfl rfl ?_
   refine WO.off rfl rfl rfl rfl ?_
   refine WO.off rfl rfl rfl rfl ?_
   refine WO.V (run_pickT rfl rfl rfl) ?_
   refine WO.nil (NX.go ?_)
   refine WP.condT rfl rfl ?_
   refine WP.seq (WP.region rfl ?_)
   refine WO.V (run_build (v := Value.agg #[Value.int .i64 0, Value.int .i64 0, Value.slice none 0 0, Value.slice none 0 0]) rfl (fun w => by kernel_rfl)) ?_
   refine WO.store (l' := [Value.int .i64 0, Value.int .i64 0, Value.slice none 0 0, Value.slice none 0 0]) 0 hS1 rfl Ty.sz46 rfl rfl rfl rfl rfl (Nat.le_of_ble_eq_true rfl) rfl (fun w4 (hS4 : St B (_::_::_::L) w4) => ?_)
   clear hS1
   refine WO.asg rfl rfl ?_
   refine WO.nil (NX.go (WP.ret (NX.thenRet ?_)))
   refine NX.doneC (l := [.cell 4 46, .tmp 5]) rfl (.cons (.cell rfl (loadVar_agg (vs := [Value.int .i64 0, Value.int .i64 0, Value.slice none 0 0, Value.slice none 0 0]) Ty.ag46 Ty.sz46 rfl (cell_all (hS4.cel_at 0 rfl) 0 rfl))) (.cons (.tmp rfl) .nil)) ?_
   have he : ofE first (rs.map Rcd.p) = 2 := if_pos (by rw [List.length_map]; omega)
   exact ⟨zB0, by rw [he]; rfl, (fun h => by rw [he] at h; cases h), (fun _ => rfl), zB0_sz, Nat.zero_le _, zB0_at (hS4.drop)⟩
  ·
   refine WO.on rfl rfl d17 ?_
   refine WO.mv rfl rfl ?_
   refine WO.on rfl rfl d17 ?_
   refine WO.V (run_len rfl Tryz.underlying23 rfl) ?_
   refine WO.on rfl rfl d17 ?_
   refine WO.V (run_eql rfl rfl) ?_
   refine WO.V (run_pickF rfl d17 rfl) ?_
   refine WO.mv rfl rfl ?_
   refine dcase (p := ((rs.length : Nat) : Int) = 0) (fun g22 d22 => ?_) (fun g22 d22 => ?_)
   ·
    refine WO.off rfl rfl d22 rfl ?_
    refine WO.off rfl rfl d22 rfl ?_
    refine WO.off rfl rfl d22 rfl ?_
    refine WO.off rfl rfl d22 rfl ?_
    refine WO.off rfl rfl d22 rfl ?_
    refine WO.off rfl rfl d22 rfl ?_
    refine WO.V (run_pickT rfl d22 rfl) ?_
    refine WO.nil (NX.go ?_)
    refine WP.condT rfl rfl ?_
    refine WP.seq (WP.region rfl ?_)
    refine WO.V (run_build (v := Value.agg #[Value.int .i64 0, Value.int .i64 0, Value.slice none 0 0, Value.slice none 0 0]) rfl (fun w => by kernel_rfl)) ?_
    refine WO.store (l' := [Value.int .i64 0, Value.int .i64 0, Value.slice none 0 0, Value.slice none 0 0]) 0 hS1 rfl Ty.sz46 rfl rfl rfl rfl rfl (Nat.le_of_ble_eq_true rfl) rfl (fun w5 (hS5 : St B (_::_::_::L) w5) => ?_)
    clear hS1
    refine WO.asg rfl rfl ?_
    refine WO.nil (NX.go (WP.ret (NX.thenRet ?_)))
    refine NX.doneC (l := [.cell 4 46, .tmp 5]) rfl (.cons (.cell rfl (loadVar_agg (vs := [Value.int .i64 0, Value.int .i64 0, Value.slice none 0 0, Value.slice none 0 0]) Ty.ag46 Ty.sz46 rfl (cell_all (hS5.cel_at 0 rfl) 0 rfl))) (.cons (.tmp rfl) .nil)) ?_
    have he : ofE first (rs.map Rcd.p) = 2 := if_pos (by rw [List.length_map]; omega)
    exact ⟨zB0, by rw [he]; rfl, (fun h => by rw [he] at h; cases h), (fun _ => rfl), zB0_sz, Nat.zero_le _, zB0_at (hS5.drop)⟩
   ·
    refine WO.on rfl rfl d22 ?_
    refine WO.mv rfl rfl ?_
    refine WO.on rfl rfl d22 ?_
    refine WO.V (run_len rfl Tryz.underlying23 rfl) ?_
    refine WO.on rfl rfl d22 ?_
    refine WO.mv rfl rfl ?_
    refine WO.on rfl rfl d22 ?_
    refine WO.V (run_sub rfl rfl (IntWalk.i64_in _ (by omega))) ?_
    refine WO.on rfl rfl d22 ?_
    refine WO.V (run_add rfl rfl (IntWalk.i64_in _ (by omega))) ?_
    refine WO.on rfl rfl d22 ?_
    refine WO.V (run_gtr rfl rfl) ?_
    refine WO.V (run_pickF rfl d22 rfl) ?_
    refine WO.nil (NX.go ?_)
    refine WP.condP rfl (fun g29 => ?_) (fun g29 => ?_)
    ·
     refine WP.seq (WP.region rfl ?_)
     refine WO.V (run_build (v := Value.agg #[Value.int .i64 0, Value.int .i64 0, Value.slice none 0 0, Value.slice none 0 0]) rfl (fun w => by kernel_rfl)) ?_
     refine WO.store (l' := [Value.int .i64 0, Value.int .i64 0, Value.slice none 0 0, Value.slice none 0 0]) 0 hS1 rfl Ty.sz46 rfl rfl rfl rfl rfl (Nat.le_of_ble_eq_true rfl) rfl (fun w6 (hS6 : St B (_::_::_::L) w6) => ?_)
     clear hS1
     refine WO.asg rfl rfl ?_
     refine WO.nil (NX.go (WP.ret (NX.thenRet ?_)))
     refine NX.doneC (l := [.cell 4 46, .tmp 5]) rfl (.cons (.cell rfl (loadVar_agg (vs := [Value.int .i64 0, Value.int .i64 0, Value.slice none 0 0, Value.slice none 0 0]) Ty.ag46 Ty.sz46 rfl (cell_all (hS6.cel_at 0 rfl) 0 rfl))) (.cons (.tmp rfl) .nil)) ?_
     have he : ofE first (rs.map Rcd.p) = 2 := if_pos (by rw [List.length_map]; omega)
     exact ⟨zB0, by rw [he]; rfl, (fun h => by rw [he] at h; cases h), (fun _ => rfl), zB0_sz, Nat.zero_le _, zB0_at (hS6.drop)⟩
    ·
     refine WP.skip (NX.go (WP.seq (WP.region rfl ?_)))
     refine WO.call rfl rfl Ty.hd31 rfl (new_spec hS1) (fun v8 w7 pv8 => ?_)
     obtain ⟨gh, rfl, hS7⟩ := pv8
     clear hS1
     refine WO.asg rfl rfl ?_
     refine WO.nil (NX.go (WP.seq ?_))
     have hlen : 1 ≤ rs.length ∧ rs.length ≤ 99999999 := by omega
     refine WP.region rfl ?_
     refine WO.mv rfl rfl ?_
     refine WO.mv rfl rfl ?_
     refine WO.mv rfl rfl ?_
     refine WO.V (run_len rfl Tryz.underlying23 rfl) ?_
     refine WO.V (run_add rfl rfl (IntWalk.i64_in _ (by omega))) ?_
     refine WO.V (run_sub rfl rfl (IntWalk.i64_in _ (by omega))) ?_
     refine WO.V (run_build (v := Value.agg #[Value.int .i64 first, Value.int .i64 ((first + ((rs.length : Nat) : Int)) - 1), Value.slice none 0 0, Value.slice none 0 0]) rfl (fun w => by kernel_rfl)) ?_
     refine WO.alloc (l := [Value.int .i64 0, Value.int .i64 0, Value.slice none 0 0, Value.slice none 0 0]) hS7 Ty.zr46 rfl rfl (fun g10 w9 lg10 hS9 => ?_)
     clear hS7
     refine WO.store (l' := [Value.int .i64 first, Value.int .i64 ((first + ((rs.length : Nat) : Int)) - 1), Value.slice none 0 0, Value.slice none 0 0]) 0 hS9 rfl Ty.sz46 rfl rfl rfl rfl rfl (Nat.le_of_ble_eq_true rfl) rfl (fun w11 (hS11 : St B (cel g10 [Value.int .i64 first, Value.int .i64 ((first + ((rs.length : Nat) : Int)) - 1), Value.slice none 0 0, Value.slice none 0 0] 46 :: hdA 126 131 103 gh [] :: _::_::_::L) w11) => ?_)
     clear hS9
     refine WO.nil (NX.go (WP.seq (WP.seq (WP.region rfl ?_))))
     refine WO.mv rfl rfl ?_
     refine WO.V (run_len rfl Tryz.underlying23 rfl) ?_
     refine WO.mv rfl rfl ?_
     refine WO.nil (NX.go (WP.block ?_))
     replace hS11 := (St.addPure trivial hS11 : St B (allA recA [] :: cel g10 [Value.int .i64 first, Value.int .i64 ((first + ((rs.length : Nat) : Int)) - 1), Value.slice none 0 0, Value.slice none 0 0] 46 :: hdA 126 131 103 gh [] :: cel g2 [Value.int .i64 0, Value.int .i64 0, Value.slice none 0 0, Value.slice none 0 0] 46 :: X :: allA recA rs :: L) w11)
     replace hS11 := hS11.own_nil 33 5
     refine WP.loop (α := Nat × List RowP × List Rcd × Option Addr × Nat) (fun x => match x with | ⟨i, A, ds, da, dc⟩ => [(0, Value.int .i64 first), (1, Value.slice b rs.length cap), (4, Value.pointer (some ⟨g2, 0, none⟩)), (6, Value.pointer (some ⟨gh, 0, none⟩)), (7, Value.pointer (some ⟨g10, 0, none⟩)), (39, Value.slice b rs.length cap), (40, Value.int .i64 ((rs.length : Nat) : Int)), (41, Value.int .i64 (i : Int))]) (fun x w => match x with | ⟨i, A, ds, da, dc⟩ => (i ≤ rs.length ∧ WfH A (32 * i) ∧ A.length ≤ 256 ∧ RngA A ∧ HasL A ((rs.take i).map Rcd.p) ∧ runP [] (rs.map Rcd.p) = runP A ((rs.drop i).map Rcd.p) ∧ ds.map Rcd.p = delsOf ((rs.take i).map Rcd.p) ∧ ds.length ≤ i ∧ (∀ d ∈ ds, SzR d)) ∧ St B (own da ds.length dc 33 5 (ds.flatMap rcc) :: allA recA ds :: cel g10 [Value.int .i64 first, Value.int .i64 (first + ((rs.length : Nat) : Int) - 1), Value.slice none 0 0, Value.slice da ds.length dc] 46 :: cel g2 [Value.int .i64 0, Value.int .i64 0, Value.slice none 0 0, Value.slice none 0 0] 46 :: hdA 126 131 103 gh A :: X :: allA recA rs :: L) w) (fun x => match x with | ⟨i, A, ds, da, dc⟩ => rs.length - i) (0, [], [], none, 0) ⟨⟨Nat.zero_le _, wf_nil _, Nat.zero_le _, (fun r h => by cases h), has_nil, rfl, rfl, Nat.le_refl _, fun d h => by cases h⟩, (hS11.permT [0, 0, 0, 1] (L' := _::_::_::_::_::_::_::L) rfl)⟩ (Sub.cons rfl (Sub.cons rfl (Sub.cons rfl (Sub.cons rfl (Sub.cons rfl (Sub.cons rfl (Sub.cons rfl (Sub.consE rfl (by first | rfl | first | rfl | (congr 1; omega) | (simp; done) | (simp; omega)) (Sub.nil _))))))))) ?_
     rintro ⟨i, A, ds, da, dc⟩ w12 ⟨⟨hi, hA, hAl, hR, hH, hrun, hds, hdn, hdz⟩, hS12⟩
     clear hS11
     refine WP.seq (WP.region rfl ?_)
     refine WO.V (run_lss rfl rfl) ?_
     refine WO.nil (NX.go (WP.seq ?_))
     refine WP.condP rfl (fun g42 => ?_) (fun g42 => ?_)
     ·
      refine WP.skip (NX.go (WP.seq (WP.block (WP.seq ?_))))
      obtain ⟨d1, hd1⟩ : ∃ qq, rs[i]? = some qq := ⟨_, List.getElem?_eq_getElem (by omega)⟩
      have hzd := hz d1 (List.mem_of_getElem? hd1)
      have hS13 := allA_get recA_pers (List.mem_of_getElem? hd1) (hS12.permT [6] (L' := _::_::_::_::_::_::_::L) rfl)
      clear hS12
      have hsb : b.isSome = true := rd_isSome ((hX (hS13.focus 7 rfl))) (by omega)
      refine WP.region rfl ?_
      refine WO.V (run_indexAddr (q := adr b (i * 5)) Tryz.underlying23 Ty.sz33 rfl rfl (by omega) (by omega) ((hX (hS13.focus 7 rfl)).2.1 (by omega)) rfl) ?_
      refine WO.V (run_loadAgg (vs := (rcc d1)) Ty.ag33 Ty.sz33 rfl ((hX (hS13.focus 7 rfl)).cells (by rw [flat_len rcc_len]; omega) (flat_part rcc_len hd1)).1 ((hX (hS13.focus 7 rfl)).cells (by rw [flat_len rcc_len]; omega) (flat_part rcc_len hd1)).2) ?_
      refine WO.alloc (l := [Value.int .i64 0, Value.slice none 0 0, Value.slice none 0 0, Value.int .i64 0, Value.int .i64 0]) hS13 Ty.zr33 rfl rfl (fun g15 w14 lg15 hS14 => ?_)
      clear hS13
      refine WO.store (l' := (rcc d1)) 0 hS14 rfl Ty.sz33 rfl rfl rfl rfl rfl (Nat.le_of_ble_eq_true rfl) rfl (fun w16 (hS16 : St B (cel g15 (rcc d1) 33 :: recA d1 :: _::_::_::_::_::_::_::L) w16) => ?_)
      clear hS14
      refine WO.nil (NX.go (WP.seq (WP.seq (WP.region rfl ?_))))
      refine WO.mv rfl rfl ?_
      refine WO.V (run_loadAgg (vs := (rcc d1)) Ty.ag33 Ty.sz33 rfl rfl (cell_all (hS16.cel_at 0 rfl) 0 rfl)) ?_
      have hS17 := hS16.permT [7, 1] (L' := _::_::_::_::_::_::_::_::_::L) rfl
      clear hS16
      refine WO.call rfl rfl Ty.hd32 rfl (happlyP_spec (g := gh) hA (by omega) (by omega) d1 hzd hS17) (fun v19 w18 pv19 => ?_)
      obtain ⟨rfl, hS18⟩ := pv19
      clear hS17
      refine WO.asg rfl rfl ?_
      refine WO.nil (NX.go (WP.seq (WP.region rfl ?_)))
      refine WO.mv rfl rfl ?_
      refine WO.V (run_neq rfl rfl) ?_
      refine WO.nil (NX.go ?_)
      refine WP.condP rfl (fun g49 => ?_) (fun g49 => ?_)
      ·
       refine WP.seq (WP.region rfl ?_)
       refine WO.V (run_build (v := Value.agg #[Value.int .i64 0, Value.int .i64 0, Value.slice none 0 0, Value.slice none 0 0]) rfl (fun w => by kernel_rfl)) ?_
       refine WO.mv rfl rfl ?_
       refine WO.store (l' := [Value.int .i64 0, Value.int .i64 0, Value.slice none 0 0, Value.slice none 0 0]) 7 hS18 rfl Ty.sz46 rfl rfl rfl rfl rfl (Nat.le_of_ble_eq_true rfl) rfl (fun w20 (hS20 : St B (hdA 126 131 103 gh (applyP A d1.p) :: _::_::_::_::_::_::_::_::L) w20) => ?_)
       clear hS18
       refine WO.asg rfl rfl ?_
       refine WO.nil (NX.go (WP.ret (NX.thenRet (NX.blkRet (NX.thenRet (NX.thenRet (NX.blkRet (NX.thenRet ?_))))))))
       refine NX.doneC (l := [.cell 4 46, .tmp 5]) rfl (.cons (.cell rfl (loadVar_agg (vs := [Value.int .i64 0, Value.int .i64 0, Value.slice none 0 0, Value.slice none 0 0]) Ty.ag46 Ty.sz46 rfl (cell_all (hS20.cel_at 7 rfl) 0 rfl))) (.cons (.tmp rfl) .nil)) ?_
       have hrun2 : runP [] (rs.map Rcd.p) = (tryP A d1.p, A) := by rw [hrun, drop_cons hd1, List.map_cons, runP, if_neg g49]
       have he : ofE first (rs.map Rcd.p) = tryP A d1.p := by rw [show ofE first (rs.map Rcd.p) = (runP [] (rs.map Rcd.p)).1 from if_neg (by rw [List.length_map]; omega), hrun2]
       exact ⟨zB0, by rw [he]; rfl, (fun h => absurd (he ▸ h) g49), (fun _ => rfl), zB0_sz, Nat.zero_le _, zB0_at (((hS20.mask [false, false, false, true, false, false, false, false] (L' := _::_::L) rfl).permT [1] (L' := _::_::L) rfl))⟩
      ·
       refine WP.skip (NX.go (WP.seq ?_))
       have ht0 : tryP A d1.p = 0 := by simpa using g49
       refine WP.region rfl ?_
       refine WO.V (run_fa 0 ⟨g15, 0, none⟩ rfl rfl) ?_
       refine WO.V (run_load Ty.ag3 rfl ((hS18.cel_at 2 rfl 0).trans rfl)) ?_
       refine WO.V (run_eql rfl rfl) ?_
       refine WO.nil (NX.go ?_)
       refine WP.condP rfl (fun g54 => ?_) (fun g54 => ?_)
       ·
        refine WP.seq ?_
        have hS21 := recA_open (hS18.permT [1] (L' := _::_::_::_::_::_::_::_::_::L) rfl)
        clear hS18
        have hnm9 := hzd.nm
        refine WP.region rfl ?_
        refine WO.buildSlice (l := []) hS21 Tryz.underlying24 rfl (fun w => by kernel_rfl) rfl (fun g23 w22 lg23 hS22 => ?_)
        clear hS21
        have hS22 := hS22.own_of_cel (m := 0) (k := 3) rfl
        refine WO.V (run_fa 2 ⟨g15, 2, none⟩ rfl rfl) ?_
        refine WO.V (run_load Ty.ag24 rfl ((hS22.cel_at 6 rfl 2).trans rfl)) ?_
        refine WO.append (news := (d1.ms.l.flatMap mtc)) 0 rfl Tryz.underlying24 Tryz.underlying24 (fun _ h => by cases h) Ty.sz151 (by decide) Ty.by151 Ty.zr151 rfl rfl rfl rfl hS22 rfl ((rdH_rd (hS22.focus 2 rfl)).src) (flat_noAgg mtc_na _) (by omega) (by omega) (fun a25 c26 w24 hS24 => ?_)
        replace hS24 : St B (own a25 d1.ms.l.length c26 151 3 (d1.ms.l.flatMap mtc) :: (rdH d1.ss.a d1.ss.l.length 3 (d1.ss.l.flatMap smc)) :: (rdH d1.ms.a d1.ms.l.length 3 (d1.ms.l.flatMap mtc)) :: smsA d1.ss.l :: _::_::_::_::_::_::_::_::_::L) w24 := (by have z := hS24; rw [Nat.zero_add, List.nil_append] at z; exact z)
        refine WO.as (d := 58) (v := Value.slice a25 d1.ms.l.length c26) rfl (congrArg (fun z => Value.slice _ z _) (Nat.zero_add _)) ?_
        clear hS22
        refine WO.V (run_fa 2 ⟨g15, 2, none⟩ rfl rfl) ?_
        refine WO.store (l' := [Value.int .i64 d1.k, Value.slice d1.ss.a d1.ss.l.length d1.ss.cap, Value.slice a25 d1.ms.l.length c26, Value.int .i64 d1.fr, Value.int .i64 d1.to]) 6 hS24 rfl Ty.sz24 rfl rfl rfl rfl rfl (Nat.le_of_ble_eq_true rfl) rfl (fun w27 (hS27 : St B (_::_::_::_::_::_::cel g15 [Value.int .i64 d1.k, Value.slice d1.ss.a d1.ss.l.length d1.ss.cap, Value.slice a25 d1.ms.l.length c26, Value.int .i64 d1.fr, Value.int .i64 d1.to] 33 :: _::_::_::_::_::_::L) w27) => ?_)
        clear hS24
        refine WO.nil (NX.go (WP.region rfl ?_))
        refine WO.V (run_fa 3 ⟨g10, 3, none⟩ rfl rfl) ?_
        refine WO.V (run_load Ty.ag23 rfl ((hS27.cel_at 10 rfl 3).trans rfl)) ?_
        refine WO.V (run_loadAgg (vs := [Value.int .i64 d1.k, Value.slice d1.ss.a d1.ss.l.length d1.ss.cap, Value.slice a25 d1.ms.l.length c26, Value.int .i64 d1.fr, Value.int .i64 d1.to]) Ty.ag33 Ty.sz33 rfl rfl (cell_all (hS27.cel_at 6 rfl) 0 rfl)) ?_
        refine WO.buildSlice (l := [Value.int .i64 d1.k, Value.slice d1.ss.a d1.ss.l.length d1.ss.cap, Value.slice a25 d1.ms.l.length c26, Value.int .i64 d1.fr, Value.int .i64 d1.to]) hS27 Tryz.underlying23 rfl (fun w => by kernel_rfl) rfl (fun g30 w28 lg30 hS28 => ?_)
        clear hS27
        refine WO.append (news := [Value.int .i64 d1.k, Value.slice d1.ss.a d1.ss.l.length d1.ss.cap, Value.slice a25 d1.ms.l.length c26, Value.int .i64 d1.fr, Value.int .i64 d1.to]) 9 rfl Tryz.underlying23 Tryz.underlying23 (fun _ h => by cases h) Ty.sz33 (by decide) Ty.by33 Ty.zr33 rfl rfl rfl rfl hS28 rfl ((hS28.cel_rd 0 rfl (o := 0) (m := 1) (k := 5) rfl (Nat.le_of_ble_eq_true rfl)).src) rfl (by omega) (by omega) (fun a32 c33 w31 hS31 => ?_)
        replace hS31 : St B (cel g30 [Value.int .i64 d1.k, Value.slice d1.ss.a d1.ss.l.length d1.ss.cap, Value.slice a25 d1.ms.l.length c26, Value.int .i64 d1.fr, Value.int .i64 d1.to] 33 :: _::_::_::_::_::_::_::_::own a32 (ds.length + 1) c33 33 5 ((ds.flatMap rcc) ++ [Value.int .i64 d1.k, Value.slice d1.ss.a d1.ss.l.length d1.ss.cap, Value.slice a25 d1.ms.l.length c26, Value.int .i64 d1.fr, Value.int .i64 d1.to]) :: _::_::_::_::L) w31 := hS31
        clear hS28
        refine WO.V (run_fa 3 ⟨g10, 3, none⟩ rfl rfl) ?_
        refine WO.store (l' := [Value.int .i64 first, Value.int .i64 (first + ((rs.length : Nat) : Int) - 1), Value.slice none 0 0, Value.slice a32 (ds.length + 1) c33]) 11 hS31 rfl Ty.sz23 rfl rfl rfl rfl rfl (Nat.le_of_ble_eq_true rfl) rfl (fun w34 (hS34 : St B (_::_::_::_::_::_::_::_::_::_::_::cel g10 [Value.int .i64 first, Value.int .i64 (first + ((rs.length : Nat) : Int) - 1), Value.slice none 0 0, Value.slice a32 (ds.length + 1) c33] 46 :: _::_::L) w34) => ?_)
        clear hS31
        refine WO.nil (NX.blk (NX.go (WP.region rfl ?_)))
        refine WO.V (run_add rfl rfl (IntWalk.i64_in _ (by omega))) ?_
        refine WO.mv rfl rfl ?_
        refine WO.nil ?_
        have hS35 : St B (rdH (⟨d1.k, d1.ss, ⟨a25, d1.ms.l, c26⟩, d1.fr, d1.to⟩ : Rcd).ms.a (⟨d1.k, d1.ss, ⟨a25, d1.ms.l, c26⟩, d1.fr, d1.to⟩ : Rcd).ms.l.length 3 ((⟨d1.k, d1.ss, ⟨a25, d1.ms.l, c26⟩, d1.fr, d1.to⟩ : Rcd).ms.l.flatMap mtc) :: _::_::_::_::_::_::_::_::_::_::_::_::_::L) w34 := rdH_own (hS34.permT [1] (L' := _::_::_::_::_::_::_::_::_::_::_::_::_::_::L) rfl)
        clear hS34
        have hS36 := recA_open (hS35.permT [5] (L' := _::_::_::_::_::_::_::_::_::_::_::_::_::_::L) rfl)
        clear hS35
        have hS37 := rec_mk (⟨d1.k, d1.ss, ⟨a25, d1.ms.l, c26⟩, d1.fr, d1.to⟩ : Rcd) (hS36.permT [0, 3, 1] (L' := _::_::_::_::_::_::_::_::_::_::_::_::_::_::_::_::_::L) rfl)
        clear hS36
        have hS38 := allA_snoc (x := (⟨d1.k, d1.ss, ⟨a25, d1.ms.l, c26⟩, d1.fr, d1.to⟩ : Rcd)) (hS37.permT [11] (L' := _::_::_::_::_::_::_::_::_::_::_::_::_::_::_::L) rfl)
        clear hS37
        exact NX.again (i + 1, applyP A d1.p, ds ++ [(⟨d1.k, d1.ss, ⟨a25, d1.ms.l, c26⟩, d1.fr, d1.to⟩ : Rcd)], a32, c33) ⟨⟨by omega, wf_applyP hA, applyP_len hAl, rng_apply hR (hrng d1 (List.mem_of_getElem? hd1)), by rw [take_snocM hd1, List.map_append]; exact has_step hH ht0, by rw [drop_cons hd1, List.map_cons, runP, if_pos ht0] at hrun; exact hrun, by rw [take_snocM hd1, List.map_append, List.map_append, hds, show [d1].map Rcd.p = [d1.p] from rfl, dels_snoc, if_pos (show d1.p.k = 2 from g54)]; rfl, by rw [List.length_append]; simp; omega, fun d hd => by rcases List.mem_append.1 hd with hd | hd; (· exact hdz d hd); (· rw [List.mem_singleton.1 hd]; exact SzR.of_p (r := d1) rfl hzd)⟩, by have z9 := own_eqM (l' := (ds ++ [(⟨d1.k, d1.ss, ⟨a25, d1.ms.l, c26⟩, d1.fr, d1.to⟩ : Rcd)]).flatMap rcc) (((hS38.mask [true, false, false, false, false, false, false, true, false] (L' := _::_::_::_::_::_::_::L) rfl).permT [3, 0, 2, 2, 0, 1] (L' := _::_::_::_::_::_::_::L) rfl)) rfl (by simp [rcc]); rw [show ds.length + 1 = (ds ++ [(⟨d1.k, d1.ss, ⟨a25, d1.ms.l, c26⟩, d1.fr, d1.to⟩ : Rcd)]).length by simp] at z9; exact z9⟩ (by show rs.length - (i + 1) < rs.length - i; omega) (Sub.cons rfl (Sub.cons rfl (Sub.cons rfl (Sub.cons rfl (Sub.cons rfl (Sub.cons rfl (Sub.cons rfl (Sub.consE rfl (by congr 1) (Sub.nil _)))))))))
       ·
        refine WP.skip (NX.blk (NX.go (WP.region rfl ?_)))
        refine WO.V (run_add rfl rfl (IntWalk.i64_in _ (by omega))) ?_
        refine WO.mv rfl rfl ?_
        refine WO.nil ?_
        exact NX.again (i + 1, applyP A d1.p, ds, da, dc) ⟨⟨by omega, wf_applyP hA, applyP_len hAl, rng_apply hR (hrng d1 (List.mem_of_getElem? hd1)), by rw [take_snocM hd1, List.map_append]; exact has_step hH ht0, by rw [drop_cons hd1, List.map_cons, runP, if_pos ht0] at hrun; exact hrun, by rw [take_snocM hd1, List.map_append, show [d1].map Rcd.p = [d1.p] from rfl, dels_snoc, if_neg (show ¬ d1.p.k = 2 from g54), List.append_nil]; exact hds, by omega, hdz⟩, ((hS18.mask [true, false, false] (L' := _::_::_::_::_::_::_::L) rfl).permT [2, 2, 2, 2, 0, 1] (L' := _::_::_::_::_::_::_::L) rfl)⟩ (by show rs.length - (i + 1) < rs.length - i; omega) (Sub.cons rfl (Sub.cons rfl (Sub.cons rfl (Sub.cons rfl (Sub.cons rfl (Sub.cons rfl (Sub.cons rfl (Sub.consE rfl (by congr 1) (Sub.nil _)))))))))
     ·
      refine WP.exit (NX.thenExit (NX.thenExit ?_))
      refine NX.blkExit ?_
      refine NX.go (WP.seq ?_)
      have hH9 : HasL A (rs.map Rcd.p) := by rw [List.take_of_length_le (by omega)] at hH; exact hH
      refine WP.region rfl ?_
      refine WO.mv rfl rfl ?_
      refine WO.mv rfl rfl ?_
      have hS39 := hS12.permT [4, 4, 4] (L' := _::_::_::_::_::_::_::L) rfl
      clear hS12
      refine WO.call rfl rfl Ty.hd113 rfl (brows_spec (g := gh) hX hA (by omega) hAl hR hH9 hz hn hS39) (fun v41 w40 pv41 => ?_)
      obtain ⟨a2, c2, T, rfl, hT, hS40⟩ := pv41
      clear hS39
      refine WO.V (run_fa 2 ⟨g10, 2, none⟩ rfl rfl) ?_
      refine WO.store (l' := [Value.int .i64 first, Value.int .i64 (first + ((rs.length : Nat) : Int) - 1), Value.slice a2 T.length c2, Value.slice da ds.length dc]) 7 hS40 rfl Ty.sz44 rfl rfl rfl rfl rfl (Nat.le_of_ble_eq_true rfl) rfl (fun w42 (hS42 : St B (own a2 T.length c2 93 3 (T.flatMap mrc) :: allA mrA T :: _::_::_::_::_::cel g10 [Value.int .i64 first, Value.int .i64 (first + ((rs.length : Nat) : Int) - 1), Value.slice a2 T.length c2, Value.slice da ds.length dc] 46 :: _::L) w42) => ?_)
      clear hS40
      refine WO.nil (NX.go (WP.seq (WP.region rfl ?_)))
      refine WO.V (run_loadAgg (vs := [Value.int .i64 first, Value.int .i64 (first + ((rs.length : Nat) : Int) - 1), Value.slice a2 T.length c2, Value.slice da ds.length dc]) Ty.ag46 Ty.sz46 rfl rfl (cell_all (hS42.cel_at 7 rfl) 0 rfl)) ?_
      refine WO.store (l' := [Value.int .i64 first, Value.int .i64 (first + ((rs.length : Nat) : Int) - 1), Value.slice a2 T.length c2, Value.slice da ds.length dc]) 8 hS42 rfl Ty.sz46 rfl rfl rfl rfl rfl (Nat.le_of_ble_eq_true rfl) rfl (fun w43 (hS43 : St B (_::_::_::_::_::_::_::_::cel g2 [Value.int .i64 first, Value.int .i64 (first + ((rs.length : Nat) : Int) - 1), Value.slice a2 T.length c2, Value.slice da ds.length dc] 46 :: L) w43) => ?_)
      clear hS42
      refine WO.asg rfl rfl ?_
      refine WO.nil (NX.go (WP.ret ?_))
      refine NX.doneC (l := [.cell 4 46, .tmp 5]) rfl (.cons (.cell rfl (loadVar_agg (vs := [Value.int .i64 first, Value.int .i64 (first + ((rs.length : Nat) : Int) - 1), Value.slice a2 T.length c2, Value.slice da ds.length dc]) Ty.ag46 Ty.sz46 rfl (cell_all (hS43.cel_at 8 rfl) 0 rfl))) (.cons (.tmp rfl) .nil)) ?_
      have hrun2 : runP [] (rs.map Rcd.p) = (0, A) := by rw [hrun, List.drop_of_length_le (by omega)]; rfl
      have he : ofE first (rs.map Rcd.p) = 0 := by rw [show ofE first (rs.map Rcd.p) = (runP [] (rs.map Rcd.p)).1 from if_neg (by rw [List.length_map]; omega), hrun2]
      have hq1 : St B (rsA (⟨first, first + ((rs.length : Nat) : Int) - 1, ⟨a2, T, c2⟩, ⟨da, ds, dc⟩⟩ : BlkV).rs :: _::_::_::_::_::_::_::_::L) w43 := rdH_own hS43
      have hq2 : St B (dsA (⟨first, first + ((rs.length : Nat) : Int) - 1, ⟨a2, T, c2⟩, ⟨da, ds, dc⟩⟩ : BlkV).ds :: _::_::_::_::_::_::_::_::L) w43 := rdH_own (hq1.permT [5] (L' := _::_::_::_::_::_::_::_::_::L) rfl)
      rw [List.take_of_length_le (by omega)] at hds
      exact ⟨(⟨first, first + ((rs.length : Nat) : Int) - 1, ⟨a2, T, c2⟩, ⟨da, ds, dc⟩⟩ : BlkV), by rw [he]; rfl, (fun _ => by show BlkP.mk _ _ _ _ = BlkP.mk _ _ _ _; rw [hT, hds, hrun2, List.length_map]), (fun h => absurd he h), ⟨by show T.length ≤ _; have h9 := congrArg List.length hT; rw [List.length_map] at h9; omega, by show ds.length ≤ _; omega, fun r hr => by have h9 : r.p ∈ A := hT ▸ List.mem_map.2 ⟨r, hr, rfl⟩; exact ⟨(chk_SzP (hA.chk _ h9)).2, Nat.le_trans (hA.pts _ h9) (by omega), (chk_SzP (hA.chk _ h9)).1⟩, hdz⟩, by show T.length ≤ _; have h9 := congrArg List.length hT; rw [List.length_map] at h9; omega, blA_shut (b := (⟨first, first + ((rs.length : Nat) : Int) - 1, ⟨a2, T, c2⟩, ⟨da, ds, dc⟩⟩ : BlkV)) (((hq2.mask [true, true, true, false, true, true, true, false, false] (L' := _::_::_::_::_::_::L) rfl).permT [1, 1, 0, 2] (L' := _::_::_::_::_::_::L) rfl))⟩
end Go.Proofs.YtidoidoelgfnaaaGreatDoor.SL
