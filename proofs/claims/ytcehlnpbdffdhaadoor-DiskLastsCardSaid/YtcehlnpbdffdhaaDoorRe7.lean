/- The document's disk: the power fails. -/
import Derived.Test.YtcehlnpbdffdhaaDoorRe6
namespace Go.Proofs.YtcehlnpbdffdhaaDoor.SL
open Go.RowKit Go.Proofs.YtcehlnpbdffdhaaDoor
open Go.Proofs.YtcehlnpbdffdhaaDoorW.PrintLast (rtab opsOf)
set_option linter.unusedVariables false
set_option linter.unusedSimpArgs false
theorem r4crash_spec_t10 : rtab .any (opsOf Tryd.f76 10) = (true, [([], []), ([0], [0]), ([1], [1]), ([2], [2]), ([], []), ([3, 4], [3, 4]), ([5], [5]), ([6], [6]), ([], []), ([], []), ([9], [9]), ([], []), ([11], [11]), ([12], [12]), ([13], [13]), ([], []), ([14, 15], [14, 15]), ([16], [16]), ([17], [17]), ([18], [18]), ([], []), ([20], [20]), ([21], [21]), ([22], [22]), ([], []), ([23, 24], [23, 24]), ([25], [25]), ([26], [26]), ([19, 27], [19, 27]), ([8, 10, 28], [8, 10, 28]), ([7, 29], [7, 29]), ([30, 29, 0, 1, 2, 3, 4, 5, 6, 7, 8, 9, 10, 11, 12, 13, 14, 15, 16, 17, 18, 19, 20, 21, 22, 23, 24, 25, 26, 27, 28, 29, 30], [30])]) := by kernel_rfl
theorem r4crash_spec_t11 : rtab .any (opsOf Tryd.f76 11) = (true, [([], []), ([0], [0]), ([1], [1]), ([2], [2]), ([], []), ([], []), ([5], [5]), ([6], [6]), ([7], [7]), ([], []), ([8, 9], [8, 9]), ([10], [10]), ([11], [11]), ([], []), ([12, 13], [12, 13]), ([3, 4, 0, 1, 2, 3, 4, 5, 6, 7, 8, 9, 10, 11, 12, 13, 14], [3, 4]), ([15, 0, 1, 2, 3, 4, 5, 6, 7, 8, 9, 10, 11, 12, 13, 14], [15]), ([16, 14, 0, 1, 2, 3, 4, 5, 6, 7, 8, 9, 10, 11, 12, 13, 14], [14, 16])]) := by kernel_rfl
theorem r4crash_spec {B w : World} {L : List HP} {X : HP} {g kc : Nat} {ka : Option Addr} {D : Dk} {n t : Nat} {zs : List Int} (hk : OkD D n t) (hn1 : n ≤ 1000000000) (ht : t ≤ 1099511627776) (hX : ∀ {L : List HP} {w : World}, St B (X :: L) w → Rd w ka zs.length 1 (ri zs)) (hS : St B (refA g D :: X :: L) w) : Does Tryd.prog 76 [Value.pointer (some ⟨g, 0, none⟩), Value.slice ka zs.length kc] w (fun v w1 => v = .tuple #[] ∧ St B (refA g (crashD D zs) :: X :: L) w1) := by
 obtain ⟨rx, h0⟩ := hS.rf_open
 clear hS
 have hw := hk.w
 have hcb := hk.b.ch
 have hfb := hk.b.f
 have h64 := hw.nm64
 have hpk := keptF_le zs 0 D.ch.length
 refine enter (n := 119) Tryd.func76 rfl rfl [Value.pointer (some ⟨g, 0, none⟩), Value.slice ka zs.length kc] rfl ?_
 refine WP.seq ?_
 refine WP.region rfl ?_
 refine WO.val (run_move rfl) rfl rfl rfl ?_
 refine WO.val (run_move rfl) rfl rfl rfl ?_
 refine WO.val (run_nilCheck rfl) rfl rfl rfl ?_
 refine WO.val (run_fieldAddr (q := ⟨g, 4, none⟩) (show fieldB Tryd.prog 71 4 = some 4 from by kernel_rfl) rfl rfl) rfl rfl rfl ?_
 refine WO.val (run_load Ty.ag69 rfl ((h0.cel_at 0 rfl 4).trans rfl)) rfl rfl rfl ?_
 refine WO.val (run_len rfl Tryd.underlying69 rfl) rfl rfl rfl ?_
 have hS1 := h0.permT [5, 0, 0, 0, 0, 0] (L' := X :: cel g [Value.int .i64 D.room, Value.slice rx.fa D.f.length rx.fc, Value.slice rx.na D.nm.length rx.nc, Value.slice rx.la D.last.length rx.lc, Value.slice rx.ca D.ch.length rx.cc, Value.bool D.dead, Value.int .i64 D.left] 71 :: own rx.fa D.f.length rx.fc 119 2 (D.f.flatMap fcl) :: ro rx.na D.nm.length 121 2 (D.nm.flatMap fcl) :: ro rx.la D.last.length 121 2 (D.last.flatMap fcl) :: own rx.ca D.ch.length rx.cc 146 3 (D.ch.flatMap ccl) :: L) rfl
 clear h0
 refine WO.call rfl rfl Ty.hd102 rfl (r4kept_spec hX 0 D.ch.length (by omega) (by omega) hS1) (fun v3 w2 pv3 => ?_)
 obtain ⟨rfl, hS2⟩ := pv3
 clear hS1
 refine WO.val (run_assign rfl) rfl rfl rfl ?_
 refine WO.nil ?_
 refine NX.go ?_
 refine WP.seq ?_
 refine WP.region rfl ?_
 refine WO.val (run_move rfl) rfl rfl rfl ?_
 refine WO.val (run_nilCheck rfl) rfl rfl rfl ?_
 refine WO.val (run_fieldAddr (q := ⟨g, 3, none⟩) (show fieldB Tryd.prog 71 3 = some 3 from by kernel_rfl) rfl rfl) rfl rfl rfl ?_
 refine WO.val (run_load Ty.ag68 rfl ((hS2.cel_at 1 rfl 3).trans rfl)) rfl rfl rfl ?_
 refine WO.val (run_assign rfl) rfl rfl rfl ?_
 refine WO.nil ?_
 refine NX.go ?_
 refine WP.seq ?_
 refine WP.seq ?_
 refine WP.region rfl ?_
 refine WO.val (run_assign rfl) rfl rfl rfl ?_
 refine WO.nil ?_
 refine NX.go ?_
 refine WP.block ?_
 have hS4 := St.dup (ro_pers _ _ _ _ _) (hS2.permT [4, 0, 0, 0, 0, 0] (L' := ro rx.la D.last.length 121 2 (D.last.flatMap fcl) :: X :: cel g [Value.int .i64 D.room, Value.slice rx.fa D.f.length rx.fc, Value.slice rx.na D.nm.length rx.nc, Value.slice rx.la D.last.length rx.lc, Value.slice rx.ca D.ch.length rx.cc, Value.bool D.dead, Value.int .i64 D.left] 71 :: own rx.fa D.f.length rx.fc 119 2 (D.f.flatMap fcl) :: ro rx.na D.nm.length 121 2 (D.nm.flatMap fcl) :: own rx.ca D.ch.length rx.cc 146 3 (D.ch.flatMap ccl) :: L) rfl)
 clear hS2
 refine WP.loop (α := Nat × Option Addr × Nat) (fun x => match x with | ⟨i, la, lc⟩ => [(0, Value.pointer (some ⟨g, 0, none⟩)), (1, Value.slice ka zs.length kc), (4, Value.int .i64 (((keptF zs 0 D.ch.length) : Nat) : Int)), (5, Value.slice la ((applyL D.last (D.ch.take i)).length) lc), (6, Value.int .i64 (i : Int))]) (fun x w => match x with | ⟨i, la, lc⟩ => (i ≤ (keptF zs 0 D.ch.length)) ∧ St B (ro la ((applyL D.last (D.ch.take i)).length) 121 2 ((applyL D.last (D.ch.take i)).flatMap fcl) :: ro rx.la D.last.length 121 2 (D.last.flatMap fcl) :: X :: cel g [Value.int .i64 D.room, Value.slice rx.fa D.f.length rx.fc, Value.slice rx.na D.nm.length rx.nc, Value.slice rx.la D.last.length rx.lc, Value.slice rx.ca D.ch.length rx.cc, Value.bool D.dead, Value.int .i64 D.left] 71 :: own rx.fa D.f.length rx.fc 119 2 (D.f.flatMap fcl) :: ro rx.na D.nm.length 121 2 (D.nm.flatMap fcl) :: own rx.ca D.ch.length rx.cc 146 3 (D.ch.flatMap ccl) :: L) w) (fun x => match x with | ⟨i, la, lc⟩ => (keptF zs 0 D.ch.length) - i) (0, rx.la, rx.lc) ⟨(Nat.zero_le _), hS4⟩ (Sub.cons rfl (Sub.cons rfl (Sub.cons rfl (Sub.consE rfl (by first | rfl | first | rfl | (congr 1; omega) | (simp; done) | (simp; omega)) (Sub.consE rfl (by first | rfl | first | rfl | (congr 1; omega) | (simp; done) | (simp; omega)) (Sub.nil _)))))) ?_
 rintro ⟨i, la, lc⟩ w5 ⟨hi, hS5⟩
 clear hS4
 refine WP.seq ?_
 refine WP.seq ?_
 refine WP.region rfl ?_
 refine WO.val (run_move rfl) rfl rfl rfl ?_
 refine WO.val (run_move rfl) rfl rfl rfl ?_
 refine WO.val (run_lss rfl rfl) rfl rfl rfl ?_
 refine WO.nil ?_
 refine NX.go ?_
 refine WP.condP rfl (fun g23 => ?_) (fun g23 => ?_)
 ·
  refine WP.skip ?_
  refine NX.go ?_
  refine WP.seq ?_
  refine WP.block ?_
  have hich : i < D.ch.length := by omega
  obtain ⟨c, hc0⟩ : ∃ c, D.ch[i]? = some c := ⟨_, List.getElem?_eq_getElem hich⟩
  have hsrxca : rx.ca.isSome = true := by obtain ⟨q, hq, _⟩ := ((hS5.own_rd_i 6 rfl)).2.1 (by omega); rw [hq]; rfl
  refine WP.region rfl ?_
  refine WO.val (run_move rfl) rfl rfl rfl ?_
  refine WO.val (run_move rfl) rfl rfl rfl ?_
  refine WO.val (run_nilCheck rfl) rfl rfl rfl ?_
  refine WO.val (run_fieldAddr (q := ⟨g, 4, none⟩) (show fieldB Tryd.prog 71 4 = some 4 from by kernel_rfl) rfl rfl) rfl rfl rfl ?_
  refine WO.val (run_load Ty.ag69 rfl ((hS5.cel_at 3 rfl 4).trans rfl)) rfl rfl rfl ?_
  refine WO.val (run_move rfl) rfl rfl rfl ?_
  refine WO.val (run_indexAddr (q := adr rx.ca (i * 3)) Tryd.underlying69 Ty.sz146 rfl rfl (by omega) (by omega) ((hS5.own_rd_i 6 rfl).2.1 (by omega)) rfl) rfl rfl rfl ?_
  refine WO.val (run_loadAgg (vs := [str c.fr, str c.tn, Value.int .i64 (c.fi : Int)]) Ty.ag146 Ty.sz146 rfl ((hS5.own_rd_i 6 rfl).cells (by rw [flat_len ccl_len]; omega) (flat_part ccl_len hc0)).1 ((hS5.own_rd_i 6 rfl).cells (by rw [flat_len ccl_len]; omega) (flat_part ccl_len hc0)).2) rfl rfl rfl ?_
  refine WO.call rfl rfl Ty.hd103 rfl (r4apply_spec (fun h => h.ro_rd) c (by have := hw.few i; omega) hS5) (fun v7 w6 pv7 => ?_)
  obtain ⟨a1, c1, rfl, hS6⟩ := pv7
  clear hS5
  replace hS6 := hS6.own_seal
  refine WO.val (run_assign rfl) rfl rfl rfl ?_
  refine WO.nil ?_
  refine NX.blk ?_
  refine NX.go ?_
  refine WP.region rfl ?_
  refine WO.val (run_move rfl) rfl rfl rfl ?_
  refine WO.val (run_add rfl rfl (IntWalk.i64_in _ (by omega))) rfl rfl rfl ?_
  refine WO.val (run_assign rfl) rfl rfl rfl ?_
  refine WO.nil ?_
  exact NX.again (i + 1, a1, c1) ⟨by omega, by rw [applyL_take hc0]; exact (hS6.permT [1, 0, 0, 0, 0, 0, 0, 0] (L' := ro la ((applyL D.last (D.ch.take i)).length) 121 2 ((applyL D.last (D.ch.take i)).flatMap fcl) :: ro a1 ((applyN (applyL D.last (D.ch.take i)) c).length) 121 2 ((applyN (applyL D.last (D.ch.take i)) c).flatMap fcl) :: ro rx.la D.last.length 121 2 (D.last.flatMap fcl) :: X :: cel g [Value.int .i64 D.room, Value.slice rx.fa D.f.length rx.fc, Value.slice rx.na D.nm.length rx.nc, Value.slice rx.la D.last.length rx.lc, Value.slice rx.ca D.ch.length rx.cc, Value.bool D.dead, Value.int .i64 D.left] 71 :: own rx.fa D.f.length rx.fc 119 2 (D.f.flatMap fcl) :: ro rx.na D.nm.length 121 2 (D.nm.flatMap fcl) :: own rx.ca D.ch.length rx.cc 146 3 (D.ch.flatMap ccl) :: L) rfl).drop⟩ (by show (keptF zs 0 D.ch.length) - (i + 1) < (keptF zs 0 D.ch.length) - i; omega) (Sub.cons rfl (Sub.cons rfl (Sub.cons rfl (Sub.consE rfl (by rw [applyL_take hc0]) (Sub.consE rfl (by congr 1) (Sub.nil _))))))
 ·
  refine WP.exit ?_
  refine NX.thenExit ?_
  refine NX.thenExit ?_
  refine NX.blkExit ?_
  refine NX.go ?_
  refine WP.seq ?_
  refine WP.seq ?_
  have hpi : i = (keptF zs 0 D.ch.length) := by omega
  subst hpi
  have hLg := applyL_good hw.last (cs := D.ch.take (keptF zs 0 D.ch.length)) fun d hd => hw.ch d (List.mem_of_mem_take hd)
  have hL64 := hw.few (keptF zs 0 D.ch.length)
  refine WP.region rfl ?_
  refine WO.val (run_assign rfl) rfl rfl rfl ?_
  refine WO.nil ?_
  refine NX.go ?_
  refine WP.block ?_
  refine WP.loop (α := Nat × List (List UInt8 × Nat)) (fun x => match x with | ⟨j, f⟩ => [(0, Value.pointer (some ⟨g, 0, none⟩)), (1, Value.slice ka zs.length kc), (5, Value.slice la ((applyL D.last (D.ch.take (keptF zs 0 D.ch.length))).length) lc), (7, Value.int .i64 (j : Int))]) (fun x w => match x with | ⟨j, f⟩ => (j ≤ (applyL D.last (D.ch.take (keptF zs 0 D.ch.length))).length ∧ crashF zs (j + 1) ((applyL D.last (D.ch.take (keptF zs 0 D.ch.length))).drop j) f = crashF zs 1 (applyL D.last (D.ch.take (keptF zs 0 D.ch.length))) D.f ∧ f.length = D.f.length ∧ (∀ x ∈ f, x.2 ≤ x.1.length) ∧ (∀ x ∈ f, x.1.length ≤ t)) ∧ St B (ro la ((applyL D.last (D.ch.take (keptF zs 0 D.ch.length))).length) 121 2 ((applyL D.last (D.ch.take (keptF zs 0 D.ch.length))).flatMap fcl) :: ro rx.la D.last.length 121 2 (D.last.flatMap fcl) :: X :: cel g [Value.int .i64 D.room, Value.slice rx.fa D.f.length rx.fc, Value.slice rx.na D.nm.length rx.nc, Value.slice rx.la D.last.length rx.lc, Value.slice rx.ca D.ch.length rx.cc, Value.bool D.dead, Value.int .i64 D.left] 71 :: own rx.fa D.f.length rx.fc 119 2 (f.flatMap fcl) :: ro rx.na D.nm.length 121 2 (D.nm.flatMap fcl) :: own rx.ca D.ch.length rx.cc 146 3 (D.ch.flatMap ccl) :: L) w) (fun x => match x with | ⟨j, f⟩ => (applyL D.last (D.ch.take (keptF zs 0 D.ch.length))).length - j) (0, D.f) ⟨⟨Nat.zero_le _, rfl, rfl, hw.lasts, hk.b.t⟩, hS5⟩ (Sub.cons rfl (Sub.cons rfl (Sub.cons rfl (Sub.consE rfl (by first | rfl | first | rfl | (congr 1; omega) | (simp; done) | (simp; omega)) (Sub.nil _))))) ?_
  rintro ⟨j, f⟩ w8 ⟨⟨hj, hcr, hfl, hfx, hft⟩, hS8⟩
  clear hS5
  refine WP.seq ?_
  refine WP.seq ?_
  refine WP.region rfl ?_
  refine WO.val (run_move rfl) rfl rfl rfl ?_
  refine WO.val (run_move rfl) rfl rfl rfl ?_
  refine WO.val (run_len rfl Tryd.underlying68 rfl) rfl rfl rfl ?_
  refine WO.val (run_lss rfl rfl) rfl rfl rfl ?_
  refine WO.nil ?_
  refine NX.go ?_
  refine WP.condP rfl (fun g38 => ?_) (fun g38 => ?_)
  ·
   refine WP.skip ?_
   refine NX.go ?_
   refine WP.seq ?_
   refine WP.block ?_
   refine WP.seq ?_
   obtain ⟨e, he0⟩ : ∃ e, (applyL D.last (D.ch.take (keptF zs 0 D.ch.length)))[j]? = some e := ⟨_, List.getElem?_eq_getElem (by omega)⟩
   have he := he0
   have hem := List.mem_of_getElem? he0
   have hlt : e.2 < f.length := by rw [hfl]; exact (hLg.f e hem).2
   have hfe := fileAt_get hlt
   have hx2 := hfx _ (fileAt_mem hlt)
   have hxt := hft _ (fileAt_mem hlt)
   have hsla : la.isSome = true := by obtain ⟨q, hq, _⟩ := ((hS8.ro_rd_i 0 rfl)).2.1 (by omega); rw [hq]; rfl
   have hsrxfa : rx.fa.isSome = true := by obtain ⟨q, hq, _⟩ := ((hS8.own_rd_i 4 rfl)).2.1 (by omega); rw [hq]; rfl
   refine WP.region rfl ?_
   refine WO.val (run_move rfl) rfl rfl rfl ?_
   refine WO.val (run_move rfl) rfl rfl rfl ?_
   refine WO.val (run_indexAddr (q := adr la (j * 2)) Tryd.underlying68 Ty.sz121 rfl rfl (by omega) (by omega) ((hS8.ro_rd_i 0 rfl).2.1 (by omega)) rfl) rfl rfl rfl ?_
   refine WO.val (run_fieldAddr (q := (adr la (j * 2 + 1))) (show fieldB Tryd.prog 121 1 = some 1 from by kernel_rfl) rfl (adr_add _ (by assumption) _ _)) rfl rfl rfl ?_
   refine WO.val (run_load Ty.ag3 rfl ((hS8.ro_rd_i 0 rfl).cell ((flat_get fcl_len he (j := 1) (by decide)).trans rfl))) rfl rfl rfl ?_
   refine WO.val (run_assign rfl) rfl rfl rfl ?_
   refine WO.nil ?_
   refine NX.go ?_
   refine WP.seq ?_
   obtain ⟨kq, hkq⟩ : ∃ kq, kq = keptF zs (j + 1) ((fileAt f e.2).1.length - (fileAt f e.2).2) := ⟨_, rfl⟩
   have hkl : kq ≤ ((fileAt f e.2).1.length - (fileAt f e.2).2) := by rw [hkq]; exact keptF_le zs (j + 1) ((fileAt f e.2).1.length - (fileAt f e.2).2)
   refine WD.start (fun w => (∀ j, World.cell? w ⟨g, j, none⟩ = [Value.int .i64 D.room, Value.slice rx.fa D.f.length rx.fc, Value.slice rx.na D.nm.length rx.nc, Value.slice rx.la D.last.length rx.lc, Value.slice rx.ca D.ch.length rx.cc, Value.bool D.dead, Value.int .i64 D.left][j]?) ∧ Rd w rx.fa D.f.length 2 (f.flatMap fcl)) [] #[false, false, false, false, false, false, false, false, false, false, false, false, false, false, false, false, false, false, false, false, false, false, false, false, false, false, false, false, false, false, false, false] Ty.mo rfl (by kernel_rfl) hS8 (fun _ h => ⟨h.cel_at 3 rfl, (h.own_rd_i 4 rfl)⟩) (fun w9 hS9 s10 => ?_)
   clear hS8
   refine WD.pure (i := 0) r4crash_spec_t10 #[true, false, false, false, false, false, false, false, false, false, false, false, false, false, false, false, false, false, false, false, false, false, false, false, false, false, false, false, false, false, false, false] rfl rfl rfl (by kernel_rfl) (PQ.then (PQ.blk (PQ.then (PQ.then (PQ.blk (PQ.then PQ.body)))))) rfl (fun w => run_move rfl) ?_
   refine WD.pure (i := 1) r4crash_spec_t10 #[true, true, false, false, false, false, false, false, false, false, false, false, false, false, false, false, false, false, false, false, false, false, false, false, false, false, false, false, false, false, false, false] rfl rfl rfl (by kernel_rfl) (PQ.then (PQ.blk (PQ.then (PQ.then (PQ.blk (PQ.then PQ.body)))))) rfl (fun w => run_nilCheck rfl) ?_
   refine WD.pure (i := 2) r4crash_spec_t10 #[true, true, true, false, false, false, false, false, false, false, false, false, false, false, false, false, false, false, false, false, false, false, false, false, false, false, false, false, false, false, false, false] rfl rfl rfl (by kernel_rfl) (PQ.then (PQ.blk (PQ.then (PQ.then (PQ.blk (PQ.then PQ.body)))))) rfl (fun w => run_fieldAddr (q := ⟨g, 1, none⟩) (show fieldB Tryd.prog 71 1 = some 1 from by kernel_rfl) rfl rfl) ?_
   refine WD.take (i := 3) r4crash_spec_t10 #[true, true, true, true, false, false, false, false, false, false, false, false, false, false, false, false, false, false, false, false, false, false, false, false, false, false, false, false, false, false, false, false] s10 rfl rfl rfl (by kernel_rfl) (PQ.then (PQ.blk (PQ.then (PQ.then (PQ.blk (PQ.then PQ.body)))))) rfl (fun w hs => run_load Ty.ag67 rfl ((hs.1 1).trans rfl)) ?_
   refine WD.pure (i := 4) r4crash_spec_t10 #[true, true, true, true, true, false, false, false, false, false, false, false, false, false, false, false, false, false, false, false, false, false, false, false, false, false, false, false, false, false, false, false] rfl rfl rfl (by kernel_rfl) (PQ.then (PQ.blk (PQ.then (PQ.then (PQ.blk (PQ.then PQ.body)))))) rfl (fun w => run_move rfl) ?_
   refine WD.take (i := 5) r4crash_spec_t10 #[true, true, true, true, true, true, false, false, false, false, false, false, false, false, false, false, false, false, false, false, false, false, false, false, false, false, false, false, false, false, false, false] s10 rfl rfl rfl (by kernel_rfl) (PQ.then (PQ.blk (PQ.then (PQ.then (PQ.blk (PQ.then PQ.body)))))) rfl (fun w hs => run_indexAddr (q := adr rx.fa (e.2 * 2)) Tryd.underlying67 Ty.sz119 rfl rfl (by omega) (by omega) ((hs.2).2.1 (by omega)) rfl) ?_
   refine WD.pure (i := 6) r4crash_spec_t10 #[true, true, true, true, true, true, true, false, false, false, false, false, false, false, false, false, false, false, false, false, false, false, false, false, false, false, false, false, false, false, false, false] rfl rfl rfl (by kernel_rfl) (PQ.then (PQ.blk (PQ.then (PQ.then (PQ.blk (PQ.then PQ.body)))))) rfl (fun w => run_fieldAddr (q := (adr rx.fa (e.2 * 2 + 1))) (show fieldB Tryd.prog 119 1 = some 1 from by kernel_rfl) rfl (adr_add _ (by assumption) _ _)) ?_
   refine WD.take (i := 7) r4crash_spec_t10 #[true, true, true, true, true, true, true, true, false, false, false, false, false, false, false, false, false, false, false, false, false, false, false, false, false, false, false, false, false, false, false, false] s10 rfl rfl rfl (by kernel_rfl) (PQ.then (PQ.blk (PQ.then (PQ.then (PQ.blk (PQ.then PQ.body)))))) rfl (fun w hs => run_load Ty.ag3 rfl ((hs.2).cell ((flat_get fcl_len hfe (j := 1) (by decide)).trans rfl))) ?_
   refine WD.pure (i := 8) r4crash_spec_t10 #[true, true, true, true, true, true, true, true, true, false, false, false, false, false, false, false, false, false, false, false, false, false, false, false, false, false, false, false, false, false, false, false] rfl rfl rfl (by kernel_rfl) (PQ.then (PQ.blk (PQ.then (PQ.then (PQ.blk (PQ.then PQ.body)))))) rfl (fun w => run_move rfl) ?_
   refine WD.pure (i := 9) r4crash_spec_t10 #[true, true, true, true, true, true, true, true, true, true, false, false, false, false, false, false, false, false, false, false, false, false, false, false, false, false, false, false, false, false, false, false] rfl rfl rfl (by kernel_rfl) (PQ.then (PQ.blk (PQ.then (PQ.then (PQ.blk (PQ.then PQ.body)))))) rfl (fun w => run_move rfl) ?_
   refine WD.pure (i := 10) r4crash_spec_t10 #[true, true, true, true, true, true, true, true, true, true, true, false, false, false, false, false, false, false, false, false, false, false, false, false, false, false, false, false, false, false, false, false] rfl rfl rfl (by kernel_rfl) (PQ.then (PQ.blk (PQ.then (PQ.then (PQ.blk (PQ.then PQ.body)))))) rfl (fun w => run_add rfl rfl (show IntKind.i64.wrap ((j : Int) + 1) = ((j + 1 : Nat) : Int) by rw [IntWalk.i64_in _ (by omega)]; omega)) ?_
   refine WD.pure (i := 11) r4crash_spec_t10 #[true, true, true, true, true, true, true, true, true, true, true, true, false, false, false, false, false, false, false, false, false, false, false, false, false, false, false, false, false, false, false, false] rfl rfl rfl (by kernel_rfl) (PQ.then (PQ.blk (PQ.then (PQ.then (PQ.blk (PQ.then PQ.body)))))) rfl (fun w => run_move rfl) ?_
   refine WD.pure (i := 12) r4crash_spec_t10 #[true, true, true, true, true, true, true, true, true, true, true, true, true, false, false, false, false, false, false, false, false, false, false, false, false, false, false, false, false, false, false, false] rfl rfl rfl (by kernel_rfl) (PQ.then (PQ.blk (PQ.then (PQ.then (PQ.blk (PQ.then PQ.body)))))) rfl (fun w => run_nilCheck rfl) ?_
   refine WD.pure (i := 13) r4crash_spec_t10 #[true, true, true, true, true, true, true, true, true, true, true, true, true, true, false, false, false, false, false, false, false, false, false, false, false, false, false, false, false, false, false, false] rfl rfl rfl (by kernel_rfl) (PQ.then (PQ.blk (PQ.then (PQ.then (PQ.blk (PQ.then PQ.body)))))) rfl (fun w => run_fieldAddr (q := ⟨g, 1, none⟩) (show fieldB Tryd.prog 71 1 = some 1 from by kernel_rfl) rfl rfl) ?_
   refine WD.take (i := 14) r4crash_spec_t10 #[true, true, true, true, true, true, true, true, true, true, true, true, true, true, true, false, false, false, false, false, false, false, false, false, false, false, false, false, false, false, false, false] s10 rfl rfl rfl (by kernel_rfl) (PQ.then (PQ.blk (PQ.then (PQ.then (PQ.blk (PQ.then PQ.body)))))) rfl (fun w hs => run_load Ty.ag67 rfl ((hs.1 1).trans rfl)) ?_
   refine WD.pure (i := 15) r4crash_spec_t10 #[true, true, true, true, true, true, true, true, true, true, true, true, true, true, true, true, false, false, false, false, false, false, false, false, false, false, false, false, false, false, false, false] rfl rfl rfl (by kernel_rfl) (PQ.then (PQ.blk (PQ.then (PQ.then (PQ.blk (PQ.then PQ.body)))))) rfl (fun w => run_move rfl) ?_
   refine WD.take (i := 16) r4crash_spec_t10 #[true, true, true, true, true, true, true, true, true, true, true, true, true, true, true, true, true, false, false, false, false, false, false, false, false, false, false, false, false, false, false, false] s10 rfl rfl rfl (by kernel_rfl) (PQ.then (PQ.blk (PQ.then (PQ.then (PQ.blk (PQ.then PQ.body)))))) rfl (fun w hs => run_indexAddr (q := adr rx.fa (e.2 * 2)) Tryd.underlying67 Ty.sz119 rfl rfl (by omega) (by omega) ((hs.2).2.1 (by omega)) rfl) ?_
   refine WD.pure (i := 17) r4crash_spec_t10 #[true, true, true, true, true, true, true, true, true, true, true, true, true, true, true, true, true, true, false, false, false, false, false, false, false, false, false, false, false, false, false, false] rfl rfl rfl (by kernel_rfl) (PQ.then (PQ.blk (PQ.then (PQ.then (PQ.blk (PQ.then PQ.body)))))) rfl (fun w => run_fieldAddr (q := (adr rx.fa (e.2 * 2 + 0))) (show fieldB Tryd.prog 119 0 = some 0 from by kernel_rfl) rfl (adr_add _ (by assumption) _ _)) ?_
   refine WD.take (i := 18) r4crash_spec_t10 #[true, true, true, true, true, true, true, true, true, true, true, true, true, true, true, true, true, true, true, false, false, false, false, false, false, false, false, false, false, false, false, false] s10 rfl rfl rfl (by kernel_rfl) (PQ.then (PQ.blk (PQ.then (PQ.then (PQ.blk (PQ.then PQ.body)))))) rfl (fun w hs => run_load Ty.ag9 rfl ((hs.2).cell ((flat_get fcl_len hfe (j := 0) (by decide)).trans rfl))) ?_
   refine WD.pure (i := 19) r4crash_spec_t10 #[true, true, true, true, true, true, true, true, true, true, true, true, true, true, true, true, true, true, true, true, false, false, false, false, false, false, false, false, false, false, false, false] rfl rfl rfl (by kernel_rfl) (PQ.then (PQ.blk (PQ.then (PQ.then (PQ.blk (PQ.then PQ.body)))))) rfl (fun w => run_lenS rfl Tryd.underlying9 rfl) ?_
   refine WD.pure (i := 20) r4crash_spec_t10 #[true, true, true, true, true, true, true, true, true, true, true, true, true, true, true, true, true, true, true, true, true, false, false, false, false, false, false, false, false, false, false, false] rfl rfl rfl (by kernel_rfl) (PQ.then (PQ.blk (PQ.then (PQ.then (PQ.blk (PQ.then PQ.body)))))) rfl (fun w => run_move rfl) ?_
   refine WD.pure (i := 21) r4crash_spec_t10 #[true, true, true, true, true, true, true, true, true, true, true, true, true, true, true, true, true, true, true, true, true, true, false, false, false, false, false, false, false, false, false, false] rfl rfl rfl (by kernel_rfl) (PQ.then (PQ.blk (PQ.then (PQ.then (PQ.blk (PQ.then PQ.body)))))) rfl (fun w => run_nilCheck rfl) ?_
   refine WD.pure (i := 22) r4crash_spec_t10 #[true, true, true, true, true, true, true, true, true, true, true, true, true, true, true, true, true, true, true, true, true, true, true, false, false, false, false, false, false, false, false, false] rfl rfl rfl (by kernel_rfl) (PQ.then (PQ.blk (PQ.then (PQ.then (PQ.blk (PQ.then PQ.body)))))) rfl (fun w => run_fieldAddr (q := ⟨g, 1, none⟩) (show fieldB Tryd.prog 71 1 = some 1 from by kernel_rfl) rfl rfl) ?_
   refine WD.take (i := 23) r4crash_spec_t10 #[true, true, true, true, true, true, true, true, true, true, true, true, true, true, true, true, true, true, true, true, true, true, true, true, false, false, false, false, false, false, false, false] s10 rfl rfl rfl (by kernel_rfl) (PQ.then (PQ.blk (PQ.then (PQ.then (PQ.blk (PQ.then PQ.body)))))) rfl (fun w hs => run_load Ty.ag67 rfl ((hs.1 1).trans rfl)) ?_
   refine WD.pure (i := 24) r4crash_spec_t10 #[true, true, true, true, true, true, true, true, true, true, true, true, true, true, true, true, true, true, true, true, true, true, true, true, true, false, false, false, false, false, false, false] rfl rfl rfl (by kernel_rfl) (PQ.then (PQ.blk (PQ.then (PQ.then (PQ.blk (PQ.then PQ.body)))))) rfl (fun w => run_move rfl) ?_
   refine WD.take (i := 25) r4crash_spec_t10 #[true, true, true, true, true, true, true, true, true, true, true, true, true, true, true, true, true, true, true, true, true, true, true, true, true, true, false, false, false, false, false, false] s10 rfl rfl rfl (by kernel_rfl) (PQ.then (PQ.blk (PQ.then (PQ.then (PQ.blk (PQ.then PQ.body)))))) rfl (fun w hs => run_indexAddr (q := adr rx.fa (e.2 * 2)) Tryd.underlying67 Ty.sz119 rfl rfl (by omega) (by omega) ((hs.2).2.1 (by omega)) rfl) ?_
   refine WD.pure (i := 26) r4crash_spec_t10 #[true, true, true, true, true, true, true, true, true, true, true, true, true, true, true, true, true, true, true, true, true, true, true, true, true, true, true, false, false, false, false, false] rfl rfl rfl (by kernel_rfl) (PQ.then (PQ.blk (PQ.then (PQ.then (PQ.blk (PQ.then PQ.body)))))) rfl (fun w => run_fieldAddr (q := (adr rx.fa (e.2 * 2 + 1))) (show fieldB Tryd.prog 119 1 = some 1 from by kernel_rfl) rfl (adr_add _ (by assumption) _ _)) ?_
   refine WD.take (i := 27) r4crash_spec_t10 #[true, true, true, true, true, true, true, true, true, true, true, true, true, true, true, true, true, true, true, true, true, true, true, true, true, true, true, true, false, false, false, false] s10 rfl rfl rfl (by kernel_rfl) (PQ.then (PQ.blk (PQ.then (PQ.then (PQ.blk (PQ.then PQ.body)))))) rfl (fun w hs => run_load Ty.ag3 rfl ((hs.2).cell ((flat_get fcl_len hfe (j := 1) (by decide)).trans rfl))) ?_
   refine WD.pure (i := 28) r4crash_spec_t10 #[true, true, true, true, true, true, true, true, true, true, true, true, true, true, true, true, true, true, true, true, true, true, true, true, true, true, true, true, true, false, false, false] rfl rfl rfl (by kernel_rfl) (PQ.then (PQ.blk (PQ.then (PQ.then (PQ.blk (PQ.then PQ.body)))))) rfl (fun w => run_sub rfl rfl (show IntKind.i64.wrap (((fileAt f e.2).1.length : Int) - ((fileAt f e.2).2 : Int)) = ((((fileAt f e.2).1.length - (fileAt f e.2).2) : Nat) : Int) by rw [IntWalk.i64_in _ (by omega)]; omega)) ?_
   refine WD.one (i := 29) r4crash_spec_t10 #[true, true, true, true, true, true, true, true, true, true, true, true, true, true, true, true, true, true, true, true, true, true, true, true, true, true, true, true, true, true, false, false] rfl (by kernel_rfl) ?_
   have hS11 := hS9.permT [2, 0, 0, 0, 0, 0, 0] (L' := X :: ro la ((applyL D.last (D.ch.take (keptF zs 0 D.ch.length))).length) 121 2 ((applyL D.last (D.ch.take (keptF zs 0 D.ch.length))).flatMap fcl) :: ro rx.la D.last.length 121 2 (D.last.flatMap fcl) :: cel g [Value.int .i64 D.room, Value.slice rx.fa D.f.length rx.fc, Value.slice rx.na D.nm.length rx.nc, Value.slice rx.la D.last.length rx.lc, Value.slice rx.ca D.ch.length rx.cc, Value.bool D.dead, Value.int .i64 D.left] 71 :: own rx.fa D.f.length rx.fc 119 2 (f.flatMap fcl) :: ro rx.na D.nm.length 121 2 (D.nm.flatMap fcl) :: own rx.ca D.ch.length rx.cc 146 3 (D.ch.flatMap ccl) :: L) rfl
   clear hS9
   refine WO.call rfl rfl Ty.hd102 rfl (r4kept_spec hX (j + 1) ((fileAt f e.2).1.length - (fileAt f e.2).2) (by omega) (by omega) hS11) (fun v13 w12 pv13 => ?_)
   obtain ⟨hv, hS12⟩ := pv13
   clear hS11
   rw [← hkq] at hv
   subst hv
   refine WO.nil ?_
   have s14 : (∀ j, World.cell? w12 ⟨g, j, none⟩ = [Value.int .i64 D.room, Value.slice rx.fa D.f.length rx.fc, Value.slice rx.na D.nm.length rx.nc, Value.slice rx.la D.last.length rx.lc, Value.slice rx.ca D.ch.length rx.cc, Value.bool D.dead, Value.int .i64 D.left][j]?) ∧ Rd w12 rx.fa D.f.length 2 (f.flatMap fcl) := ⟨hS12.cel_at 3 rfl, (hS12.own_rd_i 4 rfl)⟩
   refine NX.held s14 ?_
   refine WD.pure (i := 30) r4crash_spec_t10 #[true, true, true, true, true, true, true, true, true, true, true, true, true, true, true, true, true, true, true, true, true, true, true, true, true, true, true, true, true, true, true, false] rfl rfl rfl (by kernel_rfl) (PQ.then (PQ.blk (PQ.then (PQ.then (PQ.blk (PQ.then PQ.body)))))) rfl (fun w => run_add rfl rfl (show IntKind.i64.wrap (((fileAt f e.2).2 : Int) + (kq : Int)) = ((((fileAt f e.2).2 + kq) : Nat) : Int) by rw [IntWalk.i64_in _ (by omega)]; omega)) ?_
   refine WD.pure (i := 31) r4crash_spec_t10 #[true, true, true, true, true, true, true, true, true, true, true, true, true, true, true, true, true, true, true, true, true, true, true, true, true, true, true, true, true, true, true, true] rfl rfl rfl (by kernel_rfl) (PQ.then (PQ.blk (PQ.then (PQ.then (PQ.blk (PQ.then PQ.body)))))) rfl (fun w => run_assign rfl) ?_
   refine WD.done r4crash_spec_t10 (by kernel_rfl) ?_
   refine NX.go ?_
   refine WP.seq ?_
   refine WD.start (fun w => (∀ j, World.cell? w ⟨g, j, none⟩ = [Value.int .i64 D.room, Value.slice rx.fa D.f.length rx.fc, Value.slice rx.na D.nm.length rx.nc, Value.slice rx.la D.last.length rx.lc, Value.slice rx.ca D.ch.length rx.cc, Value.bool D.dead, Value.int .i64 D.left][j]?) ∧ Rd w rx.fa D.f.length 2 (f.flatMap fcl)) [17] #[false, false, false, false, false, false, false, false, false, false, false, false, false, false, false, false, false, false] Ty.mo rfl (by kernel_rfl) hS12 (fun _ h => ⟨h.cel_at 3 rfl, (h.own_rd_i 4 rfl)⟩) (fun w15 hS15 s16 => ?_)
   clear hS12
   refine WD.pure (i := 0) r4crash_spec_t11 #[true, false, false, false, false, false, false, false, false, false, false, false, false, false, false, false, false, false] rfl rfl rfl (by kernel_rfl) (PQ.then (PQ.blk (PQ.then (PQ.then (PQ.blk (PQ.then PQ.body)))))) rfl (fun w => run_move rfl) ?_
   refine WD.pure (i := 1) r4crash_spec_t11 #[true, true, false, false, false, false, false, false, false, false, false, false, false, false, false, false, false, false] rfl rfl rfl (by kernel_rfl) (PQ.then (PQ.blk (PQ.then (PQ.then (PQ.blk (PQ.then PQ.body)))))) rfl (fun w => run_nilCheck rfl) ?_
   refine WD.pure (i := 2) r4crash_spec_t11 #[true, true, true, false, false, false, false, false, false, false, false, false, false, false, false, false, false, false] rfl rfl rfl (by kernel_rfl) (PQ.then (PQ.blk (PQ.then (PQ.then (PQ.blk (PQ.then PQ.body)))))) rfl (fun w => run_fieldAddr (q := ⟨g, 1, none⟩) (show fieldB Tryd.prog 71 1 = some 1 from by kernel_rfl) rfl rfl) ?_
   refine WD.take (i := 3) r4crash_spec_t11 #[true, true, true, true, false, false, false, false, false, false, false, false, false, false, false, false, false, false] s16 rfl rfl rfl (by kernel_rfl) (PQ.then (PQ.blk (PQ.then (PQ.then (PQ.blk (PQ.then PQ.body)))))) rfl (fun w hs => run_load Ty.ag67 rfl ((hs.1 1).trans rfl)) ?_
   refine WD.pure (i := 4) r4crash_spec_t11 #[true, true, true, true, true, false, false, false, false, false, false, false, false, false, false, false, false, false] rfl rfl rfl (by kernel_rfl) (PQ.then (PQ.blk (PQ.then (PQ.then (PQ.blk (PQ.then PQ.body)))))) rfl (fun w => run_move rfl) ?_
   refine WD.pure (i := 5) r4crash_spec_t11 #[true, true, true, true, true, true, false, false, false, false, false, false, false, false, false, false, false, false] rfl rfl rfl (by kernel_rfl) (PQ.then (PQ.blk (PQ.then (PQ.then (PQ.blk (PQ.then PQ.body)))))) rfl (fun w => run_move rfl) ?_
   refine WD.pure (i := 6) r4crash_spec_t11 #[true, true, true, true, true, true, true, false, false, false, false, false, false, false, false, false, false, false] rfl rfl rfl (by kernel_rfl) (PQ.then (PQ.blk (PQ.then (PQ.then (PQ.blk (PQ.then PQ.body)))))) rfl (fun w => run_nilCheck rfl) ?_
   refine WD.pure (i := 7) r4crash_spec_t11 #[true, true, true, true, true, true, true, true, false, false, false, false, false, false, false, false, false, false] rfl rfl rfl (by kernel_rfl) (PQ.then (PQ.blk (PQ.then (PQ.then (PQ.blk (PQ.then PQ.body)))))) rfl (fun w => run_fieldAddr (q := ⟨g, 1, none⟩) (show fieldB Tryd.prog 71 1 = some 1 from by kernel_rfl) rfl rfl) ?_
   refine WD.take (i := 8) r4crash_spec_t11 #[true, true, true, true, true, true, true, true, true, false, false, false, false, false, false, false, false, false] s16 rfl rfl rfl (by kernel_rfl) (PQ.then (PQ.blk (PQ.then (PQ.then (PQ.blk (PQ.then PQ.body)))))) rfl (fun w hs => run_load Ty.ag67 rfl ((hs.1 1).trans rfl)) ?_
   refine WD.pure (i := 9) r4crash_spec_t11 #[true, true, true, true, true, true, true, true, true, true, false, false, false, false, false, false, false, false] rfl rfl rfl (by kernel_rfl) (PQ.then (PQ.blk (PQ.then (PQ.then (PQ.blk (PQ.then PQ.body)))))) rfl (fun w => run_move rfl) ?_
   refine WD.take (i := 10) r4crash_spec_t11 #[true, true, true, true, true, true, true, true, true, true, true, false, false, false, false, false, false, false] s16 rfl rfl rfl (by kernel_rfl) (PQ.then (PQ.blk (PQ.then (PQ.then (PQ.blk (PQ.then PQ.body)))))) rfl (fun w hs => run_indexAddr (q := adr rx.fa (e.2 * 2)) Tryd.underlying67 Ty.sz119 rfl rfl (by omega) (by omega) ((hs.2).2.1 (by omega)) rfl) ?_
   refine WD.pure (i := 11) r4crash_spec_t11 #[true, true, true, true, true, true, true, true, true, true, true, true, false, false, false, false, false, false] rfl rfl rfl (by kernel_rfl) (PQ.then (PQ.blk (PQ.then (PQ.then (PQ.blk (PQ.then PQ.body)))))) rfl (fun w => run_fieldAddr (q := (adr rx.fa (e.2 * 2 + 0))) (show fieldB Tryd.prog 119 0 = some 0 from by kernel_rfl) rfl (adr_add _ (by assumption) _ _)) ?_
   refine WD.take (i := 12) r4crash_spec_t11 #[true, true, true, true, true, true, true, true, true, true, true, true, true, false, false, false, false, false] s16 rfl rfl rfl (by kernel_rfl) (PQ.then (PQ.blk (PQ.then (PQ.then (PQ.blk (PQ.then PQ.body)))))) rfl (fun w hs => run_load Ty.ag9 rfl ((hs.2).cell ((flat_get fcl_len hfe (j := 0) (by decide)).trans rfl))) ?_
   refine WD.pure (i := 13) r4crash_spec_t11 #[true, true, true, true, true, true, true, true, true, true, true, true, true, true, false, false, false, false] rfl rfl rfl (by kernel_rfl) (PQ.then (PQ.blk (PQ.then (PQ.then (PQ.blk (PQ.then PQ.body)))))) rfl (fun w => run_move rfl) ?_
   refine WD.pure (i := 14) r4crash_spec_t11 #[true, true, true, true, true, true, true, true, true, true, true, true, true, true, true, false, false, false] rfl rfl rfl (by kernel_rfl) (PQ.then (PQ.blk (PQ.then (PQ.then (PQ.blk (PQ.then PQ.body)))))) rfl (fun w => run_sliceS (i := 0) (j := ((fileAt f e.2).2 + kq)) Tryd.underlying9 rfl rfl ⟨_, rfl⟩ (Nat.zero_le _) (by omega) (List.drop_zero)) ?_
   refine WD.take (i := 15) r4crash_spec_t11 #[true, true, true, true, true, true, true, true, true, true, true, true, true, true, true, true, false, false] s16 rfl rfl rfl (by kernel_rfl) (PQ.then (PQ.blk (PQ.then (PQ.then (PQ.blk (PQ.then PQ.body)))))) rfl (fun w hs => run_indexAddr (q := adr rx.fa (e.2 * 2)) Tryd.underlying67 Ty.sz119 rfl rfl (by omega) (by omega) ((hs.2).2.1 (by omega)) rfl) ?_
   refine WD.pure (i := 16) r4crash_spec_t11 #[true, true, true, true, true, true, true, true, true, true, true, true, true, true, true, true, true, false] rfl rfl rfl (by kernel_rfl) (PQ.then (PQ.blk (PQ.then (PQ.then (PQ.blk (PQ.then PQ.body)))))) rfl (fun w => run_fieldAddr (q := (adr rx.fa (e.2 * 2 + 0))) (show fieldB Tryd.prog 119 0 = some 0 from by kernel_rfl) rfl (adr_add _ (by assumption) _ _)) ?_
   refine WD.one (i := 17) r4crash_spec_t11 #[true, true, true, true, true, true, true, true, true, true, true, true, true, true, true, true, true, true] rfl (by kernel_rfl) ?_
   refine WO.storeOwnAt 4 hS15 rfl Ty.sz9 rfl rfl rfl rfl (by rw [flat_len fcl_len]; omega) (fun w17 hS17 => ?_)
   replace hS17 : St B (X :: ro la ((applyL D.last (D.ch.take (keptF zs 0 D.ch.length))).length) 121 2 ((applyL D.last (D.ch.take (keptF zs 0 D.ch.length))).flatMap fcl) :: ro rx.la D.last.length 121 2 (D.last.flatMap fcl) :: cel g [Value.int .i64 D.room, Value.slice rx.fa D.f.length rx.fc, Value.slice rx.na D.nm.length rx.nc, Value.slice rx.la D.last.length rx.lc, Value.slice rx.ca D.ch.length rx.cc, Value.bool D.dead, Value.int .i64 D.left] 71 :: own rx.fa D.f.length rx.fc 119 2 ((f.set e.2 ((fileAt f e.2).1.take ((fileAt f e.2).2 + kq), (fileAt f e.2).2)).flatMap fcl) :: ro rx.na D.nm.length 121 2 (D.nm.flatMap fcl) :: own rx.ca D.ch.length rx.cc 146 3 (D.ch.flatMap ccl) :: L) w17 := (by have z := hS17; rw [flat_set fcl_len hfe (j := 0) (y := ((fileAt f e.2).1.take ((fileAt f e.2).2 + kq), (fileAt f e.2).2)) (by decide) rfl] at z; exact z)
   clear hS15
   refine WO.nil ?_
   refine NX.last (by decide) ?_
   refine WD.done r4crash_spec_t11 (by kernel_rfl) ?_
   refine NX.go ?_
   have hfe2 : (f.set e.2 ((fileAt f e.2).1.take ((fileAt f e.2).2 + kq), (fileAt f e.2).2))[e.2]? = some ((fileAt f e.2).1.take ((fileAt f e.2).2 + kq), (fileAt f e.2).2) := List.getElem?_set_self hlt
   have hcut : (f.set e.2 ((fileAt f e.2).1.take ((fileAt f e.2).2 + kq), (fileAt f e.2).2)).set e.2 ((fileAt f e.2).1.take ((fileAt f e.2).2 + kq), ((fileAt f e.2).2 + kq)) = cutOne f zs (j + 1) e.2 := by rw [List.set_set]; unfold cutOne cutF; rw [← hkq]
   refine WP.region rfl ?_
   refine WO.val (run_move rfl) rfl rfl rfl ?_
   refine WO.val (run_nilCheck rfl) rfl rfl rfl ?_
   refine WO.val (run_fieldAddr (q := ⟨g, 1, none⟩) (show fieldB Tryd.prog 71 1 = some 1 from by kernel_rfl) rfl rfl) rfl rfl rfl ?_
   refine WO.val (run_load Ty.ag67 rfl ((hS17.cel_at 3 rfl 1).trans rfl)) rfl rfl rfl ?_
   refine WO.val (run_move rfl) rfl rfl rfl ?_
   refine WO.val (run_move rfl) rfl rfl rfl ?_
   refine WO.val (run_indexAddr (q := adr rx.fa (e.2 * 2)) Tryd.underlying67 Ty.sz119 rfl rfl (by omega) (by omega) ((hS17.own_rd_i 4 rfl).2.1 (by omega)) rfl) rfl rfl rfl ?_
   refine WO.val (run_fieldAddr (q := (adr rx.fa (e.2 * 2 + 1))) (show fieldB Tryd.prog 119 1 = some 1 from by kernel_rfl) rfl (adr_add _ (by assumption) _ _)) rfl rfl rfl ?_
   refine WO.storeOwnAt 4 hS17 rfl Ty.sz3 rfl rfl rfl rfl (by rw [flat_len fcl_len, List.length_set]; omega) (fun w18 hS18 => ?_)
   replace hS18 : St B (X :: ro la ((applyL D.last (D.ch.take (keptF zs 0 D.ch.length))).length) 121 2 ((applyL D.last (D.ch.take (keptF zs 0 D.ch.length))).flatMap fcl) :: ro rx.la D.last.length 121 2 (D.last.flatMap fcl) :: cel g [Value.int .i64 D.room, Value.slice rx.fa D.f.length rx.fc, Value.slice rx.na D.nm.length rx.nc, Value.slice rx.la D.last.length rx.lc, Value.slice rx.ca D.ch.length rx.cc, Value.bool D.dead, Value.int .i64 D.left] 71 :: own rx.fa D.f.length rx.fc 119 2 ((cutOne f zs (j + 1) e.2).flatMap fcl) :: ro rx.na D.nm.length 121 2 (D.nm.flatMap fcl) :: own rx.ca D.ch.length rx.cc 146 3 (D.ch.flatMap ccl) :: L) w18 := (by have z := hS18; rw [flat_set fcl_len hfe2 (j := 1) (y := ((fileAt f e.2).1.take ((fileAt f e.2).2 + kq), ((fileAt f e.2).2 + kq))) (by decide) rfl, hcut] at z; exact z)
   clear hS17
   refine WO.nil ?_
   refine NX.blk ?_
   refine NX.go ?_
   refine WP.region rfl ?_
   refine WO.val (run_move rfl) rfl rfl rfl ?_
   refine WO.val (run_add rfl rfl (IntWalk.i64_in _ (by omega))) rfl rfl rfl ?_
   refine WO.val (run_assign rfl) rfl rfl rfl ?_
   refine WO.nil ?_
   exact NX.again (j + 1, cutOne f zs (j + 1) e.2) ⟨⟨by omega, by rw [← hcr, crashF_step he0], by rw [← hfl]; exact List.length_set, (cut_ok hlt hfx hft).1, (cut_ok hlt hfx hft).2⟩, (hS18.permT [1, 1, 0, 0, 0, 0, 0] (L' := ro la ((applyL D.last (D.ch.take (keptF zs 0 D.ch.length))).length) 121 2 ((applyL D.last (D.ch.take (keptF zs 0 D.ch.length))).flatMap fcl) :: ro rx.la D.last.length 121 2 (D.last.flatMap fcl) :: X :: cel g [Value.int .i64 D.room, Value.slice rx.fa D.f.length rx.fc, Value.slice rx.na D.nm.length rx.nc, Value.slice rx.la D.last.length rx.lc, Value.slice rx.ca D.ch.length rx.cc, Value.bool D.dead, Value.int .i64 D.left] 71 :: own rx.fa D.f.length rx.fc 119 2 ((cutOne f zs (j + 1) e.2).flatMap fcl) :: ro rx.na D.nm.length 121 2 (D.nm.flatMap fcl) :: own rx.ca D.ch.length rx.cc 146 3 (D.ch.flatMap ccl) :: L) rfl)⟩ (by show (applyL D.last (D.ch.take (keptF zs 0 D.ch.length))).length - (j + 1) < (applyL D.last (D.ch.take (keptF zs 0 D.ch.length))).length - j; omega) (Sub.cons rfl (Sub.cons rfl (Sub.cons rfl (Sub.consE rfl (by congr 1) (Sub.nil _)))))
  ·
   refine WP.exit ?_
   refine NX.thenExit ?_
   refine NX.thenExit ?_
   refine NX.blkExit ?_
   refine NX.go ?_
   refine WP.seq ?_
   refine WP.region rfl ?_
   refine WO.val (run_move rfl) rfl rfl rfl ?_
   refine WO.val (run_move rfl) rfl rfl rfl ?_
   refine WO.val (run_nilCheck rfl) rfl rfl rfl ?_
   refine WO.val (run_fieldAddr (q := ⟨g, 2, none⟩) (show fieldB Tryd.prog 71 2 = some 2 from by kernel_rfl) rfl rfl) rfl rfl rfl ?_
   refine WO.store (l' := [Value.int .i64 D.room, Value.slice rx.fa D.f.length rx.fc, Value.slice la ((applyL D.last (D.ch.take (keptF zs 0 D.ch.length))).length) lc, Value.slice rx.la D.last.length rx.lc, Value.slice rx.ca D.ch.length rx.cc, Value.bool D.dead, Value.int .i64 D.left]) 3 hS8 rfl Ty.sz68 rfl rfl rfl rfl rfl (Nat.le_of_ble_eq_true rfl) rfl (fun w19 (hS19 : St B (ro la ((applyL D.last (D.ch.take (keptF zs 0 D.ch.length))).length) 121 2 ((applyL D.last (D.ch.take (keptF zs 0 D.ch.length))).flatMap fcl) :: ro rx.la D.last.length 121 2 (D.last.flatMap fcl) :: X :: cel g [Value.int .i64 D.room, Value.slice rx.fa D.f.length rx.fc, Value.slice la ((applyL D.last (D.ch.take (keptF zs 0 D.ch.length))).length) lc, Value.slice rx.la D.last.length rx.lc, Value.slice rx.ca D.ch.length rx.cc, Value.bool D.dead, Value.int .i64 D.left] 71 :: own rx.fa D.f.length rx.fc 119 2 (f.flatMap fcl) :: ro rx.na D.nm.length 121 2 (D.nm.flatMap fcl) :: own rx.ca D.ch.length rx.cc 146 3 (D.ch.flatMap ccl) :: L) w19) => ?_)
   clear hS8
   refine WO.nil ?_
   refine NX.go ?_
   refine WP.seq ?_
   refine WP.region rfl ?_
   refine WO.val (run_move rfl) rfl rfl rfl ?_
   refine WO.val (run_move rfl) rfl rfl rfl ?_
   refine WO.val (run_nilCheck rfl) rfl rfl rfl ?_
   refine WO.val (run_fieldAddr (q := ⟨g, 3, none⟩) (show fieldB Tryd.prog 71 3 = some 3 from by kernel_rfl) rfl rfl) rfl rfl rfl ?_
   refine WO.store (l' := [Value.int .i64 D.room, Value.slice rx.fa D.f.length rx.fc, Value.slice la ((applyL D.last (D.ch.take (keptF zs 0 D.ch.length))).length) lc, Value.slice la ((applyL D.last (D.ch.take (keptF zs 0 D.ch.length))).length) lc, Value.slice rx.ca D.ch.length rx.cc, Value.bool D.dead, Value.int .i64 D.left]) 3 hS19 rfl Ty.sz68 rfl rfl rfl rfl rfl (Nat.le_of_ble_eq_true rfl) rfl (fun w20 (hS20 : St B (ro la ((applyL D.last (D.ch.take (keptF zs 0 D.ch.length))).length) 121 2 ((applyL D.last (D.ch.take (keptF zs 0 D.ch.length))).flatMap fcl) :: ro rx.la D.last.length 121 2 (D.last.flatMap fcl) :: X :: cel g [Value.int .i64 D.room, Value.slice rx.fa D.f.length rx.fc, Value.slice la ((applyL D.last (D.ch.take (keptF zs 0 D.ch.length))).length) lc, Value.slice la ((applyL D.last (D.ch.take (keptF zs 0 D.ch.length))).length) lc, Value.slice rx.ca D.ch.length rx.cc, Value.bool D.dead, Value.int .i64 D.left] 71 :: own rx.fa D.f.length rx.fc 119 2 (f.flatMap fcl) :: ro rx.na D.nm.length 121 2 (D.nm.flatMap fcl) :: own rx.ca D.ch.length rx.cc 146 3 (D.ch.flatMap ccl) :: L) w20) => ?_)
   clear hS19
   refine WO.nil ?_
   refine NX.go ?_
   refine WP.seq ?_
   refine WP.region rfl ?_
   refine WO.val (run_move rfl) rfl rfl rfl ?_
   refine WO.val (run_nilCheck rfl) rfl rfl rfl ?_
   refine WO.val (run_fieldAddr (q := ⟨g, 4, none⟩) (show fieldB Tryd.prog 71 4 = some 4 from by kernel_rfl) rfl rfl) rfl rfl rfl ?_
   refine WO.store (l' := [Value.int .i64 D.room, Value.slice rx.fa D.f.length rx.fc, Value.slice la ((applyL D.last (D.ch.take (keptF zs 0 D.ch.length))).length) lc, Value.slice la ((applyL D.last (D.ch.take (keptF zs 0 D.ch.length))).length) lc, Value.slice none 0 0, Value.bool D.dead, Value.int .i64 D.left]) 3 hS20 rfl Ty.sz69 rfl rfl rfl rfl rfl (Nat.le_of_ble_eq_true rfl) rfl (fun w21 (hS21 : St B (ro la ((applyL D.last (D.ch.take (keptF zs 0 D.ch.length))).length) 121 2 ((applyL D.last (D.ch.take (keptF zs 0 D.ch.length))).flatMap fcl) :: ro rx.la D.last.length 121 2 (D.last.flatMap fcl) :: X :: cel g [Value.int .i64 D.room, Value.slice rx.fa D.f.length rx.fc, Value.slice la ((applyL D.last (D.ch.take (keptF zs 0 D.ch.length))).length) lc, Value.slice la ((applyL D.last (D.ch.take (keptF zs 0 D.ch.length))).length) lc, Value.slice none 0 0, Value.bool D.dead, Value.int .i64 D.left] 71 :: own rx.fa D.f.length rx.fc 119 2 (f.flatMap fcl) :: ro rx.na D.nm.length 121 2 (D.nm.flatMap fcl) :: own rx.ca D.ch.length rx.cc 146 3 (D.ch.flatMap ccl) :: L) w21) => ?_)
   clear hS20
   refine WO.nil ?_
   refine NX.go ?_
   refine WP.seq ?_
   refine WP.region rfl ?_
   refine WO.val (run_move rfl) rfl rfl rfl ?_
   refine WO.val (run_nilCheck rfl) rfl rfl rfl ?_
   refine WO.val (run_fieldAddr (q := ⟨g, 5, none⟩) (show fieldB Tryd.prog 71 5 = some 5 from by kernel_rfl) rfl rfl) rfl rfl rfl ?_
   refine WO.store (l' := [Value.int .i64 D.room, Value.slice rx.fa D.f.length rx.fc, Value.slice la ((applyL D.last (D.ch.take (keptF zs 0 D.ch.length))).length) lc, Value.slice la ((applyL D.last (D.ch.take (keptF zs 0 D.ch.length))).length) lc, Value.slice none 0 0, Value.bool false, Value.int .i64 D.left]) 3 hS21 rfl Ty.sz4 rfl rfl rfl rfl rfl (Nat.le_of_ble_eq_true rfl) rfl (fun w22 (hS22 : St B (ro la ((applyL D.last (D.ch.take (keptF zs 0 D.ch.length))).length) 121 2 ((applyL D.last (D.ch.take (keptF zs 0 D.ch.length))).flatMap fcl) :: ro rx.la D.last.length 121 2 (D.last.flatMap fcl) :: X :: cel g [Value.int .i64 D.room, Value.slice rx.fa D.f.length rx.fc, Value.slice la ((applyL D.last (D.ch.take (keptF zs 0 D.ch.length))).length) lc, Value.slice la ((applyL D.last (D.ch.take (keptF zs 0 D.ch.length))).length) lc, Value.slice none 0 0, Value.bool false, Value.int .i64 D.left] 71 :: own rx.fa D.f.length rx.fc 119 2 (f.flatMap fcl) :: ro rx.na D.nm.length 121 2 (D.nm.flatMap fcl) :: own rx.ca D.ch.length rx.cc 146 3 (D.ch.flatMap ccl) :: L) w22) => ?_)
   clear hS21
   refine WO.nil ?_
   refine NX.go ?_
   refine WP.region rfl ?_
   refine WO.val (run_move rfl) rfl rfl rfl ?_
   refine WO.val (run_nilCheck rfl) rfl rfl rfl ?_
   refine WO.val (run_fieldAddr (q := ⟨g, 6, none⟩) (show fieldB Tryd.prog 71 6 = some 6 from by kernel_rfl) rfl rfl) rfl rfl rfl ?_
   refine WO.store (l' := [Value.int .i64 D.room, Value.slice rx.fa D.f.length rx.fc, Value.slice la ((applyL D.last (D.ch.take (keptF zs 0 D.ch.length))).length) lc, Value.slice la ((applyL D.last (D.ch.take (keptF zs 0 D.ch.length))).length) lc, Value.slice none 0 0, Value.bool false, Value.int .i64 (-1)]) 3 hS22 rfl Ty.sz3 rfl rfl rfl rfl rfl (Nat.le_of_ble_eq_true rfl) rfl (fun w23 (hS23 : St B (ro la ((applyL D.last (D.ch.take (keptF zs 0 D.ch.length))).length) 121 2 ((applyL D.last (D.ch.take (keptF zs 0 D.ch.length))).flatMap fcl) :: ro rx.la D.last.length 121 2 (D.last.flatMap fcl) :: X :: cel g [Value.int .i64 D.room, Value.slice rx.fa D.f.length rx.fc, Value.slice la ((applyL D.last (D.ch.take (keptF zs 0 D.ch.length))).length) lc, Value.slice la ((applyL D.last (D.ch.take (keptF zs 0 D.ch.length))).length) lc, Value.slice none 0 0, Value.bool false, Value.int .i64 (-1)] 71 :: own rx.fa D.f.length rx.fc 119 2 (f.flatMap fcl) :: ro rx.na D.nm.length 121 2 (D.nm.flatMap fcl) :: own rx.ca D.ch.length rx.cc 146 3 (D.ch.flatMap ccl) :: L) w23) => ?_)
   clear hS22
   refine WO.nil ?_
   have hcf : f = crashF zs 1 (applyL D.last (D.ch.take (keptF zs 0 D.ch.length))) D.f := by rw [← hcr, List.drop_of_length_le (by omega)]; rfl
   have hS24 := (St.dup (ro_pers _ _ _ _ _) hS23).own_nil 146 3
   refine NX.ended (l := []) rfl rfl ?_
   have hz := (hS24.permT [3, 6, 6, 4, 4, 1, 1, 0, 0] (L' := ro rx.la D.last.length 121 2 (D.last.flatMap fcl) :: ro rx.na D.nm.length 121 2 (D.nm.flatMap fcl) :: own rx.ca D.ch.length rx.cc 146 3 (D.ch.flatMap ccl) :: cel g [Value.int .i64 D.room, Value.slice rx.fa D.f.length rx.fc, Value.slice la ((applyL D.last (D.ch.take (keptF zs 0 D.ch.length))).length) lc, Value.slice la ((applyL D.last (D.ch.take (keptF zs 0 D.ch.length))).length) lc, Value.slice none 0 0, Value.bool false, Value.int .i64 (-1)] 71 :: own rx.fa D.f.length rx.fc 119 2 (f.flatMap fcl) :: ro la ((applyL D.last (D.ch.take (keptF zs 0 D.ch.length))).length) 121 2 ((applyL D.last (D.ch.take (keptF zs 0 D.ch.length))).flatMap fcl) :: ro la ((applyL D.last (D.ch.take (keptF zs 0 D.ch.length))).length) 121 2 ((applyL D.last (D.ch.take (keptF zs 0 D.ch.length))).flatMap fcl) :: own none 0 0 146 3 [] :: X :: L) rfl).drop.drop.drop
   have el : (crashF zs 1 (applyL D.last (D.ch.take (keptF zs 0 D.ch.length))) D.f).length = D.f.length := crashF_len _ _ _
   rw [hcf, ← el] at hz
   exact ⟨rfl, St.rf_shut (D := crashD D zs) ⟨rx.fa, rx.fc, la, lc, la, lc, none, 0⟩ hz⟩
end Go.Proofs.YtcehlnpbdffdhaaDoor.SL
