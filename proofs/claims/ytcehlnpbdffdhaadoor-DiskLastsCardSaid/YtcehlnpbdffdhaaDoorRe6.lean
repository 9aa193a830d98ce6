/- The document's disk: bytes are added. -/
import Derived.Test.YtcehlnpbdffdhaaDoorRe5
namespace Go.Proofs.YtcehlnpbdffdhaaDoor.SL
open Go.RowKit Go.Proofs.YtcehlnpbdffdhaaDoor
open Go.Proofs.YtcehlnpbdffdhaaDoorW.PrintLast (rtab opsOf)
set_option linter.unusedVariables false
set_option linter.unusedSimpArgs false

theorem new_nm {D D2 D3 : Dk} {n t : Nat} {k : List UInt8} (hk : OkD D n t) (hf : fileF k = true) (hn : findN k D.nm = none) (q2 : D2 = { D with f := D.f ++ [([], 0)] }) (q3 : D3 = changeD D2 ⟨[], k, D.f.length⟩) : D3.nm = insN (k, D.f.length) D.nm ∧ findN k D3.nm = some D.f.length := by
  have hkp : keepN ⟨[], k, D.f.length⟩ D.nm = D.nm := keepN_none (fun e he => fileF_ne (hk.w.good.f e he).1) (findN_none' hn)
  have ha : D3.nm = insN (k, D.f.length) D.nm := by
    rw [q3, q2]
    show applyN D.nm ⟨[], k, D.f.length⟩ = _
    unfold applyN; rw [if_neg (fileF_ne hf)]
    show insN _ (keepN _ _) = _
    rw [hkp]
  exact ⟨ha, by rw [ha]; exact findN_insN hn⟩
theorem append1_found {D : Dk} {k s : List UInt8} {i : Nat} (hf : fileF k = true) (hr : ¬ D.room - usedN D.f D.nm < s.length) (h : findN k D.nm = some i) : append1 D k s = ({ D with f := addTo D.f i s }, 0) := by
  unfold append1
  rw [if_neg (by rw [hf]; exact Bool.noConfusion), if_neg (by rintro (h2 | ⟨h2, _⟩); exact hr h2; rw [h] at h2; cases h2), h]
theorem append1_new {D D2 D3 : Dk} {k s : List UInt8} (hf : fileF k = true) (hr : ¬ D.room - usedN D.f D.nm < s.length) (h : findN k D.nm = none) (h64 : ¬ 64 ≤ D.nm.length) (q2 : D2 = { D with f := D.f ++ [([], 0)] }) (q3 : D3 = changeD D2 ⟨[], k, D.f.length⟩) : append1 D k s = ({ D3 with f := addTo D3.f D.f.length s }, 0) := by
  have e : D3.f = D.f ++ [([], 0)] := by rw [q3, q2]; rfl
  unfold append1
  rw [if_neg (by rw [hf]; exact Bool.noConfusion), if_neg (by rintro (h2 | ⟨_, h2⟩); exact hr h2; omega), h, e, addTo_last, q3, q2]
theorem r4append_spec_t6 : rtab .any (opsOf Tryd.f69 6) = (true, [([], []), ([0], [0]), ([], []), ([2], [2]), ([3], [3]), ([4], [4]), ([], []), ([6], [6]), ([5, 7], [5, 7]), ([1, 8], [1, 8]), ([9, 7], [9]), ([10], [10]), ([11, 10], [10, 11]), ([12, 10, 10], [10, 12]), ([13], [13]), ([14, 13], [13, 14]), ([15, 13], [13, 15]), ([16, 13], [13, 16]), ([17, 13], [13, 17]), ([18, 13], [13, 18]), ([13, 19, 10], [10, 13, 19]), ([10, 20], [10, 20]), ([21, 13], [21])]) := by kernel_rfl
theorem r4append_spec_t13 : rtab .any (opsOf Tryd.f69 13) = (true, [([], []), ([0], [0]), ([1], [1]), ([2], [2]), ([], []), ([], []), ([5], [5]), ([6], [6]), ([7], [7]), ([], []), ([8, 9], [8, 9]), ([10], [10]), ([11], [11]), ([], []), ([12, 13], [12, 13]), ([3, 4, 0, 1, 2, 3, 4, 5, 6, 7, 8, 9, 10, 11, 12, 13, 14], [3, 4]), ([15, 0, 1, 2, 3, 4, 5, 6, 7, 8, 9, 10, 11, 12, 13, 14], [15]), ([16, 14, 0, 1, 2, 3, 4, 5, 6, 7, 8, 9, 10, 11, 12, 13, 14], [14, 16])]) := by kernel_rfl
theorem r4append_spec {B w : World} {L : List HP} {g : Nat} {D : Dk} {n t : Nat} (hk : OkD D n t) (hn1 : n ≤ 1000000000) (ht : t ≤ 1099511627776) (k s : List UInt8) (hkl : k.length ≤ 140737488355328) (hsl : s.length ≤ 140737488355328) (hS : St B (refA g D :: L) w) : Does Tryd.prog 69 [Value.pointer (some ⟨g, 0, none⟩), str k, str s] w (fun v w1 => v = .int .i64 (appendD D k s).2 ∧ St B (refA g (appendD D k s).1 :: L) w1) := by
 obtain ⟨rx, h0⟩ := hS.rf_open
 clear hS
 have hw := hk.w
 have hcb := hk.b.ch
 have hfb := hk.b.f
 have h64 := hw.nm64
 refine enter (n := 99) Tryd.func69 rfl rfl [Value.pointer (some ⟨g, 0, none⟩), str k, str s] rfl ?_
 refine WP.seq ?_
 refine WP.region rfl ?_
 refine WO.val (run_assign rfl) rfl rfl rfl ?_
 refine WO.nil ?_
 refine NX.go ?_
 refine WP.seq ?_
 refine WP.region rfl ?_
 refine WO.val (run_move rfl) rfl rfl rfl ?_
 refine WO.val (run_nilCheck rfl) rfl rfl rfl ?_
 refine WO.val (run_fieldAddr (q := ⟨g, 2, none⟩) (show fieldB Tryd.prog 71 2 = some 2 from by kernel_rfl) rfl rfl) rfl rfl rfl ?_
 refine WO.val (run_load Ty.ag68 rfl ((h0.cel_at 0 rfl 2).trans rfl)) rfl rfl rfl ?_
 refine WO.val (run_move rfl) rfl rfl rfl ?_
 have hS1 := h0.permT [2, 0, 0, 0, 0] (L' := ro rx.na D.nm.length 121 2 (D.nm.flatMap fcl) :: cel g [Value.int .i64 D.room, Value.slice rx.fa D.f.length rx.fc, Value.slice rx.na D.nm.length rx.nc, Value.slice rx.la D.last.length rx.lc, Value.slice rx.ca D.ch.length rx.cc, Value.bool D.dead, Value.int .i64 D.left] 71 :: own rx.fa D.f.length rx.fc 119 2 (D.f.flatMap fcl) :: ro rx.la D.last.length 121 2 (D.last.flatMap fcl) :: own rx.ca D.ch.length rx.cc 146 3 (D.ch.flatMap ccl) :: L) rfl
 clear h0
 refine WO.call rfl rfl Ty.hd77 rfl (r4at_spec (fun h => h.ro_rd) k (by omega) hS1) (fun v3 w2 pv3 => ?_)
 obtain ⟨r, rfl, hat, hS2⟩ := pv3
 clear hS1
 refine WO.val (run_assign rfl) rfl rfl rfl ?_
 refine WO.nil ?_
 refine NX.go ?_
 refine WP.seq ?_
 refine WP.block ?_
 refine WP.seq ?_
 refine WP.region rfl ?_
 refine WO.val (run_move rfl) rfl rfl rfl ?_
 have hS4 := hS2.permT [1, 0, 0, 0, 0] (L' := cel g [Value.int .i64 D.room, Value.slice rx.fa D.f.length rx.fc, Value.slice rx.na D.nm.length rx.nc, Value.slice rx.la D.last.length rx.lc, Value.slice rx.ca D.ch.length rx.cc, Value.bool D.dead, Value.int .i64 D.left] 71 :: ro rx.na D.nm.length 121 2 (D.nm.flatMap fcl) :: own rx.fa D.f.length rx.fc 119 2 (D.f.flatMap fcl) :: ro rx.la D.last.length 121 2 (D.last.flatMap fcl) :: own rx.ca D.ch.length rx.cc 146 3 (D.ch.flatMap ccl) :: L) rfl
 clear hS2
 refine WO.call rfl rfl Ty.hd98 rfl (r4write_spec hw.left hw.lrng hS4) (fun v6 w5 pv6 => ?_)
 obtain ⟨hv, hS5⟩ := pv6
 clear hS4
 obtain ⟨D1, eD1⟩ : ∃ qq, qq = (writeD D).1 := ⟨_, rfl⟩
 have q1 : D1 = { D with dead := wDead D.dead D.left, left := wLeft D.dead D.left } := by rw [eD1, writeD_eq]
 obtain ⟨b1, eb1⟩ : ∃ qq, qq = wOk D.dead D.left := ⟨_, rfl⟩
 have qb : (writeD D).2 = b1 := by rw [eb1, writeD_eq]
 rw [← eb1] at hv
 subst hv
 have k1 : OkD D1 n t := by rw [eD1]; exact hk.write
 have ew := onWrite_of eD1 qb
 have en : D1.nm = D.nm := by rw [q1]
 have hw1 := k1.w
 have hcb1 := k1.b.ch
 have hfb1 := k1.b.f
 have h641 := hw1.nm64
 have hS7 : St B (cel g [Value.int .i64 D1.room, Value.slice rx.fa D1.f.length rx.fc, Value.slice rx.na D1.nm.length rx.nc, Value.slice rx.la D1.last.length rx.lc, Value.slice rx.ca D1.ch.length rx.cc, Value.bool D1.dead, Value.int .i64 D1.left] 71 :: own rx.fa D1.f.length rx.fc 119 2 (D1.f.flatMap fcl) :: ro rx.na D1.nm.length 121 2 (D1.nm.flatMap fcl) :: ro rx.la D1.last.length 121 2 (D1.last.flatMap fcl) :: own rx.ca D1.ch.length rx.cc 146 3 (D1.ch.flatMap ccl) :: L) w5 := by rw [q1]; exact (hS5.permT [0, 1, 0, 0, 0] (L' := cel g [Value.int .i64 D.room, Value.slice rx.fa D.f.length rx.fc, Value.slice rx.na D.nm.length rx.nc, Value.slice rx.la D.last.length rx.lc, Value.slice rx.ca D.ch.length rx.cc, Value.bool (wDead D.dead D.left), Value.int .i64 (wLeft D.dead D.left)] 71 :: own rx.fa D.f.length rx.fc 119 2 (D.f.flatMap fcl) :: ro rx.na D.nm.length 121 2 (D.nm.flatMap fcl) :: ro rx.la D.last.length 121 2 (D.last.flatMap fcl) :: own rx.ca D.ch.length rx.cc 146 3 (D.ch.flatMap ccl) :: L) rfl)
 clear hS5
 rw [← en] at hat
 refine WO.val (run_not rfl rfl) rfl rfl rfl ?_
 refine WO.val (run_assign rfl) rfl rfl rfl ?_
 refine WO.nil ?_
 refine NX.go ?_
 refine WP.condB rfl (fun g15 => ?_) (fun g15 => ?_)
 ·
  have hb1 : b1 = false := by simpa using g15
  refine WP.seq ?_
  refine WP.region rfl ?_
  refine WO.val (run_assign rfl) rfl rfl rfl ?_
  refine WO.nil ?_
  refine NX.go ?_
  refine WP.ret ?_
  refine NX.blkRet ?_
  refine NX.thenRet ?_
  refine NX.done (l := [.tmp 6]) rfl rfl ?_
  have e0 : appendD D k s = (D1, 11) := by unfold appendD; rw [ew, if_neg (by rw [hb1]; exact Bool.noConfusion)]
  rw [e0]
  exact ⟨rfl, St.rf_shut rx (hS7.permT [0, 0, 0, 0, 0] (L' := cel g [Value.int .i64 D1.room, Value.slice rx.fa D1.f.length rx.fc, Value.slice rx.na D1.nm.length rx.nc, Value.slice rx.la D1.last.length rx.lc, Value.slice rx.ca D1.ch.length rx.cc, Value.bool D1.dead, Value.int .i64 D1.left] 71 :: own rx.fa D1.f.length rx.fc 119 2 (D1.f.flatMap fcl) :: ro rx.na D1.nm.length 121 2 (D1.nm.flatMap fcl) :: ro rx.la D1.last.length 121 2 (D1.last.flatMap fcl) :: own rx.ca D1.ch.length rx.cc 146 3 (D1.ch.flatMap ccl) :: L) rfl)⟩
 ·
  have hb1 : b1 = true := by simpa using g15
  refine WP.seq ?_
  refine WP.region rfl ?_
  refine WO.val (run_move rfl) rfl rfl rfl ?_
  refine WO.call rfl rfl Ty.hd99 rfl (r4name_spec k (by omega) hS7) (fun v9 w8 pv9 => ?_)
  obtain ⟨rfl, hS8⟩ := pv9
  clear hS7
  refine WO.val (run_not rfl rfl) rfl rfl rfl ?_
  refine WO.val (run_assign rfl) rfl rfl rfl ?_
  refine WO.nil ?_
  refine NX.go ?_
  refine WP.condB rfl (fun g19 => ?_) (fun g19 => ?_)
  ·
   have hff : fileF k = false := by simpa using g19
   refine WP.seq ?_
   refine WP.region rfl ?_
   refine WO.val (run_assign rfl) rfl rfl rfl ?_
   refine WO.nil ?_
   refine NX.go ?_
   refine WP.ret ?_
   refine NX.blkRet ?_
   refine NX.thenRet ?_
   refine NX.done (l := [.tmp 6]) rfl rfl ?_
   have e0 : appendD D k s = (D1, 3) := by unfold appendD; rw [ew, if_pos hb1]; unfold append1; rw [if_pos hff]
   rw [e0]
   exact ⟨rfl, St.rf_shut rx (hS8.permT [0, 0, 0, 0, 0] (L' := cel g [Value.int .i64 D1.room, Value.slice rx.fa D1.f.length rx.fc, Value.slice rx.na D1.nm.length rx.nc, Value.slice rx.la D1.last.length rx.lc, Value.slice rx.ca D1.ch.length rx.cc, Value.bool D1.dead, Value.int .i64 D1.left] 71 :: own rx.fa D1.f.length rx.fc 119 2 (D1.f.flatMap fcl) :: ro rx.na D1.nm.length 121 2 (D1.nm.flatMap fcl) :: ro rx.la D1.last.length 121 2 (D1.last.flatMap fcl) :: own rx.ca D1.ch.length rx.cc 146 3 (D1.ch.flatMap ccl) :: L) rfl)⟩
  ·
   have hf : fileF k = true := by simpa using g19
   refine WP.seq ?_
   have hrg := hw1.rng
   have hru : D1.room < 0 → usedN D1.f D1.nm = 0 := fun h => by have := usedN_le (D := D1) (n := n) (t := 0) ⟨k1.b.ch, k1.b.f, by rw [hw1.neg h]; intro x hx; cases hx⟩ D1.nm; omega
   have hul := k1.used
   refine WD.start (fun w => (∀ j, World.cell? w ⟨g, j, none⟩ = [Value.int .i64 D1.room, Value.slice rx.fa D1.f.length rx.fc, Value.slice rx.na D1.nm.length rx.nc, Value.slice rx.la D1.last.length rx.lc, Value.slice rx.ca D1.ch.length rx.cc, Value.bool D1.dead, Value.int .i64 D1.left][j]?) ∧ Rd w rx.fa D1.f.length 2 (D1.f.flatMap fcl) ∧ Rd w rx.na D1.nm.length 2 (D1.nm.flatMap fcl) ∧ Rd w rx.la D1.last.length 2 (D1.last.flatMap fcl) ∧ Rd w rx.ca D1.ch.length 3 (D1.ch.flatMap ccl)) [] #[false, false, false, false, false, false, false, false, false, false, false, false, false, false, false, false, false, false, false, false, false, false, false] Ty.mo rfl (by kernel_rfl) hS8 (fun _ h => ⟨h.cel_at 0 rfl, (h.own_rd_i 1 rfl), (h.ro_rd_i 2 rfl), (h.ro_rd_i 3 rfl), (h.own_rd_i 4 rfl)⟩) (fun w10 hS10 s11 => ?_)
   clear hS8
   refine WD.pure (i := 0) r4append_spec_t6 #[true, false, false, false, false, false, false, false, false, false, false, false, false, false, false, false, false, false, false, false, false, false, false] rfl rfl rfl (by kernel_rfl) (PQ.then (PQ.blk (PQ.then PQ.body))) rfl (fun w => run_move rfl) ?_
   refine WD.pure (i := 1) r4append_spec_t6 #[true, true, false, false, false, false, false, false, false, false, false, false, false, false, false, false, false, false, false, false, false, false, false] rfl rfl rfl (by kernel_rfl) (PQ.then (PQ.blk (PQ.then PQ.body))) rfl (fun w => run_lenS rfl Tryd.underlying9 rfl) ?_
   refine WD.pure (i := 2) r4append_spec_t6 #[true, true, true, false, false, false, false, false, false, false, false, false, false, false, false, false, false, false, false, false, false, false, false] rfl rfl rfl (by kernel_rfl) (PQ.then (PQ.blk (PQ.then PQ.body))) rfl (fun w => run_move rfl) ?_
   refine WD.pure (i := 3) r4append_spec_t6 #[true, true, true, true, false, false, false, false, false, false, false, false, false, false, false, false, false, false, false, false, false, false, false] rfl rfl rfl (by kernel_rfl) (PQ.then (PQ.blk (PQ.then PQ.body))) rfl (fun w => run_nilCheck rfl) ?_
   refine WD.pure (i := 4) r4append_spec_t6 #[true, true, true, true, true, false, false, false, false, false, false, false, false, false, false, false, false, false, false, false, false, false, false] rfl rfl rfl (by kernel_rfl) (PQ.then (PQ.blk (PQ.then PQ.body))) rfl (fun w => run_fieldAddr (q := ⟨g, 0, none⟩) (show fieldB Tryd.prog 71 0 = some 0 from by kernel_rfl) rfl rfl) ?_
   refine WD.take (i := 5) r4append_spec_t6 #[true, true, true, true, true, true, false, false, false, false, false, false, false, false, false, false, false, false, false, false, false, false, false] s11 rfl rfl rfl (by kernel_rfl) (PQ.then (PQ.blk (PQ.then PQ.body))) rfl (fun w hs => run_load Ty.ag3 rfl ((hs.1 0).trans rfl)) ?_
   refine WD.pure (i := 6) r4append_spec_t6 #[true, true, true, true, true, true, true, false, false, false, false, false, false, false, false, false, false, false, false, false, false, false, false] rfl rfl rfl (by kernel_rfl) (PQ.then (PQ.blk (PQ.then PQ.body))) rfl (fun w => run_move rfl) ?_
   refine WD.one (i := 7) r4append_spec_t6 #[true, true, true, true, true, true, true, true, false, false, false, false, false, false, false, false, false, false, false, false, false, false, false] rfl (by kernel_rfl) ?_
   refine WO.call rfl rfl Ty.hd38 rfl (r4used_spec hw1 k1.b ht hS10) (fun v13 w12 pv13 => ?_)
   obtain ⟨rfl, hS12⟩ := pv13
   clear hS10
   refine WO.nil ?_
   have s14 : (∀ j, World.cell? w12 ⟨g, j, none⟩ = [Value.int .i64 D1.room, Value.slice rx.fa D1.f.length rx.fc, Value.slice rx.na D1.nm.length rx.nc, Value.slice rx.la D1.last.length rx.lc, Value.slice rx.ca D1.ch.length rx.cc, Value.bool D1.dead, Value.int .i64 D1.left][j]?) ∧ Rd w12 rx.fa D1.f.length 2 (D1.f.flatMap fcl) ∧ Rd w12 rx.na D1.nm.length 2 (D1.nm.flatMap fcl) ∧ Rd w12 rx.la D1.last.length 2 (D1.last.flatMap fcl) ∧ Rd w12 rx.ca D1.ch.length 3 (D1.ch.flatMap ccl) := ⟨hS12.cel_at 0 rfl, (hS12.own_rd_i 1 rfl), (hS12.ro_rd_i 2 rfl), (hS12.ro_rd_i 3 rfl), (hS12.own_rd_i 4 rfl)⟩
   refine NX.held s14 ?_
   refine WD.pure (i := 8) r4append_spec_t6 #[true, true, true, true, true, true, true, true, true, false, false, false, false, false, false, false, false, false, false, false, false, false, false] rfl rfl rfl (by kernel_rfl) (PQ.then (PQ.blk (PQ.then PQ.body))) rfl (fun w => run_sub rfl rfl (IntWalk.i64_in _ (by omega))) ?_
   refine WD.pure (i := 9) r4append_spec_t6 #[true, true, true, true, true, true, true, true, true, true, false, false, false, false, false, false, false, false, false, false, false, false, false] rfl rfl rfl (by kernel_rfl) (PQ.then (PQ.blk (PQ.then PQ.body))) rfl (fun w => run_gtr rfl rfl) ?_
   refine WD.pure (i := 10) r4append_spec_t6 #[true, true, true, true, true, true, true, true, true, true, true, false, false, false, false, false, false, false, false, false, false, false, false] rfl rfl rfl (by kernel_rfl) (PQ.then (PQ.blk (PQ.then PQ.body))) rfl (fun w => run_move rfl) ?_
   by_cases g34 : (D1.room - ((usedN D1.f D1.nm : Nat) : Int)) < (s.length : Int)
   ·
    refine WD.off (i := 11) r4append_spec_t6 #[true, true, true, true, true, true, true, true, true, true, true, true, false, false, false, false, false, false, false, false, false, false, false] rfl rfl rfl (decide_eq_true g34) (by kernel_rfl) (PQ.then (PQ.blk (PQ.then PQ.body))) rfl ?_
    refine WD.off (i := 12) r4append_spec_t6 #[true, true, true, true, true, true, true, true, true, true, true, true, true, false, false, false, false, false, false, false, false, false, false] rfl rfl rfl (decide_eq_true g34) (by kernel_rfl) (PQ.then (PQ.blk (PQ.then PQ.body))) rfl ?_
    refine WD.off (i := 13) r4append_spec_t6 #[true, true, true, true, true, true, true, true, true, true, true, true, true, true, false, false, false, false, false, false, false, false, false] rfl rfl rfl (decide_eq_true g34) (by kernel_rfl) (PQ.then (PQ.blk (PQ.then PQ.body))) rfl ?_
    refine WD.offU (i := 14) r4append_spec_t6 #[true, true, true, true, true, true, true, true, true, true, true, true, true, true, true, false, false, false, false, false, false, false, false] rfl rfl rfl (by kernel_rfl) (PQ.then (PQ.blk (PQ.then PQ.body))) rfl ?_
    refine WD.offU (i := 15) r4append_spec_t6 #[true, true, true, true, true, true, true, true, true, true, true, true, true, true, true, true, false, false, false, false, false, false, false] rfl rfl rfl (by kernel_rfl) (PQ.then (PQ.blk (PQ.then PQ.body))) rfl ?_
    refine WD.offU (i := 16) r4append_spec_t6 #[true, true, true, true, true, true, true, true, true, true, true, true, true, true, true, true, true, false, false, false, false, false, false] rfl rfl rfl (by kernel_rfl) (PQ.then (PQ.blk (PQ.then PQ.body))) rfl ?_
    refine WD.offU (i := 17) r4append_spec_t6 #[true, true, true, true, true, true, true, true, true, true, true, true, true, true, true, true, true, true, false, false, false, false, false] rfl rfl rfl (by kernel_rfl) (PQ.then (PQ.blk (PQ.then PQ.body))) rfl ?_
    refine WD.offU (i := 18) r4append_spec_t6 #[true, true, true, true, true, true, true, true, true, true, true, true, true, true, true, true, true, true, true, false, false, false, false] rfl rfl rfl (by kernel_rfl) (PQ.then (PQ.blk (PQ.then PQ.body))) rfl ?_
    refine WD.offU (i := 19) r4append_spec_t6 #[true, true, true, true, true, true, true, true, true, true, true, true, true, true, true, true, true, true, true, true, false, false, false] rfl rfl rfl (by kernel_rfl) (PQ.then (PQ.blk (PQ.then PQ.body))) rfl ?_
    refine WD.off (i := 20) r4append_spec_t6 #[true, true, true, true, true, true, true, true, true, true, true, true, true, true, true, true, true, true, true, true, true, false, false] rfl rfl rfl (decide_eq_true g34) (by kernel_rfl) (PQ.then (PQ.blk (PQ.then PQ.body))) rfl ?_
    refine WD.pure (i := 21) r4append_spec_t6 #[true, true, true, true, true, true, true, true, true, true, true, true, true, true, true, true, true, true, true, true, true, true, false] rfl rfl rfl (by kernel_rfl) (PQ.then (PQ.blk (PQ.then PQ.body))) rfl (fun w => run_pickT rfl (decide_eq_true g34) rfl) ?_
    refine WD.pure (i := 22) r4append_spec_t6 #[true, true, true, true, true, true, true, true, true, true, true, true, true, true, true, true, true, true, true, true, true, true, true] rfl rfl rfl (by kernel_rfl) (PQ.then (PQ.blk (PQ.then PQ.body))) rfl (fun w => run_assign rfl) ?_
    refine WD.done r4append_spec_t6 (by kernel_rfl) ?_
    refine NX.go ?_
    refine WP.condT rfl rfl ?_
    refine WP.seq ?_
    refine WP.region rfl ?_
    refine WO.val (run_assign rfl) rfl rfl rfl ?_
    refine WO.nil ?_
    refine NX.go ?_
    refine WP.ret ?_
    refine NX.blkRet ?_
    refine NX.thenRet ?_
    refine NX.done (l := [.tmp 6]) rfl rfl ?_
    have e0 : appendD D k s = (D1, 4) := by unfold appendD; rw [ew, if_pos hb1]; unfold append1; rw [if_neg (by rw [hf]; exact Bool.noConfusion), if_pos (.inl (by omega))]
    rw [e0]
    exact ⟨rfl, St.rf_shut rx (hS12.permT [0, 0, 0, 0, 0] (L' := cel g [Value.int .i64 D1.room, Value.slice rx.fa D1.f.length rx.fc, Value.slice rx.na D1.nm.length rx.nc, Value.slice rx.la D1.last.length rx.lc, Value.slice rx.ca D1.ch.length rx.cc, Value.bool D1.dead, Value.int .i64 D1.left] 71 :: own rx.fa D1.f.length rx.fc 119 2 (D1.f.flatMap fcl) :: ro rx.na D1.nm.length 121 2 (D1.nm.flatMap fcl) :: ro rx.la D1.last.length 121 2 (D1.last.flatMap fcl) :: own rx.ca D1.ch.length rx.cc 146 3 (D1.ch.flatMap ccl) :: L) rfl)⟩
   ·
    refine WD.pureOn (i := 11) r4append_spec_t6 #[true, true, true, true, true, true, true, true, true, true, true, true, false, false, false, false, false, false, false, false, false, false, false] rfl rfl rfl (decide_eq_false g34) (by kernel_rfl) (PQ.then (PQ.blk (PQ.then PQ.body))) rfl (fun w => run_move rfl) ?_
    refine WD.pureOn (i := 12) r4append_spec_t6 #[true, true, true, true, true, true, true, true, true, true, true, true, true, false, false, false, false, false, false, false, false, false, false] rfl rfl rfl (decide_eq_false g34) (by kernel_rfl) (PQ.then (PQ.blk (PQ.then PQ.body))) rfl (fun w => run_lss rfl rfl) ?_
    refine WD.pureOn (i := 13) r4append_spec_t6 #[true, true, true, true, true, true, true, true, true, true, true, true, true, true, false, false, false, false, false, false, false, false, false] rfl rfl rfl (decide_eq_false g34) (by kernel_rfl) (PQ.then (PQ.blk (PQ.then PQ.body))) rfl (fun w => run_move rfl) ?_
    by_cases g37 : r < 0
    ·
     have hnone : findN k D1.nm = none := by rcases hat with h | ⟨i, e, h, _⟩; exact h.1; omega
     refine WD.pureOn (i := 14) r4append_spec_t6 #[true, true, true, true, true, true, true, true, true, true, true, true, true, true, true, false, false, false, false, false, false, false, false] rfl rfl rfl (decide_eq_true g37) (by kernel_rfl) (PQ.then (PQ.blk (PQ.then PQ.body))) rfl (fun w => run_move rfl) ?_
     refine WD.pureOn (i := 15) r4append_spec_t6 #[true, true, true, true, true, true, true, true, true, true, true, true, true, true, true, true, false, false, false, false, false, false, false] rfl rfl rfl (decide_eq_true g37) (by kernel_rfl) (PQ.then (PQ.blk (PQ.then PQ.body))) rfl (fun w => run_nilCheck rfl) ?_
     refine WD.pureOn (i := 16) r4append_spec_t6 #[true, true, true, true, true, true, true, true, true, true, true, true, true, true, true, true, true, false, false, false, false, false, false] rfl rfl rfl (decide_eq_true g37) (by kernel_rfl) (PQ.then (PQ.blk (PQ.then PQ.body))) rfl (fun w => run_fieldAddr (q := ⟨g, 2, none⟩) (show fieldB Tryd.prog 71 2 = some 2 from by kernel_rfl) rfl rfl) ?_
     refine WD.takeOn (i := 17) r4append_spec_t6 #[true, true, true, true, true, true, true, true, true, true, true, true, true, true, true, true, true, true, false, false, false, false, false] s14 rfl rfl rfl (decide_eq_true g37) (by kernel_rfl) (PQ.then (PQ.blk (PQ.then PQ.body))) rfl (fun w hs => run_load Ty.ag68 rfl ((hs.1 2).trans rfl)) ?_
     refine WD.pureOn (i := 18) r4append_spec_t6 #[true, true, true, true, true, true, true, true, true, true, true, true, true, true, true, true, true, true, true, false, false, false, false] rfl rfl rfl (decide_eq_true g37) (by kernel_rfl) (PQ.then (PQ.blk (PQ.then PQ.body))) rfl (fun w => run_len rfl Tryd.underlying68 rfl) ?_
     refine WD.pureOn (i := 19) r4append_spec_t6 #[true, true, true, true, true, true, true, true, true, true, true, true, true, true, true, true, true, true, true, true, false, false, false] rfl rfl rfl (decide_eq_true g37) (by kernel_rfl) (PQ.then (PQ.blk (PQ.then PQ.body))) rfl (fun w => run_geq rfl rfl) ?_
     refine WD.pureOn (i := 20) r4append_spec_t6 #[true, true, true, true, true, true, true, true, true, true, true, true, true, true, true, true, true, true, true, true, true, false, false] rfl rfl rfl (decide_eq_false g34) (by kernel_rfl) (PQ.then (PQ.blk (PQ.then PQ.body))) rfl (fun w => run_pickT rfl (decide_eq_true g37) rfl) ?_
     refine WD.pure (i := 21) r4append_spec_t6 #[true, true, true, true, true, true, true, true, true, true, true, true, true, true, true, true, true, true, true, true, true, true, false] rfl rfl rfl (by kernel_rfl) (PQ.then (PQ.blk (PQ.then PQ.body))) rfl (fun w => run_pickF rfl (decide_eq_false g34) rfl) ?_
     refine WD.pure (i := 22) r4append_spec_t6 #[true, true, true, true, true, true, true, true, true, true, true, true, true, true, true, true, true, true, true, true, true, true, true] rfl rfl rfl (by kernel_rfl) (PQ.then (PQ.blk (PQ.then PQ.body))) rfl (fun w => run_assign rfl) ?_
     refine WD.done r4append_spec_t6 (by kernel_rfl) ?_
     refine NX.go ?_
     refine WP.condP rfl (fun g23 => ?_) (fun g23 => ?_)
     ·
      refine WP.seq ?_
      refine WP.region rfl ?_
      refine WO.val (run_assign rfl) rfl rfl rfl ?_
      refine WO.nil ?_
      refine NX.go ?_
      refine WP.ret ?_
      refine NX.blkRet ?_
      refine NX.thenRet ?_
      refine NX.done (l := [.tmp 6]) rfl rfl ?_
      have e0 : appendD D k s = (D1, 4) := by unfold appendD; rw [ew, if_pos hb1]; unfold append1; rw [if_neg (by rw [hf]; exact Bool.noConfusion), if_pos (.inr ⟨hnone, by omega⟩)]
      rw [e0]
      exact ⟨rfl, St.rf_shut rx (hS12.permT [0, 0, 0, 0, 0] (L' := cel g [Value.int .i64 D1.room, Value.slice rx.fa D1.f.length rx.fc, Value.slice rx.na D1.nm.length rx.nc, Value.slice rx.la D1.last.length rx.lc, Value.slice rx.ca D1.ch.length rx.cc, Value.bool D1.dead, Value.int .i64 D1.left] 71 :: own rx.fa D1.f.length rx.fc 119 2 (D1.f.flatMap fcl) :: ro rx.na D1.nm.length 121 2 (D1.nm.flatMap fcl) :: ro rx.la D1.last.length 121 2 (D1.last.flatMap fcl) :: own rx.ca D1.ch.length rx.cc 146 3 (D1.ch.flatMap ccl) :: L) rfl)⟩
     ·
      refine WP.skip ?_
      refine NX.blk ?_
      refine NX.go ?_
      refine WP.seq ?_
      refine WP.seq ?_
      refine WP.region rfl ?_
      refine WO.val (run_move rfl) rfl rfl rfl ?_
      refine WO.val (run_lss rfl rfl) rfl rfl rfl ?_
      refine WO.nil ?_
      refine NX.go ?_
      refine WP.condP rfl (fun g47 => ?_) (fun g47 => ?_)
      ·
       refine WP.seq ?_
       refine WP.region rfl ?_
       refine WO.val (run_move rfl) rfl rfl rfl ?_
       refine WO.val (run_move rfl) rfl rfl rfl ?_
       refine WO.val (run_nilCheck rfl) rfl rfl rfl ?_
       refine WO.val (run_fieldAddr (q := ⟨g, 1, none⟩) (show fieldB Tryd.prog 71 1 = some 1 from by kernel_rfl) rfl rfl) rfl rfl rfl ?_
       refine WO.val (run_load Ty.ag67 rfl ((hS12.cel_at 0 rfl 1).trans rfl)) rfl rfl rfl ?_
       refine WO.val (run_build (v := Value.agg #[str [], Value.int .i64 0]) rfl (fun w => by kernel_rfl)) rfl rfl rfl ?_
       refine WO.buildSlice (l := [str [], Value.int .i64 0]) hS12 Tryd.underlying67 rfl (fun w => by kernel_rfl) rfl (fun g16 w15 lg16 hS15 => ?_)
       clear hS12
       refine WO.append (news := [str [], Value.int .i64 0]) 2 rfl Tryd.underlying67 Tryd.underlying67 (fun _ h => by cases h) Ty.sz119 (by decide) Ty.by119 Ty.zr119 rfl rfl rfl rfl hS15 rfl ((hS15.cel_rd 0 rfl (o := 0) (m := 1) (k := 2) rfl (Nat.le_of_ble_eq_true rfl)).src) rfl (by omega) (by omega) (fun a18 c19 w17 hS17 => ?_)
       replace hS17 : St B (cel g16 [str [], Value.int .i64 0] 119 :: cel g [Value.int .i64 D1.room, Value.slice rx.fa D1.f.length rx.fc, Value.slice rx.na D1.nm.length rx.nc, Value.slice rx.la D1.last.length rx.lc, Value.slice rx.ca D1.ch.length rx.cc, Value.bool D1.dead, Value.int .i64 D1.left] 71 :: own a18 (D1.f.length + 1) c19 119 2 ((D1.f.flatMap fcl) ++ [str [], Value.int .i64 0]) :: ro rx.na D1.nm.length 121 2 (D1.nm.flatMap fcl) :: ro rx.la D1.last.length 121 2 (D1.last.flatMap fcl) :: own rx.ca D1.ch.length rx.cc 146 3 (D1.ch.flatMap ccl) :: L) w17 := hS17
       clear hS15
       refine WO.val (run_nilCheck rfl) rfl rfl rfl ?_
       refine WO.val (run_fieldAddr (q := ⟨g, 1, none⟩) (show fieldB Tryd.prog 71 1 = some 1 from by kernel_rfl) rfl rfl) rfl rfl rfl ?_
       refine WO.store (l' := [Value.int .i64 D1.room, Value.slice a18 (D1.f.length + 1) c19, Value.slice rx.na D1.nm.length rx.nc, Value.slice rx.la D1.last.length rx.lc, Value.slice rx.ca D1.ch.length rx.cc, Value.bool D1.dead, Value.int .i64 D1.left]) 1 hS17 rfl Ty.sz67 rfl rfl rfl rfl rfl (Nat.le_of_ble_eq_true rfl) rfl (fun w20 (hS20 : St B (cel g16 [str [], Value.int .i64 0] 119 :: cel g [Value.int .i64 D1.room, Value.slice a18 (D1.f.length + 1) c19, Value.slice rx.na D1.nm.length rx.nc, Value.slice rx.la D1.last.length rx.lc, Value.slice rx.ca D1.ch.length rx.cc, Value.bool D1.dead, Value.int .i64 D1.left] 71 :: own a18 (D1.f.length + 1) c19 119 2 ((D1.f.flatMap fcl) ++ [str [], Value.int .i64 0]) :: ro rx.na D1.nm.length 121 2 (D1.nm.flatMap fcl) :: ro rx.la D1.last.length 121 2 (D1.last.flatMap fcl) :: own rx.ca D1.ch.length rx.cc 146 3 (D1.ch.flatMap ccl) :: L) w20) => ?_)
       clear hS17
       refine WO.nil ?_
       refine NX.go ?_
       refine WP.seq ?_
       obtain ⟨D2, q2⟩ : ∃ qq : Dk, qq = { D1 with f := D1.f ++ [([], 0)] } := ⟨_, rfl⟩
       obtain ⟨rxb, erx⟩ : ∃ qq : RX, qq = ⟨a18, c19, rx.na, rx.nc, rx.la, rx.lc, rx.ca, rx.cc⟩ := ⟨_, rfl⟩
       have el2 : D2.f.length = D1.f.length + 1 := by rw [q2]; simp
       have ef2 : D2.f.flatMap fcl = D1.f.flatMap fcl ++ [str [], Value.int .i64 0] := by rw [q2]; exact flat_snoc ..
       have en2 : D2.nm = D1.nm := by rw [q2]
       have ec2 : D2.ch = D1.ch := by rw [q2]
       have hn2 : D2.nm.length ≤ 64 := by rw [en2]; exact h641
       have hc2 : D2.ch.length ≤ n := by rw [ec2]; exact hcb1
       have hS21 : St B (cel g [Value.int .i64 D2.room, Value.slice rxb.fa D2.f.length rxb.fc, Value.slice rxb.na D2.nm.length rxb.nc, Value.slice rxb.la D2.last.length rxb.lc, Value.slice rxb.ca D2.ch.length rxb.cc, Value.bool D2.dead, Value.int .i64 D2.left] 71 :: own rxb.fa D2.f.length rxb.fc 119 2 (D2.f.flatMap fcl) :: ro rxb.na D2.nm.length 121 2 (D2.nm.flatMap fcl) :: ro rxb.la D2.last.length 121 2 (D2.last.flatMap fcl) :: own rxb.ca D2.ch.length rxb.cc 146 3 (D2.ch.flatMap ccl) :: cel g16 [str [], Value.int .i64 0] 119 :: L) w20 := by rw [el2, ef2, erx, q2]; exact (hS20.permT [1, 1, 1, 1, 1, 0] (L' := cel g [Value.int .i64 D1.room, Value.slice a18 (D1.f.length + 1) c19, Value.slice rx.na D1.nm.length rx.nc, Value.slice rx.la D1.last.length rx.lc, Value.slice rx.ca D1.ch.length rx.cc, Value.bool D1.dead, Value.int .i64 D1.left] 71 :: own a18 (D1.f.length + 1) c19 119 2 ((D1.f.flatMap fcl) ++ [str [], Value.int .i64 0]) :: ro rx.na D1.nm.length 121 2 (D1.nm.flatMap fcl) :: ro rx.la D1.last.length 121 2 (D1.last.flatMap fcl) :: own rx.ca D1.ch.length rx.cc 146 3 (D1.ch.flatMap ccl) :: cel g16 [str [], Value.int .i64 0] 119 :: L) rfl)
       clear hS20
       refine WP.region rfl ?_
       refine WO.val (run_move rfl) rfl rfl rfl ?_
       refine WO.val (run_move rfl) rfl rfl rfl ?_
       refine WO.val (run_move rfl) rfl rfl rfl ?_
       refine WO.val (run_nilCheck rfl) rfl rfl rfl ?_
       refine WO.val (run_fieldAddr (q := ⟨g, 1, none⟩) (show fieldB Tryd.prog 71 1 = some 1 from by kernel_rfl) rfl rfl) rfl rfl rfl ?_
       refine WO.val (run_load Ty.ag67 rfl ((hS21.cel_at 0 rfl 1).trans rfl)) rfl rfl rfl ?_
       refine WO.val (run_len rfl Tryd.underlying67 rfl) rfl rfl rfl ?_
       refine WO.val (run_sub rfl rfl (show IntKind.i64.wrap (((D2.f.length : Nat) : Int) - 1) = (D1.f.length : Int) by rw [el2, IntWalk.i64_in _ (by omega)]; omega)) rfl rfl rfl ?_
       refine WO.val (run_build (v := Value.agg #[str [], str k, Value.int .i64 (D1.f.length : Int)]) rfl (fun w => by kernel_rfl)) rfl rfl rfl ?_
       refine WO.call rfl rfl Ty.hd100 rfl (r4change_spec ⟨[], k, D1.f.length⟩ (by omega) (by omega) hS21) (fun v23 w22 pv23 => ?_)
       obtain ⟨rx3, rfl, hS22⟩ := pv23
       clear hS21
       obtain ⟨D3, q3⟩ : ∃ qq : Dk, qq = changeD D2 ⟨[], k, D1.f.length⟩ := ⟨_, rfl⟩
       have hnm3 := new_nm k1 hf hnone q2 q3
       have hl3 : D3.nm.length ≤ 4294967296 := by rw [hnm3.1, insN_length]; omega
       have hf3 : D3.f.length = D1.f.length + 1 := by rw [q3]; exact el2
       rw [← q3] at hS22
       refine WO.nil ?_
       refine NX.go ?_
       refine WP.region rfl ?_
       refine WO.val (run_move rfl) rfl rfl rfl ?_
       refine WO.val (run_nilCheck rfl) rfl rfl rfl ?_
       refine WO.val (run_fieldAddr (q := ⟨g, 2, none⟩) (show fieldB Tryd.prog 71 2 = some 2 from by kernel_rfl) rfl rfl) rfl rfl rfl ?_
       refine WO.val (run_load Ty.ag68 rfl ((hS22.cel_at 0 rfl 2).trans rfl)) rfl rfl rfl ?_
       refine WO.val (run_move rfl) rfl rfl rfl ?_
       have hS24 := hS22.permT [2, 0, 0, 0, 0, 0] (L' := ro rx3.na D3.nm.length 121 2 (D3.nm.flatMap fcl) :: cel g [Value.int .i64 D3.room, Value.slice rx3.fa D3.f.length rx3.fc, Value.slice rx3.na D3.nm.length rx3.nc, Value.slice rx3.la D3.last.length rx3.lc, Value.slice rx3.ca D3.ch.length rx3.cc, Value.bool D3.dead, Value.int .i64 D3.left] 71 :: own rx3.fa D3.f.length rx3.fc 119 2 (D3.f.flatMap fcl) :: ro rx3.la D3.last.length 121 2 (D3.last.flatMap fcl) :: own rx3.ca D3.ch.length rx3.cc 146 3 (D3.ch.flatMap ccl) :: cel g16 [str [], Value.int .i64 0] 119 :: L) rfl
       clear hS22
       refine WO.call rfl rfl Ty.hd77 rfl (r4at_spec (fun h => h.ro_rd) k (by omega) hS24) (fun v26 w25 pv26 => ?_)
       obtain ⟨r3, rfl, hat3, hS25⟩ := pv26
       clear hS24
       refine WO.val (run_assign rfl) rfl rfl rfl ?_
       refine WO.nil ?_
       refine NX.go ?_
       refine WP.seq ?_
       obtain ⟨i3, e3, hri3, he3, hek3, hfi3⟩ : ∃ i e, r3 = ((i : Nat) : Int) ∧ D3.nm[i]? = some e ∧ e.1 = k ∧ findN k D3.nm = some e.2 := by rcases hat3 with ⟨h, _⟩ | h; rw [hnm3.2] at h; cases h; exact h
       have hil3 := (List.getElem?_eq_some_iff.1 he3).1
       clear hat3
       subst hri3
       have hei3 : e3.2 = D1.f.length := Option.some.inj (hfi3.symm.trans hnm3.2)
       have hlt : e3.2 < D3.f.length := by rw [hei3, hf3]; omega
       have hfe := fileAt_get hlt
       have hft : (fileAt D3.f e3.2).1.length ≤ t := by rw [hei3, q3, q2]; unfold fileAt; rw [List.getD_eq_getElem?_getD]; show (((D1.f ++ [([], 0)])[D1.f.length]?).getD ([], 0)).1.length ≤ t; rw [List.getElem?_append_right (Nat.le_refl _), Nat.sub_self]; exact Nat.zero_le _
       have hsrx3fa : rx3.fa.isSome = true := by obtain ⟨q, hq, _⟩ := ((hS25.own_rd_i 2 rfl)).2.1 (by omega); rw [hq]; rfl
       have hsrx3na : rx3.na.isSome = true := by obtain ⟨q, hq, _⟩ := ((hS25.ro_rd_i 0 rfl)).2.1 (by omega); rw [hq]; rfl
       refine WP.region rfl ?_
       refine WO.val (run_move rfl) rfl rfl rfl ?_
       refine WO.val (run_nilCheck rfl) rfl rfl rfl ?_
       refine WO.val (run_fieldAddr (q := ⟨g, 2, none⟩) (show fieldB Tryd.prog 71 2 = some 2 from by kernel_rfl) rfl rfl) rfl rfl rfl ?_
       refine WO.val (run_load Ty.ag68 rfl ((hS25.cel_at 1 rfl 2).trans rfl)) rfl rfl rfl ?_
       refine WO.val (run_move rfl) rfl rfl rfl ?_
       refine WO.val (run_indexAddr (q := adr rx3.na (i3 * 2)) Tryd.underlying68 Ty.sz121 rfl rfl (by omega) (by omega) ((hS25.ro_rd_i 0 rfl).2.1 (by omega)) rfl) rfl rfl rfl ?_
       refine WO.val (run_fieldAddr (q := (adr rx3.na (i3 * 2 + 1))) (show fieldB Tryd.prog 121 1 = some 1 from by kernel_rfl) rfl (adr_add _ (by assumption) _ _)) rfl rfl rfl ?_
       refine WO.val (run_load Ty.ag3 rfl ((hS25.ro_rd_i 0 rfl).cell ((flat_get fcl_len he3 (j := 1) (by decide)).trans rfl))) rfl rfl rfl ?_
       refine WO.val (run_assign rfl) rfl rfl rfl ?_
       refine WO.nil ?_
       refine NX.go ?_
       refine WP.seq ?_
       refine WD.start (fun w => (∀ j, World.cell? w ⟨g, j, none⟩ = [Value.int .i64 D3.room, Value.slice rx3.fa D3.f.length rx3.fc, Value.slice rx3.na D3.nm.length rx3.nc, Value.slice rx3.la D3.last.length rx3.lc, Value.slice rx3.ca D3.ch.length rx3.cc, Value.bool D3.dead, Value.int .i64 D3.left][j]?) ∧ Rd w rx3.fa D3.f.length 2 (D3.f.flatMap fcl)) [17] #[false, false, false, false, false, false, false, false, false, false, false, false, false, false, false, false, false, false] Ty.mo rfl (by kernel_rfl) hS25 (fun _ h => ⟨h.cel_at 1 rfl, (h.own_rd_i 2 rfl)⟩) (fun w27 hS27 s28 => ?_)
       clear hS25
       refine WD.pure (i := 0) r4append_spec_t13 #[true, false, false, false, false, false, false, false, false, false, false, false, false, false, false, false, false, false] rfl rfl rfl (by kernel_rfl) (PQ.then PQ.body) rfl (fun w => run_move rfl) ?_
       refine WD.pure (i := 1) r4append_spec_t13 #[true, true, false, false, false, false, false, false, false, false, false, false, false, false, false, false, false, false] rfl rfl rfl (by kernel_rfl) (PQ.then PQ.body) rfl (fun w => run_nilCheck rfl) ?_
       refine WD.pure (i := 2) r4append_spec_t13 #[true, true, true, false, false, false, false, false, false, false, false, false, false, false, false, false, false, false] rfl rfl rfl (by kernel_rfl) (PQ.then PQ.body) rfl (fun w => run_fieldAddr (q := ⟨g, 1, none⟩) (show fieldB Tryd.prog 71 1 = some 1 from by kernel_rfl) rfl rfl) ?_
       refine WD.take (i := 3) r4append_spec_t13 #[true, true, true, true, false, false, false, false, false, false, false, false, false, false, false, false, false, false] s28 rfl rfl rfl (by kernel_rfl) (PQ.then PQ.body) rfl (fun w hs => run_load Ty.ag67 rfl ((hs.1 1).trans rfl)) ?_
       refine WD.pure (i := 4) r4append_spec_t13 #[true, true, true, true, true, false, false, false, false, false, false, false, false, false, false, false, false, false] rfl rfl rfl (by kernel_rfl) (PQ.then PQ.body) rfl (fun w => run_move rfl) ?_
       refine WD.pure (i := 5) r4append_spec_t13 #[true, true, true, true, true, true, false, false, false, false, false, false, false, false, false, false, false, false] rfl rfl rfl (by kernel_rfl) (PQ.then PQ.body) rfl (fun w => run_move rfl) ?_
       refine WD.pure (i := 6) r4append_spec_t13 #[true, true, true, true, true, true, true, false, false, false, false, false, false, false, false, false, false, false] rfl rfl rfl (by kernel_rfl) (PQ.then PQ.body) rfl (fun w => run_nilCheck rfl) ?_
       refine WD.pure (i := 7) r4append_spec_t13 #[true, true, true, true, true, true, true, true, false, false, false, false, false, false, false, false, false, false] rfl rfl rfl (by kernel_rfl) (PQ.then PQ.body) rfl (fun w => run_fieldAddr (q := ⟨g, 1, none⟩) (show fieldB Tryd.prog 71 1 = some 1 from by kernel_rfl) rfl rfl) ?_
       refine WD.take (i := 8) r4append_spec_t13 #[true, true, true, true, true, true, true, true, true, false, false, false, false, false, false, false, false, false] s28 rfl rfl rfl (by kernel_rfl) (PQ.then PQ.body) rfl (fun w hs => run_load Ty.ag67 rfl ((hs.1 1).trans rfl)) ?_
       refine WD.pure (i := 9) r4append_spec_t13 #[true, true, true, true, true, true, true, true, true, true, false, false, false, false, false, false, false, false] rfl rfl rfl (by kernel_rfl) (PQ.then PQ.body) rfl (fun w => run_move rfl) ?_
       refine WD.take (i := 10) r4append_spec_t13 #[true, true, true, true, true, true, true, true, true, true, true, false, false, false, false, false, false, false] s28 rfl rfl rfl (by kernel_rfl) (PQ.then PQ.body) rfl (fun w hs => run_indexAddr (q := adr rx3.fa (e3.2 * 2)) Tryd.underlying67 Ty.sz119 rfl rfl (by omega) (by omega) ((hs.2).2.1 (by omega)) rfl) ?_
       refine WD.pure (i := 11) r4append_spec_t13 #[true, true, true, true, true, true, true, true, true, true, true, true, false, false, false, false, false, false] rfl rfl rfl (by kernel_rfl) (PQ.then PQ.body) rfl (fun w => run_fieldAddr (q := (adr rx3.fa (e3.2 * 2 + 0))) (show fieldB Tryd.prog 119 0 = some 0 from by kernel_rfl) rfl (adr_add _ (by assumption) _ _)) ?_
       refine WD.take (i := 12) r4append_spec_t13 #[true, true, true, true, true, true, true, true, true, true, true, true, true, false, false, false, false, false] s28 rfl rfl rfl (by kernel_rfl) (PQ.then PQ.body) rfl (fun w hs => run_load Ty.ag9 rfl ((hs.2).cell ((flat_get fcl_len hfe (j := 0) (by decide)).trans rfl))) ?_
       refine WD.pure (i := 13) r4append_spec_t13 #[true, true, true, true, true, true, true, true, true, true, true, true, true, true, false, false, false, false] rfl rfl rfl (by kernel_rfl) (PQ.then PQ.body) rfl (fun w => run_move rfl) ?_
       refine WD.pure (i := 14) r4append_spec_t13 #[true, true, true, true, true, true, true, true, true, true, true, true, true, true, true, false, false, false] rfl rfl rfl (by kernel_rfl) (PQ.then PQ.body) rfl (fun w => run_cat rfl rfl (by omega)) ?_
       refine WD.take (i := 15) r4append_spec_t13 #[true, true, true, true, true, true, true, true, true, true, true, true, true, true, true, true, false, false] s28 rfl rfl rfl (by kernel_rfl) (PQ.then PQ.body) rfl (fun w hs => run_indexAddr (q := adr rx3.fa (e3.2 * 2)) Tryd.underlying67 Ty.sz119 rfl rfl (by omega) (by omega) ((hs.2).2.1 (by omega)) rfl) ?_
       refine WD.pure (i := 16) r4append_spec_t13 #[true, true, true, true, true, true, true, true, true, true, true, true, true, true, true, true, true, false] rfl rfl rfl (by kernel_rfl) (PQ.then PQ.body) rfl (fun w => run_fieldAddr (q := (adr rx3.fa (e3.2 * 2 + 0))) (show fieldB Tryd.prog 119 0 = some 0 from by kernel_rfl) rfl (adr_add _ (by assumption) _ _)) ?_
       refine WD.one (i := 17) r4append_spec_t13 #[true, true, true, true, true, true, true, true, true, true, true, true, true, true, true, true, true, true] rfl (by kernel_rfl) ?_
       refine WO.storeOwnAt 2 hS27 rfl Ty.sz9 rfl rfl rfl rfl (by rw [flat_len fcl_len]; omega) (fun w29 hS29 => ?_)
       replace hS29 : St B (ro rx3.na D3.nm.length 121 2 (D3.nm.flatMap fcl) :: cel g [Value.int .i64 D3.room, Value.slice rx3.fa D3.f.length rx3.fc, Value.slice rx3.na D3.nm.length rx3.nc, Value.slice rx3.la D3.last.length rx3.lc, Value.slice rx3.ca D3.ch.length rx3.cc, Value.bool D3.dead, Value.int .i64 D3.left] 71 :: own rx3.fa D3.f.length rx3.fc 119 2 ((addTo D3.f e3.2 s).flatMap fcl) :: ro rx3.la D3.last.length 121 2 (D3.last.flatMap fcl) :: own rx3.ca D3.ch.length rx3.cc 146 3 (D3.ch.flatMap ccl) :: cel g16 [str [], Value.int .i64 0] 119 :: L) w29 := (by have z := hS29; rw [flat_set fcl_len hfe (j := 0) (y := ((fileAt D3.f e3.2).1 ++ s, (fileAt D3.f e3.2).2)) (by decide) rfl] at z; exact z)
       clear hS27
       refine WO.nil ?_
       refine NX.last (by decide) ?_
       refine WD.done r4append_spec_t13 (by kernel_rfl) ?_
       refine NX.go ?_
       refine WP.seq ?_
       refine WP.region rfl ?_
       refine WO.val (run_assign rfl) rfl rfl rfl ?_
       refine WO.nil ?_
       refine NX.go ?_
       refine WP.ret ?_
       have el : (addTo D3.f e3.2 s).length = D3.f.length := List.length_set
       refine NX.done (l := [.tmp 6]) rfl rfl ?_
       have e0 : appendD D k s = ({ D3 with f := addTo D3.f e3.2 s }, 0) := by unfold appendD; rw [ew, if_pos hb1]; rw [hei3]; exact append1_new hf (by omega) hnone (by omega) q2 q3
       rw [e0]
       refine ⟨rfl, St.rf_shut (D := { D3 with f := addTo D3.f e3.2 s }) rx3 ?_⟩
       have hz := (hS29.permT [5, 1, 1, 0, 0, 0] (L' := cel g16 [str [], Value.int .i64 0] 119 :: cel g [Value.int .i64 D3.room, Value.slice rx3.fa D3.f.length rx3.fc, Value.slice rx3.na D3.nm.length rx3.nc, Value.slice rx3.la D3.last.length rx3.lc, Value.slice rx3.ca D3.ch.length rx3.cc, Value.bool D3.dead, Value.int .i64 D3.left] 71 :: own rx3.fa D3.f.length rx3.fc 119 2 ((addTo D3.f e3.2 s).flatMap fcl) :: ro rx3.na D3.nm.length 121 2 (D3.nm.flatMap fcl) :: ro rx3.la D3.last.length 121 2 (D3.last.flatMap fcl) :: own rx3.ca D3.ch.length rx3.cc 146 3 (D3.ch.flatMap ccl) :: L) rfl).drop
       rw [← el] at hz
       exact hz
      ·
       exfalso; omega
    ·
     obtain ⟨i, e, hri, he, hek, hfi⟩ : ∃ i e, r = ((i : Nat) : Int) ∧ D1.nm[i]? = some e ∧ e.1 = k ∧ findN k D1.nm = some e.2 := by rcases hat with ⟨_, h⟩ | h; omega; exact h
     have hil := (List.getElem?_eq_some_iff.1 he).1
     clear hat
     subst hri
     refine WD.off (i := 14) r4append_spec_t6 #[true, true, true, true, true, true, true, true, true, true, true, true, true, true, true, false, false, false, false, false, false, false, false] rfl rfl rfl (decide_eq_false g37) (by kernel_rfl) (PQ.then (PQ.blk (PQ.then PQ.body))) rfl ?_
     refine WD.off (i := 15) r4append_spec_t6 #[true, true, true, true, true, true, true, true, true, true, true, true, true, true, true, true, false, false, false, false, false, false, false] rfl rfl rfl (decide_eq_false g37) (by kernel_rfl) (PQ.then (PQ.blk (PQ.then PQ.body))) rfl ?_
     refine WD.off (i := 16) r4append_spec_t6 #[true, true, true, true, true, true, true, true, true, true, true, true, true, true, true, true, true, false, false, false, false, false, false] rfl rfl rfl (decide_eq_false g37) (by kernel_rfl) (PQ.then (PQ.blk (PQ.then PQ.body))) rfl ?_
     refine WD.off (i := 17) r4append_spec_t6 #[true, true, true, true, true, true, true, true, true, true, true, true, true, true, true, true, true, true, false, false, false, false, false] rfl rfl rfl (decide_eq_false g37) (by kernel_rfl) (PQ.then (PQ.blk (PQ.then PQ.body))) rfl ?_
     refine WD.off (i := 18) r4append_spec_t6 #[true, true, true, true, true, true, true, true, true, true, true, true, true, true, true, true, true, true, true, false, false, false, false] rfl rfl rfl (decide_eq_false g37) (by kernel_rfl) (PQ.then (PQ.blk (PQ.then PQ.body))) rfl ?_
     refine WD.off (i := 19) r4append_spec_t6 #[true, true, true, true, true, true, true, true, true, true, true, true, true, true, true, true, true, true, true, true, false, false, false] rfl rfl rfl (decide_eq_false g37) (by kernel_rfl) (PQ.then (PQ.blk (PQ.then PQ.body))) rfl ?_
     refine WD.pureOn (i := 20) r4append_spec_t6 #[true, true, true, true, true, true, true, true, true, true, true, true, true, true, true, true, true, true, true, true, true, false, false] rfl rfl rfl (decide_eq_false g34) (by kernel_rfl) (PQ.then (PQ.blk (PQ.then PQ.body))) rfl (fun w => run_pickF rfl (decide_eq_false g37) rfl) ?_
     refine WD.pure (i := 21) r4append_spec_t6 #[true, true, true, true, true, true, true, true, true, true, true, true, true, true, true, true, true, true, true, true, true, true, false] rfl rfl rfl (by kernel_rfl) (PQ.then (PQ.blk (PQ.then PQ.body))) rfl (fun w => run_pickF rfl (decide_eq_false g34) rfl) ?_
     refine WD.pure (i := 22) r4append_spec_t6 #[true, true, true, true, true, true, true, true, true, true, true, true, true, true, true, true, true, true, true, true, true, true, true] rfl rfl rfl (by kernel_rfl) (PQ.then (PQ.blk (PQ.then PQ.body))) rfl (fun w => run_assign rfl) ?_
     refine WD.done r4append_spec_t6 (by kernel_rfl) ?_
     refine NX.go ?_
     refine WP.condF rfl rfl ?_
     refine WP.skip ?_
     refine NX.blk ?_
     refine NX.go ?_
     refine WP.seq ?_
     refine WP.seq ?_
     refine WP.region rfl ?_
     refine WO.val (run_move rfl) rfl rfl rfl ?_
     refine WO.val (run_lss rfl rfl) rfl rfl rfl ?_
     refine WO.nil ?_
     refine NX.go ?_
     refine WP.condP rfl (fun g47 => ?_) (fun g47 => ?_)
     ·
      exfalso; omega
     ·
      refine WP.skip ?_
      refine NX.go ?_
      refine WP.seq ?_
      have hlt : e.2 < D1.f.length := (hw1.good.f e (List.mem_of_getElem? he)).2
      have hfe := fileAt_get hlt
      have hft := k1.b.t _ (fileAt_mem hlt)
      have hsrxfa : rx.fa.isSome = true := by obtain ⟨q, hq, _⟩ := ((hS12.own_rd_i 1 rfl)).2.1 (by omega); rw [hq]; rfl
      have hsrxna : rx.na.isSome = true := by obtain ⟨q, hq, _⟩ := ((hS12.ro_rd_i 2 rfl)).2.1 (by omega); rw [hq]; rfl
      refine WP.region rfl ?_
      refine WO.val (run_move rfl) rfl rfl rfl ?_
      refine WO.val (run_nilCheck rfl) rfl rfl rfl ?_
      refine WO.val (run_fieldAddr (q := ⟨g, 2, none⟩) (show fieldB Tryd.prog 71 2 = some 2 from by kernel_rfl) rfl rfl) rfl rfl rfl ?_
      refine WO.val (run_load Ty.ag68 rfl ((hS12.cel_at 0 rfl 2).trans rfl)) rfl rfl rfl ?_
      refine WO.val (run_move rfl) rfl rfl rfl ?_
      refine WO.val (run_indexAddr (q := adr rx.na (i * 2)) Tryd.underlying68 Ty.sz121 rfl rfl (by omega) (by omega) ((hS12.ro_rd_i 2 rfl).2.1 (by omega)) rfl) rfl rfl rfl ?_
      refine WO.val (run_fieldAddr (q := (adr rx.na (i * 2 + 1))) (show fieldB Tryd.prog 121 1 = some 1 from by kernel_rfl) rfl (adr_add _ (by assumption) _ _)) rfl rfl rfl ?_
      refine WO.val (run_load Ty.ag3 rfl ((hS12.ro_rd_i 2 rfl).cell ((flat_get fcl_len he (j := 1) (by decide)).trans rfl))) rfl rfl rfl ?_
      refine WO.val (run_assign rfl) rfl rfl rfl ?_
      refine WO.nil ?_
      refine NX.go ?_
      refine WP.seq ?_
      refine WD.start (fun w => (∀ j, World.cell? w ⟨g, j, none⟩ = [Value.int .i64 D1.room, Value.slice rx.fa D1.f.length rx.fc, Value.slice rx.na D1.nm.length rx.nc, Value.slice rx.la D1.last.length rx.lc, Value.slice rx.ca D1.ch.length rx.cc, Value.bool D1.dead, Value.int .i64 D1.left][j]?) ∧ Rd w rx.fa D1.f.length 2 (D1.f.flatMap fcl)) [17] #[false, false, false, false, false, false, false, false, false, false, false, false, false, false, false, false, false, false] Ty.mo rfl (by kernel_rfl) hS12 (fun _ h => ⟨h.cel_at 0 rfl, (h.own_rd_i 1 rfl)⟩) (fun w30 hS30 s31 => ?_)
      clear hS12
      refine WD.pure (i := 0) r4append_spec_t13 #[true, false, false, false, false, false, false, false, false, false, false, false, false, false, false, false, false, false] rfl rfl rfl (by kernel_rfl) (PQ.then PQ.body) rfl (fun w => run_move rfl) ?_
      refine WD.pure (i := 1) r4append_spec_t13 #[true, true, false, false, false, false, false, false, false, false, false, false, false, false, false, false, false, false] rfl rfl rfl (by kernel_rfl) (PQ.then PQ.body) rfl (fun w => run_nilCheck rfl) ?_
      refine WD.pure (i := 2) r4append_spec_t13 #[true, true, true, false, false, false, false, false, false, false, false, false, false, false, false, false, false, false] rfl rfl rfl (by kernel_rfl) (PQ.then PQ.body) rfl (fun w => run_fieldAddr (q := ⟨g, 1, none⟩) (show fieldB Tryd.prog 71 1 = some 1 from by kernel_rfl) rfl rfl) ?_
      refine WD.take (i := 3) r4append_spec_t13 #[true, true, true, true, false, false, false, false, false, false, false, false, false, false, false, false, false, false] s31 rfl rfl rfl (by kernel_rfl) (PQ.then PQ.body) rfl (fun w hs => run_load Ty.ag67 rfl ((hs.1 1).trans rfl)) ?_
      refine WD.pure (i := 4) r4append_spec_t13 #[true, true, true, true, true, false, false, false, false, false, false, false, false, false, false, false, false, false] rfl rfl rfl (by kernel_rfl) (PQ.then PQ.body) rfl (fun w => run_move rfl) ?_
      refine WD.pure (i := 5) r4append_spec_t13 #[true, true, true, true, true, true, false, false, false, false, false, false, false, false, false, false, false, false] rfl rfl rfl (by kernel_rfl) (PQ.then PQ.body) rfl (fun w => run_move rfl) ?_
      refine WD.pure (i := 6) r4append_spec_t13 #[true, true, true, true, true, true, true, false, false, false, false, false, false, false, false, false, false, false] rfl rfl rfl (by kernel_rfl) (PQ.then PQ.body) rfl (fun w => run_nilCheck rfl) ?_
      refine WD.pure (i := 7) r4append_spec_t13 #[true, true, true, true, true, true, true, true, false, false, false, false, false, false, false, false, false, false] rfl rfl rfl (by kernel_rfl) (PQ.then PQ.body) rfl (fun w => run_fieldAddr (q := ⟨g, 1, none⟩) (show fieldB Tryd.prog 71 1 = some 1 from by kernel_rfl) rfl rfl) ?_
      refine WD.take (i := 8) r4append_spec_t13 #[true, true, true, true, true, true, true, true, true, false, false, false, false, false, false, false, false, false] s31 rfl rfl rfl (by kernel_rfl) (PQ.then PQ.body) rfl (fun w hs => run_load Ty.ag67 rfl ((hs.1 1).trans rfl)) ?_
      refine WD.pure (i := 9) r4append_spec_t13 #[true, true, true, true, true, true, true, true, true, true, false, false, false, false, false, false, false, false] rfl rfl rfl (by kernel_rfl) (PQ.then PQ.body) rfl (fun w => run_move rfl) ?_
      refine WD.take (i := 10) r4append_spec_t13 #[true, true, true, true, true, true, true, true, true, true, true, false, false, false, false, false, false, false] s31 rfl rfl rfl (by kernel_rfl) (PQ.then PQ.body) rfl (fun w hs => run_indexAddr (q := adr rx.fa (e.2 * 2)) Tryd.underlying67 Ty.sz119 rfl rfl (by omega) (by omega) ((hs.2).2.1 (by omega)) rfl) ?_
      refine WD.pure (i := 11) r4append_spec_t13 #[true, true, true, true, true, true, true, true, true, true, true, true, false, false, false, false, false, false] rfl rfl rfl (by kernel_rfl) (PQ.then PQ.body) rfl (fun w => run_fieldAddr (q := (adr rx.fa (e.2 * 2 + 0))) (show fieldB Tryd.prog 119 0 = some 0 from by kernel_rfl) rfl (adr_add _ (by assumption) _ _)) ?_
      refine WD.take (i := 12) r4append_spec_t13 #[true, true, true, true, true, true, true, true, true, true, true, true, true, false, false, false, false, false] s31 rfl rfl rfl (by kernel_rfl) (PQ.then PQ.body) rfl (fun w hs => run_load Ty.ag9 rfl ((hs.2).cell ((flat_get fcl_len hfe (j := 0) (by decide)).trans rfl))) ?_
      refine WD.pure (i := 13) r4append_spec_t13 #[true, true, true, true, true, true, true, true, true, true, true, true, true, true, false, false, false, false] rfl rfl rfl (by kernel_rfl) (PQ.then PQ.body) rfl (fun w => run_move rfl) ?_
      refine WD.pure (i := 14) r4append_spec_t13 #[true, true, true, true, true, true, true, true, true, true, true, true, true, true, true, false, false, false] rfl rfl rfl (by kernel_rfl) (PQ.then PQ.body) rfl (fun w => run_cat rfl rfl (by omega)) ?_
      refine WD.take (i := 15) r4append_spec_t13 #[true, true, true, true, true, true, true, true, true, true, true, true, true, true, true, true, false, false] s31 rfl rfl rfl (by kernel_rfl) (PQ.then PQ.body) rfl (fun w hs => run_indexAddr (q := adr rx.fa (e.2 * 2)) Tryd.underlying67 Ty.sz119 rfl rfl (by omega) (by omega) ((hs.2).2.1 (by omega)) rfl) ?_
      refine WD.pure (i := 16) r4append_spec_t13 #[true, true, true, true, true, true, true, true, true, true, true, true, true, true, true, true, true, false] rfl rfl rfl (by kernel_rfl) (PQ.then PQ.body) rfl (fun w => run_fieldAddr (q := (adr rx.fa (e.2 * 2 + 0))) (show fieldB Tryd.prog 119 0 = some 0 from by kernel_rfl) rfl (adr_add _ (by assumption) _ _)) ?_
      refine WD.one (i := 17) r4append_spec_t13 #[true, true, true, true, true, true, true, true, true, true, true, true, true, true, true, true, true, true] rfl (by kernel_rfl) ?_
      refine WO.storeOwnAt 1 hS30 rfl Ty.sz9 rfl rfl rfl rfl (by rw [flat_len fcl_len]; omega) (fun w32 hS32 => ?_)
      replace hS32 : St B (cel g [Value.int .i64 D1.room, Value.slice rx.fa D1.f.length rx.fc, Value.slice rx.na D1.nm.length rx.nc, Value.slice rx.la D1.last.length rx.lc, Value.slice rx.ca D1.ch.length rx.cc, Value.bool D1.dead, Value.int .i64 D1.left] 71 :: own rx.fa D1.f.length rx.fc 119 2 ((addTo D1.f e.2 s).flatMap fcl) :: ro rx.na D1.nm.length 121 2 (D1.nm.flatMap fcl) :: ro rx.la D1.last.length 121 2 (D1.last.flatMap fcl) :: own rx.ca D1.ch.length rx.cc 146 3 (D1.ch.flatMap ccl) :: L) w32 := (by have z := hS32; rw [flat_set fcl_len hfe (j := 0) (y := ((fileAt D1.f e.2).1 ++ s, (fileAt D1.f e.2).2)) (by decide) rfl] at z; exact z)
      clear hS30
      refine WO.nil ?_
      refine NX.last (by decide) ?_
      refine WD.done r4append_spec_t13 (by kernel_rfl) ?_
      refine NX.go ?_
      refine WP.seq ?_
      refine WP.region rfl ?_
      refine WO.val (run_assign rfl) rfl rfl rfl ?_
      refine WO.nil ?_
      refine NX.go ?_
      refine WP.ret ?_
      have el : (addTo D1.f e.2 s).length = D1.f.length := List.length_set
      refine NX.done (l := [.tmp 6]) rfl rfl ?_
      have e0 : appendD D k s = ({ D1 with f := addTo D1.f e.2 s }, 0) := by unfold appendD; rw [ew, if_pos hb1]; exact append1_found hf (by omega) hfi
      rw [e0]
      refine ⟨rfl, St.rf_shut (D := { D1 with f := addTo D1.f e.2 s }) rx ?_⟩
      have hz := (hS32.permT [0, 0, 0, 0, 0] (L' := cel g [Value.int .i64 D1.room, Value.slice rx.fa D1.f.length rx.fc, Value.slice rx.na D1.nm.length rx.nc, Value.slice rx.la D1.last.length rx.lc, Value.slice rx.ca D1.ch.length rx.cc, Value.bool D1.dead, Value.int .i64 D1.left] 71 :: own rx.fa D1.f.length rx.fc 119 2 ((addTo D1.f e.2 s).flatMap fcl) :: ro rx.na D1.nm.length 121 2 (D1.nm.flatMap fcl) :: ro rx.la D1.last.length 121 2 (D1.last.flatMap fcl) :: own rx.ca D1.ch.length rx.cc 146 3 (D1.ch.flatMap ccl) :: L) rfl)
      rw [← el] at hz
      exact hz
end Go.Proofs.YtcehlnpbdffdhaaDoor.SL
