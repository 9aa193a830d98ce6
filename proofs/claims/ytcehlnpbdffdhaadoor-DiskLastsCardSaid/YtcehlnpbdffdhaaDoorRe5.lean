/- The document's disk: names are changed, and told. -/
import Derived.Test.YtcehlnpbdffdhaaDoorRe4
namespace Go.Proofs.YtcehlnpbdffdhaaDoor.SL
open Go.RowKit Go.Proofs.YtcehlnpbdffdhaaDoor
open Go.Proofs.YtcehlnpbdffdhaaDoorW.PrintLast (rtab opsOf)
set_option linter.unusedVariables false
set_option linter.unusedSimpArgs false
theorem r4rename_spec {B w : World} {L : List HP} {g : Nat} {D : Dk} {n t : Nat} (hk : OkD D n t) (hn1 : n ≤ 1000000000) (ht : t ≤ 1099511627776) (k u : List UInt8) (hu : u.length ≤ 140737488355328) (hS : St B (refA g D :: L) w) : Does Tryd.prog 71 [Value.pointer (some ⟨g, 0, none⟩), str k, str u] w (fun v w1 => v = .int .i64 (renameD D k u).2 ∧ St B (refA g (renameD D k u).1 :: L) w1) := by
 obtain ⟨rx, h0⟩ := hS.rf_open
 clear hS
 have hw := hk.w
 have hcb := hk.b.ch
 have hfb := hk.b.f
 have h64 := hw.nm64
 refine enter (n := 38) Tryd.func71 rfl rfl [Value.pointer (some ⟨g, 0, none⟩), str k, str u] rfl ?_
 refine WP.seq ?_
 refine WP.region rfl ?_
 refine WO.val (run_assign rfl) rfl rfl rfl ?_
 refine WO.nil ?_
 refine NX.go ?_
 refine WP.seq ?_
 refine WP.region rfl ?_
 refine WO.val (run_move rfl) rfl rfl rfl ?_
 refine WO.val (run_nilCheck rfl) rfl rfl rfl ?_
 refine WO.val (run_fieldAddr (q := ⟨g, 2, none⟩) (show fieldB Tryd.prog 71 2 = some 2 from by kernel_rfl) rfl rfl) rfl rfl rfl ?_
 refine WO.val (run_load Ty.ag68 rfl ((h0.cel_at 0 rfl 2).trans rfl)) rfl rfl rfl ?_
 refine WO.val (run_move rfl) rfl rfl rfl ?_
 have hS1 := h0.permT [2, 0, 0, 0, 0] (L' := ro rx.na D.nm.length 121 2 (D.nm.flatMap fcl) :: cel g [Value.int .i64 D.room, Value.slice rx.fa D.f.length rx.fc, Value.slice rx.na D.nm.length rx.nc, Value.slice rx.la D.last.length rx.lc, Value.slice rx.ca D.ch.length rx.cc, Value.bool D.dead, Value.int .i64 D.left] 71 :: own rx.fa D.f.length rx.fc 119 2 (D.f.flatMap fcl) :: ro rx.la D.last.length 121 2 (D.last.flatMap fcl) :: own rx.ca D.ch.length rx.cc 146 3 (D.ch.flatMap ccl) :: L) rfl
 clear h0
 refine WO.call rfl rfl Ty.hd77 rfl (r4at_spec (fun h => h.ro_rd) k (by omega) hS1) (fun v3 w2 pv3 => ?_)
 obtain ⟨r, rfl, hat, hS2⟩ := pv3
 clear hS1
 refine WO.val (run_assign rfl) rfl rfl rfl ?_
 refine WO.nil ?_
 refine NX.go ?_
 refine WP.seq ?_
 refine WP.block ?_
 refine WP.seq ?_
 refine WP.region rfl ?_
 refine WO.val (run_move rfl) rfl rfl rfl ?_
 have hS4 := hS2.permT [1, 0, 0, 0, 0] (L' := cel g [Value.int .i64 D.room, Value.slice rx.fa D.f.length rx.fc, Value.slice rx.na D.nm.length rx.nc, Value.slice rx.la D.last.length rx.lc, Value.slice rx.ca D.ch.length rx.cc, Value.bool D.dead, Value.int .i64 D.left] 71 :: ro rx.na D.nm.length 121 2 (D.nm.flatMap fcl) :: own rx.fa D.f.length rx.fc 119 2 (D.f.flatMap fcl) :: ro rx.la D.last.length 121 2 (D.last.flatMap fcl) :: own rx.ca D.ch.length rx.cc 146 3 (D.ch.flatMap ccl) :: L) rfl
 clear hS2
 refine WO.call rfl rfl Ty.hd98 rfl (r4write_spec hw.left hw.lrng hS4) (fun v6 w5 pv6 => ?_)
 obtain ⟨hv, hS5⟩ := pv6
 clear hS4
 obtain ⟨D1, eD1⟩ : ∃ qq, qq = (writeD D).1 := ⟨_, rfl⟩
 have q1 : D1 = { D with dead := wDead D.dead D.left, left := wLeft D.dead D.left } := by rw [eD1, writeD_eq]
 obtain ⟨b1, eb1⟩ : ∃ qq, qq = wOk D.dead D.left := ⟨_, rfl⟩
 have qb : (writeD D).2 = b1 := by rw [eb1, writeD_eq]
 rw [← eb1] at hv
 subst hv
 have k1 : OkD D1 n t := by rw [eD1]; exact hk.write
 have ew := onWrite_of eD1 qb
 have en : D1.nm = D.nm := by rw [q1]
 have hw1 := k1.w
 have hcb1 := k1.b.ch
 have hfb1 := k1.b.f
 have h641 := hw1.nm64
 have hS7 : St B (cel g [Value.int .i64 D1.room, Value.slice rx.fa D1.f.length rx.fc, Value.slice rx.na D1.nm.length rx.nc, Value.slice rx.la D1.last.length rx.lc, Value.slice rx.ca D1.ch.length rx.cc, Value.bool D1.dead, Value.int .i64 D1.left] 71 :: own rx.fa D1.f.length rx.fc 119 2 (D1.f.flatMap fcl) :: ro rx.na D1.nm.length 121 2 (D1.nm.flatMap fcl) :: ro rx.la D1.last.length 121 2 (D1.last.flatMap fcl) :: own rx.ca D1.ch.length rx.cc 146 3 (D1.ch.flatMap ccl) :: L) w5 := by rw [q1]; exact (hS5.permT [0, 1, 0, 0, 0] (L' := cel g [Value.int .i64 D.room, Value.slice rx.fa D.f.length rx.fc, Value.slice rx.na D.nm.length rx.nc, Value.slice rx.la D.last.length rx.lc, Value.slice rx.ca D.ch.length rx.cc, Value.bool (wDead D.dead D.left), Value.int .i64 (wLeft D.dead D.left)] 71 :: own rx.fa D.f.length rx.fc 119 2 (D.f.flatMap fcl) :: ro rx.na D.nm.length 121 2 (D.nm.flatMap fcl) :: ro rx.la D.last.length 121 2 (D.last.flatMap fcl) :: own rx.ca D.ch.length rx.cc 146 3 (D.ch.flatMap ccl) :: L) rfl)
 clear hS5
 rw [← en] at hat
 refine WO.val (run_not rfl rfl) rfl rfl rfl ?_
 refine WO.val (run_assign rfl) rfl rfl rfl ?_
 refine WO.nil ?_
 refine NX.go ?_
 refine WP.condB rfl (fun g14 => ?_) (fun g14 => ?_)
 ·
  have hb1 : b1 = false := by simpa using g14
  refine WP.seq ?_
  refine WP.region rfl ?_
  refine WO.val (run_assign rfl) rfl rfl rfl ?_
  refine WO.nil ?_
  refine NX.go ?_
  refine WP.ret ?_
  refine NX.blkRet ?_
  refine NX.thenRet ?_
  refine NX.done (l := [.tmp 6]) rfl rfl ?_
  have e0 : renameD D k u = (D1, 11) := by unfold renameD; rw [ew, if_neg (by rw [hb1]; exact Bool.noConfusion)]
  rw [e0]
  exact ⟨rfl, St.rf_shut rx (hS7.permT [0, 0, 0, 0, 0] (L' := cel g [Value.int .i64 D1.room, Value.slice rx.fa D1.f.length rx.fc, Value.slice rx.na D1.nm.length rx.nc, Value.slice rx.la D1.last.length rx.lc, Value.slice rx.ca D1.ch.length rx.cc, Value.bool D1.dead, Value.int .i64 D1.left] 71 :: own rx.fa D1.f.length rx.fc 119 2 (D1.f.flatMap fcl) :: ro rx.na D1.nm.length 121 2 (D1.nm.flatMap fcl) :: ro rx.la D1.last.length 121 2 (D1.last.flatMap fcl) :: own rx.ca D1.ch.length rx.cc 146 3 (D1.ch.flatMap ccl) :: L) rfl)⟩
 ·
  have hb1 : b1 = true := by simpa using g14
  refine WP.seq ?_
  refine WP.region rfl ?_
  refine WO.val (run_move rfl) rfl rfl rfl ?_
  refine WO.val (run_lss rfl rfl) rfl rfl rfl ?_
  refine WO.val (run_assign rfl) rfl rfl rfl ?_
  refine WO.nil ?_
  refine NX.go ?_
  refine WP.condP rfl (fun g18 => ?_) (fun g18 => ?_)
  ·
   have hnone : findN k D1.nm = none := by rcases hat with h | ⟨i, e, h, _⟩; exact h.1; omega
   refine WP.seq ?_
   refine WP.region rfl ?_
   refine WO.val (run_assign rfl) rfl rfl rfl ?_
   refine WO.nil ?_
   refine NX.go ?_
   refine WP.ret ?_
   refine NX.blkRet ?_
   refine NX.thenRet ?_
   refine NX.done (l := [.tmp 6]) rfl rfl ?_
   have e0 : renameD D k u = (D1, 12) := by unfold renameD; rw [ew, if_pos hb1]; unfold rename1; rw [hnone]
   rw [e0]
   exact ⟨rfl, St.rf_shut rx (hS7.permT [0, 0, 0, 0, 0] (L' := cel g [Value.int .i64 D1.room, Value.slice rx.fa D1.f.length rx.fc, Value.slice rx.na D1.nm.length rx.nc, Value.slice rx.la D1.last.length rx.lc, Value.slice rx.ca D1.ch.length rx.cc, Value.bool D1.dead, Value.int .i64 D1.left] 71 :: own rx.fa D1.f.length rx.fc 119 2 (D1.f.flatMap fcl) :: ro rx.na D1.nm.length 121 2 (D1.nm.flatMap fcl) :: ro rx.la D1.last.length 121 2 (D1.last.flatMap fcl) :: own rx.ca D1.ch.length rx.cc 146 3 (D1.ch.flatMap ccl) :: L) rfl)⟩
  ·
   obtain ⟨i, e, hri, he, hek, hfi⟩ : ∃ i e, r = ((i : Nat) : Int) ∧ D1.nm[i]? = some e ∧ e.1 = k ∧ findN k D1.nm = some e.2 := by rcases hat with ⟨_, h⟩ | h; omega; exact h
   have hil := (List.getElem?_eq_some_iff.1 he).1
   clear hat
   subst hri
   refine WP.seq ?_
   refine WP.region rfl ?_
   refine WO.val (run_move rfl) rfl rfl rfl ?_
   refine WO.call rfl rfl Ty.hd99 rfl (r4name_spec u (by omega) hS7) (fun v9 w8 pv9 => ?_)
   obtain ⟨rfl, hS8⟩ := pv9
   clear hS7
   refine WO.val (run_not rfl rfl) rfl rfl rfl ?_
   refine WO.val (run_assign rfl) rfl rfl rfl ?_
   refine WO.nil ?_
   refine NX.go ?_
   refine WP.condB rfl (fun g21 => ?_) (fun g21 => ?_)
   ·
    have hf : fileF u = false := by simpa using g21
    refine WP.seq ?_
    refine WP.region rfl ?_
    refine WO.val (run_assign rfl) rfl rfl rfl ?_
    refine WO.nil ?_
    refine NX.go ?_
    refine WP.ret ?_
    refine NX.blkRet ?_
    refine NX.thenRet ?_
    refine NX.done (l := [.tmp 6]) rfl rfl ?_
    have e0 : renameD D k u = (D1, 3) := by unfold renameD; rw [ew, if_pos hb1]; unfold rename1; rw [hfi]; simp only []; rw [if_pos hf]
    rw [e0]
    exact ⟨rfl, St.rf_shut rx (hS8.permT [0, 0, 0, 0, 0] (L' := cel g [Value.int .i64 D1.room, Value.slice rx.fa D1.f.length rx.fc, Value.slice rx.na D1.nm.length rx.nc, Value.slice rx.la D1.last.length rx.lc, Value.slice rx.ca D1.ch.length rx.cc, Value.bool D1.dead, Value.int .i64 D1.left] 71 :: own rx.fa D1.f.length rx.fc 119 2 (D1.f.flatMap fcl) :: ro rx.na D1.nm.length 121 2 (D1.nm.flatMap fcl) :: ro rx.la D1.last.length 121 2 (D1.last.flatMap fcl) :: own rx.ca D1.ch.length rx.cc 146 3 (D1.ch.flatMap ccl) :: L) rfl)⟩
   ·
    have hf : ¬ fileF u = false := by simpa using g21
    refine WP.skip ?_
    refine NX.blk ?_
    refine NX.go ?_
    refine WP.seq ?_
    have hsrxna : rx.na.isSome = true := by obtain ⟨q, hq, _⟩ := ((hS8.ro_rd_i 2 rfl)).2.1 (by omega); rw [hq]; rfl
    refine WP.region rfl ?_
    refine WO.val (run_move rfl) rfl rfl rfl ?_
    refine WO.val (run_move rfl) rfl rfl rfl ?_
    refine WO.val (run_move rfl) rfl rfl rfl ?_
    refine WO.val (run_move rfl) rfl rfl rfl ?_
    refine WO.val (run_nilCheck rfl) rfl rfl rfl ?_
    refine WO.val (run_fieldAddr (q := ⟨g, 2, none⟩) (show fieldB Tryd.prog 71 2 = some 2 from by kernel_rfl) rfl rfl) rfl rfl rfl ?_
    refine WO.val (run_load Ty.ag68 rfl ((hS8.cel_at 0 rfl 2).trans rfl)) rfl rfl rfl ?_
    refine WO.val (run_move rfl) rfl rfl rfl ?_
    refine WO.val (run_indexAddr (q := adr rx.na (i * 2)) Tryd.underlying68 Ty.sz121 rfl rfl (by omega) (by omega) ((hS8.ro_rd_i 2 rfl).2.1 (by omega)) rfl) rfl rfl rfl ?_
    refine WO.val (run_fieldAddr (q := (adr rx.na (i * 2 + 1))) (show fieldB Tryd.prog 121 1 = some 1 from by kernel_rfl) rfl (adr_add _ (by assumption) _ _)) rfl rfl rfl ?_
    refine WO.val (run_load Ty.ag3 rfl ((hS8.ro_rd_i 2 rfl).cell ((flat_get fcl_len he (j := 1) (by decide)).trans rfl))) rfl rfl rfl ?_
    refine WO.val (run_build (v := Value.agg #[str k, str u, Value.int .i64 (e.2 : Int)]) rfl (fun w => by kernel_rfl)) rfl rfl rfl ?_
    refine WO.call rfl rfl Ty.hd100 rfl (r4change_spec ⟨k, u, e.2⟩ (by omega) (by omega) hS8) (fun v11 w10 pv11 => ?_)
    obtain ⟨rx2, rfl, hS10⟩ := pv11
    clear hS8
    refine WO.nil ?_
    refine NX.go ?_
    refine WP.seq ?_
    refine WP.region rfl ?_
    refine WO.val (run_assign rfl) rfl rfl rfl ?_
    refine WO.nil ?_
    refine NX.go ?_
    refine WP.ret ?_
    refine NX.done (l := [.tmp 6]) rfl rfl ?_
    have e0 : renameD D k u = (changeD D1 ⟨k, u, e.2⟩, 0) := by unfold renameD; rw [ew, if_pos hb1]; unfold rename1; rw [hfi]; simp only []; rw [if_neg hf]
    rw [e0]
    exact ⟨rfl, St.rf_shut rx2 (hS10.permT [0, 0, 0, 0, 0] (L' := cel g [Value.int .i64 ((changeD D1 ⟨k, u, e.2⟩).room), Value.slice rx2.fa ((changeD D1 ⟨k, u, e.2⟩).f.length) rx2.fc, Value.slice rx2.na ((changeD D1 ⟨k, u, e.2⟩).nm.length) rx2.nc, Value.slice rx2.la ((changeD D1 ⟨k, u, e.2⟩).last.length) rx2.lc, Value.slice rx2.ca ((changeD D1 ⟨k, u, e.2⟩).ch.length) rx2.cc, Value.bool ((changeD D1 ⟨k, u, e.2⟩).dead), Value.int .i64 ((changeD D1 ⟨k, u, e.2⟩).left)] 71 :: own rx2.fa ((changeD D1 ⟨k, u, e.2⟩).f.length) rx2.fc 119 2 ((changeD D1 ⟨k, u, e.2⟩).f.flatMap fcl) :: ro rx2.na ((changeD D1 ⟨k, u, e.2⟩).nm.length) 121 2 ((changeD D1 ⟨k, u, e.2⟩).nm.flatMap fcl) :: ro rx2.la ((changeD D1 ⟨k, u, e.2⟩).last.length) 121 2 ((changeD D1 ⟨k, u, e.2⟩).last.flatMap fcl) :: own rx2.ca ((changeD D1 ⟨k, u, e.2⟩).ch.length) rx2.cc 146 3 ((changeD D1 ⟨k, u, e.2⟩).ch.flatMap ccl) :: L) rfl)⟩
theorem r4remove_spec {B w : World} {L : List HP} {g : Nat} {D : Dk} {n t : Nat} (hk : OkD D n t) (hn1 : n ≤ 1000000000) (ht : t ≤ 1099511627776) (k : List UInt8) (hS : St B (refA g D :: L) w) : Does Tryd.prog 73 [Value.pointer (some ⟨g, 0, none⟩), str k] w (fun v w1 => v = .int .i64 (removeD D k).2 ∧ St B (refA g (removeD D k).1 :: L) w1) := by
 obtain ⟨rx, h0⟩ := hS.rf_open
 clear hS
 have hw := hk.w
 have hcb := hk.b.ch
 have hfb := hk.b.f
 have h64 := hw.nm64
 refine enter (n := 21) Tryd.func73 rfl rfl [Value.pointer (some ⟨g, 0, none⟩), str k] rfl ?_
 refine WP.seq ?_
 refine WP.region rfl ?_
 refine WO.val (run_assign rfl) rfl rfl rfl ?_
 refine WO.nil ?_
 refine NX.go ?_
 refine WP.seq ?_
 refine WP.block ?_
 refine WP.seq ?_
 refine WP.region rfl ?_
 refine WO.val (run_move rfl) rfl rfl rfl ?_
 refine WO.call rfl rfl Ty.hd98 rfl (r4write_spec hw.left hw.lrng h0) (fun v2 w1 pv2 => ?_)
 obtain ⟨hv, hS1⟩ := pv2
 clear h0
 obtain ⟨D1, eD1⟩ : ∃ qq, qq = (writeD D).1 := ⟨_, rfl⟩
 have q1 : D1 = { D with dead := wDead D.dead D.left, left := wLeft D.dead D.left } := by rw [eD1, writeD_eq]
 obtain ⟨b1, eb1⟩ : ∃ qq, qq = wOk D.dead D.left := ⟨_, rfl⟩
 have qb : (writeD D).2 = b1 := by rw [eb1, writeD_eq]
 rw [← eb1] at hv
 subst hv
 have k1 : OkD D1 n t := by rw [eD1]; exact hk.write
 have ew := onWrite_of eD1 qb
 have en : D1.nm = D.nm := by rw [q1]
 have hw1 := k1.w
 have hcb1 := k1.b.ch
 have hfb1 := k1.b.f
 have h641 := hw1.nm64
 have hS3 : St B (cel g [Value.int .i64 D1.room, Value.slice rx.fa D1.f.length rx.fc, Value.slice rx.na D1.nm.length rx.nc, Value.slice rx.la D1.last.length rx.lc, Value.slice rx.ca D1.ch.length rx.cc, Value.bool D1.dead, Value.int .i64 D1.left] 71 :: own rx.fa D1.f.length rx.fc 119 2 (D1.f.flatMap fcl) :: ro rx.na D1.nm.length 121 2 (D1.nm.flatMap fcl) :: ro rx.la D1.last.length 121 2 (D1.last.flatMap fcl) :: own rx.ca D1.ch.length rx.cc 146 3 (D1.ch.flatMap ccl) :: L) w1 := by rw [q1]; exact hS1
 clear hS1
 refine WO.val (run_not rfl rfl) rfl rfl rfl ?_
 refine WO.val (run_assign rfl) rfl rfl rfl ?_
 refine WO.nil ?_
 refine NX.go ?_
 refine WP.condB rfl (fun g5 => ?_) (fun g5 => ?_)
 ·
  have hb1 : b1 = false := by simpa using g5
  refine WP.seq ?_
  refine WP.region rfl ?_
  refine WO.val (run_assign rfl) rfl rfl rfl ?_
  refine WO.nil ?_
  refine NX.go ?_
  refine WP.ret ?_
  refine NX.blkRet ?_
  refine NX.thenRet ?_
  refine NX.done (l := [.tmp 4]) rfl rfl ?_
  have e0 : removeD D k = (D1, 11) := by unfold removeD; rw [ew, if_neg (by rw [hb1]; exact Bool.noConfusion)]
  rw [e0]
  exact ⟨rfl, St.rf_shut rx (hS3.permT [0, 0, 0, 0, 0] (L' := cel g [Value.int .i64 D1.room, Value.slice rx.fa D1.f.length rx.fc, Value.slice rx.na D1.nm.length rx.nc, Value.slice rx.la D1.last.length rx.lc, Value.slice rx.ca D1.ch.length rx.cc, Value.bool D1.dead, Value.int .i64 D1.left] 71 :: own rx.fa D1.f.length rx.fc 119 2 (D1.f.flatMap fcl) :: ro rx.na D1.nm.length 121 2 (D1.nm.flatMap fcl) :: ro rx.la D1.last.length 121 2 (D1.last.flatMap fcl) :: own rx.ca D1.ch.length rx.cc 146 3 (D1.ch.flatMap ccl) :: L) rfl)⟩
 ·
  have hb1 : b1 = true := by simpa using g5
  refine WP.seq ?_
  refine WP.region rfl ?_
  refine WO.val (run_move rfl) rfl rfl rfl ?_
  refine WO.val (run_nilCheck rfl) rfl rfl rfl ?_
  refine WO.val (run_fieldAddr (q := ⟨g, 2, none⟩) (show fieldB Tryd.prog 71 2 = some 2 from by kernel_rfl) rfl rfl) rfl rfl rfl ?_
  refine WO.val (run_load Ty.ag68 rfl ((hS3.cel_at 0 rfl 2).trans rfl)) rfl rfl rfl ?_
  refine WO.val (run_move rfl) rfl rfl rfl ?_
  have hS4 := hS3.permT [2, 0, 0, 0, 0] (L' := ro rx.na D1.nm.length 121 2 (D1.nm.flatMap fcl) :: cel g [Value.int .i64 D1.room, Value.slice rx.fa D1.f.length rx.fc, Value.slice rx.na D1.nm.length rx.nc, Value.slice rx.la D1.last.length rx.lc, Value.slice rx.ca D1.ch.length rx.cc, Value.bool D1.dead, Value.int .i64 D1.left] 71 :: own rx.fa D1.f.length rx.fc 119 2 (D1.f.flatMap fcl) :: ro rx.la D1.last.length 121 2 (D1.last.flatMap fcl) :: own rx.ca D1.ch.length rx.cc 146 3 (D1.ch.flatMap ccl) :: L) rfl
  clear hS3
  refine WO.call rfl rfl Ty.hd77 rfl (r4at_spec (fun h => h.ro_rd) k (by omega) hS4) (fun v6 w5 pv6 => ?_)
  obtain ⟨r, rfl, hat, hS5⟩ := pv6
  clear hS4
  refine WO.val (run_lss rfl rfl) rfl rfl rfl ?_
  refine WO.val (run_assign rfl) rfl rfl rfl ?_
  refine WO.nil ?_
  refine NX.go ?_
  refine WP.condP rfl (fun g9 => ?_) (fun g9 => ?_)
  ·
   have hnone : findN k D1.nm = none := by rcases hat with h | ⟨i, e, h, _⟩; exact h.1; omega
   refine WP.seq ?_
   refine WP.region rfl ?_
   refine WO.val (run_assign rfl) rfl rfl rfl ?_
   refine WO.nil ?_
   refine NX.go ?_
   refine WP.ret ?_
   refine NX.blkRet ?_
   refine NX.thenRet ?_
   refine NX.done (l := [.tmp 4]) rfl rfl ?_
   have e0 : removeD D k = (D1, 12) := by unfold removeD; rw [ew, if_pos hb1]; unfold remove1; rw [hnone]
   rw [e0]
   exact ⟨rfl, St.rf_shut rx (hS5.permT [1, 1, 0, 0, 0] (L' := cel g [Value.int .i64 D1.room, Value.slice rx.fa D1.f.length rx.fc, Value.slice rx.na D1.nm.length rx.nc, Value.slice rx.la D1.last.length rx.lc, Value.slice rx.ca D1.ch.length rx.cc, Value.bool D1.dead, Value.int .i64 D1.left] 71 :: own rx.fa D1.f.length rx.fc 119 2 (D1.f.flatMap fcl) :: ro rx.na D1.nm.length 121 2 (D1.nm.flatMap fcl) :: ro rx.la D1.last.length 121 2 (D1.last.flatMap fcl) :: own rx.ca D1.ch.length rx.cc 146 3 (D1.ch.flatMap ccl) :: L) rfl)⟩
  ·
   obtain ⟨i, e, hri, he, hek, hfi⟩ : ∃ i e, r = ((i : Nat) : Int) ∧ D1.nm[i]? = some e ∧ e.1 = k ∧ findN k D1.nm = some e.2 := by rcases hat with ⟨_, h⟩ | h; omega; exact h
   have hil := (List.getElem?_eq_some_iff.1 he).1
   clear hat
   subst hri
   refine WP.skip ?_
   refine NX.blk ?_
   refine NX.go ?_
   refine WP.seq ?_
   refine WP.region rfl ?_
   refine WO.val (run_move rfl) rfl rfl rfl ?_
   refine WO.val (run_move rfl) rfl rfl rfl ?_
   refine WO.val (run_build (v := Value.agg #[str k, str [], Value.int .i64 0]) rfl (fun w => by kernel_rfl)) rfl rfl rfl ?_
   have hS7 := hS5.permT [1, 1, 0, 0, 0] (L' := cel g [Value.int .i64 D1.room, Value.slice rx.fa D1.f.length rx.fc, Value.slice rx.na D1.nm.length rx.nc, Value.slice rx.la D1.last.length rx.lc, Value.slice rx.ca D1.ch.length rx.cc, Value.bool D1.dead, Value.int .i64 D1.left] 71 :: own rx.fa D1.f.length rx.fc 119 2 (D1.f.flatMap fcl) :: ro rx.na D1.nm.length 121 2 (D1.nm.flatMap fcl) :: ro rx.la D1.last.length 121 2 (D1.last.flatMap fcl) :: own rx.ca D1.ch.length rx.cc 146 3 (D1.ch.flatMap ccl) :: L) rfl
   clear hS5
   refine WO.call rfl rfl Ty.hd100 rfl (r4change_spec ⟨k, [], 0⟩ (by omega) (by omega) hS7) (fun v9 w8 pv9 => ?_)
   obtain ⟨rx2, rfl, hS8⟩ := pv9
   clear hS7
   refine WO.nil ?_
   refine NX.go ?_
   refine WP.seq ?_
   refine WP.region rfl ?_
   refine WO.val (run_assign rfl) rfl rfl rfl ?_
   refine WO.nil ?_
   refine NX.go ?_
   refine WP.ret ?_
   refine NX.done (l := [.tmp 4]) rfl rfl ?_
   have e0 : removeD D k = (changeD D1 ⟨k, [], 0⟩, 0) := by unfold removeD; rw [ew, if_pos hb1]; unfold remove1; rw [hfi]
   rw [e0]
   exact ⟨rfl, St.rf_shut rx2 (hS8.permT [0, 0, 0, 0, 0] (L' := cel g [Value.int .i64 ((changeD D1 ⟨k, [], 0⟩).room), Value.slice rx2.fa ((changeD D1 ⟨k, [], 0⟩).f.length) rx2.fc, Value.slice rx2.na ((changeD D1 ⟨k, [], 0⟩).nm.length) rx2.nc, Value.slice rx2.la ((changeD D1 ⟨k, [], 0⟩).last.length) rx2.lc, Value.slice rx2.ca ((changeD D1 ⟨k, [], 0⟩).ch.length) rx2.cc, Value.bool ((changeD D1 ⟨k, [], 0⟩).dead), Value.int .i64 ((changeD D1 ⟨k, [], 0⟩).left)] 71 :: own rx2.fa ((changeD D1 ⟨k, [], 0⟩).f.length) rx2.fc 119 2 ((changeD D1 ⟨k, [], 0⟩).f.flatMap fcl) :: ro rx2.na ((changeD D1 ⟨k, [], 0⟩).nm.length) 121 2 ((changeD D1 ⟨k, [], 0⟩).nm.flatMap fcl) :: ro rx2.la ((changeD D1 ⟨k, [], 0⟩).last.length) 121 2 ((changeD D1 ⟨k, [], 0⟩).last.flatMap fcl) :: own rx2.ca ((changeD D1 ⟨k, [], 0⟩).ch.length) rx2.cc 146 3 ((changeD D1 ⟨k, [], 0⟩).ch.flatMap ccl) :: L) rfl)⟩
theorem r4read_spec_t6 : rtab .any (opsOf Tryd.f34 6) = (true, [([], []), ([0], [0]), ([1], [1]), ([2], [2]), ([], []), ([4], [4]), ([5], [5]), ([6], [6]), ([], []), ([7, 8], [7, 8]), ([9], [9]), ([10], [10]), ([3, 11], [3, 11]), ([12], [12]), ([13], [13]), ([14, 0, 1, 2, 3, 4, 5, 6, 7, 8, 9, 10, 11, 12, 13, 14], [14]), ([15, 0, 1, 2, 3, 4, 5, 6, 7, 8, 9, 10, 11, 12, 13, 14, 15], [])]) := by kernel_rfl
theorem r4read_spec {B w : World} {L : List HP} {g : Nat} {D : Dk} {n t : Nat} (hk : OkD D n t) (hn1 : n ≤ 1000000000) (ht : t ≤ 1099511627776) (k : List UInt8) (hS : St B (refA g D :: L) w) : Does Tryd.prog 34 [Value.pointer (some ⟨g, 0, none⟩), str k] w (fun v w1 => v = .tuple #[str (readD D k).1, .int .i64 (readD D k).2] ∧ St B (refA g D :: L) w1) := by
 obtain ⟨rx, h0⟩ := hS.rf_open
 clear hS
 have hw := hk.w
 have hcb := hk.b.ch
 have hfb := hk.b.f
 have h64 := hw.nm64
 refine enter (n := 36) Tryd.func34 rfl rfl [Value.pointer (some ⟨g, 0, none⟩), str k] rfl ?_
 refine WP.seq ?_
 refine WP.region rfl ?_
 refine WO.val (run_assign rfl) rfl rfl rfl ?_
 refine WO.val (run_assign rfl) rfl rfl rfl ?_
 refine WO.nil ?_
 refine NX.go ?_
 refine WP.seq ?_
 refine WP.region rfl ?_
 refine WO.val (run_move rfl) rfl rfl rfl ?_
 refine WO.val (run_nilCheck rfl) rfl rfl rfl ?_
 refine WO.val (run_fieldAddr (q := ⟨g, 2, none⟩) (show fieldB Tryd.prog 71 2 = some 2 from by kernel_rfl) rfl rfl) rfl rfl rfl ?_
 refine WO.val (run_load Ty.ag68 rfl ((h0.cel_at 0 rfl 2).trans rfl)) rfl rfl rfl ?_
 refine WO.val (run_move rfl) rfl rfl rfl ?_
 have hS1 := h0.permT [2, 0, 0, 0, 0] (L' := ro rx.na D.nm.length 121 2 (D.nm.flatMap fcl) :: cel g [Value.int .i64 D.room, Value.slice rx.fa D.f.length rx.fc, Value.slice rx.na D.nm.length rx.nc, Value.slice rx.la D.last.length rx.lc, Value.slice rx.ca D.ch.length rx.cc, Value.bool D.dead, Value.int .i64 D.left] 71 :: own rx.fa D.f.length rx.fc 119 2 (D.f.flatMap fcl) :: ro rx.la D.last.length 121 2 (D.last.flatMap fcl) :: own rx.ca D.ch.length rx.cc 146 3 (D.ch.flatMap ccl) :: L) rfl
 clear h0
 refine WO.call rfl rfl Ty.hd77 rfl (r4at_spec (fun h => h.ro_rd) k (by omega) hS1) (fun v3 w2 pv3 => ?_)
 obtain ⟨r, rfl, hat, hS2⟩ := pv3
 clear hS1
 refine WO.val (run_assign rfl) rfl rfl rfl ?_
 refine WO.nil ?_
 refine NX.go ?_
 refine WP.seq ?_
 refine WP.block ?_
 refine WP.seq ?_
 refine WP.region rfl ?_
 refine WO.val (run_move rfl) rfl rfl rfl ?_
 refine WO.val (run_nilCheck rfl) rfl rfl rfl ?_
 refine WO.val (run_fieldAddr (q := ⟨g, 5, none⟩) (show fieldB Tryd.prog 71 5 = some 5 from by kernel_rfl) rfl rfl) rfl rfl rfl ?_
 refine WO.val (run_load Ty.ag4 rfl ((hS2.cel_at 1 rfl 5).trans rfl)) rfl rfl rfl ?_
 refine WO.val (run_assign rfl) rfl rfl rfl ?_
 refine WO.nil ?_
 refine NX.go ?_
 refine WP.condB rfl (fun g13 => ?_) (fun g13 => ?_)
 ·
  refine WP.seq ?_
  refine WP.region rfl ?_
  refine WO.val (run_assign rfl) rfl rfl rfl ?_
  refine WO.val (run_assign rfl) rfl rfl rfl ?_
  refine WO.nil ?_
  refine NX.go ?_
  refine WP.ret ?_
  refine NX.blkRet ?_
  refine NX.thenRet ?_
  refine NX.done (l := [.tmp 4, .tmp 5]) rfl rfl ?_
  have e0 : readD D k = ([], 11) := by unfold readD; rw [if_pos g13]
  rw [e0]
  exact ⟨rfl, St.rf_shut rx (hS2.permT [1, 1, 0, 0, 0] (L' := cel g [Value.int .i64 D.room, Value.slice rx.fa D.f.length rx.fc, Value.slice rx.na D.nm.length rx.nc, Value.slice rx.la D.last.length rx.lc, Value.slice rx.ca D.ch.length rx.cc, Value.bool D.dead, Value.int .i64 D.left] 71 :: own rx.fa D.f.length rx.fc 119 2 (D.f.flatMap fcl) :: ro rx.na D.nm.length 121 2 (D.nm.flatMap fcl) :: ro rx.la D.last.length 121 2 (D.last.flatMap fcl) :: own rx.ca D.ch.length rx.cc 146 3 (D.ch.flatMap ccl) :: L) rfl)⟩
 ·
  refine WP.seq ?_
  refine WP.region rfl ?_
  refine WO.val (run_move rfl) rfl rfl rfl ?_
  refine WO.val (run_lss rfl rfl) rfl rfl rfl ?_
  refine WO.val (run_assign rfl) rfl rfl rfl ?_
  refine WO.nil ?_
  refine NX.go ?_
  refine WP.condP rfl (fun g18 => ?_) (fun g18 => ?_)
  ·
   have hnone : findN k D.nm = none := by rcases hat with h | ⟨i, e, h, _⟩; exact h.1; omega
   refine WP.seq ?_
   refine WP.region rfl ?_
   refine WO.val (run_assign rfl) rfl rfl rfl ?_
   refine WO.val (run_assign rfl) rfl rfl rfl ?_
   refine WO.nil ?_
   refine NX.go ?_
   refine WP.ret ?_
   refine NX.blkRet ?_
   refine NX.thenRet ?_
   refine NX.done (l := [.tmp 4, .tmp 5]) rfl rfl ?_
   have e0 : readD D k = ([], 12) := by unfold readD; rw [if_neg (by rw [g13]; exact Bool.noConfusion), hnone]
   rw [e0]
   exact ⟨rfl, St.rf_shut rx (hS2.permT [1, 1, 0, 0, 0] (L' := cel g [Value.int .i64 D.room, Value.slice rx.fa D.f.length rx.fc, Value.slice rx.na D.nm.length rx.nc, Value.slice rx.la D.last.length rx.lc, Value.slice rx.ca D.ch.length rx.cc, Value.bool D.dead, Value.int .i64 D.left] 71 :: own rx.fa D.f.length rx.fc 119 2 (D.f.flatMap fcl) :: ro rx.na D.nm.length 121 2 (D.nm.flatMap fcl) :: ro rx.la D.last.length 121 2 (D.last.flatMap fcl) :: own rx.ca D.ch.length rx.cc 146 3 (D.ch.flatMap ccl) :: L) rfl)⟩
  ·
   obtain ⟨i, e, hri, he, hek, hfi⟩ : ∃ i e, r = ((i : Nat) : Int) ∧ D.nm[i]? = some e ∧ e.1 = k ∧ findN k D.nm = some e.2 := by rcases hat with ⟨_, h⟩ | h; omega; exact h
   have hil := (List.getElem?_eq_some_iff.1 he).1
   clear hat
   subst hri
   refine WP.skip ?_
   refine NX.blk ?_
   refine NX.go ?_
   refine WP.seq ?_
   have hlt : e.2 < D.f.length := (hw.good.f e (List.mem_of_getElem? he)).2
   have hfe := fileAt_get hlt
   have hsrxfa : rx.fa.isSome = true := by obtain ⟨q, hq, _⟩ := ((hS2.own_rd_i 2 rfl)).2.1 (by omega); rw [hq]; rfl
   have hsrxna : rx.na.isSome = true := by obtain ⟨q, hq, _⟩ := ((hS2.ro_rd_i 0 rfl)).2.1 (by omega); rw [hq]; rfl
   refine WD.start (fun w => Rd w rx.na D.nm.length 2 (D.nm.flatMap fcl) ∧ (∀ j, World.cell? w ⟨g, j, none⟩ = [Value.int .i64 D.room, Value.slice rx.fa D.f.length rx.fc, Value.slice rx.na D.nm.length rx.nc, Value.slice rx.la D.last.length rx.lc, Value.slice rx.ca D.ch.length rx.cc, Value.bool D.dead, Value.int .i64 D.left][j]?) ∧ Rd w rx.fa D.f.length 2 (D.f.flatMap fcl) ∧ Rd w rx.la D.last.length 2 (D.last.flatMap fcl) ∧ Rd w rx.ca D.ch.length 3 (D.ch.flatMap ccl)) [] #[false, false, false, false, false, false, false, false, false, false, false, false, false, false, false, false, false] Ty.mo rfl (by kernel_rfl) hS2 (fun _ h => ⟨(h.ro_rd_i 0 rfl), h.cel_at 1 rfl, (h.own_rd_i 2 rfl), (h.ro_rd_i 3 rfl), (h.own_rd_i 4 rfl)⟩) (fun w4 hS4 s5 => ?_)
   clear hS2
   refine WD.pure (i := 0) r4read_spec_t6 #[true, false, false, false, false, false, false, false, false, false, false, false, false, false, false, false, false] rfl rfl rfl (by kernel_rfl) (PQ.then PQ.body) rfl (fun w => run_move rfl) ?_
   refine WD.pure (i := 1) r4read_spec_t6 #[true, true, false, false, false, false, false, false, false, false, false, false, false, false, false, false, false] rfl rfl rfl (by kernel_rfl) (PQ.then PQ.body) rfl (fun w => run_nilCheck rfl) ?_
   refine WD.pure (i := 2) r4read_spec_t6 #[true, true, true, false, false, false, false, false, false, false, false, false, false, false, false, false, false] rfl rfl rfl (by kernel_rfl) (PQ.then PQ.body) rfl (fun w => run_fieldAddr (q := ⟨g, 1, none⟩) (show fieldB Tryd.prog 71 1 = some 1 from by kernel_rfl) rfl rfl) ?_
   refine WD.take (i := 3) r4read_spec_t6 #[true, true, true, true, false, false, false, false, false, false, false, false, false, false, false, false, false] s5 rfl rfl rfl (by kernel_rfl) (PQ.then PQ.body) rfl (fun w hs => run_load Ty.ag67 rfl ((hs.2.1 1).trans rfl)) ?_
   refine WD.pure (i := 4) r4read_spec_t6 #[true, true, true, true, true, false, false, false, false, false, false, false, false, false, false, false, false] rfl rfl rfl (by kernel_rfl) (PQ.then PQ.body) rfl (fun w => run_move rfl) ?_
   refine WD.pure (i := 5) r4read_spec_t6 #[true, true, true, true, true, true, false, false, false, false, false, false, false, false, false, false, false] rfl rfl rfl (by kernel_rfl) (PQ.then PQ.body) rfl (fun w => run_nilCheck rfl) ?_
   refine WD.pure (i := 6) r4read_spec_t6 #[true, true, true, true, true, true, true, false, false, false, false, false, false, false, false, false, false] rfl rfl rfl (by kernel_rfl) (PQ.then PQ.body) rfl (fun w => run_fieldAddr (q := ⟨g, 2, none⟩) (show fieldB Tryd.prog 71 2 = some 2 from by kernel_rfl) rfl rfl) ?_
   refine WD.take (i := 7) r4read_spec_t6 #[true, true, true, true, true, true, true, true, false, false, false, false, false, false, false, false, false] s5 rfl rfl rfl (by kernel_rfl) (PQ.then PQ.body) rfl (fun w hs => run_load Ty.ag68 rfl ((hs.2.1 2).trans rfl)) ?_
   refine WD.pure (i := 8) r4read_spec_t6 #[true, true, true, true, true, true, true, true, true, false, false, false, false, false, false, false, false] rfl rfl rfl (by kernel_rfl) (PQ.then PQ.body) rfl (fun w => run_move rfl) ?_
   refine WD.take (i := 9) r4read_spec_t6 #[true, true, true, true, true, true, true, true, true, true, false, false, false, false, false, false, false] s5 rfl rfl rfl (by kernel_rfl) (PQ.then PQ.body) rfl (fun w hs => run_indexAddr (q := adr rx.na (i * 2)) Tryd.underlying68 Ty.sz121 rfl rfl (by omega) (by omega) ((hs.1).2.1 (by omega)) rfl) ?_
   refine WD.pure (i := 10) r4read_spec_t6 #[true, true, true, true, true, true, true, true, true, true, true, false, false, false, false, false, false] rfl rfl rfl (by kernel_rfl) (PQ.then PQ.body) rfl (fun w => run_fieldAddr (q := (adr rx.na (i * 2 + 1))) (show fieldB Tryd.prog 121 1 = some 1 from by kernel_rfl) rfl (adr_add _ (by assumption) _ _)) ?_
   refine WD.take (i := 11) r4read_spec_t6 #[true, true, true, true, true, true, true, true, true, true, true, true, false, false, false, false, false] s5 rfl rfl rfl (by kernel_rfl) (PQ.then PQ.body) rfl (fun w hs => run_load Ty.ag3 rfl ((hs.1).cell ((flat_get fcl_len he (j := 1) (by decide)).trans rfl))) ?_
   refine WD.take (i := 12) r4read_spec_t6 #[true, true, true, true, true, true, true, true, true, true, true, true, true, false, false, false, false] s5 rfl rfl rfl (by kernel_rfl) (PQ.then PQ.body) rfl (fun w hs => run_indexAddr (q := adr rx.fa (e.2 * 2)) Tryd.underlying67 Ty.sz119 rfl rfl (by omega) (by omega) ((hs.2.2.1).2.1 (by omega)) rfl) ?_
   refine WD.pure (i := 13) r4read_spec_t6 #[true, true, true, true, true, true, true, true, true, true, true, true, true, true, false, false, false] rfl rfl rfl (by kernel_rfl) (PQ.then PQ.body) rfl (fun w => run_fieldAddr (q := (adr rx.fa (e.2 * 2 + 0))) (show fieldB Tryd.prog 119 0 = some 0 from by kernel_rfl) rfl (adr_add _ (by assumption) _ _)) ?_
   refine WD.take (i := 14) r4read_spec_t6 #[true, true, true, true, true, true, true, true, true, true, true, true, true, true, true, false, false] s5 rfl rfl rfl (by kernel_rfl) (PQ.then PQ.body) rfl (fun w hs => run_load Ty.ag9 rfl ((hs.2.2.1).cell ((flat_get fcl_len hfe (j := 0) (by decide)).trans rfl))) ?_
   refine WD.pure (i := 15) r4read_spec_t6 #[true, true, true, true, true, true, true, true, true, true, true, true, true, true, true, true, false] rfl rfl rfl (by kernel_rfl) (PQ.then PQ.body) rfl (fun w => run_assign rfl) ?_
   refine WD.pure (i := 16) r4read_spec_t6 #[true, true, true, true, true, true, true, true, true, true, true, true, true, true, true, true, true] rfl rfl rfl (by kernel_rfl) (PQ.then PQ.body) rfl (fun w => run_assign rfl) ?_
   refine WD.done r4read_spec_t6 (by kernel_rfl) ?_
   refine NX.go ?_
   refine WP.ret ?_
   refine NX.done (l := [.tmp 4, .tmp 5]) rfl rfl ?_
   have e0 : readD D k = ((fileAt D.f e.2).1, 0) := by unfold readD; rw [if_neg (by rw [g13]; exact Bool.noConfusion), hfi]
   rw [e0]
   exact ⟨rfl, St.rf_shut rx (hS4.permT [1, 1, 0, 0, 0] (L' := cel g [Value.int .i64 D.room, Value.slice rx.fa D.f.length rx.fc, Value.slice rx.na D.nm.length rx.nc, Value.slice rx.la D.last.length rx.lc, Value.slice rx.ca D.ch.length rx.cc, Value.bool D.dead, Value.int .i64 D.left] 71 :: own rx.fa D.f.length rx.fc 119 2 (D.f.flatMap fcl) :: ro rx.na D.nm.length 121 2 (D.nm.flatMap fcl) :: ro rx.la D.last.length 121 2 (D.last.flatMap fcl) :: own rx.ca D.ch.length rx.cc 146 3 (D.ch.flatMap ccl) :: L) rfl)⟩
theorem r4list_spec {B w : World} {L : List HP} {g : Nat} {D : Dk} {n t : Nat} (hk : OkD D n t) (hn1 : n ≤ 1000000000) (ht : t ≤ 1099511627776) (hS : St B (refA g D :: L) w) : Does Tryd.prog 37 [Value.pointer (some ⟨g, 0, none⟩)] w (fun v w1 => ∃ a c, v = .slice a (namesD D).length c ∧ St B (own a (namesD D).length c 9 1 ((namesD D).map str) :: refA g D :: L) w1) := by
 obtain ⟨rx, h0⟩ := hS.rf_open
 clear hS
 have hw := hk.w
 have hcb := hk.b.ch
 have hfb := hk.b.f
 have h64 := hw.nm64
 refine enter (n := 33) Tryd.func37 rfl rfl [Value.pointer (some ⟨g, 0, none⟩)] rfl ?_
 refine WP.seq ?_
 refine WP.region rfl ?_
 refine WO.val (run_assign rfl) rfl rfl rfl ?_
 refine WO.nil ?_
 refine NX.go ?_
 refine WP.seq ?_
 refine WP.region rfl ?_
 refine WO.val (run_assign rfl) rfl rfl rfl ?_
 refine WO.nil ?_
 refine NX.go ?_
 refine WP.seq ?_
 refine WP.seq ?_
 refine WP.region rfl ?_
 refine WO.val (run_assign rfl) rfl rfl rfl ?_
 refine WO.nil ?_
 refine NX.go ?_
 refine WP.block ?_
 replace h0 := h0.own_nil 9 1
 refine WP.loop (α := Nat × Option Addr × Nat) (fun x => match x with | ⟨i, oa, oc⟩ => [(0, Value.pointer (some ⟨g, 0, none⟩)), (3, Value.slice oa i oc), (4, Value.int .i64 (i : Int))]) (fun x w => match x with | ⟨i, oa, oc⟩ => (i ≤ D.nm.length ∧ (D.dead = true → i = 0)) ∧ St B (own oa i oc 9 1 ((D.nm.take i).map fun e => str e.1) :: cel g [Value.int .i64 D.room, Value.slice rx.fa D.f.length rx.fc, Value.slice rx.na D.nm.length rx.nc, Value.slice rx.la D.last.length rx.lc, Value.slice rx.ca D.ch.length rx.cc, Value.bool D.dead, Value.int .i64 D.left] 71 :: own rx.fa D.f.length rx.fc 119 2 (D.f.flatMap fcl) :: ro rx.na D.nm.length 121 2 (D.nm.flatMap fcl) :: ro rx.la D.last.length 121 2 (D.last.flatMap fcl) :: own rx.ca D.ch.length rx.cc 146 3 (D.ch.flatMap ccl) :: L) w) (fun x => match x with | ⟨i, oa, oc⟩ => D.nm.length - i) (0, none, 0) ⟨⟨Nat.zero_le _, fun _ => rfl⟩, h0⟩ (Sub.cons rfl (Sub.consE rfl (by first | rfl | first | rfl | (congr 1; omega) | (simp; done) | (simp; omega)) (Sub.consE rfl (by first | rfl | first | rfl | (congr 1; omega) | (simp; done) | (simp; omega)) (Sub.nil _)))) ?_
 rintro ⟨i, oa, oc⟩ w1 ⟨⟨hi, hd0⟩, hS1⟩
 clear h0
 refine WP.seq ?_
 refine WP.seq ?_
 refine WP.region rfl ?_
 refine WO.val (run_move rfl) rfl rfl rfl ?_
 refine WO.val (run_move rfl) rfl rfl rfl ?_
 refine WO.val (run_nilCheck rfl) rfl rfl rfl ?_
 refine WO.val (run_fieldAddr (q := ⟨g, 2, none⟩) (show fieldB Tryd.prog 71 2 = some 2 from by kernel_rfl) rfl rfl) rfl rfl rfl ?_
 refine WO.val (run_load Ty.ag68 rfl ((hS1.cel_at 1 rfl 2).trans rfl)) rfl rfl rfl ?_
 refine WO.val (run_len rfl Tryd.underlying68 rfl) rfl rfl rfl ?_
 refine WO.val (run_lss rfl rfl) rfl rfl rfl ?_
 refine WO.val (run_move rfl) rfl rfl rfl ?_
 by_cases g12 : (i : Int) < ((D.nm.length : Nat) : Int)
 ·
  refine WO.on rfl rfl (decide_eq_true g12) ?_
  refine WO.val (run_move rfl) rfl rfl rfl ?_
  refine WO.on rfl rfl (decide_eq_true g12) ?_
  refine WO.val (run_nilCheck rfl) rfl rfl rfl ?_
  refine WO.on rfl rfl (decide_eq_true g12) ?_
  refine WO.val (run_fieldAddr (q := ⟨g, 5, none⟩) (show fieldB Tryd.prog 71 5 = some 5 from by kernel_rfl) rfl rfl) rfl rfl rfl ?_
  refine WO.on rfl rfl (decide_eq_true g12) ?_
  refine WO.val (run_load Ty.ag4 rfl ((hS1.cel_at 1 rfl 5).trans rfl)) rfl rfl rfl ?_
  refine WO.on rfl rfl (decide_eq_true g12) ?_
  refine WO.val (run_not rfl rfl) rfl rfl rfl ?_
  refine WO.val (run_pickT rfl (decide_eq_true g12) rfl) rfl rfl rfl ?_
  refine WO.nil ?_
  refine NX.go ?_
  refine WP.condB rfl (fun g18 => ?_) (fun g18 => ?_)
  ·
   refine WP.skip ?_
   refine NX.go ?_
   refine WP.seq ?_
   refine WP.block ?_
   obtain ⟨e, he⟩ : ∃ e, D.nm[i]? = some e := ⟨_, List.getElem?_eq_getElem (by omega)⟩
   have hsrxna : rx.na.isSome = true := by obtain ⟨q, hq, _⟩ := ((hS1.ro_rd_i 3 rfl)).2.1 (by omega); rw [hq]; rfl
   refine WP.region rfl ?_
   refine WO.val (run_move rfl) rfl rfl rfl ?_
   refine WO.val (run_move rfl) rfl rfl rfl ?_
   refine WO.val (run_nilCheck rfl) rfl rfl rfl ?_
   refine WO.val (run_fieldAddr (q := ⟨g, 2, none⟩) (show fieldB Tryd.prog 71 2 = some 2 from by kernel_rfl) rfl rfl) rfl rfl rfl ?_
   refine WO.val (run_load Ty.ag68 rfl ((hS1.cel_at 1 rfl 2).trans rfl)) rfl rfl rfl ?_
   refine WO.val (run_move rfl) rfl rfl rfl ?_
   refine WO.val (run_indexAddr (q := adr rx.na (i * 2)) Tryd.underlying68 Ty.sz121 rfl rfl (by omega) (by omega) ((hS1.ro_rd_i 3 rfl).2.1 (by omega)) rfl) rfl rfl rfl ?_
   refine WO.val (run_fieldAddr (q := (adr rx.na (i * 2 + 0))) (show fieldB Tryd.prog 121 0 = some 0 from by kernel_rfl) rfl (adr_add _ (by assumption) _ _)) rfl rfl rfl ?_
   refine WO.val (run_load Ty.ag9 rfl ((hS1.ro_rd_i 3 rfl).cell ((flat_get fcl_len he (j := 0) (by decide)).trans rfl))) rfl rfl rfl ?_
   refine WO.buildSlice (l := [str e.1]) hS1 Tryd.underlying22 rfl (fun w => by kernel_rfl) rfl (fun g3 w2 lg3 hS2 => ?_)
   clear hS1
   refine WO.append (news := [str e.1]) 1 rfl Tryd.underlying22 Tryd.underlying22 (fun _ h => by cases h) Ty.sz9 (by decide) Ty.by9 Ty.zr9 rfl rfl rfl rfl hS2 rfl ((hS2.cel_rd 0 rfl (o := 0) (m := 1) (k := 1) rfl (Nat.le_of_ble_eq_true rfl)).src) rfl (by omega) (by omega) (fun a5 c6 w4 hS4 => ?_)
   replace hS4 : St B (cel g3 [str e.1] 9 :: own a5 (i + 1) c6 9 1 (((D.nm.take i).map fun e => str e.1) ++ [str e.1]) :: cel g [Value.int .i64 D.room, Value.slice rx.fa D.f.length rx.fc, Value.slice rx.na D.nm.length rx.nc, Value.slice rx.la D.last.length rx.lc, Value.slice rx.ca D.ch.length rx.cc, Value.bool D.dead, Value.int .i64 D.left] 71 :: own rx.fa D.f.length rx.fc 119 2 (D.f.flatMap fcl) :: ro rx.na D.nm.length 121 2 (D.nm.flatMap fcl) :: ro rx.la D.last.length 121 2 (D.last.flatMap fcl) :: own rx.ca D.ch.length rx.cc 146 3 (D.ch.flatMap ccl) :: L) w4 := hS4
   clear hS2
   refine WO.val (run_assign rfl) rfl rfl rfl ?_
   refine WO.nil ?_
   refine NX.blk ?_
   refine NX.go ?_
   refine WP.region rfl ?_
   refine WO.val (run_move rfl) rfl rfl rfl ?_
   refine WO.val (run_add rfl rfl (IntWalk.i64_in _ (by omega))) rfl rfl rfl ?_
   refine WO.val (run_assign rfl) rfl rfl rfl ?_
   refine WO.nil ?_
   exact NX.again (i + 1, a5, c6) ⟨⟨by omega, fun h => by rw [h] at g18; cases g18⟩, own_eq (hS4.drop) rfl (by rw [List.take_add_one, he]; simp)⟩ (by show D.nm.length - (i + 1) < D.nm.length - i; omega) (Sub.cons rfl (Sub.consE rfl (by first | rfl | (congr 1; omega) | (simp; done) | (simp; omega)) (Sub.consE rfl (by congr 1) (Sub.nil _))))
  ·
   refine WP.exit ?_
   refine NX.thenExit ?_
   refine NX.thenExit ?_
   refine NX.blkExit ?_
   refine NX.go ?_
   refine WP.seq ?_
   refine WP.region rfl ?_
   refine WO.val (run_move rfl) rfl rfl rfl ?_
   refine WO.val (run_assign rfl) rfl rfl rfl ?_
   refine WO.nil ?_
   refine NX.go ?_
   refine WP.ret ?_
   have hN := names_at hi hd0 (.inl (by simpa using g18))
   refine NX.done (l := [.tmp 2]) rfl rfl ?_
   have hz := St.rf_shut rx (hS1.permT [1, 1, 1, 1, 1, 0] (L' := cel g [Value.int .i64 D.room, Value.slice rx.fa D.f.length rx.fc, Value.slice rx.na D.nm.length rx.nc, Value.slice rx.la D.last.length rx.lc, Value.slice rx.ca D.ch.length rx.cc, Value.bool D.dead, Value.int .i64 D.left] 71 :: own rx.fa D.f.length rx.fc 119 2 (D.f.flatMap fcl) :: ro rx.na D.nm.length 121 2 (D.nm.flatMap fcl) :: ro rx.la D.last.length 121 2 (D.last.flatMap fcl) :: own rx.ca D.ch.length rx.cc 146 3 (D.ch.flatMap ccl) :: own oa i oc 9 1 ((D.nm.take i).map fun e => str e.1) :: L) rfl)
   exact ⟨oa, oc, congrArg (fun z => Value.slice oa z oc) (by rw [hN]; simp; omega), own_eq (hz.permT [1, 0] rfl) (by rw [hN]; simp; omega) (by rw [hN, List.map_map]; rfl)⟩
 ·
  refine WO.off rfl rfl (decide_eq_false g12) rfl ?_
  refine WO.off rfl rfl (decide_eq_false g12) rfl ?_
  refine WO.off rfl rfl (decide_eq_false g12) rfl ?_
  refine WO.off rfl rfl (decide_eq_false g12) rfl ?_
  refine WO.off rfl rfl (decide_eq_false g12) rfl ?_
  refine WO.val (run_pickF rfl (decide_eq_false g12) rfl) rfl rfl rfl ?_
  refine WO.nil ?_
  refine NX.go ?_
  refine WP.condF rfl rfl ?_
  refine WP.exit ?_
  refine NX.thenExit ?_
  refine NX.thenExit ?_
  refine NX.blkExit ?_
  refine NX.go ?_
  refine WP.seq ?_
  refine WP.region rfl ?_
  refine WO.val (run_move rfl) rfl rfl rfl ?_
  refine WO.val (run_assign rfl) rfl rfl rfl ?_
  refine WO.nil ?_
  refine NX.go ?_
  refine WP.ret ?_
  have hN := names_at hi hd0 (.inr (by omega))
  refine NX.done (l := [.tmp 2]) rfl rfl ?_
  have hz := St.rf_shut rx (hS1.permT [1, 1, 1, 1, 1, 0] (L' := cel g [Value.int .i64 D.room, Value.slice rx.fa D.f.length rx.fc, Value.slice rx.na D.nm.length rx.nc, Value.slice rx.la D.last.length rx.lc, Value.slice rx.ca D.ch.length rx.cc, Value.bool D.dead, Value.int .i64 D.left] 71 :: own rx.fa D.f.length rx.fc 119 2 (D.f.flatMap fcl) :: ro rx.na D.nm.length 121 2 (D.nm.flatMap fcl) :: ro rx.la D.last.length 121 2 (D.last.flatMap fcl) :: own rx.ca D.ch.length rx.cc 146 3 (D.ch.flatMap ccl) :: own oa i oc 9 1 ((D.nm.take i).map fun e => str e.1) :: L) rfl)
  exact ⟨oa, oc, congrArg (fun z => Value.slice oa z oc) (by rw [hN]; simp; omega), own_eq (hz.permT [1, 0] rfl) (by rw [hN]; simp; omega) (by rw [hN, List.map_map]; rfl)⟩
end Go.Proofs.YtcehlnpbdffdhaaDoor.SL
