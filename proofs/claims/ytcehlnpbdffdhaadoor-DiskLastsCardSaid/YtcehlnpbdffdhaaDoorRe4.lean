/- The document's disk: what it does. -/
import Derived.Test.YtcehlnpbdffdhaaDoorRe3
namespace Go.Proofs.YtcehlnpbdffdhaaDoor.SL
open Go.RowKit Go.Proofs.YtcehlnpbdffdhaaDoor
open Go.Proofs.YtcehlnpbdffdhaaDoorW.PrintLast (rtab opsOf)
set_option linter.unusedVariables false
set_option linter.unusedSimpArgs false

theorem findN_insN {k : List UInt8} {x : Nat} : ∀ {l : Nm}, findN k l = none → findN k (insN (k, x) l) = some x
  | [], _ => by show (if k = k then some x else none) = _; rw [if_pos rfl]
  | e :: l, h => by
    unfold findN at h
    split at h
    · cases h
    · rename_i hne
      unfold insN
      split
      · show (if k = e.1 then some e.2 else findN k (insN (k, x) l)) = _
        rw [if_neg hne]; exact findN_insN h
      · show (if k = k then some x else _) = _
        rw [if_pos rfl]
theorem addTo_last (f : List (List UInt8 × Nat)) (s : List UInt8) : addTo (f ++ [([], 0)]) f.length s = f ++ [(s, 0)] := by
  unfold addTo fileAt
  rw [List.getD_eq_getElem?_getD, List.getElem?_append_right (Nat.le_refl _), Nat.sub_self]
  show (f ++ [([], 0)]).set f.length ([] ++ s, 0) = _
  rw [List.set_append_right _ _ (Nat.le_refl _), Nat.sub_self]; rfl
theorem names_at {D : Dk} {i : Nat} (hi : i ≤ D.nm.length) (h0 : D.dead = true → i = 0) (h : D.dead = true ∨ D.nm.length ≤ i) : namesD D = (D.nm.take i).map (·.1) := by
  unfold namesD
  cases hd : D.dead with
  | true => rw [if_pos rfl, h0 hd]; rfl
  | false =>
    rw [hd] at h
    have hle : D.nm.length ≤ i := h.resolve_left Bool.noConfusion
    rw [if_neg Bool.noConfusion, List.take_of_length_le hle]
theorem onWrite_of {D D1 : Dk} {b : Bool} (e1 : D1 = (writeD D).1) (e2 : (writeD D).2 = b) (k : Dk → Dk × Int) : onWrite D k = if b = true then k D1 else (D1, 11) := by
  unfold onWrite; rw [e2, e1]
theorem r4syncNames_spec {B w : World} {L : List HP} {g : Nat} {D : Dk} {n t : Nat} (hk : OkD D n t) (hS : St B (refA g D :: L) w) : Does Tryd.prog 74 [Value.pointer (some ⟨g, 0, none⟩)] w (fun v w1 => v = .int .i64 (syncNamesD D).2 ∧ St B (refA g (syncNamesD D).1 :: L) w1) := by
 obtain ⟨rx, h0⟩ := hS.rf_open
 clear hS
 have hw := hk.w
 have hcb := hk.b.ch
 have hfb := hk.b.f
 have h64 := hw.nm64
 refine enter (n := 16) Tryd.func74 rfl rfl [Value.pointer (some ⟨g, 0, none⟩)] rfl ?_
 refine WP.seq ?_
 refine WP.region rfl ?_
 refine WO.val (run_assign rfl) rfl rfl rfl ?_
 refine WO.nil ?_
 refine NX.go ?_
 refine WP.seq ?_
 refine WP.seq ?_
 refine WP.region rfl ?_
 refine WO.val (run_move rfl) rfl rfl rfl ?_
 refine WO.call rfl rfl Ty.hd98 rfl (r4write_spec hw.left hw.lrng h0) (fun v2 w1 pv2 => ?_)
 obtain ⟨hv, hS1⟩ := pv2
 clear h0
 obtain ⟨D1, eD1⟩ : ∃ qq, qq = (writeD D).1 := ⟨_, rfl⟩
 have q1 : D1 = { D with dead := wDead D.dead D.left, left := wLeft D.dead D.left } := by rw [eD1, writeD_eq]
 obtain ⟨b1, eb1⟩ : ∃ qq, qq = wOk D.dead D.left := ⟨_, rfl⟩
 have qb : (writeD D).2 = b1 := by rw [eb1, writeD_eq]
 rw [← eb1] at hv
 subst hv
 have k1 : OkD D1 n t := by rw [eD1]; exact hk.write
 have ew := onWrite_of eD1 qb
 have en : D1.nm = D.nm := by rw [q1]
 have hw1 := k1.w
 have hcb1 := k1.b.ch
 have hfb1 := k1.b.f
 have h641 := hw1.nm64
 have hS3 : St B (cel g [Value.int .i64 D1.room, Value.slice rx.fa D1.f.length rx.fc, Value.slice rx.na D1.nm.length rx.nc, Value.slice rx.la D1.last.length rx.lc, Value.slice rx.ca D1.ch.length rx.cc, Value.bool D1.dead, Value.int .i64 D1.left] 71 :: own rx.fa D1.f.length rx.fc 119 2 (D1.f.flatMap fcl) :: ro rx.na D1.nm.length 121 2 (D1.nm.flatMap fcl) :: ro rx.la D1.last.length 121 2 (D1.last.flatMap fcl) :: own rx.ca D1.ch.length rx.cc 146 3 (D1.ch.flatMap ccl) :: L) w1 := by rw [q1]; exact hS1
 clear hS1
 refine WO.val (run_not rfl rfl) rfl rfl rfl ?_
 refine WO.nil ?_
 refine NX.go ?_
 refine WP.condB rfl (fun g5 => ?_) (fun g5 => ?_)
 ·
  have hb1 : b1 = false := by simpa using g5
  refine WP.seq ?_
  refine WP.region rfl ?_
  refine WO.val (run_assign rfl) rfl rfl rfl ?_
  refine WO.nil ?_
  refine NX.go ?_
  refine WP.ret ?_
  refine NX.thenRet ?_
  refine NX.done (l := [.tmp 2]) rfl rfl ?_
  have e0 : syncNamesD D = (D1, 11) := by unfold syncNamesD; rw [ew, if_neg (by rw [hb1]; exact Bool.noConfusion)]
  rw [e0]
  exact ⟨rfl, St.rf_shut rx (hS3.permT [0, 0, 0, 0, 0] (L' := cel g [Value.int .i64 D1.room, Value.slice rx.fa D1.f.length rx.fc, Value.slice rx.na D1.nm.length rx.nc, Value.slice rx.la D1.last.length rx.lc, Value.slice rx.ca D1.ch.length rx.cc, Value.bool D1.dead, Value.int .i64 D1.left] 71 :: own rx.fa D1.f.length rx.fc 119 2 (D1.f.flatMap fcl) :: ro rx.na D1.nm.length 121 2 (D1.nm.flatMap fcl) :: ro rx.la D1.last.length 121 2 (D1.last.flatMap fcl) :: own rx.ca D1.ch.length rx.cc 146 3 (D1.ch.flatMap ccl) :: L) rfl)⟩
 ·
  have hb1 : b1 = true := by simpa using g5
  refine WP.skip ?_
  refine NX.go ?_
  refine WP.seq ?_
  refine WP.region rfl ?_
  refine WO.val (run_move rfl) rfl rfl rfl ?_
  refine WO.val (run_move rfl) rfl rfl rfl ?_
  refine WO.val (run_nilCheck rfl) rfl rfl rfl ?_
  refine WO.val (run_fieldAddr (q := ⟨g, 2, none⟩) (show fieldB Tryd.prog 71 2 = some 2 from by kernel_rfl) rfl rfl) rfl rfl rfl ?_
  refine WO.val (run_load Ty.ag68 rfl ((hS3.cel_at 0 rfl 2).trans rfl)) rfl rfl rfl ?_
  refine WO.val (run_nilCheck rfl) rfl rfl rfl ?_
  refine WO.val (run_fieldAddr (q := ⟨g, 3, none⟩) (show fieldB Tryd.prog 71 3 = some 3 from by kernel_rfl) rfl rfl) rfl rfl rfl ?_
  refine WO.store (l' := [Value.int .i64 D1.room, Value.slice rx.fa D1.f.length rx.fc, Value.slice rx.na D1.nm.length rx.nc, Value.slice rx.na D1.nm.length rx.nc, Value.slice rx.ca D1.ch.length rx.cc, Value.bool D1.dead, Value.int .i64 D1.left]) 0 hS3 rfl Ty.sz68 rfl rfl rfl rfl rfl (Nat.le_of_ble_eq_true rfl) rfl (fun w4 (hS4 : St B (cel g [Value.int .i64 D1.room, Value.slice rx.fa D1.f.length rx.fc, Value.slice rx.na D1.nm.length rx.nc, Value.slice rx.na D1.nm.length rx.nc, Value.slice rx.ca D1.ch.length rx.cc, Value.bool D1.dead, Value.int .i64 D1.left] 71 :: own rx.fa D1.f.length rx.fc 119 2 (D1.f.flatMap fcl) :: ro rx.na D1.nm.length 121 2 (D1.nm.flatMap fcl) :: ro rx.la D1.last.length 121 2 (D1.last.flatMap fcl) :: own rx.ca D1.ch.length rx.cc 146 3 (D1.ch.flatMap ccl) :: L) w4) => ?_)
  clear hS3
  refine WO.nil ?_
  refine NX.go ?_
  refine WP.seq ?_
  refine WP.region rfl ?_
  refine WO.val (run_move rfl) rfl rfl rfl ?_
  refine WO.val (run_nilCheck rfl) rfl rfl rfl ?_
  refine WO.val (run_fieldAddr (q := ⟨g, 4, none⟩) (show fieldB Tryd.prog 71 4 = some 4 from by kernel_rfl) rfl rfl) rfl rfl rfl ?_
  refine WO.store (l' := [Value.int .i64 D1.room, Value.slice rx.fa D1.f.length rx.fc, Value.slice rx.na D1.nm.length rx.nc, Value.slice rx.na D1.nm.length rx.nc, Value.slice none 0 0, Value.bool D1.dead, Value.int .i64 D1.left]) 0 hS4 rfl Ty.sz69 rfl rfl rfl rfl rfl (Nat.le_of_ble_eq_true rfl) rfl (fun w5 (hS5 : St B (cel g [Value.int .i64 D1.room, Value.slice rx.fa D1.f.length rx.fc, Value.slice rx.na D1.nm.length rx.nc, Value.slice rx.na D1.nm.length rx.nc, Value.slice none 0 0, Value.bool D1.dead, Value.int .i64 D1.left] 71 :: own rx.fa D1.f.length rx.fc 119 2 (D1.f.flatMap fcl) :: ro rx.na D1.nm.length 121 2 (D1.nm.flatMap fcl) :: ro rx.la D1.last.length 121 2 (D1.last.flatMap fcl) :: own rx.ca D1.ch.length rx.cc 146 3 (D1.ch.flatMap ccl) :: L) w5) => ?_)
  clear hS4
  refine WO.nil ?_
  refine NX.go ?_
  refine WP.seq ?_
  refine WP.region rfl ?_
  refine WO.val (run_assign rfl) rfl rfl rfl ?_
  refine WO.nil ?_
  refine NX.go ?_
  refine WP.ret ?_
  have hd := St.dup (ro_pers _ _ _ _ _) (hS5.permT [2] rfl)
  have hd2 := (hd.own_nil 146 3)
  refine NX.done (l := [.tmp 2]) rfl rfl ?_
  have e0 : syncNamesD D = ({ D1 with last := D1.nm, ch := [] }, 0) := by unfold syncNamesD; rw [ew, if_pos hb1]; rfl
  rw [e0]
  exact ⟨rfl, St.rf_shut (D := { D1 with last := D1.nm, ch := [] }) ⟨rx.fa, rx.fc, rx.na, rx.nc, rx.na, rx.nc, none, 0⟩ (hd2.permT [5, 5, 3, 3, 1, 1, 0] (L' := ro rx.la D1.last.length 121 2 (D1.last.flatMap fcl) :: own rx.ca D1.ch.length rx.cc 146 3 (D1.ch.flatMap ccl) :: cel g [Value.int .i64 D1.room, Value.slice rx.fa D1.f.length rx.fc, Value.slice rx.na D1.nm.length rx.nc, Value.slice rx.na D1.nm.length rx.nc, Value.slice none 0 0, Value.bool D1.dead, Value.int .i64 D1.left] 71 :: own rx.fa D1.f.length rx.fc 119 2 (D1.f.flatMap fcl) :: ro rx.na D1.nm.length 121 2 (D1.nm.flatMap fcl) :: ro rx.na D1.nm.length 121 2 (D1.nm.flatMap fcl) :: own none 0 0 146 3 [] :: L) rfl).drop.drop⟩
theorem r4sync_spec_t7 : rtab .any (opsOf Tryd.f70 7) = (true, [([], []), ([0], [0]), ([1], [1]), ([2], [2]), ([], []), ([], []), ([5], [5]), ([6], [6]), ([7], [7]), ([], []), ([8, 9], [8, 9]), ([10], [10]), ([11], [11]), ([12], [12]), ([3, 4, 0, 1, 2, 3, 4, 5, 6, 7, 8, 9, 10, 11, 12, 13], [3, 4]), ([14, 0, 1, 2, 3, 4, 5, 6, 7, 8, 9, 10, 11, 12, 13], [14]), ([15, 13, 0, 1, 2, 3, 4, 5, 6, 7, 8, 9, 10, 11, 12, 13], [13, 15])]) := by kernel_rfl
theorem r4sync_spec {B w : World} {L : List HP} {g : Nat} {D : Dk} {n t : Nat} (hk : OkD D n t) (hn1 : n ≤ 1000000000) (ht : t ≤ 1099511627776) (k : List UInt8) (hS : St B (refA g D :: L) w) : Does Tryd.prog 70 [Value.pointer (some ⟨g, 0, none⟩), str k] w (fun v w1 => v = .int .i64 (syncD D k).2 ∧ St B (refA g (syncD D k).1 :: L) w1) := by
 obtain ⟨rx, h0⟩ := hS.rf_open
 clear hS
 have hw := hk.w
 have hcb := hk.b.ch
 have hfb := hk.b.f
 have h64 := hw.nm64
 refine enter (n := 44) Tryd.func70 rfl rfl [Value.pointer (some ⟨g, 0, none⟩), str k] rfl ?_
 refine WP.seq ?_
 refine WP.region rfl ?_
 refine WO.val (run_assign rfl) rfl rfl rfl ?_
 refine WO.nil ?_
 refine NX.go ?_
 refine WP.seq ?_
 refine WP.region rfl ?_
 refine WO.val (run_move rfl) rfl rfl rfl ?_
 refine WO.val (run_nilCheck rfl) rfl rfl rfl ?_
 refine WO.val (run_fieldAddr (q := ⟨g, 2, none⟩) (show fieldB Tryd.prog 71 2 = some 2 from by kernel_rfl) rfl rfl) rfl rfl rfl ?_
 refine WO.val (run_load Ty.ag68 rfl ((h0.cel_at 0 rfl 2).trans rfl)) rfl rfl rfl ?_
 refine WO.val (run_move rfl) rfl rfl rfl ?_
 have hS1 := h0.permT [2, 0, 0, 0, 0] (L' := ro rx.na D.nm.length 121 2 (D.nm.flatMap fcl) :: cel g [Value.int .i64 D.room, Value.slice rx.fa D.f.length rx.fc, Value.slice rx.na D.nm.length rx.nc, Value.slice rx.la D.last.length rx.lc, Value.slice rx.ca D.ch.length rx.cc, Value.bool D.dead, Value.int .i64 D.left] 71 :: own rx.fa D.f.length rx.fc 119 2 (D.f.flatMap fcl) :: ro rx.la D.last.length 121 2 (D.last.flatMap fcl) :: own rx.ca D.ch.length rx.cc 146 3 (D.ch.flatMap ccl) :: L) rfl
 clear h0
 refine WO.call rfl rfl Ty.hd77 rfl (r4at_spec (fun h => h.ro_rd) k (by omega) hS1) (fun v3 w2 pv3 => ?_)
 obtain ⟨r, rfl, hat, hS2⟩ := pv3
 clear hS1
 refine WO.val (run_assign rfl) rfl rfl rfl ?_
 refine WO.nil ?_
 refine NX.go ?_
 refine WP.seq ?_
 refine WP.block ?_
 refine WP.seq ?_
 refine WP.region rfl ?_
 refine WO.val (run_move rfl) rfl rfl rfl ?_
 have hS4 := hS2.permT [1, 0, 0, 0, 0] (L' := cel g [Value.int .i64 D.room, Value.slice rx.fa D.f.length rx.fc, Value.slice rx.na D.nm.length rx.nc, Value.slice rx.la D.last.length rx.lc, Value.slice rx.ca D.ch.length rx.cc, Value.bool D.dead, Value.int .i64 D.left] 71 :: ro rx.na D.nm.length 121 2 (D.nm.flatMap fcl) :: own rx.fa D.f.length rx.fc 119 2 (D.f.flatMap fcl) :: ro rx.la D.last.length 121 2 (D.last.flatMap fcl) :: own rx.ca D.ch.length rx.cc 146 3 (D.ch.flatMap ccl) :: L) rfl
 clear hS2
 refine WO.call rfl rfl Ty.hd98 rfl (r4write_spec hw.left hw.lrng hS4) (fun v6 w5 pv6 => ?_)
 obtain ⟨hv, hS5⟩ := pv6
 clear hS4
 obtain ⟨D1, eD1⟩ : ∃ qq, qq = (writeD D).1 := ⟨_, rfl⟩
 have q1 : D1 = { D with dead := wDead D.dead D.left, left := wLeft D.dead D.left } := by rw [eD1, writeD_eq]
 obtain ⟨b1, eb1⟩ : ∃ qq, qq = wOk D.dead D.left := ⟨_, rfl⟩
 have qb : (writeD D).2 = b1 := by rw [eb1, writeD_eq]
 rw [← eb1] at hv
 subst hv
 have k1 : OkD D1 n t := by rw [eD1]; exact hk.write
 have ew := onWrite_of eD1 qb
 have en : D1.nm = D.nm := by rw [q1]
 have hw1 := k1.w
 have hcb1 := k1.b.ch
 have hfb1 := k1.b.f
 have h641 := hw1.nm64
 have hS7 : St B (cel g [Value.int .i64 D1.room, Value.slice rx.fa D1.f.length rx.fc, Value.slice rx.na D1.nm.length rx.nc, Value.slice rx.la D1.last.length rx.lc, Value.slice rx.ca D1.ch.length rx.cc, Value.bool D1.dead, Value.int .i64 D1.left] 71 :: own rx.fa D1.f.length rx.fc 119 2 (D1.f.flatMap fcl) :: ro rx.na D1.nm.length 121 2 (D1.nm.flatMap fcl) :: ro rx.la D1.last.length 121 2 (D1.last.flatMap fcl) :: own rx.ca D1.ch.length rx.cc 146 3 (D1.ch.flatMap ccl) :: L) w5 := by rw [q1]; exact (hS5.permT [0, 1, 0, 0, 0] (L' := cel g [Value.int .i64 D.room, Value.slice rx.fa D.f.length rx.fc, Value.slice rx.na D.nm.length rx.nc, Value.slice rx.la D.last.length rx.lc, Value.slice rx.ca D.ch.length rx.cc, Value.bool (wDead D.dead D.left), Value.int .i64 (wLeft D.dead D.left)] 71 :: own rx.fa D.f.length rx.fc 119 2 (D.f.flatMap fcl) :: ro rx.na D.nm.length 121 2 (D.nm.flatMap fcl) :: ro rx.la D.last.length 121 2 (D.last.flatMap fcl) :: own rx.ca D.ch.length rx.cc 146 3 (D.ch.flatMap ccl) :: L) rfl)
 clear hS5
 rw [← en] at hat
 refine WO.val (run_not rfl rfl) rfl rfl rfl ?_
 refine WO.val (run_assign rfl) rfl rfl rfl ?_
 refine WO.nil ?_
 refine NX.go ?_
 refine WP.condB rfl (fun g13 => ?_) (fun g13 => ?_)
 ·
  have hb1 : b1 = false := by simpa using g13
  refine WP.seq ?_
  refine WP.region rfl ?_
  refine WO.val (run_assign rfl) rfl rfl rfl ?_
  refine WO.nil ?_
  refine NX.go ?_
  refine WP.ret ?_
  refine NX.blkRet ?_
  refine NX.thenRet ?_
  refine NX.done (l := [.tmp 4]) rfl rfl ?_
  have e0 : syncD D k = (D1, 11) := by unfold syncD; rw [ew, if_neg (by rw [hb1]; exact Bool.noConfusion)]
  rw [e0]
  exact ⟨rfl, St.rf_shut rx (hS7.permT [0, 0, 0, 0, 0] (L' := cel g [Value.int .i64 D1.room, Value.slice rx.fa D1.f.length rx.fc, Value.slice rx.na D1.nm.length rx.nc, Value.slice rx.la D1.last.length rx.lc, Value.slice rx.ca D1.ch.length rx.cc, Value.bool D1.dead, Value.int .i64 D1.left] 71 :: own rx.fa D1.f.length rx.fc 119 2 (D1.f.flatMap fcl) :: ro rx.na D1.nm.length 121 2 (D1.nm.flatMap fcl) :: ro rx.la D1.last.length 121 2 (D1.last.flatMap fcl) :: own rx.ca D1.ch.length rx.cc 146 3 (D1.ch.flatMap ccl) :: L) rfl)⟩
 ·
  have hb1 : b1 = true := by simpa using g13
  refine WP.seq ?_
  refine WP.region rfl ?_
  refine WO.val (run_move rfl) rfl rfl rfl ?_
  refine WO.val (run_lss rfl rfl) rfl rfl rfl ?_
  refine WO.val (run_assign rfl) rfl rfl rfl ?_
  refine WO.nil ?_
  refine NX.go ?_
  refine WP.condP rfl (fun g17 => ?_) (fun g17 => ?_)
  ·
   have hnone : findN k D1.nm = none := by rcases hat with h | ⟨i, e, h, _⟩; exact h.1; omega
   refine WP.seq ?_
   refine WP.region rfl ?_
   refine WO.val (run_assign rfl) rfl rfl rfl ?_
   refine WO.nil ?_
   refine NX.go ?_
   refine WP.ret ?_
   refine NX.blkRet ?_
   refine NX.thenRet ?_
   refine NX.done (l := [.tmp 4]) rfl rfl ?_
   have e0 : syncD D k = (D1, 12) := by unfold syncD; rw [ew, if_pos hb1]; unfold sync1; rw [hnone]
   rw [e0]
   exact ⟨rfl, St.rf_shut rx (hS7.permT [0, 0, 0, 0, 0] (L' := cel g [Value.int .i64 D1.room, Value.slice rx.fa D1.f.length rx.fc, Value.slice rx.na D1.nm.length rx.nc, Value.slice rx.la D1.last.length rx.lc, Value.slice rx.ca D1.ch.length rx.cc, Value.bool D1.dead, Value.int .i64 D1.left] 71 :: own rx.fa D1.f.length rx.fc 119 2 (D1.f.flatMap fcl) :: ro rx.na D1.nm.length 121 2 (D1.nm.flatMap fcl) :: ro rx.la D1.last.length 121 2 (D1.last.flatMap fcl) :: own rx.ca D1.ch.length rx.cc 146 3 (D1.ch.flatMap ccl) :: L) rfl)⟩
  ·
   obtain ⟨i, e, hri, he, hek, hfi⟩ : ∃ i e, r = ((i : Nat) : Int) ∧ D1.nm[i]? = some e ∧ e.1 = k ∧ findN k D1.nm = some e.2 := by rcases hat with ⟨_, h⟩ | h; omega; exact h
   have hil := (List.getElem?_eq_some_iff.1 he).1
   clear hat
   subst hri
   refine WP.skip ?_
   refine NX.blk ?_
   refine NX.go ?_
   refine WP.seq ?_
   have hsrxna : rx.na.isSome = true := by obtain ⟨q, hq, _⟩ := ((hS7.ro_rd_i 2 rfl)).2.1 (by omega); rw [hq]; rfl
   refine WP.region rfl ?_
   refine WO.val (run_move rfl) rfl rfl rfl ?_
   refine WO.val (run_nilCheck rfl) rfl rfl rfl ?_
   refine WO.val (run_fieldAddr (q := ⟨g, 2, none⟩) (show fieldB Tryd.prog 71 2 = some 2 from by kernel_rfl) rfl rfl) rfl rfl rfl ?_
   refine WO.val (run_load Ty.ag68 rfl ((hS7.cel_at 0 rfl 2).trans rfl)) rfl rfl rfl ?_
   refine WO.val (run_move rfl) rfl rfl rfl ?_
   refine WO.val (run_indexAddr (q := adr rx.na (i * 2)) Tryd.underlying68 Ty.sz121 rfl rfl (by omega) (by omega) ((hS7.ro_rd_i 2 rfl).2.1 (by omega)) rfl) rfl rfl rfl ?_
   refine WO.val (run_fieldAddr (q := (adr rx.na (i * 2 + 1))) (show fieldB Tryd.prog 121 1 = some 1 from by kernel_rfl) rfl (adr_add _ (by assumption) _ _)) rfl rfl rfl ?_
   refine WO.val (run_load Ty.ag3 rfl ((hS7.ro_rd_i 2 rfl).cell ((flat_get fcl_len he (j := 1) (by decide)).trans rfl))) rfl rfl rfl ?_
   refine WO.val (run_assign rfl) rfl rfl rfl ?_
   refine WO.nil ?_
   refine NX.go ?_
   refine WP.seq ?_
   have hlt : e.2 < D1.f.length := (hw1.good.f e (List.mem_of_getElem? he)).2
   have hfe := fileAt_get hlt
   have hft := k1.b.t _ (fileAt_mem hlt)
   have hsrxfa : rx.fa.isSome = true := by obtain ⟨q, hq, _⟩ := ((hS7.own_rd_i 1 rfl)).2.1 (by omega); rw [hq]; rfl
   refine WD.start (fun w => (∀ j, World.cell? w ⟨g, j, none⟩ = [Value.int .i64 D1.room, Value.slice rx.fa D1.f.length rx.fc, Value.slice rx.na D1.nm.length rx.nc, Value.slice rx.la D1.last.length rx.lc, Value.slice rx.ca D1.ch.length rx.cc, Value.bool D1.dead, Value.int .i64 D1.left][j]?) ∧ Rd w rx.fa D1.f.length 2 (D1.f.flatMap fcl)) [16] #[false, false, false, false, false, false, false, false, false, false, false, false, false, false, false, false, false] Ty.mo rfl (by kernel_rfl) hS7 (fun _ h => ⟨h.cel_at 0 rfl, (h.own_rd_i 1 rfl)⟩) (fun w8 hS8 s9 => ?_)
   clear hS7
   refine WD.pure (i := 0) r4sync_spec_t7 #[true, false, false, false, false, false, false, false, false, false, false, false, false, false, false, false, false] rfl rfl rfl (by kernel_rfl) (PQ.then PQ.body) rfl (fun w => run_move rfl) ?_
   refine WD.pure (i := 1) r4sync_spec_t7 #[true, true, false, false, false, false, false, false, false, false, false, false, false, false, false, false, false] rfl rfl rfl (by kernel_rfl) (PQ.then PQ.body) rfl (fun w => run_nilCheck rfl) ?_
   refine WD.pure (i := 2) r4sync_spec_t7 #[true, true, true, false, false, false, false, false, false, false, false, false, false, false, false, false, false] rfl rfl rfl (by kernel_rfl) (PQ.then PQ.body) rfl (fun w => run_fieldAddr (q := ⟨g, 1, none⟩) (show fieldB Tryd.prog 71 1 = some 1 from by kernel_rfl) rfl rfl) ?_
   refine WD.take (i := 3) r4sync_spec_t7 #[true, true, true, true, false, false, false, false, false, false, false, false, false, false, false, false, false] s9 rfl rfl rfl (by kernel_rfl) (PQ.then PQ.body) rfl (fun w hs => run_load Ty.ag67 rfl ((hs.1 1).trans rfl)) ?_
   refine WD.pure (i := 4) r4sync_spec_t7 #[true, true, true, true, true, false, false, false, false, false, false, false, false, false, false, false, false] rfl rfl rfl (by kernel_rfl) (PQ.then PQ.body) rfl (fun w => run_move rfl) ?_
   refine WD.pure (i := 5) r4sync_spec_t7 #[true, true, true, true, true, true, false, false, false, false, false, false, false, false, false, false, false] rfl rfl rfl (by kernel_rfl) (PQ.then PQ.body) rfl (fun w => run_move rfl) ?_
   refine WD.pure (i := 6) r4sync_spec_t7 #[true, true, true, true, true, true, true, false, false, false, false, false, false, false, false, false, false] rfl rfl rfl (by kernel_rfl) (PQ.then PQ.body) rfl (fun w => run_nilCheck rfl) ?_
   refine WD.pure (i := 7) r4sync_spec_t7 #[true, true, true, true, true, true, true, true, false, false, false, false, false, false, false, false, false] rfl rfl rfl (by kernel_rfl) (PQ.then PQ.body) rfl (fun w => run_fieldAddr (q := ⟨g, 1, none⟩) (show fieldB Tryd.prog 71 1 = some 1 from by kernel_rfl) rfl rfl) ?_
   refine WD.take (i := 8) r4sync_spec_t7 #[true, true, true, true, true, true, true, true, true, false, false, false, false, false, false, false, false] s9 rfl rfl rfl (by kernel_rfl) (PQ.then PQ.body) rfl (fun w hs => run_load Ty.ag67 rfl ((hs.1 1).trans rfl)) ?_
   refine WD.pure (i := 9) r4sync_spec_t7 #[true, true, true, true, true, true, true, true, true, true, false, false, false, false, false, false, false] rfl rfl rfl (by kernel_rfl) (PQ.then PQ.body) rfl (fun w => run_move rfl) ?_
   refine WD.take (i := 10) r4sync_spec_t7 #[true, true, true, true, true, true, true, true, true, true, true, false, false, false, false, false, false] s9 rfl rfl rfl (by kernel_rfl) (PQ.then PQ.body) rfl (fun w hs => run_indexAddr (q := adr rx.fa (e.2 * 2)) Tryd.underlying67 Ty.sz119 rfl rfl (by omega) (by omega) ((hs.2).2.1 (by omega)) rfl) ?_
   refine WD.pure (i := 11) r4sync_spec_t7 #[true, true, true, true, true, true, true, true, true, true, true, true, false, false, false, false, false] rfl rfl rfl (by kernel_rfl) (PQ.then PQ.body) rfl (fun w => run_fieldAddr (q := (adr rx.fa (e.2 * 2 + 0))) (show fieldB Tryd.prog 119 0 = some 0 from by kernel_rfl) rfl (adr_add _ (by assumption) _ _)) ?_
   refine WD.take (i := 12) r4sync_spec_t7 #[true, true, true, true, true, true, true, true, true, true, true, true, true, false, false, false, false] s9 rfl rfl rfl (by kernel_rfl) (PQ.then PQ.body) rfl (fun w hs => run_load Ty.ag9 rfl ((hs.2).cell ((flat_get fcl_len hfe (j := 0) (by decide)).trans rfl))) ?_
   refine WD.pure (i := 13) r4sync_spec_t7 #[true, true, true, true, true, true, true, true, true, true, true, true, true, true, false, false, false] rfl rfl rfl (by kernel_rfl) (PQ.then PQ.body) rfl (fun w => run_lenS rfl Tryd.underlying9 rfl) ?_
   refine WD.take (i := 14) r4sync_spec_t7 #[true, true, true, true, true, true, true, true, true, true, true, true, true, true, true, false, false] s9 rfl rfl rfl (by kernel_rfl) (PQ.then PQ.body) rfl (fun w hs => run_indexAddr (q := adr rx.fa (e.2 * 2)) Tryd.underlying67 Ty.sz119 rfl rfl (by omega) (by omega) ((hs.2).2.1 (by omega)) rfl) ?_
   refine WD.pure (i := 15) r4sync_spec_t7 #[true, true, true, true, true, true, true, true, true, true, true, true, true, true, true, true, false] rfl rfl rfl (by kernel_rfl) (PQ.then PQ.body) rfl (fun w => run_fieldAddr (q := (adr rx.fa (e.2 * 2 + 1))) (show fieldB Tryd.prog 119 1 = some 1 from by kernel_rfl) rfl (adr_add _ (by assumption) _ _)) ?_
   refine WD.one (i := 16) r4sync_spec_t7 #[true, true, true, true, true, true, true, true, true, true, true, true, true, true, true, true, true] rfl (by kernel_rfl) ?_
   refine WO.storeOwnAt 1 hS8 rfl Ty.sz3 rfl rfl rfl rfl (by rw [flat_len fcl_len]; omega) (fun w10 hS10 => ?_)
   replace hS10 : St B (cel g [Value.int .i64 D1.room, Value.slice rx.fa D1.f.length rx.fc, Value.slice rx.na D1.nm.length rx.nc, Value.slice rx.la D1.last.length rx.lc, Value.slice rx.ca D1.ch.length rx.cc, Value.bool D1.dead, Value.int .i64 D1.left] 71 :: own rx.fa D1.f.length rx.fc 119 2 ((D1.f.set e.2 ((fileAt D1.f e.2).1, (fileAt D1.f e.2).1.length)).flatMap fcl) :: ro rx.na D1.nm.length 121 2 (D1.nm.flatMap fcl) :: ro rx.la D1.last.length 121 2 (D1.last.flatMap fcl) :: own rx.ca D1.ch.length rx.cc 146 3 (D1.ch.flatMap ccl) :: L) w10 := (by have z := hS10; rw [flat_set fcl_len hfe (j := 1) (y := ((fileAt D1.f e.2).1, (fileAt D1.f e.2).1.length)) (by decide) rfl] at z; exact z)
   clear hS8
   refine WO.nil ?_
   refine NX.last (by decide) ?_
   refine WD.done r4sync_spec_t7 (by kernel_rfl) ?_
   refine NX.go ?_
   refine WP.seq ?_
   refine WP.region rfl ?_
   refine WO.val (run_assign rfl) rfl rfl rfl ?_
   refine WO.nil ?_
   refine NX.go ?_
   refine WP.ret ?_
   have el : (D1.f.set e.2 ((fileAt D1.f e.2).1, (fileAt D1.f e.2).1.length)).length = D1.f.length := List.length_set
   refine NX.done (l := [.tmp 4]) rfl rfl ?_
   have e0 : syncD D k = ({ D1 with f := D1.f.set e.2 ((fileAt D1.f e.2).1, (fileAt D1.f e.2).1.length) }, 0) := by unfold syncD; rw [ew, if_pos hb1]; unfold sync1; rw [hfi]
   rw [e0]
   refine ⟨rfl, St.rf_shut (D := { D1 with f := D1.f.set e.2 ((fileAt D1.f e.2).1, (fileAt D1.f e.2).1.length) }) rx ?_⟩
   show St B (_ :: _) _
   have hz := (hS10.permT [0, 0, 0, 0, 0] (L' := cel g [Value.int .i64 D1.room, Value.slice rx.fa D1.f.length rx.fc, Value.slice rx.na D1.nm.length rx.nc, Value.slice rx.la D1.last.length rx.lc, Value.slice rx.ca D1.ch.length rx.cc, Value.bool D1.dead, Value.int .i64 D1.left] 71 :: own rx.fa D1.f.length rx.fc 119 2 ((D1.f.set e.2 ((fileAt D1.f e.2).1, (fileAt D1.f e.2).1.length)).flatMap fcl) :: ro rx.na D1.nm.length 121 2 (D1.nm.flatMap fcl) :: ro rx.la D1.last.length 121 2 (D1.last.flatMap fcl) :: own rx.ca D1.ch.length rx.cc 146 3 (D1.ch.flatMap ccl) :: L) rfl)
   rw [← el] at hz
   exact hz
end Go.Proofs.YtcehlnpbdffdhaaDoor.SL
