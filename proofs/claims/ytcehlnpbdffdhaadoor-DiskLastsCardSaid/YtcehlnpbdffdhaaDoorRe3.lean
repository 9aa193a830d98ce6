/- The document's disk: what it holds. -/
import Derived.Test.YtcehlnpbdffdhaaDoorRe2
namespace Go.Proofs.YtcehlnpbdffdhaaDoor.SL
open Go.RowKit Go.Proofs.YtcehlnpbdffdhaaDoor
open Go.Proofs.YtcehlnpbdffdhaaDoorW.PrintLast (rtab opsOf)
set_option linter.unusedVariables false
set_option linter.unusedSimpArgs false
theorem r4change_spec_t1 : rtab .any (opsOf Tryd.f100 1) = (true, [([], []), ([], []), ([1], [1]), ([2], [2]), ([3], [3]), ([], []), ([4, 5], [4, 5]), ([0, 0, 1, 2, 3, 4, 5, 6], [0]), ([7, 0, 1, 2, 3, 4, 5, 6], [7]), ([8, 6, 6, 0, 1, 2, 3, 4, 5, 6], [6, 8])]) := by kernel_rfl
theorem r4change_spec_t2 : rtab .any (opsOf Tryd.f100 2) = (true, [([], []), ([], []), ([1], [1]), ([2], [2]), ([3], [3]), ([], []), ([5], [5]), ([4, 6], [4, 6]), ([0, 0, 1, 2, 3, 4, 5, 6, 7], [0]), ([8, 0, 1, 2, 3, 4, 5, 6, 7], [8]), ([9, 7, 7, 0, 1, 2, 3, 4, 5, 6, 7], [7, 9])]) := by kernel_rfl
theorem r4change_spec {B w : World} {L : List HP} {g : Nat} {D : Dk} {rx : RX} (c : Chg) (hl : D.nm.length ≤ 4294967296) (hcl : D.ch.length ≤ 1099511627776) (hS : St B (cel g [Value.int .i64 D.room, Value.slice rx.fa D.f.length rx.fc, Value.slice rx.na D.nm.length rx.nc, Value.slice rx.la D.last.length rx.lc, Value.slice rx.ca D.ch.length rx.cc, Value.bool D.dead, Value.int .i64 D.left] 71 :: own rx.fa D.f.length rx.fc 119 2 (D.f.flatMap fcl) :: ro rx.na D.nm.length 121 2 (D.nm.flatMap fcl) :: ro rx.la D.last.length 121 2 (D.last.flatMap fcl) :: own rx.ca D.ch.length rx.cc 146 3 (D.ch.flatMap ccl) :: L) w) : Does Tryd.prog 100 [Value.pointer (some ⟨g, 0, none⟩), Value.agg #[str c.fr, str c.tn, Value.int .i64 (c.fi : Int)]] w (fun v w1 => ∃ rx2 : RX, v = .tuple #[] ∧ St B (cel g [Value.int .i64 ((changeD D c).room), Value.slice rx2.fa ((changeD D c).f.length) rx2.fc, Value.slice rx2.na ((changeD D c).nm.length) rx2.nc, Value.slice rx2.la ((changeD D c).last.length) rx2.lc, Value.slice rx2.ca ((changeD D c).ch.length) rx2.cc, Value.bool ((changeD D c).dead), Value.int .i64 ((changeD D c).left)] 71 :: own rx2.fa ((changeD D c).f.length) rx2.fc 119 2 ((changeD D c).f.flatMap fcl) :: ro rx2.na ((changeD D c).nm.length) 121 2 ((changeD D c).nm.flatMap fcl) :: ro rx2.la ((changeD D c).last.length) 121 2 ((changeD D c).last.flatMap fcl) :: own rx2.ca ((changeD D c).ch.length) rx2.cc 146 3 ((changeD D c).ch.flatMap ccl) :: L) w1) := by
 refine enter (n := 23) Tryd.func100 rfl rfl [Value.pointer (some ⟨g, 0, none⟩), Value.agg #[str c.fr, str c.tn, Value.int .i64 (c.fi : Int)]] rfl ?_
 refine WP.seq ?_
 refine WP.region rfl ?_
 refine WO.box (l := [str c.fr, str c.tn, Value.int .i64 (c.fi : Int)]) hS rfl rfl rfl (fun g2 w1 lg2 hS1 => ?_)
 clear hS
 refine WO.nil ?_
 refine NX.go ?_
 refine WP.seq ?_
 refine WD.start (fun w => (∀ j, World.cell? w ⟨g2, j, none⟩ = [str c.fr, str c.tn, Value.int .i64 (c.fi : Int)][j]?) ∧ (∀ j, World.cell? w ⟨g, j, none⟩ = [Value.int .i64 D.room, Value.slice rx.fa D.f.length rx.fc, Value.slice rx.na D.nm.length rx.nc, Value.slice rx.la D.last.length rx.lc, Value.slice rx.ca D.ch.length rx.cc, Value.bool D.dead, Value.int .i64 D.left][j]?)) [9] #[false, false, false, false, false, false, false, false, false, false] Ty.mo rfl (by kernel_rfl) hS1 (fun _ h => ⟨h.cel_at 0 rfl, h.cel_at 1 rfl⟩) (fun w3 hS3 s4 => ?_)
 clear hS1
 refine WD.pure (i := 0) r4change_spec_t1 #[true, false, false, false, false, false, false, false, false, false] rfl rfl rfl (by kernel_rfl) (PQ.then PQ.body) rfl (fun w => run_move rfl) ?_
 refine WD.pure (i := 1) r4change_spec_t1 #[true, true, false, false, false, false, false, false, false, false] rfl rfl rfl (by kernel_rfl) (PQ.then PQ.body) rfl (fun w => run_move rfl) ?_
 refine WD.pure (i := 2) r4change_spec_t1 #[true, true, true, false, false, false, false, false, false, false] rfl rfl rfl (by kernel_rfl) (PQ.then PQ.body) rfl (fun w => run_nilCheck rfl) ?_
 refine WD.pure (i := 3) r4change_spec_t1 #[true, true, true, true, false, false, false, false, false, false] rfl rfl rfl (by kernel_rfl) (PQ.then PQ.body) rfl (fun w => run_fieldAddr (q := ⟨g, 2, none⟩) (show fieldB Tryd.prog 71 2 = some 2 from by kernel_rfl) rfl rfl) ?_
 refine WD.take (i := 4) r4change_spec_t1 #[true, true, true, true, true, false, false, false, false, false] s4 rfl rfl rfl (by kernel_rfl) (PQ.then PQ.body) rfl (fun w hs => run_load Ty.ag68 rfl ((hs.2 2).trans rfl)) ?_
 refine WD.take (i := 5) r4change_spec_t1 #[true, true, true, true, true, true, false, false, false, false] s4 rfl rfl rfl (by kernel_rfl) (PQ.then PQ.body) rfl (fun w hs => run_loadAgg (vs := [str c.fr, str c.tn, Value.int .i64 (c.fi : Int)]) Ty.ag146 Ty.sz146 rfl rfl (cell_all (hs.1) 0 rfl)) ?_
 refine WD.one (i := 6) r4change_spec_t1 #[true, true, true, true, true, true, true, false, false, false] rfl (by kernel_rfl) ?_
 have hS5 := hS3.permT [3, 0, 0, 0, 0, 0] (L' := ro rx.na D.nm.length 121 2 (D.nm.flatMap fcl) :: cel g2 [str c.fr, str c.tn, Value.int .i64 (c.fi : Int)] 146 :: cel g [Value.int .i64 D.room, Value.slice rx.fa D.f.length rx.fc, Value.slice rx.na D.nm.length rx.nc, Value.slice rx.la D.last.length rx.lc, Value.slice rx.ca D.ch.length rx.cc, Value.bool D.dead, Value.int .i64 D.left] 71 :: own rx.fa D.f.length rx.fc 119 2 (D.f.flatMap fcl) :: ro rx.la D.last.length 121 2 (D.last.flatMap fcl) :: own rx.ca D.ch.length rx.cc 146 3 (D.ch.flatMap ccl) :: L) rfl
 clear hS3
 refine WO.call rfl rfl Ty.hd103 rfl (r4apply_spec (fun h => h.ro_rd) c hl hS5) (fun v7 w6 pv7 => ?_)
 obtain ⟨a1, c1, rfl, hS6⟩ := pv7
 clear hS5
 refine WO.nil ?_
 have s8 : (∀ j, World.cell? w6 ⟨g2, j, none⟩ = [str c.fr, str c.tn, Value.int .i64 (c.fi : Int)][j]?) ∧ (∀ j, World.cell? w6 ⟨g, j, none⟩ = [Value.int .i64 D.room, Value.slice rx.fa D.f.length rx.fc, Value.slice rx.na D.nm.length rx.nc, Value.slice rx.la D.last.length rx.lc, Value.slice rx.ca D.ch.length rx.cc, Value.bool D.dead, Value.int .i64 D.left][j]?) := ⟨hS6.cel_at 2 rfl, hS6.cel_at 3 rfl⟩
 refine NX.held s8 ?_
 refine WD.pure (i := 7) r4change_spec_t1 #[true, true, true, true, true, true, true, true, false, false] rfl rfl rfl (by kernel_rfl) (PQ.then PQ.body) rfl (fun w => run_nilCheck rfl) ?_
 refine WD.pure (i := 8) r4change_spec_t1 #[true, true, true, true, true, true, true, true, true, false] rfl rfl rfl (by kernel_rfl) (PQ.then PQ.body) rfl (fun w => run_fieldAddr (q := ⟨g, 2, none⟩) (show fieldB Tryd.prog 71 2 = some 2 from by kernel_rfl) rfl rfl) ?_
 refine WD.one (i := 9) r4change_spec_t1 #[true, true, true, true, true, true, true, true, true, true] rfl (by kernel_rfl) ?_
 refine WO.store (l' := [Value.int .i64 D.room, Value.slice rx.fa D.f.length rx.fc, Value.slice a1 ((applyN D.nm c).length) c1, Value.slice rx.la D.last.length rx.lc, Value.slice rx.ca D.ch.length rx.cc, Value.bool D.dead, Value.int .i64 D.left]) 3 hS6 rfl Ty.sz68 rfl rfl rfl rfl rfl (Nat.le_of_ble_eq_true rfl) rfl (fun w9 (hS9 : St B (own a1 ((applyN D.nm c).length) c1 121 2 ((applyN D.nm c).flatMap fcl) :: ro rx.na D.nm.length 121 2 (D.nm.flatMap fcl) :: cel g2 [str c.fr, str c.tn, Value.int .i64 (c.fi : Int)] 146 :: cel g [Value.int .i64 D.room, Value.slice rx.fa D.f.length rx.fc, Value.slice a1 ((applyN D.nm c).length) c1, Value.slice rx.la D.last.length rx.lc, Value.slice rx.ca D.ch.length rx.cc, Value.bool D.dead, Value.int .i64 D.left] 71 :: own rx.fa D.f.length rx.fc 119 2 (D.f.flatMap fcl) :: ro rx.la D.last.length 121 2 (D.last.flatMap fcl) :: own rx.ca D.ch.length rx.cc 146 3 (D.ch.flatMap ccl) :: L) w9) => ?_)
 clear hS6
 refine WO.nil ?_
 refine NX.last (by decide) ?_
 refine WD.done r4change_spec_t1 (by kernel_rfl) ?_
 refine NX.go ?_
 refine WD.start (fun w => (∀ j, World.cell? w ⟨g2, j, none⟩ = [str c.fr, str c.tn, Value.int .i64 (c.fi : Int)][j]?) ∧ (∀ j, World.cell? w ⟨g, j, none⟩ = [Value.int .i64 D.room, Value.slice rx.fa D.f.length rx.fc, Value.slice a1 ((applyN D.nm c).length) c1, Value.slice rx.la D.last.length rx.lc, Value.slice rx.ca D.ch.length rx.cc, Value.bool D.dead, Value.int .i64 D.left][j]?)) [10] #[false, false, false, false, false, false, false, false, false, false, false] Ty.mo rfl (by kernel_rfl) hS9 (fun _ h => ⟨h.cel_at 2 rfl, h.cel_at 3 rfl⟩) (fun w10 hS10 s11 => ?_)
 clear hS9
 refine WD.pure (i := 0) r4change_spec_t2 #[true, false, false, false, false, false, false, false, false, false, false] rfl rfl rfl (by kernel_rfl) PQ.body rfl (fun w => run_move rfl) ?_
 refine WD.pure (i := 1) r4change_spec_t2 #[true, true, false, false, false, false, false, false, false, false, false] rfl rfl rfl (by kernel_rfl) PQ.body rfl (fun w => run_move rfl) ?_
 refine WD.pure (i := 2) r4change_spec_t2 #[true, true, true, false, false, false, false, false, false, false, false] rfl rfl rfl (by kernel_rfl) PQ.body rfl (fun w => run_nilCheck rfl) ?_
 refine WD.pure (i := 3) r4change_spec_t2 #[true, true, true, true, false, false, false, false, false, false, false] rfl rfl rfl (by kernel_rfl) PQ.body rfl (fun w => run_fieldAddr (q := ⟨g, 4, none⟩) (show fieldB Tryd.prog 71 4 = some 4 from by kernel_rfl) rfl rfl) ?_
 refine WD.take (i := 4) r4change_spec_t2 #[true, true, true, true, true, false, false, false, false, false, false] s11 rfl rfl rfl (by kernel_rfl) PQ.body rfl (fun w hs => run_load Ty.ag69 rfl ((hs.2 4).trans rfl)) ?_
 refine WD.take (i := 5) r4change_spec_t2 #[true, true, true, true, true, true, false, false, false, false, false] s11 rfl rfl rfl (by kernel_rfl) PQ.body rfl (fun w hs => run_loadAgg (vs := [str c.fr, str c.tn, Value.int .i64 (c.fi : Int)]) Ty.ag146 Ty.sz146 rfl rfl (cell_all (hs.1) 0 rfl)) ?_
 refine WD.one (i := 6) r4change_spec_t2 #[true, true, true, true, true, true, true, false, false, false, false] rfl (by kernel_rfl) ?_
 refine WO.buildSlice (l := [str c.fr, str c.tn, Value.int .i64 (c.fi : Int)]) hS10 Tryd.underlying69 rfl (fun w => by kernel_rfl) rfl (fun g13 w12 lg13 hS12 => ?_)
 clear hS10
 refine WO.nil ?_
 have s14 : (∀ j, World.cell? w12 ⟨g2, j, none⟩ = [str c.fr, str c.tn, Value.int .i64 (c.fi : Int)][j]?) ∧ (∀ j, World.cell? w12 ⟨g, j, none⟩ = [Value.int .i64 D.room, Value.slice rx.fa D.f.length rx.fc, Value.slice a1 ((applyN D.nm c).length) c1, Value.slice rx.la D.last.length rx.lc, Value.slice rx.ca D.ch.length rx.cc, Value.bool D.dead, Value.int .i64 D.left][j]?) := ⟨hS12.cel_at 3 rfl, hS12.cel_at 4 rfl⟩
 refine NX.held s14 ?_
 refine WD.one (i := 7) r4change_spec_t2 #[true, true, true, true, true, true, true, true, false, false, false] rfl (by kernel_rfl) ?_
 refine WO.append (news := [str c.fr, str c.tn, Value.int .i64 (c.fi : Int)]) 7 rfl Tryd.underlying69 Tryd.underlying69 (fun _ h => by cases h) Ty.sz146 (by decide) Ty.by146 Ty.zr146 rfl rfl rfl rfl hS12 rfl ((hS12.cel_rd 0 rfl (o := 0) (m := 1) (k := 3) rfl (Nat.le_of_ble_eq_true rfl)).src) rfl (by omega) (by omega) (fun a16 c17 w15 hS15 => ?_)
 replace hS15 : St B (cel g13 [str c.fr, str c.tn, Value.int .i64 (c.fi : Int)] 146 :: own a1 ((applyN D.nm c).length) c1 121 2 ((applyN D.nm c).flatMap fcl) :: ro rx.na D.nm.length 121 2 (D.nm.flatMap fcl) :: cel g2 [str c.fr, str c.tn, Value.int .i64 (c.fi : Int)] 146 :: cel g [Value.int .i64 D.room, Value.slice rx.fa D.f.length rx.fc, Value.slice a1 ((applyN D.nm c).length) c1, Value.slice rx.la D.last.length rx.lc, Value.slice rx.ca D.ch.length rx.cc, Value.bool D.dead, Value.int .i64 D.left] 71 :: own rx.fa D.f.length rx.fc 119 2 (D.f.flatMap fcl) :: ro rx.la D.last.length 121 2 (D.last.flatMap fcl) :: own a16 (D.ch.length + 1) c17 146 3 ((D.ch.flatMap ccl) ++ [str c.fr, str c.tn, Value.int .i64 (c.fi : Int)]) :: L) w15 := hS15
 clear hS12
 refine WO.nil ?_
 have s18 : (∀ j, World.cell? w15 ⟨g2, j, none⟩ = [str c.fr, str c.tn, Value.int .i64 (c.fi : Int)][j]?) ∧ (∀ j, World.cell? w15 ⟨g, j, none⟩ = [Value.int .i64 D.room, Value.slice rx.fa D.f.length rx.fc, Value.slice a1 ((applyN D.nm c).length) c1, Value.slice rx.la D.last.length rx.lc, Value.slice rx.ca D.ch.length rx.cc, Value.bool D.dead, Value.int .i64 D.left][j]?) := ⟨hS15.cel_at 3 rfl, hS15.cel_at 4 rfl⟩
 refine NX.held s18 ?_
 refine WD.pure (i := 8) r4change_spec_t2 #[true, true, true, true, true, true, true, true, true, false, false] rfl rfl rfl (by kernel_rfl) PQ.body rfl (fun w => run_nilCheck rfl) ?_
 refine WD.pure (i := 9) r4change_spec_t2 #[true, true, true, true, true, true, true, true, true, true, false] rfl rfl rfl (by kernel_rfl) PQ.body rfl (fun w => run_fieldAddr (q := ⟨g, 4, none⟩) (show fieldB Tryd.prog 71 4 = some 4 from by kernel_rfl) rfl rfl) ?_
 refine WD.one (i := 10) r4change_spec_t2 #[true, true, true, true, true, true, true, true, true, true, true] rfl (by kernel_rfl) ?_
 refine WO.store (l' := [Value.int .i64 D.room, Value.slice rx.fa D.f.length rx.fc, Value.slice a1 ((applyN D.nm c).length) c1, Value.slice rx.la D.last.length rx.lc, Value.slice a16 (D.ch.length + 1) c17, Value.bool D.dead, Value.int .i64 D.left]) 4 hS15 rfl Ty.sz69 rfl rfl rfl rfl rfl (Nat.le_of_ble_eq_true rfl) rfl (fun w19 (hS19 : St B (cel g13 [str c.fr, str c.tn, Value.int .i64 (c.fi : Int)] 146 :: own a1 ((applyN D.nm c).length) c1 121 2 ((applyN D.nm c).flatMap fcl) :: ro rx.na D.nm.length 121 2 (D.nm.flatMap fcl) :: cel g2 [str c.fr, str c.tn, Value.int .i64 (c.fi : Int)] 146 :: cel g [Value.int .i64 D.room, Value.slice rx.fa D.f.length rx.fc, Value.slice a1 ((applyN D.nm c).length) c1, Value.slice rx.la D.last.length rx.lc, Value.slice a16 (D.ch.length + 1) c17, Value.bool D.dead, Value.int .i64 D.left] 71 :: own rx.fa D.f.length rx.fc 119 2 (D.f.flatMap fcl) :: ro rx.la D.last.length 121 2 (D.last.flatMap fcl) :: own a16 (D.ch.length + 1) c17 146 3 ((D.ch.flatMap ccl) ++ [str c.fr, str c.tn, Value.int .i64 (c.fi : Int)]) :: L) w19) => ?_)
 clear hS15
 refine WO.nil ?_
 refine NX.last (by decide) ?_
 refine WD.done r4change_spec_t2 (by kernel_rfl) ?_
 refine NX.ended (l := []) rfl rfl ?_
 have e1 : (changeD D c).ch.length = D.ch.length + 1 := by show (D.ch ++ [c]).length = _; simp
 have e2 : (changeD D c).ch.flatMap ccl = D.ch.flatMap ccl ++ ccl c := flat_snoc ..
 refine ⟨⟨rx.fa, rx.fc, a1, c1, rx.la, rx.lc, a16, c17⟩, rfl, ?_⟩
 rw [e1, e2]
 have hx := ((hS19.permT [0, 1, 1, 1, 1, 0, 0, 0] (L' := cel g13 [str c.fr, str c.tn, Value.int .i64 (c.fi : Int)] 146 :: ro rx.na D.nm.length 121 2 (D.nm.flatMap fcl) :: cel g2 [str c.fr, str c.tn, Value.int .i64 (c.fi : Int)] 146 :: cel g [Value.int .i64 D.room, Value.slice rx.fa D.f.length rx.fc, Value.slice a1 ((applyN D.nm c).length) c1, Value.slice rx.la D.last.length rx.lc, Value.slice a16 (D.ch.length + 1) c17, Value.bool D.dead, Value.int .i64 D.left] 71 :: own rx.fa D.f.length rx.fc 119 2 (D.f.flatMap fcl) :: own a1 ((applyN D.nm c).length) c1 121 2 ((applyN D.nm c).flatMap fcl) :: ro rx.la D.last.length 121 2 (D.last.flatMap fcl) :: own a16 (D.ch.length + 1) c17 146 3 ((D.ch.flatMap ccl) ++ [str c.fr, str c.tn, Value.int .i64 (c.fi : Int)]) :: L) rfl).drop.drop.drop)
 exact (((hx.permT [2] rfl).own_seal).permT [1, 1] rfl)
theorem r4used_spec_t5 : rtab .any (opsOf Tryd.f38 5) = (true, [([], []), ([], []), ([1], [1]), ([2], [2]), ([3], [3]), ([], []), ([5], [5]), ([6], [6]), ([7], [7]), ([], []), ([8, 9], [8, 9]), ([10], [10]), ([11], [11]), ([4, 12], [4, 12]), ([13], [13]), ([14], [14]), ([15], [15]), ([0, 16], [0, 16]), ([17, 0, 1, 2, 3, 4, 5, 6, 7, 8, 9, 10, 11, 12, 13, 14, 15, 16, 17], [0, 17])]) := by kernel_rfl
theorem r4used_spec {B w : World} {L : List HP} {g : Nat} {D : Dk} {rx : RX} {n t : Nat} (hw : WFD D) (hb : Bnd D n t) (ht : t ≤ 1099511627776) (hS : St B (cel g [Value.int .i64 D.room, Value.slice rx.fa D.f.length rx.fc, Value.slice rx.na D.nm.length rx.nc, Value.slice rx.la D.last.length rx.lc, Value.slice rx.ca D.ch.length rx.cc, Value.bool D.dead, Value.int .i64 D.left] 71 :: own rx.fa D.f.length rx.fc 119 2 (D.f.flatMap fcl) :: ro rx.na D.nm.length 121 2 (D.nm.flatMap fcl) :: ro rx.la D.last.length 121 2 (D.last.flatMap fcl) :: own rx.ca D.ch.length rx.cc 146 3 (D.ch.flatMap ccl) :: L) w) : Does Tryd.prog 38 [Value.pointer (some ⟨g, 0, none⟩)] w (fun v w1 => v = .int .i64 ((usedN D.f D.nm : Nat) : Int) ∧ St B (cel g [Value.int .i64 D.room, Value.slice rx.fa D.f.length rx.fc, Value.slice rx.na D.nm.length rx.nc, Value.slice rx.la D.last.length rx.lc, Value.slice rx.ca D.ch.length rx.cc, Value.bool D.dead, Value.int .i64 D.left] 71 :: own rx.fa D.f.length rx.fc 119 2 (D.f.flatMap fcl) :: ro rx.na D.nm.length 121 2 (D.nm.flatMap fcl) :: ro rx.la D.last.length 121 2 (D.last.flatMap fcl) :: own rx.ca D.ch.length rx.cc 146 3 (D.ch.flatMap ccl) :: L) w1) := by
 have h64 := hw.nm64
 refine enter (n := 33) Tryd.func38 rfl rfl [Value.pointer (some ⟨g, 0, none⟩)] rfl ?_
 refine WP.seq ?_
 refine WP.region rfl ?_
 refine WO.val (run_assign rfl) rfl rfl rfl ?_
 refine WO.nil ?_
 refine NX.go ?_
 refine WP.seq ?_
 refine WP.region rfl ?_
 refine WO.val (run_assign rfl) rfl rfl rfl ?_
 refine WO.nil ?_
 refine NX.go ?_
 refine WP.seq ?_
 refine WP.seq ?_
 refine WP.region rfl ?_
 refine WO.val (run_assign rfl) rfl rfl rfl ?_
 refine WO.nil ?_
 refine NX.go ?_
 refine WP.block ?_
 refine WP.loop (α := Nat) (fun x => match x with | i => [(0, Value.pointer (some ⟨g, 0, none⟩)), (3, Value.int .i64 ((usedN D.f (D.nm.take i) : Nat) : Int)), (4, Value.int .i64 (i : Int))]) (fun x w => match x with | i => (i ≤ D.nm.length ∧ usedN D.f (D.nm.take i) ≤ i * t) ∧ St B (cel g [Value.int .i64 D.room, Value.slice rx.fa D.f.length rx.fc, Value.slice rx.na D.nm.length rx.nc, Value.slice rx.la D.last.length rx.lc, Value.slice rx.ca D.ch.length rx.cc, Value.bool D.dead, Value.int .i64 D.left] 71 :: own rx.fa D.f.length rx.fc 119 2 (D.f.flatMap fcl) :: ro rx.na D.nm.length 121 2 (D.nm.flatMap fcl) :: ro rx.la D.last.length 121 2 (D.last.flatMap fcl) :: own rx.ca D.ch.length rx.cc 146 3 (D.ch.flatMap ccl) :: L) w) (fun x => match x with | i => D.nm.length - i) 0 ⟨⟨Nat.zero_le _, Nat.zero_le _⟩, hS⟩ (Sub.cons rfl (Sub.consE rfl (by first | rfl | first | rfl | (congr 1; omega) | (simp; done) | (simp; omega)) (Sub.consE rfl (by first | rfl | first | rfl | (congr 1; omega) | (simp; done) | (simp; omega)) (Sub.nil _)))) ?_
 rintro i w1 ⟨⟨hi, hu⟩, hS1⟩
 clear hS
 refine WP.seq ?_
 refine WP.seq ?_
 refine WP.region rfl ?_
 refine WO.val (run_move rfl) rfl rfl rfl ?_
 refine WO.val (run_move rfl) rfl rfl rfl ?_
 refine WO.val (run_nilCheck rfl) rfl rfl rfl ?_
 refine WO.val (run_fieldAddr (q := ⟨g, 2, none⟩) (show fieldB Tryd.prog 71 2 = some 2 from by kernel_rfl) rfl rfl) rfl rfl rfl ?_
 refine WO.val (run_load Ty.ag68 rfl ((hS1.cel_at 0 rfl 2).trans rfl)) rfl rfl rfl ?_
 refine WO.val (run_len rfl Tryd.underlying68 rfl) rfl rfl rfl ?_
 refine WO.val (run_lss rfl rfl) rfl rfl rfl ?_
 refine WO.nil ?_
 refine NX.go ?_
 refine WP.condP rfl (fun g11 => ?_) (fun g11 => ?_)
 ·
  refine WP.skip ?_
  refine NX.go ?_
  refine WP.seq ?_
  refine WP.block ?_
  obtain ⟨e, he⟩ : ∃ e, D.nm[i]? = some e := ⟨_, List.getElem?_eq_getElem (by omega)⟩
  have hlt : e.2 < D.f.length := (hw.good.f e (List.mem_of_getElem? he)).2
  have hfe := fileAt_get hlt
  have hft := hb.t _ (fileAt_mem hlt)
  have hun : usedN D.f (D.nm.take (i + 1)) = usedN D.f (D.nm.take i) + (fileAt D.f e.2).1.length := by unfold usedN; rw [List.take_add_one, he, Option.toList_some, List.map_append, List.sum_append]; simp
  have hit : i * t ≤ 64 * t := Nat.mul_le_mul_right _ (by omega)
  have hsrxna : rx.na.isSome = true := by obtain ⟨q, hq, _⟩ := ((hS1.ro_rd_i 2 rfl)).2.1 (by omega); rw [hq]; rfl
  have hsrxfa : rx.fa.isSome = true := by obtain ⟨q, hq, _⟩ := ((hS1.own_rd_i 1 rfl)).2.1 (by omega); rw [hq]; rfl
  refine WD.start (fun w => (∀ j, World.cell? w ⟨g, j, none⟩ = [Value.int .i64 D.room, Value.slice rx.fa D.f.length rx.fc, Value.slice rx.na D.nm.length rx.nc, Value.slice rx.la D.last.length rx.lc, Value.slice rx.ca D.ch.length rx.cc, Value.bool D.dead, Value.int .i64 D.left][j]?) ∧ Rd w rx.fa D.f.length 2 (D.f.flatMap fcl) ∧ Rd w rx.na D.nm.length 2 (D.nm.flatMap fcl) ∧ Rd w rx.la D.last.length 2 (D.last.flatMap fcl) ∧ Rd w rx.ca D.ch.length 3 (D.ch.flatMap ccl)) [] #[false, false, false, false, false, false, false, false, false, false, false, false, false, false, false, false, false, false, false] Ty.mo rfl (by kernel_rfl) hS1 (fun _ h => ⟨h.cel_at 0 rfl, (h.own_rd_i 1 rfl), (h.ro_rd_i 2 rfl), (h.ro_rd_i 3 rfl), (h.own_rd_i 4 rfl)⟩) (fun w2 hS2 s3 => ?_)
  clear hS1
  refine WD.pure (i := 0) r4used_spec_t5 #[true, false, false, false, false, false, false, false, false, false, false, false, false, false, false, false, false, false, false] rfl rfl rfl (by kernel_rfl) (PQ.blk (PQ.then (PQ.then (PQ.blk (PQ.then PQ.body))))) rfl (fun w => run_move rfl) ?_
  refine WD.pure (i := 1) r4used_spec_t5 #[true, true, false, false, false, false, false, false, false, false, false, false, false, false, false, false, false, false, false] rfl rfl rfl (by kernel_rfl) (PQ.blk (PQ.then (PQ.then (PQ.blk (PQ.then PQ.body))))) rfl (fun w => run_move rfl) ?_
  refine WD.pure (i := 2) r4used_spec_t5 #[true, true, true, false, false, false, false, false, false, false, false, false, false, false, false, false, false, false, false] rfl rfl rfl (by kernel_rfl) (PQ.blk (PQ.then (PQ.then (PQ.blk (PQ.then PQ.body))))) rfl (fun w => run_nilCheck rfl) ?_
  refine WD.pure (i := 3) r4used_spec_t5 #[true, true, true, true, false, false, false, false, false, false, false, false, false, false, false, false, false, false, false] rfl rfl rfl (by kernel_rfl) (PQ.blk (PQ.then (PQ.then (PQ.blk (PQ.then PQ.body))))) rfl (fun w => run_fieldAddr (q := ⟨g, 1, none⟩) (show fieldB Tryd.prog 71 1 = some 1 from by kernel_rfl) rfl rfl) ?_
  refine WD.take (i := 4) r4used_spec_t5 #[true, true, true, true, true, false, false, false, false, false, false, false, false, false, false, false, false, false, false] s3 rfl rfl rfl (by kernel_rfl) (PQ.blk (PQ.then (PQ.then (PQ.blk (PQ.then PQ.body))))) rfl (fun w hs => run_load Ty.ag67 rfl ((hs.1 1).trans rfl)) ?_
  refine WD.pure (i := 5) r4used_spec_t5 #[true, true, true, true, true, true, false, false, false, false, false, false, false, false, false, false, false, false, false] rfl rfl rfl (by kernel_rfl) (PQ.blk (PQ.then (PQ.then (PQ.blk (PQ.then PQ.body))))) rfl (fun w => run_move rfl) ?_
  refine WD.pure (i := 6) r4used_spec_t5 #[true, true, true, true, true, true, true, false, false, false, false, false, false, false, false, false, false, false, false] rfl rfl rfl (by kernel_rfl) (PQ.blk (PQ.then (PQ.then (PQ.blk (PQ.then PQ.body))))) rfl (fun w => run_nilCheck rfl) ?_
  refine WD.pure (i := 7) r4used_spec_t5 #[true, true, true, true, true, true, true, true, false, false, false, false, false, false, false, false, false, false, false] rfl rfl rfl (by kernel_rfl) (PQ.blk (PQ.then (PQ.then (PQ.blk (PQ.then PQ.body))))) rfl (fun w => run_fieldAddr (q := ⟨g, 2, none⟩) (show fieldB Tryd.prog 71 2 = some 2 from by kernel_rfl) rfl rfl) ?_
  refine WD.take (i := 8) r4used_spec_t5 #[true, true, true, true, true, true, true, true, true, false, false, false, false, false, false, false, false, false, false] s3 rfl rfl rfl (by kernel_rfl) (PQ.blk (PQ.then (PQ.then (PQ.blk (PQ.then PQ.body))))) rfl (fun w hs => run_load Ty.ag68 rfl ((hs.1 2).trans rfl)) ?_
  refine WD.pure (i := 9) r4used_spec_t5 #[true, true, true, true, true, true, true, true, true, true, false, false, false, false, false, false, false, false, false] rfl rfl rfl (by kernel_rfl) (PQ.blk (PQ.then (PQ.then (PQ.blk (PQ.then PQ.body))))) rfl (fun w => run_move rfl) ?_
  refine WD.take (i := 10) r4used_spec_t5 #[true, true, true, true, true, true, true, true, true, true, true, false, false, false, false, false, false, false, false] s3 rfl rfl rfl (by kernel_rfl) (PQ.blk (PQ.then (PQ.then (PQ.blk (PQ.then PQ.body))))) rfl (fun w hs => run_indexAddr (q := adr rx.na (i * 2)) Tryd.underlying68 Ty.sz121 rfl rfl (by omega) (by omega) ((hs.2.2.1).2.1 (by omega)) rfl) ?_
  refine WD.pure (i := 11) r4used_spec_t5 #[true, true, true, true, true, true, true, true, true, true, true, true, false, false, false, false, false, false, false] rfl rfl rfl (by kernel_rfl) (PQ.blk (PQ.then (PQ.then (PQ.blk (PQ.then PQ.body))))) rfl (fun w => run_fieldAddr (q := (adr rx.na (i * 2 + 1))) (show fieldB Tryd.prog 121 1 = some 1 from by kernel_rfl) rfl (adr_add _ (by assumption) _ _)) ?_
  refine WD.take (i := 12) r4used_spec_t5 #[true, true, true, true, true, true, true, true, true, true, true, true, true, false, false, false, false, false, false] s3 rfl rfl rfl (by kernel_rfl) (PQ.blk (PQ.then (PQ.then (PQ.blk (PQ.then PQ.body))))) rfl (fun w hs => run_load Ty.ag3 rfl ((hs.2.2.1).cell ((flat_get fcl_len he (j := 1) (by decide)).trans rfl))) ?_
  refine WD.take (i := 13) r4used_spec_t5 #[true, true, true, true, true, true, true, true, true, true, true, true, true, true, false, false, false, false, false] s3 rfl rfl rfl (by kernel_rfl) (PQ.blk (PQ.then (PQ.then (PQ.blk (PQ.then PQ.body))))) rfl (fun w hs => run_indexAddr (q := adr rx.fa (e.2 * 2)) Tryd.underlying67 Ty.sz119 rfl rfl (by omega) (by omega) ((hs.2.1).2.1 (by omega)) rfl) ?_
  refine WD.pure (i := 14) r4used_spec_t5 #[true, true, true, true, true, true, true, true, true, true, true, true, true, true, true, false, false, false, false] rfl rfl rfl (by kernel_rfl) (PQ.blk (PQ.then (PQ.then (PQ.blk (PQ.then PQ.body))))) rfl (fun w => run_fieldAddr (q := (adr rx.fa (e.2 * 2 + 0))) (show fieldB Tryd.prog 119 0 = some 0 from by kernel_rfl) rfl (adr_add _ (by assumption) _ _)) ?_
  refine WD.take (i := 15) r4used_spec_t5 #[true, true, true, true, true, true, true, true, true, true, true, true, true, true, true, true, false, false, false] s3 rfl rfl rfl (by kernel_rfl) (PQ.blk (PQ.then (PQ.then (PQ.blk (PQ.then PQ.body))))) rfl (fun w hs => run_load Ty.ag9 rfl ((hs.2.1).cell ((flat_get fcl_len hfe (j := 0) (by decide)).trans rfl))) ?_
  refine WD.pure (i := 16) r4used_spec_t5 #[true, true, true, true, true, true, true, true, true, true, true, true, true, true, true, true, true, false, false] rfl rfl rfl (by kernel_rfl) (PQ.blk (PQ.then (PQ.then (PQ.blk (PQ.then PQ.body))))) rfl (fun w => run_lenS rfl Tryd.underlying9 rfl) ?_
  refine WD.pure (i := 17) r4used_spec_t5 #[true, true, true, true, true, true, true, true, true, true, true, true, true, true, true, true, true, true, false] rfl rfl rfl (by kernel_rfl) (PQ.blk (PQ.then (PQ.then (PQ.blk (PQ.then PQ.body))))) rfl (fun w => run_add rfl rfl (show IntKind.i64.wrap (((usedN D.f (D.nm.take i) : Nat) : Int) + (((fileAt D.f e.2).1.length : Nat) : Int)) = ((usedN D.f (D.nm.take (i + 1)) : Nat) : Int) by rw [hun, IntWalk.i64_in _ (by omega)]; omega)) ?_
  refine WD.pure (i := 18) r4used_spec_t5 #[true, true, true, true, true, true, true, true, true, true, true, true, true, true, true, true, true, true, true] rfl rfl rfl (by kernel_rfl) (PQ.blk (PQ.then (PQ.then (PQ.blk (PQ.then PQ.body))))) rfl (fun w => run_assign rfl) ?_
  refine WD.done r4used_spec_t5 (by kernel_rfl) ?_
  refine NX.blk ?_
  refine NX.go ?_
  refine WP.region rfl ?_
  refine WO.val (run_move rfl) rfl rfl rfl ?_
  refine WO.val (run_add rfl rfl (IntWalk.i64_in _ (by omega))) rfl rfl rfl ?_
  refine WO.val (run_assign rfl) rfl rfl rfl ?_
  refine WO.nil ?_
  exact NX.again (i + 1) ⟨⟨by omega, by rw [hun, Nat.add_mul]; omega⟩, hS2⟩ (by show D.nm.length - (i + 1) < D.nm.length - i; omega) (Sub.cons rfl (Sub.consE rfl rfl (Sub.consE rfl (by congr 1) (Sub.nil _))))
 ·
  refine WP.exit ?_
  refine NX.thenExit ?_
  refine NX.thenExit ?_
  refine NX.blkExit ?_
  refine NX.go ?_
  refine WP.seq ?_
  refine WP.region rfl ?_
  refine WO.val (run_move rfl) rfl rfl rfl ?_
  refine WO.val (run_assign rfl) rfl rfl rfl ?_
  refine WO.nil ?_
  refine NX.go ?_
  refine WP.ret ?_
  refine NX.done (l := [.tmp 2]) rfl rfl ?_
  have hil : i = D.nm.length := by omega
  subst hil
  rw [List.take_length]
  exact ⟨rfl, hS1⟩
end Go.Proofs.YtcehlnpbdffdhaaDoor.SL
