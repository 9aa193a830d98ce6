/- Manifests of the one kind and of the other. -/
import Derived.Test.YtcehlnpbdffdhaaGreatDoorKxM
namespace Go.Proofs.YtcehlnpbdffdhaaGreatDoor.SL
open Go.RowKit Go.Proofs.YtcehlnpbdffdhaaGreatDoor
open Go.Proofs.YtcehlnpbdffdhaaGreatDoorW.PrintLast (rtab opsOf)
set_option linter.unusedVariables false
set_option linter.unusedSimpArgs false

theorem quo_len {n : Nat} (h : n ≤ 140737488355328) : IntKind.i64.wrap ((n : Int).tdiv 50) = ((n / 50 : Nat) : Int) := by
  rw [Int.tdiv_eq_ediv_of_nonneg (by omega), IntWalk.i64_in _ (by omega)]; omega
theorem great_spec {B w : World} {L : List HP} {X : HP} {a : Option Addr} {cap : Nat} {m : Man} (hX : ∀ {L : List HP} {w : World}, St B (X :: L) w → Rd w a m.bl.length 1 (m.bl.map str)) (hr : RngM m) (hS : St B (X :: L) w) : Does Tryz.prog 9 [Value.agg #[Value.int .i64 m.e, Value.int .i64 m.b, Value.int .i64 m.p, Value.int .i64 m.k, Value.int .i64 m.c, Value.slice a m.bl.length cap]] w (fun v w1 => ∃ b : Bool, v = .bool b ∧ (b = false → m.bl.length < 200) ∧ St B (X :: L) w1) := by
 refine enter (n := 30) Tryz.func9 rfl rfl [Value.agg #[Value.int .i64 m.e, Value.int .i64 m.b, Value.int .i64 m.p, Value.int .i64 m.k, Value.int .i64 m.c, Value.slice a m.bl.length cap]] rfl ?_
 refine WP.seq (WP.region rfl ?_)
 refine WO.box (l := [Value.int .i64 m.e, Value.int .i64 m.b, Value.int .i64 m.p, Value.int .i64 m.k, Value.int .i64 m.c, Value.slice a m.bl.length cap]) hS rfl rfl rfl (fun g2 w1 lg2 hS1 => ?_)
 clear hS
 refine WO.asg rfl rfl ?_
 refine WO.nil (NX.go (WP.seq (WP.region rfl ?_)))
 refine WO.val (run_fieldAddr (q := ⟨g2, 5, none⟩) (show fieldB Tryz.prog 24 5 = some 5 from by kernel_rfl) rfl rfl) rfl rfl rfl ?_
 refine WO.val (run_load Ty.ag22 rfl ((hS1.cel_at 0 rfl 5).trans rfl)) rfl rfl rfl ?_
 refine WO.val (run_len rfl Tryz.underlying22 rfl) rfl rfl rfl ?_
 refine WO.asg rfl rfl ?_
 refine WO.nil (NX.go (WP.seq (WP.seq (WP.region rfl ?_))))
 refine WO.asg rfl rfl ?_
 refine WO.nil (NX.go ?_)
 refine WP.meet (α := Nat) (fun x => match x with | n => [(1, Value.pointer (some ⟨g2, 0, none⟩)), (3, Value.int .i64 (n : Int))]) (fun x w => match x with | n => (m.bl.length ≤ n) ∧ St B (cel g2 [Value.int .i64 m.e, Value.int .i64 m.b, Value.int .i64 m.p, Value.int .i64 m.k, Value.int .i64 m.c, Value.slice a m.bl.length cap] 24 :: X :: L) w) ?_ (fun K3 => ?_)
 ·
  rintro n w4 ⟨hln, hS4⟩
  clear hS1
  refine NX.go (WP.seq (WP.region rfl ?_))
  refine WO.mv rfl rfl ?_
  refine WO.val (run_geq rfl rfl) rfl rfl rfl ?_
  refine WO.asg rfl rfl ?_
  refine WO.nil (NX.go (WP.ret ?_))
  refine NX.done (l := [.tmp 2]) rfl rfl ?_
  exact ⟨_, rfl, fun h => (by have := of_decide_eq_false h; omega), hS4.drop⟩
 ·
  refine WP.block ?_
  refine WP.loop (α := Nat × Nat) (fun x => match x with | ⟨i, n⟩ => [(1, Value.pointer (some ⟨g2, 0, none⟩)), (3, Value.int .i64 (n : Int)), (4, Value.int .i64 (i : Int))]) (fun x w => match x with | ⟨i, n⟩ => (i ≤ m.bl.length ∧ m.bl.length ≤ n ∧ n ≤ 9000000000000 + 2814749767110) ∧ St B (cel g2 [Value.int .i64 m.e, Value.int .i64 m.b, Value.int .i64 m.p, Value.int .i64 m.k, Value.int .i64 m.c, Value.slice a m.bl.length cap] 24 :: X :: L) w) (fun x => match x with | ⟨i, n⟩ => m.bl.length - i) (0, m.bl.length) ⟨⟨Nat.zero_le _, Nat.le_refl _, by have := hr.n; omega⟩, hS1⟩ (Sub.cons rfl (Sub.consE rfl (by first | rfl | first | rfl | (congr 1; omega) | (simp; done) | (simp; omega)) (Sub.consE rfl (by first | rfl | first | rfl | (congr 1; omega) | (simp; done) | (simp; omega)) (Sub.nil _)))) ?_
  rintro ⟨i, n⟩ w5 ⟨⟨hi, hln, hn⟩, hS5⟩
  clear hS1
  refine WP.seq (WP.seq (WP.region rfl ?_))
  refine WO.mv rfl rfl ?_
  refine WO.val (run_fieldAddr (q := ⟨g2, 5, none⟩) (show fieldB Tryz.prog 24 5 = some 5 from by kernel_rfl) rfl rfl) rfl rfl rfl ?_
  refine WO.val (run_load Ty.ag22 rfl ((hS5.cel_at 0 rfl 5).trans rfl)) rfl rfl rfl ?_
  refine WO.val (run_len rfl Tryz.underlying22 rfl) rfl rfl rfl ?_
  refine WO.val (run_lss rfl rfl) rfl rfl rfl ?_
  refine WO.mv rfl rfl ?_
  by_cases g13 : (i : Int) < ((m.bl.length : Nat) : Int)
  ·
   refine WO.on rfl rfl (decide_eq_true g13) ?_
   refine WO.mv rfl rfl ?_
   refine WO.on rfl rfl (decide_eq_true g13) ?_
   refine WO.val (run_lss rfl rfl) rfl rfl rfl ?_
   refine WO.val (run_pickT rfl (decide_eq_true g13) rfl) rfl rfl rfl ?_
   refine WO.nil (NX.go ?_)
   refine WP.condP rfl (fun g16 => ?_) (fun g16 => ?_)
   ·
    refine WP.skip (NX.go (WP.seq (WP.block ?_)))
    have hn17 : n < 200 := by omega
    refine WP.region rfl ?_
    refine WO.mv rfl rfl ?_
    refine WO.val (run_fieldAddr (q := ⟨g2, 5, none⟩) (show fieldB Tryz.prog 24 5 = some 5 from by kernel_rfl) rfl rfl) rfl rfl rfl ?_
    refine WO.val (run_load Ty.ag22 rfl ((hS5.cel_at 0 rfl 5).trans rfl)) rfl rfl rfl ?_
    refine WO.mv rfl rfl ?_
    obtain ⟨t, ht⟩ : ∃ t, m.bl[i]? = some t := ⟨_, List.getElem?_eq_getElem (by omega)⟩
    refine WO.val (run_indexAddr (q := adr a i) Tryz.underlying22 Ty.sz9 rfl rfl (by omega) (by omega) ((hX (hS5.focus 1 rfl)).2.1 (by omega)) (by simp)) rfl rfl rfl ?_
    refine WO.val (run_load Ty.ag9 rfl ((hX (hS5.focus 1 rfl)).cell (str_at ht))) rfl rfl rfl ?_
    refine WO.val (run_lenS rfl Tryz.underlying9 rfl) rfl rfl rfl ?_
    have htl := hr.t t (List.mem_of_getElem? ht)
    refine WO.val (run_quo rfl rfl (by omega) (by exact quo_len (by omega))) rfl rfl rfl ?_
    refine WO.val (run_add rfl rfl (IntWalk.i64_in _ (by omega))) rfl rfl rfl ?_
    refine WO.asg rfl rfl ?_
    refine WO.nil (NX.blk (NX.go (WP.region rfl ?_)))
    refine WO.mv rfl rfl ?_
    refine WO.val (run_add rfl rfl (IntWalk.i64_in _ (by omega))) rfl rfl rfl ?_
    refine WO.asg rfl rfl ?_
    refine WO.nil ?_
    exact NX.again (i + 1, n + t.length / 50) ⟨⟨by omega, by omega, by omega⟩, hS5⟩ (by show m.bl.length - (i + 1) < m.bl.length - i; omega) (Sub.cons rfl (Sub.consE rfl (by simp) (Sub.consE rfl (by congr 1) (Sub.nil _))))
   ·
    refine WP.exit (NX.thenExit (NX.thenExit ?_))
    refine NX.blkExit ?_
    exact K3 n _ _ ⟨hln, hS5⟩ (Sub.cons rfl (Sub.cons rfl (Sub.nil _)))
  ·
   refine WO.off rfl rfl (decide_eq_false g13) rfl ?_
   refine WO.off rfl rfl (decide_eq_false g13) rfl ?_
   refine WO.val (run_pickF rfl (decide_eq_false g13) rfl) rfl rfl rfl ?_
   refine WO.nil (NX.go ?_)
   refine WP.condF rfl rfl ?_
   refine WP.exit (NX.thenExit (NX.thenExit ?_))
   refine NX.blkExit ?_
   exact K3 n _ _ ⟨hln, hS5⟩ (Sub.cons rfl (Sub.cons rfl (Sub.nil _)))
theorem to_spec_t1 : rtab .any (opsOf Tryz.f11 1) = (true, [([], []), ([0], [0]), ([], []), ([2], [2]), ([], []), ([4], [4]), ([], []), ([6], [6]), ([], []), ([8], [8]), ([], []), ([], []), ([11], [11]), ([10, 12], [10, 12]), ([1, 3, 5, 7, 9, 13], [1, 3, 5, 7, 9, 13]), ([14, 13, 0, 1, 2, 3, 4, 5, 6, 7, 8, 9, 10, 11, 12, 13, 14], [14])]) := by kernel_rfl
theorem to_spec {B w : World} {L : List HP} {X : HP} {a : Option Addr} {cap : Nat} {m : Man} (hX : ∀ {L : List HP} {w : World}, St B (X :: L) w → Rd w a m.bl.length 1 (m.bl.map str)) (hr : RngM m) (hS : St B (X :: L) w) : Does Tryz.prog 11 [Value.agg #[Value.int .i64 m.e, Value.int .i64 m.b, Value.int .i64 m.p, Value.int .i64 m.k, Value.int .i64 m.c, Value.slice a m.bl.length cap]] w (fun v w1 => ∃ (b : Option Addr) (cp : Nat), v = manV m b cp ∧ St B (own b m.bl.length cp 9 1 (m.bl.map str) :: X :: L) w1) := by
 refine enter (n := 18) Tryz.func11 rfl rfl [Value.agg #[Value.int .i64 m.e, Value.int .i64 m.b, Value.int .i64 m.p, Value.int .i64 m.k, Value.int .i64 m.c, Value.slice a m.bl.length cap]] rfl ?_
 refine WP.seq (WP.region rfl ?_)
 refine WO.box (l := [Value.int .i64 m.e, Value.int .i64 m.b, Value.int .i64 m.p, Value.int .i64 m.k, Value.int .i64 m.c, Value.slice a m.bl.length cap]) hS rfl rfl rfl (fun g2 w1 lg2 hS1 => ?_)
 clear hS
 refine WO.alloc (l := [Value.int .i64 0, Value.int .i64 0, Value.int .i64 0, Value.int .i64 0, Value.int .i64 0, Value.slice none 0 0]) hS1 Ty.zr30 rfl rfl (fun g4 w3 lg4 hS3 => ?_)
 clear hS1
 refine WO.nil (NX.go (WP.seq ?_))
 refine WD.start (fun w => (∀ j, World.cell? w ⟨g2, j, none⟩ = [Value.int .i64 m.e, Value.int .i64 m.b, Value.int .i64 m.p, Value.int .i64 m.k, Value.int .i64 m.c, Value.slice a m.bl.length cap][j]?)) [] (bt 16 0) Ty.mo rfl (by kernel_rfl) hS3 (fun _ h => h.cel_at 1 rfl) (fun w5 hS5 s6 => ?_)
 clear hS3
 refine WD.pure (i := 0) to_spec_t1 (bt 16 1) rfl rfl rfl (by kernel_rfl) (PQ.then PQ.body) rfl (fun w => run_fieldAddr (q := ⟨g2, 0, none⟩) (show fieldB Tryz.prog 24 0 = some 0 from by kernel_rfl) rfl rfl) ?_
 refine WD.take (i := 1) to_spec_t1 (bt 16 3) s6 rfl rfl rfl (by kernel_rfl) (PQ.then PQ.body) rfl (fun w hs => run_load Ty.ag3 rfl ((hs 0).trans rfl)) ?_
 refine WD.pure (i := 2) to_spec_t1 (bt 16 7) rfl rfl rfl (by kernel_rfl) (PQ.then PQ.body) rfl (fun w => run_fieldAddr (q := ⟨g2, 1, none⟩) (show fieldB Tryz.prog 24 1 = some 1 from by kernel_rfl) rfl rfl) ?_
 refine WD.take (i := 3) to_spec_t1 (bt 16 15) s6 rfl rfl rfl (by kernel_rfl) (PQ.then PQ.body) rfl (fun w hs => run_load Ty.ag3 rfl ((hs 1).trans rfl)) ?_
 refine WD.pure (i := 4) to_spec_t1 (bt 16 31) rfl rfl rfl (by kernel_rfl) (PQ.then PQ.body) rfl (fun w => run_fieldAddr (q := ⟨g2, 2, none⟩) (show fieldB Tryz.prog 24 2 = some 2 from by kernel_rfl) rfl rfl) ?_
 refine WD.take (i := 5) to_spec_t1 (bt 16 63) s6 rfl rfl rfl (by kernel_rfl) (PQ.then PQ.body) rfl (fun w hs => run_load Ty.ag3 rfl ((hs 2).trans rfl)) ?_
 refine WD.pure (i := 6) to_spec_t1 (bt 16 127) rfl rfl rfl (by kernel_rfl) (PQ.then PQ.body) rfl (fun w => run_fieldAddr (q := ⟨g2, 3, none⟩) (show fieldB Tryz.prog 24 3 = some 3 from by kernel_rfl) rfl rfl) ?_
 refine WD.take (i := 7) to_spec_t1 (bt 16 255) s6 rfl rfl rfl (by kernel_rfl) (PQ.then PQ.body) rfl (fun w hs => run_load Ty.ag2 rfl ((hs 3).trans rfl)) ?_
 refine WD.pure (i := 8) to_spec_t1 (bt 16 511) rfl rfl rfl (by kernel_rfl) (PQ.then PQ.body) rfl (fun w => run_fieldAddr (q := ⟨g2, 4, none⟩) (show fieldB Tryz.prog 24 4 = some 4 from by kernel_rfl) rfl rfl) ?_
 refine WD.take (i := 9) to_spec_t1 (bt 16 1023) s6 rfl rfl rfl (by kernel_rfl) (PQ.then PQ.body) rfl (fun w hs => run_load Ty.ag3 rfl ((hs 4).trans rfl)) ?_
 refine WD.pure (i := 11) to_spec_t1 (bt 16 3071) rfl rfl rfl (by kernel_rfl) (PQ.then PQ.body) rfl (fun w => run_fieldAddr (q := ⟨g2, 5, none⟩) (show fieldB Tryz.prog 24 5 = some 5 from by kernel_rfl) rfl rfl) ?_
 refine WD.take (i := 12) to_spec_t1 (bt 16 7167) s6 rfl rfl rfl (by kernel_rfl) (PQ.then PQ.body) rfl (fun w hs => run_load Ty.ag22 rfl ((hs 5).trans rfl)) ?_
 refine WD.one (i := 10) to_spec_t1 (bt 16 8191) rfl (by kernel_rfl) ?_
 refine WO.buildSlice (l := []) hS5 Tryz.underlying22 rfl (fun w => by kernel_rfl) rfl (fun g8 w7 lg8 hS7 => ?_)
 clear hS5
 have hS7 := hS7.own_of_cel (m := 0) (k := 1) rfl
 refine WO.nil ?_
 have s9 : (∀ j, World.cell? w7 ⟨g2, j, none⟩ = [Value.int .i64 m.e, Value.int .i64 m.b, Value.int .i64 m.p, Value.int .i64 m.k, Value.int .i64 m.c, Value.slice a m.bl.length cap][j]?) := hS7.cel_at 2 rfl
 refine NX.held s9 ?_
 refine WD.one (i := 13) to_spec_t1 (bt 16 16383) rfl (by kernel_rfl) ?_
 have hn := hr.n
 refine WO.append (news := (m.bl.map str)) 0 rfl Tryz.underlying22 Tryz.underlying22 (fun _ h => by cases h) Ty.sz9 (by decide) Ty.by9 Ty.zr9 rfl rfl rfl rfl hS7 rfl ((hX (hS7.focus 3 rfl)).src) (ints_noAgg str (fun _ => rfl) _) (by omega) (by omega) (fun a11 c12 w10 hS10 => ?_)
 replace hS10 : St B (own a11 m.bl.length c12 9 1 (m.bl.map str) :: cel g4 [Value.int .i64 0, Value.int .i64 0, Value.int .i64 0, Value.int .i64 0, Value.int .i64 0, Value.slice none 0 0] 30 :: cel g2 [Value.int .i64 m.e, Value.int .i64 m.b, Value.int .i64 m.p, Value.int .i64 m.k, Value.int .i64 m.c, Value.slice a m.bl.length cap] 24 :: X :: L) w10 := (by rw [Nat.zero_add] at hS10; exact hS10)
 refine WO.as (d := 16) (v := Value.slice a11 m.bl.length c12) rfl (congrArg (fun z => Value.slice _ z _) (Nat.zero_add _)) ?_
 clear hS7
 refine WO.nil ?_
 have s13 : (∀ j, World.cell? w10 ⟨g2, j, none⟩ = [Value.int .i64 m.e, Value.int .i64 m.b, Value.int .i64 m.p, Value.int .i64 m.k, Value.int .i64 m.c, Value.slice a m.bl.length cap][j]?) := hS10.cel_at 2 rfl
 refine NX.held s13 ?_
 refine WD.pure (i := 14) to_spec_t1 (bt 16 32767) rfl rfl rfl (by kernel_rfl) (PQ.then PQ.body) rfl (fun w => run_build (v := Value.agg #[Value.int .i64 m.e, Value.int .i64 m.b, Value.int .i64 m.p, Value.int .i64 m.k, Value.int .i64 m.c, Value.slice a11 m.bl.length c12]) rfl (fun w => by kernel_rfl)) ?_
 refine WD.one (i := 15) to_spec_t1 (bt 16 65535) rfl (by kernel_rfl) ?_
 refine WO.store (l' := [Value.int .i64 m.e, Value.int .i64 m.b, Value.int .i64 m.p, Value.int .i64 m.k, Value.int .i64 m.c, Value.slice a11 m.bl.length c12]) 1 hS10 rfl Ty.sz30 rfl rfl rfl rfl rfl (Nat.le_of_ble_eq_true rfl) rfl (fun w14 (hS14 : St B (own a11 m.bl.length c12 9 1 (m.bl.map str) :: cel g4 [Value.int .i64 m.e, Value.int .i64 m.b, Value.int .i64 m.p, Value.int .i64 m.k, Value.int .i64 m.c, Value.slice a11 m.bl.length c12] 30 :: cel g2 [Value.int .i64 m.e, Value.int .i64 m.b, Value.int .i64 m.p, Value.int .i64 m.k, Value.int .i64 m.c, Value.slice a m.bl.length cap] 24 :: X :: L) w14) => ?_)
 clear hS10
 refine WO.nil ?_
 have s15 : (∀ j, World.cell? w14 ⟨g2, j, none⟩ = [Value.int .i64 m.e, Value.int .i64 m.b, Value.int .i64 m.p, Value.int .i64 m.k, Value.int .i64 m.c, Value.slice a m.bl.length cap][j]?) := hS14.cel_at 2 rfl
 refine NX.held s15 ?_
 refine WD.done to_spec_t1 (by kernel_rfl) ?_
 refine NX.go (WP.ret ?_)
 refine NX.doneC (l := [.cell 2 30]) rfl (.cons (.cell rfl (loadVar_agg (vs := [Value.int .i64 m.e, Value.int .i64 m.b, Value.int .i64 m.p, Value.int .i64 m.k, Value.int .i64 m.c, Value.slice a11 m.bl.length c12]) Ty.ag30 Ty.sz30 rfl (cell_all (hS14.cel_at 1 rfl) 0 rfl))) .nil) ?_
 exact ⟨a11, c12, rfl, (hS14.permT [1, 1, 0, 0] (L' := cel g4 [Value.int .i64 m.e, Value.int .i64 m.b, Value.int .i64 m.p, Value.int .i64 m.k, Value.int .i64 m.c, Value.slice a11 m.bl.length c12] 30 :: cel g2 [Value.int .i64 m.e, Value.int .i64 m.b, Value.int .i64 m.p, Value.int .i64 m.k, Value.int .i64 m.c, Value.slice a m.bl.length cap] 24 :: own a11 m.bl.length c12 9 1 (m.bl.map str) :: X :: L) rfl).drop.drop⟩
theorem from_spec {B w : World} {L : List HP} {a : Option Addr} {cap : Nat} {m : Man} (hS : St B L w) : Does Tryz.prog 14 [Value.agg #[Value.int .i64 m.e, Value.int .i64 m.b, Value.int .i64 m.p, Value.int .i64 m.k, Value.int .i64 m.c, Value.slice a m.bl.length cap]] w (fun v w1 => v = manV m a cap ∧ St B L w1) := by
 refine enter (n := 16) Tryz.func14 rfl rfl [Value.agg #[Value.int .i64 m.e, Value.int .i64 m.b, Value.int .i64 m.p, Value.int .i64 m.k, Value.int .i64 m.c, Value.slice a m.bl.length cap]] rfl ?_
 refine WP.seq (WP.region rfl ?_)
 refine WO.box (l := [Value.int .i64 m.e, Value.int .i64 m.b, Value.int .i64 m.p, Value.int .i64 m.k, Value.int .i64 m.c, Value.slice a m.bl.length cap]) hS rfl rfl rfl (fun g2 w1 lg2 hS1 => ?_)
 clear hS
 refine WO.alloc (l := [Value.int .i64 0, Value.int .i64 0, Value.int .i64 0, Value.int .i64 0, Value.int .i64 0, Value.slice none 0 0]) hS1 Ty.zr24 rfl rfl (fun g4 w3 lg4 hS3 => ?_)
 clear hS1
 refine WO.nil (NX.go (WP.seq (WP.region rfl ?_)))
 refine WO.val (run_fieldAddr (q := ⟨g2, 0, none⟩) (show fieldB Tryz.prog 30 0 = some 0 from by kernel_rfl) rfl rfl) rfl rfl rfl ?_
 refine WO.val (run_load Ty.ag3 rfl ((hS3.cel_at 1 rfl 0).trans rfl)) rfl rfl rfl ?_
 refine WO.val (run_fieldAddr (q := ⟨g2, 1, none⟩) (show fieldB Tryz.prog 30 1 = some 1 from by kernel_rfl) rfl rfl) rfl rfl rfl ?_
 refine WO.val (run_load Ty.ag3 rfl ((hS3.cel_at 1 rfl 1).trans rfl)) rfl rfl rfl ?_
 refine WO.val (run_fieldAddr (q := ⟨g2, 2, none⟩) (show fieldB Tryz.prog 30 2 = some 2 from by kernel_rfl) rfl rfl) rfl rfl rfl ?_
 refine WO.val (run_load Ty.ag3 rfl ((hS3.cel_at 1 rfl 2).trans rfl)) rfl rfl rfl ?_
 refine WO.val (run_fieldAddr (q := ⟨g2, 3, none⟩) (show fieldB Tryz.prog 30 3 = some 3 from by kernel_rfl) rfl rfl) rfl rfl rfl ?_
 refine WO.val (run_load Ty.ag2 rfl ((hS3.cel_at 1 rfl 3).trans rfl)) rfl rfl rfl ?_
 refine WO.val (run_fieldAddr (q := ⟨g2, 4, none⟩) (show fieldB Tryz.prog 30 4 = some 4 from by kernel_rfl) rfl rfl) rfl rfl rfl ?_
 refine WO.val (run_load Ty.ag3 rfl ((hS3.cel_at 1 rfl 4).trans rfl)) rfl rfl rfl ?_
 refine WO.val (run_fieldAddr (q := ⟨g2, 5, none⟩) (show fieldB Tryz.prog 30 5 = some 5 from by kernel_rfl) rfl rfl) rfl rfl rfl ?_
 refine WO.val (run_load Ty.ag22 rfl ((hS3.cel_at 1 rfl 5).trans rfl)) rfl rfl rfl ?_
 refine WO.val (run_build (v := Value.agg #[Value.int .i64 m.e, Value.int .i64 m.b, Value.int .i64 m.p, Value.int .i64 m.k, Value.int .i64 m.c, Value.slice a m.bl.length cap]) rfl (fun w => by kernel_rfl)) rfl rfl rfl ?_
 refine WO.store (l' := [Value.int .i64 m.e, Value.int .i64 m.b, Value.int .i64 m.p, Value.int .i64 m.k, Value.int .i64 m.c, Value.slice a m.bl.length cap]) 0 hS3 rfl Ty.sz24 rfl rfl rfl rfl rfl (Nat.le_of_ble_eq_true rfl) rfl (fun w5 (hS5 : St B (cel g4 [Value.int .i64 m.e, Value.int .i64 m.b, Value.int .i64 m.p, Value.int .i64 m.k, Value.int .i64 m.c, Value.slice a m.bl.length cap] 24 :: cel g2 [Value.int .i64 m.e, Value.int .i64 m.b, Value.int .i64 m.p, Value.int .i64 m.k, Value.int .i64 m.c, Value.slice a m.bl.length cap] 30 :: L) w5) => ?_)
 clear hS3
 refine WO.nil (NX.go (WP.ret ?_))
 refine NX.doneC (l := [.cell 2 24]) rfl (.cons (.cell rfl (loadVar_agg (vs := [Value.int .i64 m.e, Value.int .i64 m.b, Value.int .i64 m.p, Value.int .i64 m.k, Value.int .i64 m.c, Value.slice a m.bl.length cap]) Ty.ag24 Ty.sz24 rfl (cell_all (hS5.cel_at 0 rfl) 0 rfl))) .nil) ?_
 exact ⟨rfl, hS5.drop.drop⟩
end Go.Proofs.YtcehlnpbdffdhaaGreatDoor.SL
