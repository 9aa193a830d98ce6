/- Manifests: the bytes. -/
import Derived.Test.YtcehlnpbdffdhaaGreatDoorKx2
import Derived.Test.YtcehlnpbdffdhaaGreatDoorKj
import Derived.Test.YtcehlnpbdffdhaaGreatDoorKg
namespace Go.Proofs.YtcehlnpbdffdhaaGreatDoor.SL
open Go.RowKit Go.Proofs.YtcehlnpbdffdhaaGreatDoor
open Go.Proofs.YtcehlnpbdffdhaaGreatDoorW.PrintLast (rtab opsOf)
set_option linter.unusedVariables false
set_option linter.unusedSimpArgs false
theorem mnum_spec {B w : World} {L : List HP} (n : Int) (h0 : 0 ≤ n) (h1 : n ≤ 9223372036854775807) (hS : St B L w) : Does Tryz.prog 35 [Value.int .i64 n] w (fun v w1 => v = str (numB n.toNat) ∧ St B L w1) := by
 refine enter (n := 6) Tryz.func35 rfl rfl [Value.int .i64 n] rfl ?_
 refine WP.seq ?_
 refine WP.region rfl ?_
 refine WO.val (run_assign rfl) rfl rfl rfl ?_
 refine WO.nil ?_
 refine NX.go ?_
 refine WP.seq ?_
 refine WP.region rfl ?_
 refine WO.val (run_move rfl) rfl rfl rfl ?_
 refine WO.val (run_convI Tryz.underlying43 (by kernel_rfl) rfl (show IntKind.u64.wrap n = ((n.toNat : Nat) : Int) by rw [IntWalk.u64_in _ (by omega)]; omega)) rfl rfl rfl ?_
 refine WO.call rfl rfl Ty.hd36 rfl (num_spec n.toNat (by omega) hS) (fun v2 w1 pv2 => ?_)
 obtain ⟨rfl, hS1⟩ := pv2
 clear hS
 refine WO.val (run_assign rfl) rfl rfl rfl ?_
 refine WO.nil ?_
 refine NX.go ?_
 refine WP.ret ?_
 refine NX.done (l := [.tmp 2]) rfl rfl ?_
 exact ⟨rfl, hS1⟩

def nums6 (m : Man) : List (List UInt8) := [numB m.e.toNat, numB m.b.toNat, numB m.p.toNat, numB (zig m.k), numB m.c.toNat, numB m.bl.length]
theorem flat_data (m : Man) : (nums6 m ++ m.bl.map textB).flatten = dataM m := by
  unfold nums6 dataM; simp [List.flatMap_def]
theorem flat_len6 {m : Man} (h : ∀ t ∈ m.bl, t.length ≤ 32) (hl : m.bl.length ≤ 16) (k1 : (numB m.e.toNat).length ≤ 9) (k2 : (numB m.b.toNat).length ≤ 9) (k3 : (numB m.p.toNat).length ≤ 9) (k4 : (numB (zig m.k)).length ≤ 9) (k5 : (numB m.c.toNat).length ≤ 9) (k6 : (numB m.bl.length).length ≤ 9) : (nums6 m ++ m.bl.map textB).flatten.length ≤ 1000 := by
  have key : ∀ l : List (List UInt8), (∀ t ∈ l, t.length ≤ 32) → (l.map textB).flatten.length ≤ 41 * l.length := by
    intro l
    induction l with
    | nil => intro _; simp
    | cons t l ih =>
      intro h
      have h1 := textB_le (t := t) (by have := h t (List.mem_cons_self ..); omega)
      have h2 := ih fun t ht => h t (List.mem_cons_of_mem _ ht)
      have h3 := h t (List.mem_cons_self ..)
      rw [List.map_cons, List.flatten_cons, List.length_append, List.length_cons]; omega
  have := key m.bl h
  rw [List.flatten_append, List.length_append]
  unfold nums6
  simp only [List.flatten_cons, List.length_append, List.flatten_nil, List.length_nil]
  omega
theorem map_next {α β : Type} {f : α → β} {l : List α} {i : Nat} {x : α} (h : l[i]? = some x) : (l.take (i + 1)).map f = (l.take i).map f ++ [f x] := by
  rw [List.take_add_one, h, Option.toList_some, List.map_append]; rfl
theorem encM_spec_t5 : rtab .any (opsOf Tryz.f10 5) = (true, [([], []), ([], []), ([1], [1]), ([0, 2], [0, 2]), ([], []), ([], []), ([5], [5]), ([4, 6, 3], [4, 6]), ([], []), ([], []), ([9], [9]), ([8, 10, 7], [8, 10]), ([], []), ([12], [12]), ([13, 11], [13]), ([], []), ([], []), ([16], [16]), ([15, 17, 14], [15, 17]), ([], []), ([], []), ([20], [20]), ([21], [21]), ([19, 22, 18], [19, 22]), ([3, 7, 11, 14, 18, 23], [3, 7, 11, 14, 18, 23]), ([24, 23, 0, 1, 2, 3, 4, 5, 6, 7, 8, 9, 10, 11, 12, 13, 14, 15, 16, 17, 18, 19, 20, 21, 22, 23, 24], [24])]) := by kernel_rfl
theorem encM_spec {B w : World} {L : List HP} {X : HP} {a : Option Addr} {cap : Nat} {m : Man} (hX : ∀ {L : List HP} {w : World}, St B (X :: L) w → Rd w a m.bl.length 1 (m.bl.map str)) (hr : RngM m) (hS : St B (X :: L) w) : Does Tryz.prog 10 [Value.agg #[Value.int .i64 m.e, Value.int .i64 m.b, Value.int .i64 m.p, Value.int .i64 m.k, Value.int .i64 m.c, Value.slice a m.bl.length cap]] w (fun v w1 => v = .tuple #[str (encM m).1, .int .i64 (encM m).2] ∧ St B (X :: L) w1) := by
 refine enter (n := 58) Tryz.func10 rfl rfl [Value.agg #[Value.int .i64 m.e, Value.int .i64 m.b, Value.int .i64 m.p, Value.int .i64 m.k, Value.int .i64 m.c, Value.slice a m.bl.length cap]] rfl ?_
 refine WP.seq ?_
 refine WP.region rfl ?_
 refine WO.box (l := [Value.int .i64 m.e, Value.int .i64 m.b, Value.int .i64 m.p, Value.int .i64 m.k, Value.int .i64 m.c, Value.slice a m.bl.length cap]) hS rfl rfl rfl (fun g2 w1 lg2 hS1 => ?_)
 clear hS
 refine WO.val (run_assign rfl) rfl rfl rfl ?_
 refine WO.val (run_assign rfl) rfl rfl rfl ?_
 refine WO.nil ?_
 refine NX.go ?_
 refine WP.seq ?_
 refine WP.seq ?_
 refine WP.region rfl ?_
 refine WO.val (run_loadAgg (vs := [Value.int .i64 m.e, Value.int .i64 m.b, Value.int .i64 m.p, Value.int .i64 m.k, Value.int .i64 m.c, Value.slice a m.bl.length cap]) Ty.ag30 Ty.sz30 rfl rfl (cell_all (hS1.cel_at 0 rfl) 0 rfl)) rfl rfl rfl ?_
 have hS3 := hS1.permT [1, 0] (L' := X :: cel g2 [Value.int .i64 m.e, Value.int .i64 m.b, Value.int .i64 m.p, Value.int .i64 m.k, Value.int .i64 m.c, Value.slice a m.bl.length cap] 30 :: L) rfl
 clear hS1
 refine WO.call rfl rfl Ty.hd34 rfl (checkM_spec hX hr hS3) (fun v5 w4 pv5 => ?_)
 obtain ⟨rfl, hS4⟩ := pv5
 clear hS3
 refine WO.val (run_assign rfl) rfl rfl rfl ?_
 refine WO.nil ?_
 refine NX.go ?_
 refine WP.seq ?_
 refine WP.region rfl ?_
 refine WO.val (run_move rfl) rfl rfl rfl ?_
 refine WO.val (run_neq rfl rfl) rfl rfl rfl ?_
 refine WO.nil ?_
 refine NX.go ?_
 refine WP.condP rfl (fun g12 => ?_) (fun g12 => ?_)
 ·
  refine WP.seq ?_
  refine WP.region rfl ?_
  refine WO.val (run_move rfl) rfl rfl rfl ?_
  refine WO.val (run_assign rfl) rfl rfl rfl ?_
  refine WO.val (run_assign rfl) rfl rfl rfl ?_
  refine WO.nil ?_
  refine NX.go ?_
  refine WP.ret ?_
  refine NX.thenRet ?_
  refine NX.done (l := [.tmp 2, .tmp 3]) rfl rfl ?_
  exact ⟨by rw [encM, if_neg g12]; rfl, (hS4.permT [1, 0] (L' := cel g2 [Value.int .i64 m.e, Value.int .i64 m.b, Value.int .i64 m.p, Value.int .i64 m.k, Value.int .i64 m.c, Value.slice a m.bl.length cap] 30 :: X :: L) rfl).drop⟩
 ·
  refine WP.skip ?_
  refine NX.go ?_
  refine WP.seq ?_
  refine WP.region rfl ?_
  refine WO.val (run_assign rfl) rfl rfl rfl ?_
  refine WO.nil ?_
  refine NX.go ?_
  refine WP.seq ?_
  obtain ⟨ie, ib, ip, ic, hl16, ht32, _, _⟩ := checkM_zero g12
  have h1 : m.e.toNat ≤ 99999999 ∧ m.b.toNat ≤ 99999999 ∧ m.p.toNat ≤ 99999999 ∧ m.c.toNat ≤ 99999999 := by unfold inM at ie ib ip ic; omega
  have k1 := numB_len (n := m.e.toNat) (by omega)
  have k2 := numB_len (n := m.b.toNat) (by omega)
  have k3 := numB_len (n := m.p.toNat) (by omega)
  have k4 := numB_len (n := zig m.k) (zig_lt hr.k.1 hr.k.2)
  have k5 := numB_len (n := m.c.toNat) (by omega)
  have k6 := numB_len (n := m.bl.length) (by omega)
  refine WD.start (fun w => Rd w a m.bl.length 1 (m.bl.map str) ∧ (∀ j, World.cell? w ⟨g2, j, none⟩ = [Value.int .i64 m.e, Value.int .i64 m.b, Value.int .i64 m.p, Value.int .i64 m.k, Value.int .i64 m.c, Value.slice a m.bl.length cap][j]?)) [] #[false, false, false, false, false, false, false, false, false, false, false, false, false, false, false, false, false, false, false, false, false, false, false, false, false, false] Ty.mo rfl (by kernel_rfl) hS4 (fun _ h => ⟨(hX (h.focus 0 rfl)), h.cel_at 1 rfl⟩) (fun w6 hS6 s7 => ?_)
  clear hS4
  refine WD.pure (i := 0) encM_spec_t5 #[true, false, false, false, false, false, false, false, false, false, false, false, false, false, false, false, false, false, false, false, false, false, false, false, false, false] rfl rfl rfl (by kernel_rfl) (PQ.then PQ.body) rfl (fun w => run_move rfl) ?_
  refine WD.pure (i := 1) encM_spec_t5 #[true, true, false, false, false, false, false, false, false, false, false, false, false, false, false, false, false, false, false, false, false, false, false, false, false, false] rfl rfl rfl (by kernel_rfl) (PQ.then PQ.body) rfl (fun w => run_fieldAddr (q := ⟨g2, 0, none⟩) (show fieldB Tryz.prog 30 0 = some 0 from by kernel_rfl) rfl rfl) ?_
  refine WD.take (i := 2) encM_spec_t5 #[true, true, true, false, false, false, false, false, false, false, false, false, false, false, false, false, false, false, false, false, false, false, false, false, false, false] s7 rfl rfl rfl (by kernel_rfl) (PQ.then PQ.body) rfl (fun w hs => run_load Ty.ag3 rfl ((hs.2 0).trans rfl)) ?_
  refine WD.pure (i := 4) encM_spec_t5 #[true, true, true, false, true, false, false, false, false, false, false, false, false, false, false, false, false, false, false, false, false, false, false, false, false, false] rfl rfl rfl (by kernel_rfl) (PQ.then PQ.body) rfl (fun w => run_move rfl) ?_
  refine WD.pure (i := 5) encM_spec_t5 #[true, true, true, false, true, true, false, false, false, false, false, false, false, false, false, false, false, false, false, false, false, false, false, false, false, false] rfl rfl rfl (by kernel_rfl) (PQ.then PQ.body) rfl (fun w => run_fieldAddr (q := ⟨g2, 1, none⟩) (show fieldB Tryz.prog 30 1 = some 1 from by kernel_rfl) rfl rfl) ?_
  refine WD.take (i := 6) encM_spec_t5 #[true, true, true, false, true, true, true, false, false, false, false, false, false, false, false, false, false, false, false, false, false, false, false, false, false, false] s7 rfl rfl rfl (by kernel_rfl) (PQ.then PQ.body) rfl (fun w hs => run_load Ty.ag3 rfl ((hs.2 1).trans rfl)) ?_
  refine WD.pure (i := 8) encM_spec_t5 #[true, true, true, false, true, true, true, false, true, false, false, false, false, false, false, false, false, false, false, false, false, false, false, false, false, false] rfl rfl rfl (by kernel_rfl) (PQ.then PQ.body) rfl (fun w => run_move rfl) ?_
  refine WD.pure (i := 9) encM_spec_t5 #[true, true, true, false, true, true, true, false, true, true, false, false, false, false, false, false, false, false, false, false, false, false, false, false, false, false] rfl rfl rfl (by kernel_rfl) (PQ.then PQ.body) rfl (fun w => run_fieldAddr (q := ⟨g2, 2, none⟩) (show fieldB Tryz.prog 30 2 = some 2 from by kernel_rfl) rfl rfl) ?_
  refine WD.take (i := 10) encM_spec_t5 #[true, true, true, false, true, true, true, false, true, true, true, false, false, false, false, false, false, false, false, false, false, false, false, false, false, false] s7 rfl rfl rfl (by kernel_rfl) (PQ.then PQ.body) rfl (fun w hs => run_load Ty.ag3 rfl ((hs.2 2).trans rfl)) ?_
  refine WD.pure (i := 12) encM_spec_t5 #[true, true, true, false, true, true, true, false, true, true, true, false, true, false, false, false, false, false, false, false, false, false, false, false, false, false] rfl rfl rfl (by kernel_rfl) (PQ.then PQ.body) rfl (fun w => run_fieldAddr (q := ⟨g2, 3, none⟩) (show fieldB Tryz.prog 30 3 = some 3 from by kernel_rfl) rfl rfl) ?_
  refine WD.take (i := 13) encM_spec_t5 #[true, true, true, false, true, true, true, false, true, true, true, false, true, true, false, false, false, false, false, false, false, false, false, false, false, false] s7 rfl rfl rfl (by kernel_rfl) (PQ.then PQ.body) rfl (fun w hs => run_load Ty.ag2 rfl ((hs.2 3).trans rfl)) ?_
  refine WD.pure (i := 15) encM_spec_t5 #[true, true, true, false, true, true, true, false, true, true, true, false, true, true, false, true, false, false, false, false, false, false, false, false, false, false] rfl rfl rfl (by kernel_rfl) (PQ.then PQ.body) rfl (fun w => run_move rfl) ?_
  refine WD.pure (i := 16) encM_spec_t5 #[true, true, true, false, true, true, true, false, true, true, true, false, true, true, false, true, true, false, false, false, false, false, false, false, false, false] rfl rfl rfl (by kernel_rfl) (PQ.then PQ.body) rfl (fun w => run_fieldAddr (q := ⟨g2, 4, none⟩) (show fieldB Tryz.prog 30 4 = some 4 from by kernel_rfl) rfl rfl) ?_
  refine WD.take (i := 17) encM_spec_t5 #[true, true, true, false, true, true, true, false, true, true, true, false, true, true, false, true, true, true, false, false, false, false, false, false, false, false] s7 rfl rfl rfl (by kernel_rfl) (PQ.then PQ.body) rfl (fun w hs => run_load Ty.ag3 rfl ((hs.2 4).trans rfl)) ?_
  refine WD.pure (i := 19) encM_spec_t5 #[true, true, true, false, true, true, true, false, true, true, true, false, true, true, false, true, true, true, false, true, false, false, false, false, false, false] rfl rfl rfl (by kernel_rfl) (PQ.then PQ.body) rfl (fun w => run_move rfl) ?_
  refine WD.pure (i := 20) encM_spec_t5 #[true, true, true, false, true, true, true, false, true, true, true, false, true, true, false, true, true, true, false, true, true, false, false, false, false, false] rfl rfl rfl (by kernel_rfl) (PQ.then PQ.body) rfl (fun w => run_fieldAddr (q := ⟨g2, 5, none⟩) (show fieldB Tryz.prog 30 5 = some 5 from by kernel_rfl) rfl rfl) ?_
  refine WD.take (i := 21) encM_spec_t5 #[true, true, true, false, true, true, true, false, true, true, true, false, true, true, false, true, true, true, false, true, true, true, false, false, false, false] s7 rfl rfl rfl (by kernel_rfl) (PQ.then PQ.body) rfl (fun w hs => run_load Ty.ag22 rfl ((hs.2 5).trans rfl)) ?_
  refine WD.pure (i := 22) encM_spec_t5 #[true, true, true, false, true, true, true, false, true, true, true, false, true, true, false, true, true, true, false, true, true, true, true, false, false, false] rfl rfl rfl (by kernel_rfl) (PQ.then PQ.body) rfl (fun w => run_len rfl Tryz.underlying22 rfl) ?_
  refine WD.one (i := 3) encM_spec_t5 #[true, true, true, true, true, true, true, false, true, true, true, false, true, true, false, true, true, true, false, true, true, true, true, false, false, false] rfl (by kernel_rfl) ?_
  refine WO.call rfl rfl Ty.hd35 rfl (mnum_spec m.e (by first | exact ie.1 | omega) (by first | (have := ie.2; omega) | omega) hS6) (fun v9 w8 pv9 => ?_)
  obtain ⟨rfl, hS8⟩ := pv9
  clear hS6
  refine WO.nil ?_
  have s10 : Rd w8 a m.bl.length 1 (m.bl.map str) ∧ (∀ j, World.cell? w8 ⟨g2, j, none⟩ = [Value.int .i64 m.e, Value.int .i64 m.b, Value.int .i64 m.p, Value.int .i64 m.k, Value.int .i64 m.c, Value.slice a m.bl.length cap][j]?) := ⟨(hX (hS8.focus 0 rfl)), hS8.cel_at 1 rfl⟩
  refine NX.held s10 ?_
  refine WD.one (i := 7) encM_spec_t5 #[true, true, true, true, true, true, true, true, true, true, true, false, true, true, false, true, true, true, false, true, true, true, true, false, false, false] rfl (by kernel_rfl) ?_
  refine WO.call rfl rfl Ty.hd35 rfl (mnum_spec m.b (by first | exact ib.1 | omega) (by first | (have := ib.2; omega) | omega) hS8) (fun v12 w11 pv12 => ?_)
  obtain ⟨rfl, hS11⟩ := pv12
  clear hS8
  refine WO.nil ?_
  have s13 : Rd w11 a m.bl.length 1 (m.bl.map str) ∧ (∀ j, World.cell? w11 ⟨g2, j, none⟩ = [Value.int .i64 m.e, Value.int .i64 m.b, Value.int .i64 m.p, Value.int .i64 m.k, Value.int .i64 m.c, Value.slice a m.bl.length cap][j]?) := ⟨(hX (hS11.focus 0 rfl)), hS11.cel_at 1 rfl⟩
  refine NX.held s13 ?_
  refine WD.one (i := 11) encM_spec_t5 #[true, true, true, true, true, true, true, true, true, true, true, true, true, true, false, true, true, true, false, true, true, true, true, false, false, false] rfl (by kernel_rfl) ?_
  refine WO.call rfl rfl Ty.hd35 rfl (mnum_spec m.p (by first | exact ip.1 | omega) (by first | (have := ip.2; omega) | omega) hS11) (fun v15 w14 pv15 => ?_)
  obtain ⟨rfl, hS14⟩ := pv15
  clear hS11
  refine WO.nil ?_
  have s16 : Rd w14 a m.bl.length 1 (m.bl.map str) ∧ (∀ j, World.cell? w14 ⟨g2, j, none⟩ = [Value.int .i64 m.e, Value.int .i64 m.b, Value.int .i64 m.p, Value.int .i64 m.k, Value.int .i64 m.c, Value.slice a m.bl.length cap][j]?) := ⟨(hX (hS14.focus 0 rfl)), hS14.cel_at 1 rfl⟩
  refine NX.held s16 ?_
  refine WD.one (i := 14) encM_spec_t5 #[true, true, true, true, true, true, true, true, true, true, true, true, true, true, true, true, true, true, false, true, true, true, true, false, false, false] rfl (by kernel_rfl) ?_
  refine WO.call rfl rfl Ty.hd37 rfl (signed_spec m.k hr.k.1 hr.k.2 hS14) (fun v18 w17 pv18 => ?_)
  obtain ⟨rfl, hS17⟩ := pv18
  clear hS14
  refine WO.nil ?_
  have s19 : Rd w17 a m.bl.length 1 (m.bl.map str) ∧ (∀ j, World.cell? w17 ⟨g2, j, none⟩ = [Value.int .i64 m.e, Value.int .i64 m.b, Value.int .i64 m.p, Value.int .i64 m.k, Value.int .i64 m.c, Value.slice a m.bl.length cap][j]?) := ⟨(hX (hS17.focus 0 rfl)), hS17.cel_at 1 rfl⟩
  refine NX.held s19 ?_
  refine WD.one (i := 18) encM_spec_t5 #[true, true, true, true, true, true, true, true, true, true, true, true, true, true, true, true, true, true, true, true, true, true, true, false, false, false] rfl (by kernel_rfl) ?_
  refine WO.call rfl rfl Ty.hd35 rfl (mnum_spec m.c (by first | exact ic.1 | omega) (by first | (have := ic.2; omega) | omega) hS17) (fun v21 w20 pv21 => ?_)
  obtain ⟨rfl, hS20⟩ := pv21
  clear hS17
  refine WO.nil ?_
  have s22 : Rd w20 a m.bl.length 1 (m.bl.map str) ∧ (∀ j, World.cell? w20 ⟨g2, j, none⟩ = [Value.int .i64 m.e, Value.int .i64 m.b, Value.int .i64 m.p, Value.int .i64 m.k, Value.int .i64 m.c, Value.slice a m.bl.length cap][j]?) := ⟨(hX (hS20.focus 0 rfl)), hS20.cel_at 1 rfl⟩
  refine NX.held s22 ?_
  refine WD.one (i := 23) encM_spec_t5 #[true, true, true, true, true, true, true, true, true, true, true, true, true, true, true, true, true, true, true, true, true, true, true, true, false, false] rfl (by kernel_rfl) ?_
  refine WO.call rfl rfl Ty.hd35 rfl (mnum_spec ((m.bl.length : Nat) : Int) (by omega) (by omega) hS20) (fun v24 w23 pv24 => ?_)
  obtain ⟨rfl, hS23⟩ := pv24
  clear hS20
  refine WO.nil ?_
  have s25 : Rd w23 a m.bl.length 1 (m.bl.map str) ∧ (∀ j, World.cell? w23 ⟨g2, j, none⟩ = [Value.int .i64 m.e, Value.int .i64 m.b, Value.int .i64 m.p, Value.int .i64 m.k, Value.int .i64 m.c, Value.slice a m.bl.length cap][j]?) := ⟨(hX (hS23.focus 0 rfl)), hS23.cel_at 1 rfl⟩
  refine NX.held s25 ?_
  refine WD.one (i := 24) encM_spec_t5 #[true, true, true, true, true, true, true, true, true, true, true, true, true, true, true, true, true, true, true, true, true, true, true, true, true, false] rfl (by kernel_rfl) ?_
  refine WO.buildSlice (l := [str (numB (m.e.toNat)), str (numB (m.b.toNat)), str (numB (m.p.toNat)), str (numB (zig m.k)), str (numB (m.c.toNat)), str (numB m.bl.length)]) hS23 Tryz.underlying22 rfl (fun w => by kernel_rfl) rfl (fun g27 w26 lg27 hS26 => ?_)
  clear hS23
  have hS26 := hS26.own_of_cel (m := 6) (k := 1) rfl
  replace hS26 : St B (own (some ⟨g27, 0, none⟩) 6 6 9 1 ((nums6 m).map str) :: X :: cel g2 [Value.int .i64 m.e, Value.int .i64 m.b, Value.int .i64 m.p, Value.int .i64 m.k, Value.int .i64 m.c, Value.slice a m.bl.length cap] 30 :: L) w26 := hS26
  refine WO.nil ?_
  have s28 : Rd w26 a m.bl.length 1 (m.bl.map str) ∧ (∀ j, World.cell? w26 ⟨g2, j, none⟩ = [Value.int .i64 m.e, Value.int .i64 m.b, Value.int .i64 m.p, Value.int .i64 m.k, Value.int .i64 m.c, Value.slice a m.bl.length cap][j]?) := ⟨(hX (hS26.focus 1 rfl)), hS26.cel_at 2 rfl⟩
  refine NX.held s28 ?_
  refine WD.pure (i := 25) encM_spec_t5 #[true, true, true, true, true, true, true, true, true, true, true, true, true, true, true, true, true, true, true, true, true, true, true, true, true, true] rfl rfl rfl (by kernel_rfl) (PQ.then PQ.body) rfl (fun w => run_assign rfl) ?_
  refine WD.done encM_spec_t5 (by kernel_rfl) ?_
  refine NX.go ?_
  refine WP.seq ?_
  refine WP.seq ?_
  refine WP.region rfl ?_
  refine WO.val (run_fieldAddr (q := ⟨g2, 5, none⟩) (show fieldB Tryz.prog 30 5 = some 5 from by kernel_rfl) rfl rfl) rfl rfl rfl ?_
  refine WO.val (run_load Ty.ag22 rfl ((hS26.cel_at 2 rfl 5).trans rfl)) rfl rfl rfl ?_
  refine WO.val (run_len rfl Tryz.underlying22 rfl) rfl rfl rfl ?_
  refine WO.val (run_move rfl) rfl rfl rfl ?_
  refine WO.nil ?_
  refine NX.go ?_
  refine WP.block ?_
  refine WP.loop (α := Nat × List (List UInt8) × Option Addr × Nat) (fun x => match x with | ⟨i, xs, b, cp⟩ => [(1, Value.pointer (some ⟨g2, 0, none⟩)), (6, Value.slice b xs.length cp), (40, Value.slice a m.bl.length cap), (41, Value.int .i64 ((m.bl.length : Nat) : Int)), (42, Value.int .i64 (i : Int))]) (fun x w => match x with | ⟨i, xs, b, cp⟩ => (i ≤ m.bl.length ∧ xs = nums6 m ++ (m.bl.take i).map textB ∧ xs.length = 6 + i) ∧ St B (own b xs.length cp 9 1 (xs.map str) :: X :: cel g2 [Value.int .i64 m.e, Value.int .i64 m.b, Value.int .i64 m.p, Value.int .i64 m.k, Value.int .i64 m.c, Value.slice a m.bl.length cap] 30 :: L) w) (fun x => match x with | ⟨i, xs, b, cp⟩ => m.bl.length - i) (0, nums6 m, some ⟨g27, 0, none⟩, 6) ⟨⟨Nat.zero_le _, by simp, rfl⟩, hS26⟩ (Sub.cons rfl (Sub.consE rfl (by first | rfl | first | rfl | (congr 1; omega) | (simp; done) | (simp; omega)) (Sub.cons rfl (Sub.cons rfl (Sub.consE rfl (by first | rfl | first | rfl | (congr 1; omega) | (simp; done) | (simp; omega)) (Sub.nil _)))))) ?_
  rintro ⟨i, xs, b, cp⟩ w29 ⟨⟨hi, hxs, hxl⟩, hS29⟩
  clear hS26
  refine WP.seq ?_
  refine WP.region rfl ?_
  refine WO.val (run_lss rfl rfl) rfl rfl rfl ?_
  refine WO.nil ?_
  refine NX.go ?_
  refine WP.seq ?_
  refine WP.condP rfl (fun g43 => ?_) (fun g43 => ?_)
  ·
   refine WP.skip ?_
   refine NX.go ?_
   refine WP.seq ?_
   refine WP.block ?_
   refine WP.seq ?_
   refine WP.region rfl ?_
   obtain ⟨t, ht⟩ : ∃ t, m.bl[i]? = some t := ⟨_, List.getElem?_eq_getElem (by omega)⟩
   refine WO.val (run_indexAddr (q := adr a i) Tryz.underlying22 Ty.sz9 rfl rfl (by omega) (by omega) ((hX (hS29.focus 1 rfl)).2.1 (by omega)) (by simp)) rfl rfl rfl ?_
   refine WO.val (run_load Ty.ag9 rfl ((hX (hS29.focus 1 rfl)).cell (str_at ht))) rfl rfl rfl ?_
   refine WO.val (run_assign rfl) rfl rfl rfl ?_
   refine WO.nil ?_
   refine NX.go ?_
   refine WP.region rfl ?_
   refine WO.val (run_move rfl) rfl rfl rfl ?_
   refine WO.val (run_move rfl) rfl rfl rfl ?_
   have htl := ht32 t (List.mem_of_getElem? ht)
   refine WO.call rfl rfl Ty.hd38 rfl (text_spec t (by omega) hS29) (fun v31 w30 pv31 => ?_)
   obtain ⟨rfl, hS30⟩ := pv31
   clear hS29
   refine WO.buildSlice (l := [str (textB t)]) hS30 Tryz.underlying22 rfl (fun w => by kernel_rfl) rfl (fun g33 w32 lg33 hS32 => ?_)
   clear hS30
   have hS32 := hS32.own_of_cel (m := 1) (k := 1) rfl
   replace hS32 : St B (own (some ⟨g33, 0, none⟩) 1 1 9 1 ([textB t].map str) :: own b xs.length cp 9 1 (xs.map str) :: X :: cel g2 [Value.int .i64 m.e, Value.int .i64 m.b, Value.int .i64 m.p, Value.int .i64 m.k, Value.int .i64 m.c, Value.slice a m.bl.length cap] 30 :: L) w32 := hS32
   refine WO.append (news := ([textB t].map str)) 1 rfl Tryz.underlying22 Tryz.underlying22 (fun _ h => by cases h) Ty.sz9 (by decide) Ty.by9 Ty.zr9 rfl rfl rfl rfl hS32 rfl ((hS32.own_rd_i 0 rfl).src) rfl (by omega) (by omega) (fun a35 c36 w34 hS34 => ?_)
   replace hS34 : St B (own (some ⟨g33, 0, none⟩) 1 1 9 1 ([textB t].map str) :: own a35 ((xs ++ [textB t]).length) c36 9 1 ((xs ++ [textB t]).map str) :: X :: cel g2 [Value.int .i64 m.e, Value.int .i64 m.b, Value.int .i64 m.p, Value.int .i64 m.k, Value.int .i64 m.c, Value.slice a m.bl.length cap] 30 :: L) w34 := (by rw [List.map_append, List.length_append]; exact hS34)
   refine WO.as (d := 50) (v := Value.slice a35 ((xs ++ [textB t]).length) c36) rfl (by simp) ?_
   clear hS32
   refine WO.val (run_assign rfl) rfl rfl rfl ?_
   refine WO.nil ?_
   refine NX.blk ?_
   refine NX.go ?_
   refine WP.region rfl ?_
   refine WO.val (run_add rfl rfl (IntWalk.i64_in _ (by omega))) rfl rfl rfl ?_
   refine WO.val (run_move rfl) rfl rfl rfl ?_
   refine WO.nil ?_
   exact NX.again (i + 1, xs ++ [textB t], a35, c36) ⟨⟨by omega, by rw [hxs, map_next ht, List.append_assoc], by rw [List.length_append, hxl]; rfl⟩, hS34.drop⟩ (by show m.bl.length - (i + 1) < m.bl.length - i; omega) (Sub.cons rfl (Sub.consE rfl rfl (Sub.cons rfl (Sub.cons rfl (Sub.consE rfl (by congr 1) (Sub.nil _))))))
  ·
   refine WP.exit ?_
   refine NX.thenExit ?_
   refine NX.thenExit ?_
   refine NX.blkExit ?_
   refine NX.go ?_
   refine WP.seq ?_
   have hxs2 : xs = nums6 m ++ m.bl.map textB := by rw [hxs, List.take_of_length_le (by omega)]
   have hfd : xs.flatten = dataM m := by rw [hxs2, flat_data]
   have hfl : xs.flatten.length ≤ 1000 := by rw [hxs2]; exact flat_len6 ht32 hl16 k1 k2 k3 k4 k5 k6
   refine WP.region rfl ?_
   refine WO.val (run_move rfl) rfl rfl rfl ?_
   refine WO.call rfl rfl Ty.hd40 rfl (join_spec (xs := xs) (by omega) (by omega) hS29) (fun v38 w37 pv38 => ?_)
   obtain ⟨hv, hS37⟩ := pv38
   clear hS29
   replace hv : v38 = str (dataM m) := (by rw [hv, hfd])
   subst hv
   replace hS37 : St B (own b xs.length cp 9 1 (xs.map str) :: X :: cel g2 [Value.int .i64 m.e, Value.int .i64 m.b, Value.int .i64 m.p, Value.int .i64 m.k, Value.int .i64 m.c, Value.slice a m.bl.length cap] 30 :: L) w37 := hS37
   refine WO.val (run_build (v := Value.agg #[Value.int .i64 6, str (dataM m)]) rfl (fun w => by kernel_rfl)) rfl rfl rfl ?_
   refine WO.call rfl rfl Ty.hd39 rfl (put_spec 6 (dataM m) (by decide) (by decide) (by rw [hfd] at hfl; omega) hS37) (fun v40 w39 pv40 => ?_)
   obtain ⟨rfl, hS39⟩ := pv40
   clear hS37
   refine WO.val (run_extract rfl rfl) rfl rfl rfl ?_
   refine WO.val (run_extract rfl rfl) rfl rfl rfl ?_
   refine WO.val (run_assign rfl) rfl rfl rfl ?_
   refine WO.val (run_assign rfl) rfl rfl rfl ?_
   refine WO.nil ?_
   refine NX.go ?_
   refine WP.ret ?_
   refine NX.done (l := [.tmp 2, .tmp 3]) rfl rfl ?_
   exact ⟨by rw [encM, if_pos (Decidable.of_not_not g12)]; rfl, (hS39.permT [0, 1, 0] (L' := own b xs.length cp 9 1 (xs.map str) :: cel g2 [Value.int .i64 m.e, Value.int .i64 m.b, Value.int .i64 m.p, Value.int .i64 m.k, Value.int .i64 m.c, Value.slice a m.bl.length cap] 30 :: X :: L) rfl).drop.drop⟩
end Go.Proofs.YtcehlnpbdffdhaaGreatDoor.SL
