/- A manifest is loaded. -/
import Derived.Test.YtcehlnpbdffdhaaGreatDoorPb2
namespace Go.Proofs.YtcehlnpbdffdhaaGreatDoor.SL
open Go.RowKit Go.Proofs.YtcehlnpbdffdhaaGreatDoor
open Go.Proofs.YtcehlnpbdffdhaaGreatDoorW.PrintLast (rtab opsOf)
set_option linter.unusedVariables false
set_option linter.unusedSimpArgs false

def loadD (D : Dk) : Man × Int := if (readD D [109]).2 = 0 then decM (readD D [109]).1 else if (readD D [109]).2 = 12 then (noneM, 0) else (zeroM, (readD D [109]).2)
theorem readD_len {D : Dk} {n t : Nat} {k : List UInt8} (h : OkD D n t) : (readD D k).1.length ≤ t := by
  unfold readD
  split
  · exact Nat.zero_le _
  · split
    · exact Nat.zero_le _
    · rename_i i hi
      exact h.b.t _ (fileAt_mem (findN_lt h.w.good.f hi).1)
theorem runD_ok {c : Nat} : ∀ {fs : List (Dk → Dk × Int)} {D : Dk} {n t : Nat}, (∀ f ∈ fs, ∀ {D : Dk} {n t : Nat}, OkD D n t → OkD (f D).1 (n + 1) (t + c)) → OkD D n t → OkD (runD fs D).1 (n + fs.length) (t + fs.length * c)
  | [], D, n, t, _, h => h.mono (Nat.le_add_right _ _) (Nat.le_add_right _ _)
  | f :: l, D, n, t, hf, h => by
    have h1 := hf f (List.mem_cons_self ..) h
    have h2 := runD_ok (fs := l) (fun g hg => hf g (List.mem_cons_of_mem _ hg)) h1
    unfold runD
    rw [List.length_cons, Nat.add_mul, Nat.one_mul]
    split
    · exact h2.mono (by omega) (by omega)
    · exact h1.mono (by omega) (by omega)
theorem steps_ok {s : List UInt8} : ∀ f ∈ stepsR s, ∀ {D : Dk} {n t : Nat}, OkD D n t → OkD (f D).1 (n + 1) (t + s.length) := by
  intro f hf D n t h
  rcases List.mem_cons.1 hf with rfl | hf
  · exact h.remove.mono (by omega) (by omega)
  rcases List.mem_cons.1 hf with rfl | hf
  · exact h.append
  rcases List.mem_cons.1 hf with rfl | hf
  · exact h.sync.mono (by omega) (by omega)
  rcases List.mem_cons.1 hf with rfl | hf
  · exact h.rename.mono (by omega) (by omega)
  rcases List.mem_cons.1 hf with rfl | hf
  · exact h.syncNames.mono (by omega) (by omega)
  · cases hf
theorem OkD.publish {D : Dk} {n t c : Nat} {m : Man} (h : OkD D n t) (hc : (encM m).1.length ≤ c) : OkD (publishD D m).1 (n + 5) (t + 5 * c) := by
  have hm : ∀ {E : Dk}, OkD E (n + 5) (t + 5 * (encM m).1.length) → OkD E (n + 5) (t + 5 * c) := fun h => h.mono (Nat.le_refl _) (by omega)
  unfold publishD
  split
  · exact h.mono (by omega) (by omega)
  · split
    · exact hm (runD_ok (steps_ok (s := (encM m).1)) h)
    · have h2 := runD_ok (fs := stepsP (encM m).1) (fun f hf => steps_ok (s := (encM m).1) f (List.mem_cons_of_mem _ hf)) h
      have e : (stepsP (encM m).1).length = 4 := rfl
      rw [e] at h2
      exact h2.mono (by omega) (by omega)
theorem noneM_rng2 : RngM noneM := ⟨by decide, by decide, by decide, by decide, by decide, by decide, by intro t h; cases h⟩
theorem load_spec {B w : World} {L : List HP} {g n t : Nat} {D : Dk} (hk : OkD D n t) (ht : t ≤ 100000000) (hS : St B (dkA g D :: L) w) : Does Tryz.prog 20 [Value.pointer (some ⟨g, 0, none⟩)] w (fun v w1 => ∃ (a : Option Addr) (cap : Nat), v = .tuple #[manV (loadD D).1 a cap, .int .i64 (loadD D).2] ∧ RngM (loadD D).1 ∧ St B (own a (loadD D).1.bl.length cap 9 1 ((loadD D).1.bl.map str) :: dkA g D :: L) w1) := by
 refine enter (n := 23) Tryz.func20 rfl rfl [Value.pointer (some ⟨g, 0, none⟩)] rfl ?_
 refine WP.seq ?_
 refine WP.region rfl ?_
 refine WO.alloc (l := [Value.int .i64 0, Value.int .i64 0, Value.int .i64 0, Value.int .i64 0, Value.int .i64 0, Value.slice none 0 0]) hS Ty.zr30 rfl rfl (fun g2 w1 lg2 hS1 => ?_)
 clear hS
 refine WO.val (run_assign rfl) rfl rfl rfl ?_
 refine WO.nil ?_
 refine NX.go ?_
 refine WP.seq ?_
 refine WP.region rfl ?_
 refine WO.val (run_move rfl) rfl rfl rfl ?_
 have hS3 := hS1.permT [1, 0] (L' := dkA g D :: cel g2 [Value.int .i64 0, Value.int .i64 0, Value.int .i64 0, Value.int .i64 0, Value.int .i64 0, Value.slice none 0 0] 30 :: L) rfl
 clear hS1
 refine WO.call rfl rfl Ty.hd51 rfl (dread_spec hk.w [109] hS3) (fun v5 w4 pv5 => ?_)
 obtain ⟨rfl, hS4⟩ := pv5
 clear hS3
 refine WO.val (run_move rfl) rfl rfl rfl ?_
 refine WO.val (run_extract rfl rfl) rfl rfl rfl ?_
 refine WO.val (run_extract rfl rfl) rfl rfl rfl ?_
 refine WO.val (run_assign rfl) rfl rfl rfl ?_
 refine WO.val (run_assign rfl) rfl rfl rfl ?_
 refine WO.nil ?_
 refine NX.go ?_
 refine WP.seq ?_
 refine WP.seq ?_
 refine WP.region rfl ?_
 refine WO.val (run_move rfl) rfl rfl rfl ?_
 refine WO.nil ?_
 refine NX.go ?_
 refine WP.block ?_
 refine WP.seq ?_
 refine WP.region rfl ?_
 refine WO.val (run_eql rfl rfl) rfl rfl rfl ?_
 refine WO.val (run_assign rfl) rfl rfl rfl ?_
 refine WO.nil ?_
 refine NX.go ?_
 refine WP.condP rfl (fun g12 => ?_) (fun g12 => ?_)
 ·
  refine WP.seq ?_
  refine WP.region rfl ?_
  refine WO.val (run_move rfl) rfl rfl rfl ?_
  refine WO.call rfl rfl Ty.hd12 rfl (decM_spec (readD D [109]).1 (by have := readD_len (k := [109]) hk; omega) hS4) (fun v7 w6 pv7 => ?_)
  obtain ⟨da, dc, rfl, hrd, hS6⟩ := pv7
  clear hS4
  refine WO.val (run_extract rfl rfl) rfl rfl rfl ?_
  refine WO.val (run_extract rfl rfl) rfl rfl rfl ?_
  refine WO.store (l' := [Value.int .i64 ((decM (readD D [109]).1).1.e), Value.int .i64 ((decM (readD D [109]).1).1.b), Value.int .i64 ((decM (readD D [109]).1).1.p), Value.int .i64 ((decM (readD D [109]).1).1.k), Value.int .i64 ((decM (readD D [109]).1).1.c), Value.slice da ((decM (readD D [109]).1).1.bl.length) dc]) 2 hS6 rfl Ty.sz30 rfl rfl rfl rfl rfl (Nat.le_of_ble_eq_true rfl) rfl (fun w8 (hS8 : St B (own da ((decM (readD D [109]).1).1.bl.length) dc 9 1 ((decM (readD D [109]).1).1.bl.map str) :: dkA g D :: cel g2 [Value.int .i64 ((decM (readD D [109]).1).1.e), Value.int .i64 ((decM (readD D [109]).1).1.b), Value.int .i64 ((decM (readD D [109]).1).1.p), Value.int .i64 ((decM (readD D [109]).1).1.k), Value.int .i64 ((decM (readD D [109]).1).1.c), Value.slice da ((decM (readD D [109]).1).1.bl.length) dc] 30 :: L) w8) => ?_)
  clear hS6
  refine WO.val (run_assign rfl) rfl rfl rfl ?_
  refine WO.nil ?_
  refine NX.go ?_
  refine WP.ret ?_
  refine NX.blkRet ?_
  refine NX.thenRet ?_
  refine NX.doneC (l := [.cell 2 30, .tmp 3]) rfl (.cons (.cell rfl (loadVar_agg (vs := [Value.int .i64 ((decM (readD D [109]).1).1.e), Value.int .i64 ((decM (readD D [109]).1).1.b), Value.int .i64 ((decM (readD D [109]).1).1.p), Value.int .i64 ((decM (readD D [109]).1).1.k), Value.int .i64 ((decM (readD D [109]).1).1.c), Value.slice da ((decM (readD D [109]).1).1.bl.length) dc]) Ty.ag30 Ty.sz30 rfl (cell_all (hS8.cel_at 2 rfl) 0 rfl))) (.cons (.tmp rfl) .nil)) ?_
  have e0 : loadD D = (decM (readD D [109]).1) := by unfold loadD; rw [if_pos g12]
  rw [e0]
  exact ⟨da, dc, rfl, hrd, (hS8.permT [2, 0, 0] (L' := cel g2 [Value.int .i64 ((decM (readD D [109]).1).1.e), Value.int .i64 ((decM (readD D [109]).1).1.b), Value.int .i64 ((decM (readD D [109]).1).1.p), Value.int .i64 ((decM (readD D [109]).1).1.k), Value.int .i64 ((decM (readD D [109]).1).1.c), Value.slice da ((decM (readD D [109]).1).1.bl.length) dc] 30 :: own da ((decM (readD D [109]).1).1.bl.length) dc 9 1 ((decM (readD D [109]).1).1.bl.map str) :: dkA g D :: L) rfl).drop⟩
 ·
  refine WP.seq ?_
  refine WP.region rfl ?_
  refine WO.val (run_eql rfl rfl) rfl rfl rfl ?_
  refine WO.val (run_assign rfl) rfl rfl rfl ?_
  refine WO.nil ?_
  refine NX.go ?_
  refine WP.condP rfl (fun g18 => ?_) (fun g18 => ?_)
  ·
   refine WP.seq ?_
   refine WP.region rfl ?_
   refine WO.call rfl rfl Ty.hd58 rfl (none_spec hS4) (fun v10 w9 pv10 => ?_)
   obtain ⟨rfl, hS9⟩ := pv10
   clear hS4
   refine WO.store (l' := [Value.int .i64 noneM.e, Value.int .i64 noneM.b, Value.int .i64 noneM.p, Value.int .i64 noneM.k, Value.int .i64 noneM.c, Value.slice none noneM.bl.length 0]) 1 hS9 rfl Ty.sz30 rfl rfl rfl rfl rfl (Nat.le_of_ble_eq_true rfl) rfl (fun w11 (hS11 : St B (dkA g D :: cel g2 [Value.int .i64 noneM.e, Value.int .i64 noneM.b, Value.int .i64 noneM.p, Value.int .i64 noneM.k, Value.int .i64 noneM.c, Value.slice none noneM.bl.length 0] 30 :: L) w11) => ?_)
   clear hS9
   refine WO.val (run_assign rfl) rfl rfl rfl ?_
   refine WO.nil ?_
   refine NX.go ?_
   refine WP.ret ?_
   refine NX.blkRet ?_
   refine NX.thenRet ?_
   refine NX.doneC (l := [.cell 2 30, .tmp 3]) rfl (.cons (.cell rfl (loadVar_agg (vs := [Value.int .i64 noneM.e, Value.int .i64 noneM.b, Value.int .i64 noneM.p, Value.int .i64 noneM.k, Value.int .i64 noneM.c, Value.slice none noneM.bl.length 0]) Ty.ag30 Ty.sz30 rfl (cell_all (hS11.cel_at 1 rfl) 0 rfl))) (.cons (.tmp rfl) .nil)) ?_
   have e0 : loadD D = (noneM, 0) := by unfold loadD; rw [if_neg g12, if_pos g18]
   rw [e0]
   exact ⟨none, 0, rfl, noneM_rng2, ((hS11.permT [1, 0] (L' := cel g2 [Value.int .i64 noneM.e, Value.int .i64 noneM.b, Value.int .i64 noneM.p, Value.int .i64 noneM.k, Value.int .i64 noneM.c, Value.slice none noneM.bl.length 0] 30 :: dkA g D :: L) rfl).drop).own_nil 9 1⟩
  ·
   refine WP.skip ?_
   refine NX.blk ?_
   refine NX.go ?_
   refine WP.seq ?_
   refine WP.region rfl ?_
   refine WO.val (run_build (v := Value.agg #[Value.int .i64 0, Value.int .i64 0, Value.int .i64 0, Value.int .i64 0, Value.int .i64 0, Value.slice none 0 0]) rfl (fun w => by kernel_rfl)) rfl rfl rfl ?_
   refine WO.val (run_move rfl) rfl rfl rfl ?_
   refine WO.store (l' := [Value.int .i64 0, Value.int .i64 0, Value.int .i64 0, Value.int .i64 0, Value.int .i64 0, Value.slice none 0 0]) 1 hS4 rfl Ty.sz30 rfl rfl rfl rfl rfl (Nat.le_of_ble_eq_true rfl) rfl (fun w12 (hS12 : St B (dkA g D :: cel g2 [Value.int .i64 0, Value.int .i64 0, Value.int .i64 0, Value.int .i64 0, Value.int .i64 0, Value.slice none 0 0] 30 :: L) w12) => ?_)
   clear hS4
   refine WO.val (run_assign rfl) rfl rfl rfl ?_
   refine WO.nil ?_
   refine NX.go ?_
   refine WP.ret ?_
   refine NX.doneC (l := [.cell 2 30, .tmp 3]) rfl (.cons (.cell rfl (loadVar_agg (vs := [Value.int .i64 0, Value.int .i64 0, Value.int .i64 0, Value.int .i64 0, Value.int .i64 0, Value.slice none 0 0]) Ty.ag30 Ty.sz30 rfl (cell_all (hS12.cel_at 1 rfl) 0 rfl))) (.cons (.tmp rfl) .nil)) ?_
   have e0 : loadD D = (zeroM, (readD D [109]).2) := by unfold loadD; rw [if_neg g12, if_neg g18]
   rw [e0]
   exact ⟨none, 0, rfl, zeroM_rng, ((hS12.permT [1, 0] (L' := cel g2 [Value.int .i64 0, Value.int .i64 0, Value.int .i64 0, Value.int .i64 0, Value.int .i64 0, Value.slice none 0 0] 30 :: dkA g D :: L) rfl).drop).own_nil 9 1⟩
end Go.Proofs.YtcehlnpbdffdhaaGreatDoor.SL
