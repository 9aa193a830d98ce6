/- Frames. -/
import Derived.Test.YtiggkfaonnnjoaaGreatDoorKdM
import Derived.Test.YtiggkfaonnnjoaaGreatDoorKuM
import Derived.Test.YtiggkfaonnnjoaaGreatDoorSl10
namespace Go.Proofs.YtiggkfaonnnjoaaGreatDoor.SL
open Go.RowKit Go.Proofs.YtiggkfaonnnjoaaGreatDoor
open Go.Proofs.YtiggkfaonnnjoaaGreatDoorW.PrintLast (rtab opsOf)
set_option linter.unusedVariables false
set_option linter.unusedSimpArgs false

/-- What a frame's bytes are, and the error. -/
def putF (k : Int) (d : List UInt8) : List UInt8 × Int :=
  if k < 1 ∨ 255 < k then ([], 5) else if 65536 < d.length then ([], 8) else ((UInt8.ofNat k.toNat :: textB d) ++ bytes4 (moreF 0 (UInt8.ofNat k.toNat :: textB d)), 0)
def frV (f : Int × List UInt8) : Value := .agg #[.int .i64 f.1, str f.2]
/-- The frame at the front. -/
def getF (s : List UInt8) : (Int × List UInt8) × Int × Int := match s with
  | [] => ((0, []), 0, 1)
  | c :: r => if c = 0 then ((0, []), 0, 5) else if ¬ (getText r 65536).2.2 = 0 then ((0, []), 0, (getText r 65536).2.2)
    else if r.length < (getText r 65536).2.1 + 4 then ((0, []), 0, 1)
    else if ¬ (s.take ((getText r 65536).2.1 + 1 + 4)).drop ((getText r 65536).2.1 + 1) = bytes4 (moreF 0 (s.take ((getText r 65536).2.1 + 1))) then ((0, []), 0, 10)
    else ((c.toNat, (getText r 65536).1), ((getText r 65536).2.1 + 1 + 4 : Nat), 0)

theorem getF_cons {s r : List UInt8} {c : UInt8} (h : s = c :: r) : getF s = (if c = 0 then ((0, []), 0, 5) else if ¬ (getText r 65536).2.2 = 0 then ((0, []), 0, (getText r 65536).2.2)
    else if r.length < (getText r 65536).2.1 + 4 then ((0, []), 0, 1)
    else if ¬ (s.take ((getText r 65536).2.1 + 1 + 4)).drop ((getText r 65536).2.1 + 1) = bytes4 (moreF 0 (s.take ((getText r 65536).2.1 + 1))) then ((0, []), 0, 10)
    else ((c.toNat, (getText r 65536).1), ((getText r 65536).2.1 + 1 + 4 : Nat), 0) : (Int × List UInt8) × Int × Int) := by subst h; rfl
theorem getText_le (s : List UInt8) (m : Int) : (getText s m).2.1 ≤ s.length := by
  unfold getText
  split
  · exact Nat.zero_le _
  · rename_i h
    have := (getNum_ok (Decidable.of_not_not h)).1
    split
    · exact Nat.zero_le _
    · split
      · exact Nat.zero_le _
      · show (getNum s).2.1 + (getNum s).1 ≤ _; omega
theorem put_spec_t5 : rtab .any (opsOf Tryz.f23 5) = (true, [([], []), ([0], [0]), ([1], [1]), ([2], [2]), ([3], [3]), ([], []), ([5], [5]), ([6], [6]), ([4, 7], [4, 7]), ([8, 7, 0, 1, 2, 3, 4, 5, 6, 7, 8], [8])]) := by kernel_rfl
theorem put_spec {B w : World} {L : List HP} (k : Int) (d : List UInt8) (hk1 : -9223372036854775808 ≤ k) (hk2 : k ≤ 9223372036854775807) (hd : d.length ≤ 140737488355328) (hS : St B L w) : Does Tryz.prog 23 [Value.agg #[Value.int .i64 k, str d]] w (fun v w1 => v = .tuple #[str (putF k d).1, .int .i64 (putF k d).2] ∧ St B L w1) := by
 refine enter (n := 33) Tryz.func23 rfl rfl [Value.agg #[Value.int .i64 k, str d]] rfl ?_
 refine WP.seq (WP.region rfl ?_)
 refine WO.box (l := [Value.int .i64 k, str d]) hS rfl rfl rfl (fun g2 w1 lg2 hS1 => ?_)
 clear hS
 refine WO.asg rfl rfl ?_
 refine WO.asg rfl rfl ?_
 refine WO.nil (NX.go (WP.seq (WP.block (WP.seq (WP.region rfl ?_)))))
 refine WO.val (run_fieldAddr (q := ⟨g2, 0, none⟩) (show fieldB Tryz.prog 61 0 = some 0 from by kernel_rfl) rfl rfl) rfl rfl rfl ?_
 refine WO.val (run_load Ty.ag3 rfl ((hS1.cel_at 0 rfl 0).trans rfl)) rfl rfl rfl ?_
 refine WO.val (run_lss rfl rfl) rfl rfl rfl ?_
 refine WO.mv rfl rfl ?_
 by_cases g9 : k < 1
 ·
  refine WO.off rfl rfl (decide_eq_true g9) rfl ?_
  refine WO.off rfl rfl (decide_eq_true g9) rfl ?_
  refine WO.off rfl rfl (decide_eq_true g9) rfl ?_
  refine WO.val (run_pickT rfl (decide_eq_true g9) rfl) rfl rfl rfl ?_
  refine WO.asg rfl rfl ?_
  refine WO.nil (NX.go ?_)
  refine WP.condT rfl rfl ?_
  refine WP.seq (WP.region rfl ?_)
  refine WO.asg rfl rfl ?_
  refine WO.asg rfl rfl ?_
  refine WO.nil (NX.go (WP.ret (NX.blkRet (NX.thenRet ?_))))
  refine NX.done (l := [.tmp 2, .tmp 3]) rfl rfl ?_
  exact ⟨by rw [putF, if_pos (.inl g9)]; rfl, hS1.drop⟩
 ·
  refine WO.on rfl rfl (decide_eq_false g9) ?_
  refine WO.val (run_fieldAddr (q := ⟨g2, 0, none⟩) (show fieldB Tryz.prog 61 0 = some 0 from by kernel_rfl) rfl rfl) rfl rfl rfl ?_
  refine WO.on rfl rfl (decide_eq_false g9) ?_
  refine WO.val (run_load Ty.ag3 rfl ((hS1.cel_at 0 rfl 0).trans rfl)) rfl rfl rfl ?_
  refine WO.on rfl rfl (decide_eq_false g9) ?_
  refine WO.val (run_gtr rfl rfl) rfl rfl rfl ?_
  refine WO.val (run_pickF rfl (decide_eq_false g9) rfl) rfl rfl rfl ?_
  refine WO.asg rfl rfl ?_
  refine WO.nil (NX.go ?_)
  refine WP.condP rfl (fun g5 => ?_) (fun g5 => ?_)
  ·
   refine WP.seq (WP.region rfl ?_)
   refine WO.asg rfl rfl ?_
   refine WO.asg rfl rfl ?_
   refine WO.nil (NX.go (WP.ret (NX.blkRet (NX.thenRet ?_))))
   refine NX.done (l := [.tmp 2, .tmp 3]) rfl rfl ?_
   exact ⟨by rw [putF, if_pos (.inr g5)]; rfl, hS1.drop⟩
  ·
   refine WP.seq (WP.region rfl ?_)
   refine WO.val (run_fieldAddr (q := ⟨g2, 1, none⟩) (show fieldB Tryz.prog 61 1 = some 1 from by kernel_rfl) rfl rfl) rfl rfl rfl ?_
   refine WO.val (run_load Ty.ag9 rfl ((hS1.cel_at 0 rfl 1).trans rfl)) rfl rfl rfl ?_
   refine WO.val (run_lenS rfl Tryz.underlying9 rfl) rfl rfl rfl ?_
   refine WO.val (run_gtr rfl rfl) rfl rfl rfl ?_
   refine WO.asg rfl rfl ?_
   refine WO.nil (NX.go ?_)
   refine WP.condP rfl (fun g14 => ?_) (fun g14 => ?_)
   ·
    refine WP.seq (WP.region rfl ?_)
    refine WO.asg rfl rfl ?_
    refine WO.asg rfl rfl ?_
    refine WO.nil (NX.go (WP.ret (NX.blkRet (NX.thenRet ?_))))
    refine NX.done (l := [.tmp 2, .tmp 3]) rfl rfl ?_
    exact ⟨by rw [putF, if_neg (fun h => h.elim g9 g5), if_pos (by omega)]; rfl, hS1.drop⟩
   ·
    refine WP.skip (NX.blk (NX.go (WP.seq ?_)))
    have htl : (textB d).length ≤ 65545 := by have := numB_len (show d.length < 18446744073709551616 by omega); unfold textB; rw [List.length_append]; omega
    have hu8 : IntKind.u8.wrap k = ((UInt8.ofNat k.toNat).toNat : Int) := by rw [IntKind.wrap_u8, u8_ofNat]; omega
    refine WD.start (fun w => (∀ jz, World.cell? w ⟨g2, jz, none⟩ = [Value.int .i64 k, str d][jz]?)) [] (bt 10 0) Ty.mo rfl (by kernel_rfl) hS1 (fun _ h => h.cel_at 0 rfl) (fun w3 hS3 s4 => ?_)
    clear hS1
    refine WD.pure (i := 0) put_spec_t5 (bt 10 1) rfl rfl rfl (by kernel_rfl) (PQ.then PQ.body) rfl (fun w => run_fieldAddr (q := ⟨g2, 0, none⟩) (show fieldB Tryz.prog 61 0 = some 0 from by kernel_rfl) rfl rfl) ?_
    refine WD.take (i := 1) put_spec_t5 (bt 10 3) s4 rfl rfl rfl (by kernel_rfl) (PQ.then PQ.body) rfl (fun w hs => run_load Ty.ag3 rfl ((hs 0).trans rfl)) ?_
    refine WD.pure (i := 2) put_spec_t5 (bt 10 7) rfl rfl rfl (by kernel_rfl) (PQ.then PQ.body) rfl (fun w => run_convI Tryz.underlying5 (by kernel_rfl) rfl hu8) ?_
    refine WD.pure (i := 5) put_spec_t5 (bt 10 39) rfl rfl rfl (by kernel_rfl) (PQ.then PQ.body) rfl (fun w => run_fieldAddr (q := ⟨g2, 1, none⟩) (show fieldB Tryz.prog 61 1 = some 1 from by kernel_rfl) rfl rfl) ?_
    refine WD.take (i := 6) put_spec_t5 (bt 10 103) s4 rfl rfl rfl (by kernel_rfl) (PQ.then PQ.body) rfl (fun w hs => run_load Ty.ag9 rfl ((hs 1).trans rfl)) ?_
    refine WD.two (i := 3) (k := 7) put_spec_t5 (bt 10 111) (bt 10 231) rfl rfl (by kernel_rfl) ?_ ?_
    ·
     refine WO.buildSlice (l := [Value.int .u8 ((UInt8.ofNat k.toNat).toNat : Int)]) hS3 Tryz.underlying33 rfl (fun w => by kernel_rfl) rfl (fun g6 w5 lg6 hS5 => ?_)
     clear hS3
     have hS5 := hS5.own_of_cel (m := 1) (k := 1) rfl
     refine WO.nil ?_
     have s7 : (∀ jz, World.cell? w5 ⟨g2, jz, none⟩ = [Value.int .i64 k, str d][jz]?) := hS5.cel_at 1 rfl
     refine NX.held s7 ?_
     refine WD.two (i := 4) (k := 7) put_spec_t5 (bt 10 127) (bt 10 239) rfl rfl (by kernel_rfl) ?_ ?_
     ·
      refine WO.val (run_bytesToStr Tryz.underlying33 Tryz.underlying5 Tryz.underlying9 rfl (show Rd w5 (some ⟨g6, 0, none⟩) 1 1 (List.map (fun b : UInt8 => Value.int .u8 (b.toNat : Int)) [UInt8.ofNat k.toNat]) from hS5.own_rd_i 0 rfl)) rfl rfl rfl ?_
      refine WO.nil ?_
      have s8 : (∀ jz, World.cell? w5 ⟨g2, jz, none⟩ = [Value.int .i64 k, str d][jz]?) := hS5.cel_at 1 rfl
      refine NX.held s8 ?_
      refine WD.one (i := 7) put_spec_t5 (bt 10 255) rfl (by kernel_rfl) ?_
      refine WO.call rfl rfl Ty.hd39 rfl (text_spec d (by omega) hS5) (fun v10 w9 pv10 => ?_)
      obtain ⟨rfl, hS9⟩ := pv10
      clear hS5
      refine WO.nil ?_
      have s11 : (∀ jz, World.cell? w9 ⟨g2, jz, none⟩ = [Value.int .i64 k, str d][jz]?) := hS9.cel_at 1 rfl
      refine NX.held s11 ?_
      refine WD.pure (i := 8) put_spec_t5 (bt 10 511) rfl rfl rfl (by kernel_rfl) (PQ.then PQ.body) rfl (fun w => run_cat rfl rfl (by simp; omega)) ?_
      refine WD.pure (i := 9) put_spec_t5 (bt 10 1023) rfl rfl rfl (by kernel_rfl) (PQ.then PQ.body) rfl (fun w => run_assign rfl) ?_
      refine WD.done put_spec_t5 (by kernel_rfl) ?_
      refine NX.go (WP.seq ?_)
      have hsl : (UInt8.ofNat k.toNat :: textB d).length ≤ 65546 := by rw [List.length_cons]; omega
      refine WP.region rfl ?_
      refine WO.mv rfl rfl ?_
      refine WO.mv rfl rfl ?_
      refine WO.call rfl rfl Ty.hd41 rfl (sumOf_spec (UInt8.ofNat k.toNat :: textB d) (by omega) hS9) (fun v13 w12 pv13 => ?_)
      obtain ⟨rfl, hS12⟩ := pv13
      clear hS9
      refine WO.call rfl rfl Ty.hd40 rfl (sumBytes_spec (moreF 0 (UInt8.ofNat k.toNat :: textB d)) (moreF_lt _ _) hS12) (fun v15 w14 pv15 => ?_)
      obtain ⟨rfl, hS14⟩ := pv15
      clear hS12
      refine WO.val (run_cat rfl rfl (by simp [bytes4]; omega)) rfl rfl rfl ?_
      refine WO.asg rfl rfl ?_
      refine WO.asg rfl rfl ?_
      refine WO.nil (NX.go (WP.ret ?_))
      refine NX.done (l := [.tmp 2, .tmp 3]) rfl rfl ?_
      exact ⟨by rw [putF, if_neg (fun h => h.elim g9 g5), if_neg (by omega)]; rfl, hS14.drop.drop⟩
     ·
      refine WO.call rfl rfl Ty.hd39 rfl (text_spec d (by omega) hS5) (fun v17 w16 pv17 => ?_)
      obtain ⟨rfl, hS16⟩ := pv17
      clear hS5
      refine WO.nil ?_
      have s18 : (∀ jz, World.cell? w16 ⟨g2, jz, none⟩ = [Value.int .i64 k, str d][jz]?) := hS16.cel_at 1 rfl
      refine NX.held s18 ?_
      refine WD.one (i := 4) put_spec_t5 (bt 10 255) rfl (by kernel_rfl) ?_
      refine WO.val (run_bytesToStr Tryz.underlying33 Tryz.underlying5 Tryz.underlying9 rfl (show Rd w16 (some ⟨g6, 0, none⟩) 1 1 (List.map (fun b : UInt8 => Value.int .u8 (b.toNat : Int)) [UInt8.ofNat k.toNat]) from hS16.own_rd_i 0 rfl)) rfl rfl rfl ?_
      refine WO.nil ?_
      have s19 : (∀ jz, World.cell? w16 ⟨g2, jz, none⟩ = [Value.int .i64 k, str d][jz]?) := hS16.cel_at 1 rfl
      refine NX.held s19 ?_
      refine WD.pure (i := 8) put_spec_t5 (bt 10 511) rfl rfl rfl (by kernel_rfl) (PQ.then PQ.body) rfl (fun w => run_cat rfl rfl (by simp; omega)) ?_
      refine WD.pure (i := 9) put_spec_t5 (bt 10 1023) rfl rfl rfl (by kernel_rfl) (PQ.then PQ.body) rfl (fun w => run_assign rfl) ?_
      refine WD.done put_spec_t5 (by kernel_rfl) ?_
      refine NX.go (WP.seq ?_)
      have hsl : (UInt8.ofNat k.toNat :: textB d).length ≤ 65546 := by rw [List.length_cons]; omega
      refine WP.region rfl ?_
      refine WO.mv rfl rfl ?_
      refine WO.mv rfl rfl ?_
      refine WO.call rfl rfl Ty.hd41 rfl (sumOf_spec (UInt8.ofNat k.toNat :: textB d) (by omega) hS16) (fun v21 w20 pv21 => ?_)
      obtain ⟨rfl, hS20⟩ := pv21
      clear hS16
      refine WO.call rfl rfl Ty.hd40 rfl (sumBytes_spec (moreF 0 (UInt8.ofNat k.toNat :: textB d)) (moreF_lt _ _) hS20) (fun v23 w22 pv23 => ?_)
      obtain ⟨rfl, hS22⟩ := pv23
      clear hS20
      refine WO.val (run_cat rfl rfl (by simp [bytes4]; omega)) rfl rfl rfl ?_
      refine WO.asg rfl rfl ?_
      refine WO.asg rfl rfl ?_
      refine WO.nil (NX.go (WP.ret ?_))
      refine NX.done (l := [.tmp 2, .tmp 3]) rfl rfl ?_
      exact ⟨by rw [putF, if_neg (fun h => h.elim g9 g5), if_neg (by omega)]; rfl, hS22.drop.drop⟩
    ·
     refine WO.call rfl rfl Ty.hd39 rfl (text_spec d (by omega) hS3) (fun v25 w24 pv25 => ?_)
     obtain ⟨rfl, hS24⟩ := pv25
     clear hS3
     refine WO.nil ?_
     have s26 : (∀ jz, World.cell? w24 ⟨g2, jz, none⟩ = [Value.int .i64 k, str d][jz]?) := hS24.cel_at 0 rfl
     refine NX.held s26 ?_
     refine WD.one (i := 3) put_spec_t5 (bt 10 239) rfl (by kernel_rfl) ?_
     refine WO.buildSlice (l := [Value.int .u8 ((UInt8.ofNat k.toNat).toNat : Int)]) hS24 Tryz.underlying33 rfl (fun w => by kernel_rfl) rfl (fun g28 w27 lg28 hS27 => ?_)
     clear hS24
     have hS27 := hS27.own_of_cel (m := 1) (k := 1) rfl
     refine WO.nil ?_
     have s29 : (∀ jz, World.cell? w27 ⟨g2, jz, none⟩ = [Value.int .i64 k, str d][jz]?) := hS27.cel_at 1 rfl
     refine NX.held s29 ?_
     refine WD.one (i := 4) put_spec_t5 (bt 10 255) rfl (by kernel_rfl) ?_
     refine WO.val (run_bytesToStr Tryz.underlying33 Tryz.underlying5 Tryz.underlying9 rfl (show Rd w27 (some ⟨g28, 0, none⟩) 1 1 (List.map (fun b : UInt8 => Value.int .u8 (b.toNat : Int)) [UInt8.ofNat k.toNat]) from hS27.own_rd_i 0 rfl)) rfl rfl rfl ?_
     refine WO.nil ?_
     have s30 : (∀ jz, World.cell? w27 ⟨g2, jz, none⟩ = [Value.int .i64 k, str d][jz]?) := hS27.cel_at 1 rfl
     refine NX.held s30 ?_
     refine WD.pure (i := 8) put_spec_t5 (bt 10 511) rfl rfl rfl (by kernel_rfl) (PQ.then PQ.body) rfl (fun w => run_cat rfl rfl (by simp; omega)) ?_
     refine WD.pure (i := 9) put_spec_t5 (bt 10 1023) rfl rfl rfl (by kernel_rfl) (PQ.then PQ.body) rfl (fun w => run_assign rfl) ?_
     refine WD.done put_spec_t5 (by kernel_rfl) ?_
     refine NX.go (WP.seq ?_)
     have hsl : (UInt8.ofNat k.toNat :: textB d).length ≤ 65546 := by rw [List.length_cons]; omega
     refine WP.region rfl ?_
     refine WO.mv rfl rfl ?_
     refine WO.mv rfl rfl ?_
     refine WO.call rfl rfl Ty.hd41 rfl (sumOf_spec (UInt8.ofNat k.toNat :: textB d) (by omega) hS27) (fun v32 w31 pv32 => ?_)
     obtain ⟨rfl, hS31⟩ := pv32
     clear hS27
     refine WO.call rfl rfl Ty.hd40 rfl (sumBytes_spec (moreF 0 (UInt8.ofNat k.toNat :: textB d)) (moreF_lt _ _) hS31) (fun v34 w33 pv34 => ?_)
     obtain ⟨rfl, hS33⟩ := pv34
     clear hS31
     refine WO.val (run_cat rfl rfl (by simp [bytes4]; omega)) rfl rfl rfl ?_
     refine WO.asg rfl rfl ?_
     refine WO.asg rfl rfl ?_
     refine WO.nil (NX.go (WP.ret ?_))
     refine NX.done (l := [.tmp 2, .tmp 3]) rfl rfl ?_
     exact ⟨by rw [putF, if_neg (fun h => h.elim g9 g5), if_neg (by omega)]; rfl, hS33.drop.drop⟩
theorem getFrame_spec_t12 : rtab .any (opsOf Tryz.f37 12) = (true, [([], []), ([], []), ([], []), ([0, 1, 2], [0, 1, 2]), ([], []), ([], []), ([4, 5], [4, 5]), ([6], [6]), ([7, 7], [7]), ([3, 8], [3, 8]), ([9, 8], [9])]) := by kernel_rfl
theorem getFrame_spec {B w : World} {L : List HP} (s : List UInt8) (hs : s.length ≤ 140737488355328) (hS : St B L w) : Does Tryz.prog 37 [str s] w (fun v w1 => v = .tuple #[frV (getF s).1, .int .i64 (getF s).2.1, .int .i64 (getF s).2.2] ∧ St B L w1) := by
 refine enter (n := 57) Tryz.func37 rfl rfl [str s] rfl ?_
 refine WP.seq (WP.region rfl ?_)
 refine WO.alloc (l := [Value.int .i64 0, str []]) hS Ty.zr61 rfl rfl (fun g2 w1 lg2 hS1 => ?_)
 clear hS
 refine WO.asg rfl rfl ?_
 refine WO.asg rfl rfl ?_
 refine WO.nil (NX.go (WP.seq (WP.block (WP.seq (WP.region rfl ?_)))))
 refine WO.mv rfl rfl ?_
 refine WO.val (run_eqlS rfl rfl) rfl rfl rfl ?_
 refine WO.asg rfl rfl ?_
 refine WO.nil (NX.go ?_)
 refine WP.condP rfl (fun g9 => ?_) (fun g9 => ?_)
 ·
  refine WP.seq (WP.region rfl ?_)
  refine WO.val (run_build (v := Value.agg #[Value.int .i64 0, str []]) rfl (fun w => by kernel_rfl)) rfl rfl rfl ?_
  refine WO.store (l' := [Value.int .i64 0, str []]) 0 hS1 rfl Ty.sz61 rfl rfl rfl rfl rfl (Nat.le_of_ble_eq_true rfl) rfl (fun w3 (hS3 : St B (cel g2 [Value.int .i64 0, str []] 61 :: L) w3) => ?_)
  clear hS1
  refine WO.asg rfl rfl ?_
  refine WO.asg rfl rfl ?_
  refine WO.nil (NX.go (WP.ret (NX.blkRet (NX.thenRet ?_))))
  refine NX.doneC (l := [.cell 2 61, .tmp 3, .tmp 4]) rfl (.cons (.cell rfl (loadVar_agg (vs := [Value.int .i64 0, str []]) Ty.ag61 Ty.sz61 rfl (cell_all (hS3.cel_at 0 rfl) 0 rfl))) (.cons (.tmp rfl) (.cons (.tmp rfl) .nil))) ?_
  exact ⟨by rw [g9]; rfl, hS3.drop⟩
 ·
  obtain ⟨c, r, hs0⟩ : ∃ c r, s = c :: r := by cases s with | nil => exact absurd rfl g9 | cons c r => exact ⟨c, r, rfl⟩
  have hcl := UInt8.toNat_lt c
  have hl0 : s.length = r.length + 1 := by rw [hs0]; rfl
  have hnl := getText_le r 65536
  refine WP.seq (WP.region rfl ?_)
  refine WO.mv rfl rfl ?_
  refine WO.val (run_indexS Tryz.underlying9 rfl rfl (by omega) (by rw [hs0]; rfl)) rfl rfl rfl ?_
  refine WO.val (run_eql rfl rfl) rfl rfl rfl ?_
  refine WO.asg rfl rfl ?_
  refine WO.nil (NX.go ?_)
  refine WP.condP rfl (fun g13 => ?_) (fun g13 => ?_)
  ·
   refine WP.seq (WP.region rfl ?_)
   refine WO.val (run_build (v := Value.agg #[Value.int .i64 0, str []]) rfl (fun w => by kernel_rfl)) rfl rfl rfl ?_
   refine WO.store (l' := [Value.int .i64 0, str []]) 0 hS1 rfl Ty.sz61 rfl rfl rfl rfl rfl (Nat.le_of_ble_eq_true rfl) rfl (fun w4 (hS4 : St B (cel g2 [Value.int .i64 0, str []] 61 :: L) w4) => ?_)
   clear hS1
   refine WO.asg rfl rfl ?_
   refine WO.asg rfl rfl ?_
   refine WO.nil (NX.go (WP.ret (NX.blkRet (NX.thenRet ?_))))
   refine NX.doneC (l := [.cell 2 61, .tmp 3, .tmp 4]) rfl (.cons (.cell rfl (loadVar_agg (vs := [Value.int .i64 0, str []]) Ty.ag61 Ty.sz61 rfl (cell_all (hS4.cel_at 0 rfl) 0 rfl))) (.cons (.tmp rfl) (.cons (.tmp rfl) .nil))) ?_
   exact ⟨by rw [hs0, getF, if_pos ((u8z c).1 g13)]; rfl, hS4.drop⟩
  ·
   refine WP.skip (NX.blk (NX.go (WP.seq (WP.region rfl ?_))))
   refine WO.mv rfl rfl ?_
   refine WO.val (run_sliceS (i := 1) (j := s.length) Tryz.underlying9 rfl ⟨_, rfl⟩ rfl (by omega) (Nat.le_refl _) (show (s.take s.length).drop 1 = r by rw [List.take_length, hs0]; rfl)) rfl rfl rfl ?_
   refine WO.call rfl rfl Ty.hd57 rfl (getText_spec r 65536 (by omega) (by decide) hS1) (fun v6 w5 pv6 => ?_)
   obtain ⟨rfl, hS5⟩ := pv6
   clear hS1
   refine WO.mv rfl rfl ?_
   refine WO.val (run_extract rfl rfl) rfl rfl rfl ?_
   refine WO.val (run_extract rfl rfl) rfl rfl rfl ?_
   refine WO.val (run_extract rfl rfl) rfl rfl rfl ?_
   refine WO.asg rfl rfl ?_
   refine WO.asg rfl rfl ?_
   refine WO.asg rfl rfl ?_
   refine WO.nil (NX.go (WP.seq (WP.seq (WP.region rfl ?_))))
   refine WO.mv rfl rfl ?_
   refine WO.val (run_neq rfl rfl) rfl rfl rfl ?_
   refine WO.nil (NX.go ?_)
   refine WP.condP rfl (fun g26 => ?_) (fun g26 => ?_)
   ·
    refine WP.seq (WP.region rfl ?_)
    refine WO.val (run_build (v := Value.agg #[Value.int .i64 0, str []]) rfl (fun w => by kernel_rfl)) rfl rfl rfl ?_
    refine WO.mv rfl rfl ?_
    refine WO.store (l' := [Value.int .i64 0, str []]) 0 hS5 rfl Ty.sz61 rfl rfl rfl rfl rfl (Nat.le_of_ble_eq_true rfl) rfl (fun w7 (hS7 : St B (cel g2 [Value.int .i64 0, str []] 61 :: L) w7) => ?_)
    clear hS5
    refine WO.asg rfl rfl ?_
    refine WO.asg rfl rfl ?_
    refine WO.nil (NX.go (WP.ret (NX.thenRet ?_)))
    refine NX.doneC (l := [.cell 2 61, .tmp 3, .tmp 4]) rfl (.cons (.cell rfl (loadVar_agg (vs := [Value.int .i64 0, str []]) Ty.ag61 Ty.sz61 rfl (cell_all (hS7.cel_at 0 rfl) 0 rfl))) (.cons (.tmp rfl) (.cons (.tmp rfl) .nil))) ?_
    exact ⟨by rw [hs0, getF, if_neg (fun h => g13 ((u8z c).2 h)), if_pos g26]; rfl, hS7.drop⟩
   ·
    refine WP.skip (NX.go (WP.seq (WP.region rfl ?_)))
    refine WO.mv rfl rfl ?_
    refine WO.val (run_add rfl rfl (IntWalk.i64_in _ (by omega))) rfl rfl rfl ?_
    refine WO.asg rfl rfl ?_
    refine WO.nil (NX.go (WP.seq (WP.region rfl ?_)))
    refine WO.mv rfl rfl ?_
    refine WO.val (run_add rfl rfl (IntWalk.i64_in _ (by omega))) rfl rfl rfl ?_
    refine WO.asg rfl rfl ?_
    refine WO.nil (NX.go (WP.seq (WP.block (WP.seq (WP.region rfl ?_)))))
    refine WO.mv rfl rfl ?_
    refine WO.mv rfl rfl ?_
    refine WO.val (run_lenS rfl Tryz.underlying9 rfl) rfl rfl rfl ?_
    refine WO.val (run_gtr rfl rfl) rfl rfl rfl ?_
    refine WO.asg rfl rfl ?_
    refine WO.nil (NX.go ?_)
    refine WP.condP rfl (fun g33 => ?_) (fun g33 => ?_)
    ·
     refine WP.seq (WP.region rfl ?_)
     refine WO.val (run_build (v := Value.agg #[Value.int .i64 0, str []]) rfl (fun w => by kernel_rfl)) rfl rfl rfl ?_
     refine WO.store (l' := [Value.int .i64 0, str []]) 0 hS5 rfl Ty.sz61 rfl rfl rfl rfl rfl (Nat.le_of_ble_eq_true rfl) rfl (fun w8 (hS8 : St B (cel g2 [Value.int .i64 0, str []] 61 :: L) w8) => ?_)
     clear hS5
     refine WO.asg rfl rfl ?_
     refine WO.asg rfl rfl ?_
     refine WO.nil (NX.go (WP.ret (NX.blkRet (NX.thenRet ?_))))
     refine NX.doneC (l := [.cell 2 61, .tmp 3, .tmp 4]) rfl (.cons (.cell rfl (loadVar_agg (vs := [Value.int .i64 0, str []]) Ty.ag61 Ty.sz61 rfl (cell_all (hS8.cel_at 0 rfl) 0 rfl))) (.cons (.tmp rfl) (.cons (.tmp rfl) .nil))) ?_
     exact ⟨by rw [hs0, getF, if_neg (fun h => g13 ((u8z c).2 h)), if_neg g26, if_pos (by omega)]; rfl, hS8.drop⟩
    ·
     refine WP.seq ?_
     refine WD.start (fun w => (∀ jz, World.cell? w ⟨g2, jz, none⟩ = [Value.int .i64 0, str []][jz]?)) [] (bt 11 0) Ty.mo rfl (by kernel_rfl) hS5 (fun _ h => h.cel_at 0 rfl) (fun w9 hS9 s10 => ?_)
     clear hS5
     refine WD.pure (i := 0) getFrame_spec_t12 (bt 11 1) rfl rfl rfl (by kernel_rfl) (PQ.then (PQ.blk (PQ.then PQ.body))) rfl (fun w => run_move rfl) ?_
     refine WD.pure (i := 1) getFrame_spec_t12 (bt 11 3) rfl rfl rfl (by kernel_rfl) (PQ.then (PQ.blk (PQ.then PQ.body))) rfl (fun w => run_move rfl) ?_
     refine WD.pure (i := 2) getFrame_spec_t12 (bt 11 7) rfl rfl rfl (by kernel_rfl) (PQ.then (PQ.blk (PQ.then PQ.body))) rfl (fun w => run_move rfl) ?_
     refine WD.pure (i := 3) getFrame_spec_t12 (bt 11 15) rfl rfl rfl (by kernel_rfl) (PQ.then (PQ.blk (PQ.then PQ.body))) rfl (fun w => run_sliceS (i := ((getText r 65536).2.1 + 1)) (j := ((getText r 65536).2.1 + 1 + 4)) Tryz.underlying9 rfl ⟨_, rfl⟩ ⟨_, rfl⟩ (by omega) (by omega) rfl) ?_
     refine WD.pure (i := 4) getFrame_spec_t12 (bt 11 31) rfl rfl rfl (by kernel_rfl) (PQ.then (PQ.blk (PQ.then PQ.body))) rfl (fun w => run_move rfl) ?_
     refine WD.pure (i := 5) getFrame_spec_t12 (bt 11 63) rfl rfl rfl (by kernel_rfl) (PQ.then (PQ.blk (PQ.then PQ.body))) rfl (fun w => run_move rfl) ?_
     refine WD.pure (i := 6) getFrame_spec_t12 (bt 11 127) rfl rfl rfl (by kernel_rfl) (PQ.then (PQ.blk (PQ.then PQ.body))) rfl (fun w => run_sliceS (i := 0) (j := ((getText r 65536).2.1 + 1)) Tryz.underlying9 rfl rfl ⟨_, rfl⟩ (Nat.zero_le _) (by omega) (List.drop_zero)) ?_
     refine WD.one (i := 7) getFrame_spec_t12 (bt 11 255) rfl (by kernel_rfl) ?_
     refine WO.call rfl rfl Ty.hd41 rfl (sumOf_spec (s.take ((getText r 65536).2.1 + 1)) (by rw [List.length_take]; omega) hS9) (fun v12 w11 pv12 => ?_)
     obtain ⟨rfl, hS11⟩ := pv12
     clear hS9
     refine WO.nil ?_
     have s13 : (∀ jz, World.cell? w11 ⟨g2, jz, none⟩ = [Value.int .i64 0, str []][jz]?) := hS11.cel_at 0 rfl
     refine NX.held s13 ?_
     refine WD.one (i := 8) getFrame_spec_t12 (bt 11 511) rfl (by kernel_rfl) ?_
     refine WO.call rfl rfl Ty.hd40 rfl (sumBytes_spec (moreF 0 (s.take ((getText r 65536).2.1 + 1))) (moreF_lt _ _) hS11) (fun v15 w14 pv15 => ?_)
     obtain ⟨rfl, hS14⟩ := pv15
     clear hS11
     refine WO.nil ?_
     have s16 : (∀ jz, World.cell? w14 ⟨g2, jz, none⟩ = [Value.int .i64 0, str []][jz]?) := hS14.cel_at 0 rfl
     refine NX.held s16 ?_
     refine WD.pure (i := 9) getFrame_spec_t12 (bt 11 1023) rfl rfl rfl (by kernel_rfl) (PQ.then (PQ.blk (PQ.then PQ.body))) rfl (fun w => run_neqS rfl rfl) ?_
     refine WD.pure (i := 10) getFrame_spec_t12 (bt 11 2047) rfl rfl rfl (by kernel_rfl) (PQ.then (PQ.blk (PQ.then PQ.body))) rfl (fun w => run_assign rfl) ?_
     refine WD.done getFrame_spec_t12 (by kernel_rfl) ?_
     refine NX.go ?_
     refine WP.condP rfl (fun g39 => ?_) (fun g39 => ?_)
     ·
      refine WP.seq (WP.region rfl ?_)
      refine WO.val (run_build (v := Value.agg #[Value.int .i64 0, str []]) rfl (fun w => by kernel_rfl)) rfl rfl rfl ?_
      refine WO.store (l' := [Value.int .i64 0, str []]) 0 hS14 rfl Ty.sz61 rfl rfl rfl rfl rfl (Nat.le_of_ble_eq_true rfl) rfl (fun w17 (hS17 : St B (cel g2 [Value.int .i64 0, str []] 61 :: L) w17) => ?_)
      clear hS14
      refine WO.asg rfl rfl ?_
      refine WO.asg rfl rfl ?_
      refine WO.nil (NX.go (WP.ret (NX.blkRet (NX.thenRet ?_))))
      refine NX.doneC (l := [.cell 2 61, .tmp 3, .tmp 4]) rfl (.cons (.cell rfl (loadVar_agg (vs := [Value.int .i64 0, str []]) Ty.ag61 Ty.sz61 rfl (cell_all (hS17.cel_at 0 rfl) 0 rfl))) (.cons (.tmp rfl) (.cons (.tmp rfl) .nil))) ?_
      exact ⟨by rw [getF_cons hs0, if_neg (fun h => g13 ((u8z c).2 h)), if_neg g26, if_neg (by omega), if_pos g39]; rfl, hS17.drop⟩
     ·
      refine WP.skip (NX.blk (NX.go (WP.seq (WP.region rfl ?_))))
      refine WO.mv rfl rfl ?_
      refine WO.val (run_indexS Tryz.underlying9 rfl rfl (by omega) (by rw [hs0]; rfl)) rfl rfl rfl ?_
      refine WO.val (run_convI Tryz.underlying3 (by kernel_rfl) rfl (IntWalk.i64_in _ (by omega))) rfl rfl rfl ?_
      refine WO.mv rfl rfl ?_
      refine WO.val (run_build (v := Value.agg #[Value.int .i64 (c.toNat : Int), str ((getText r 65536).1)]) rfl (fun w => by kernel_rfl)) rfl rfl rfl ?_
      refine WO.mv rfl rfl ?_
      refine WO.store (l' := [Value.int .i64 (c.toNat : Int), str ((getText r 65536).1)]) 0 hS14 rfl Ty.sz61 rfl rfl rfl rfl rfl (Nat.le_of_ble_eq_true rfl) rfl (fun w18 (hS18 : St B (cel g2 [Value.int .i64 (c.toNat : Int), str ((getText r 65536).1)] 61 :: L) w18) => ?_)
      clear hS14
      refine WO.asg rfl rfl ?_
      refine WO.asg rfl rfl ?_
      refine WO.nil (NX.go (WP.ret ?_))
      refine NX.doneC (l := [.cell 2 61, .tmp 3, .tmp 4]) rfl (.cons (.cell rfl (loadVar_agg (vs := [Value.int .i64 (c.toNat : Int), str ((getText r 65536).1)]) Ty.ag61 Ty.sz61 rfl (cell_all (hS18.cel_at 0 rfl) 0 rfl))) (.cons (.tmp rfl) (.cons (.tmp rfl) .nil))) ?_
      exact ⟨by rw [getF_cons hs0, if_neg (fun h => g13 ((u8z c).2 h)), if_neg g26, if_neg (by omega), if_neg g39]; rfl, hS18.drop⟩
end Go.Proofs.YtiggkfaonnnjoaaGreatDoor.SL
