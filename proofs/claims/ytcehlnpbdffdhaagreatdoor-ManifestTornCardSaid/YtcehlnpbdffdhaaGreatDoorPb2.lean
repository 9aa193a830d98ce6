/- A manifest is published. -/
import Derived.Test.YtcehlnpbdffdhaaGreatDoorPb
namespace Go.Proofs.YtcehlnpbdffdhaaGreatDoor.SL
open Go.RowKit Go.Proofs.YtcehlnpbdffdhaaGreatDoor
open Go.Proofs.YtcehlnpbdffdhaaGreatDoorW.PrintLast (rtab opsOf)
set_option linter.unusedVariables false
set_option linter.unusedSimpArgs false
theorem publish_spec {B w : World} {L : List HP} {X : HP} {a : Option Addr} {cap : Nat} {m : Man} {g n t : Nat} {D : Dk} (hX : ∀ {L : List HP} {w : World}, St B (X :: L) w → Rd w a m.bl.length 1 (m.bl.map str)) (hr : RngM m) (hk : OkD D n t) (hn : n ≤ 100000) (ht : t ≤ 100000000) (hel : (encM m).1.length ≤ 100000) (hS : St B (dkA g D :: X :: L) w) : Does Tryz.prog 17 [Value.pointer (some ⟨g, 0, none⟩), Value.agg #[Value.int .i64 m.e, Value.int .i64 m.b, Value.int .i64 m.p, Value.int .i64 m.k, Value.int .i64 m.c, Value.slice a m.bl.length cap]] w (fun v w1 => v = .int .i64 (publishD D m).2 ∧ St B (dkA g (publishD D m).1 :: X :: L) w1) := by
 refine enter (n := 50) Tryz.func17 rfl rfl [Value.pointer (some ⟨g, 0, none⟩), Value.agg #[Value.int .i64 m.e, Value.int .i64 m.b, Value.int .i64 m.p, Value.int .i64 m.k, Value.int .i64 m.c, Value.slice a m.bl.length cap]] rfl ?_
 refine WP.seq ?_
 refine WP.region rfl ?_
 refine WO.box (l := [Value.pointer (some ⟨g, 0, none⟩)]) hS rfl rfl rfl (fun g2 w1 lg2 hS1 => ?_)
 clear hS
 refine WO.box (l := [Value.int .i64 m.e, Value.int .i64 m.b, Value.int .i64 m.p, Value.int .i64 m.k, Value.int .i64 m.c, Value.slice a m.bl.length cap]) hS1 rfl rfl rfl (fun g4 w3 lg4 hS3 => ?_)
 clear hS1
 refine WO.val (run_assign rfl) rfl rfl rfl ?_
 refine WO.nil ?_
 refine NX.go ?_
 refine WP.seq ?_
 refine WP.region rfl ?_
 refine WO.val (run_loadAgg (vs := [Value.int .i64 m.e, Value.int .i64 m.b, Value.int .i64 m.p, Value.int .i64 m.k, Value.int .i64 m.c, Value.slice a m.bl.length cap]) Ty.ag30 Ty.sz30 rfl rfl (cell_all (hS3.cel_at 0 rfl) 0 rfl)) rfl rfl rfl ?_
 have hS5 := hS3.permT [3, 0, 0, 0] (L' := X :: cel g4 [Value.int .i64 m.e, Value.int .i64 m.b, Value.int .i64 m.p, Value.int .i64 m.k, Value.int .i64 m.c, Value.slice a m.bl.length cap] 30 :: cel g2 [Value.pointer (some ⟨g, 0, none⟩)] 39 :: dkA g D :: L) rfl
 clear hS3
 refine WO.call rfl rfl Ty.hd10 rfl (encM_spec (m := m) hX hr hS5) (fun v7 w6 pv7 => ?_)
 obtain ⟨rfl, hS6⟩ := pv7
 clear hS5
 refine WO.val (run_move rfl) rfl rfl rfl ?_
 refine WO.val (run_extract rfl rfl) rfl rfl rfl ?_
 refine WO.val (run_extract rfl rfl) rfl rfl rfl ?_
 refine WO.alloc (l := [str []]) hS6 Ty.zr9 rfl rfl (fun g9 w8 lg9 hS8 => ?_)
 clear hS6
 refine WO.store (l' := [str ((encM m).1)]) 0 hS8 rfl Ty.sz9 rfl rfl rfl rfl rfl (Nat.le_of_ble_eq_true rfl) rfl (fun w10 (hS10 : St B (cel g9 [str ((encM m).1)] 9 :: X :: cel g4 [Value.int .i64 m.e, Value.int .i64 m.b, Value.int .i64 m.p, Value.int .i64 m.k, Value.int .i64 m.c, Value.slice a m.bl.length cap] 30 :: cel g2 [Value.pointer (some ⟨g, 0, none⟩)] 39 :: dkA g D :: L) w10) => ?_)
 clear hS8
 refine WO.val (run_assign rfl) rfl rfl rfl ?_
 refine WO.nil ?_
 refine NX.go ?_
 refine WP.seq ?_
 refine WP.seq ?_
 refine WP.region rfl ?_
 refine WO.val (run_move rfl) rfl rfl rfl ?_
 refine WO.val (run_neq rfl rfl) rfl rfl rfl ?_
 refine WO.nil ?_
 refine NX.go ?_
 refine WP.condP rfl (fun g19 => ?_) (fun g19 => ?_)
 ·
  refine WP.seq ?_
  refine WP.region rfl ?_
  refine WO.val (run_move rfl) rfl rfl rfl ?_
  refine WO.val (run_assign rfl) rfl rfl rfl ?_
  refine WO.nil ?_
  refine NX.go ?_
  refine WP.ret ?_
  refine NX.thenRet ?_
  refine NX.done (l := [.tmp 4]) rfl rfl ?_
  have e0 : publishD D m = (D, (encM m).2) := by unfold publishD; rw [if_pos g19]
  rw [e0]
  exact ⟨rfl, (hS10.permT [0, 1, 1, 1, 0] (L' := cel g9 [str ((encM m).1)] 9 :: cel g4 [Value.int .i64 m.e, Value.int .i64 m.b, Value.int .i64 m.p, Value.int .i64 m.k, Value.int .i64 m.c, Value.slice a m.bl.length cap] 30 :: cel g2 [Value.pointer (some ⟨g, 0, none⟩)] 39 :: dkA g D :: X :: L) rfl).drop.drop.drop⟩
 ·
  refine WP.skip ?_
  refine NX.go ?_
  refine WP.seq ?_
  refine WP.region rfl ?_
  refine WO.val (run_makeFunc rfl rfl) rfl rfl rfl ?_
  refine WO.val (run_makeFunc rfl rfl) rfl rfl rfl ?_
  refine WO.val (run_makeFunc rfl rfl) rfl rfl rfl ?_
  refine WO.val (run_load Ty.ag39 rfl ((hS10.cel_at 3 rfl 0).trans rfl)) rfl rfl rfl ?_
  refine WO.val (run_makeFunc rfl rfl) rfl rfl rfl ?_
  refine WO.buildSlice (l := [Value.func (.func 45) #[] #[Value.pointer (some ⟨g2, 0, none⟩), Value.pointer (some ⟨g9, 0, none⟩)], Value.func (.func 46) #[] #[Value.pointer (some ⟨g2, 0, none⟩)], Value.func (.func 48) #[] #[Value.pointer (some ⟨g2, 0, none⟩)], Value.func (.func 50) #[Value.pointer (some ⟨g, 0, none⟩)] #[]]) hS10 Tryz.underlying86 rfl (fun w => by kernel_rfl) rfl (fun g12 w11 lg12 hS11 => ?_)
  clear hS10
  have hS11 := hS11.own_of_cel (m := 4) (k := 1) rfl
  replace hS11 : St B (own (some ⟨g12, 0, none⟩) 4 4 84 1 (valsP g g2 g9) :: cel g9 [str ((encM m).1)] 9 :: X :: cel g4 [Value.int .i64 m.e, Value.int .i64 m.b, Value.int .i64 m.p, Value.int .i64 m.k, Value.int .i64 m.c, Value.slice a m.bl.length cap] 30 :: cel g2 [Value.pointer (some ⟨g, 0, none⟩)] 39 :: dkA g D :: L) w11 := hS11
  refine WO.val (run_assign rfl) rfl rfl rfl ?_
  refine WO.nil ?_
  refine NX.go ?_
  refine WP.seq ?_
  refine WP.seq ?_
  refine WP.region rfl ?_
  refine WO.val (run_load Ty.ag39 rfl ((hS11.cel_at 4 rfl 0).trans rfl)) rfl rfl rfl ?_
  have hS13 := hS11.permT [5, 0, 0, 0, 0, 0] (L' := dkA g D :: own (some ⟨g12, 0, none⟩) 4 4 84 1 (valsP g g2 g9) :: cel g9 [str ((encM m).1)] 9 :: X :: cel g4 [Value.int .i64 m.e, Value.int .i64 m.b, Value.int .i64 m.p, Value.int .i64 m.k, Value.int .i64 m.c, Value.slice a m.bl.length cap] 30 :: cel g2 [Value.pointer (some ⟨g, 0, none⟩)] 39 :: L) rfl
  clear hS11
  refine WO.call rfl rfl Ty.hd51 rfl (dread_spec hk.w [110] hS13) (fun v15 w14 pv15 => ?_)
  obtain ⟨rfl, hS14⟩ := pv15
  clear hS13
  refine WO.val (run_move rfl) rfl rfl rfl ?_
  refine WO.val (run_extract rfl rfl) rfl rfl rfl ?_
  refine WO.val (run_extract rfl rfl) rfl rfl rfl ?_
  refine WO.val (run_assign rfl) rfl rfl rfl ?_
  refine WO.val (run_assign rfl) rfl rfl rfl ?_
  refine WO.nil ?_
  refine NX.go ?_
  refine WP.seq ?_
  refine WP.region rfl ?_
  refine WO.val (run_move rfl) rfl rfl rfl ?_
  refine WO.val (run_eql rfl rfl) rfl rfl rfl ?_
  refine WO.nil ?_
  refine NX.go ?_
  refine WP.condP rfl (fun g33 => ?_) (fun g33 => ?_)
  ·
   refine WP.region rfl ?_
   refine WO.val (run_makeFunc rfl rfl) rfl rfl rfl ?_
   refine WO.buildSlice (l := [Value.func (.func 52) #[] #[Value.pointer (some ⟨g2, 0, none⟩)]]) hS14 Tryz.underlying86 rfl (fun w => by kernel_rfl) rfl (fun g17 w16 lg17 hS16 => ?_)
   clear hS14
   have hS16 := hS16.own_of_cel (m := 1) (k := 1) rfl
   refine WO.val (run_move rfl) rfl rfl rfl ?_
   refine WO.append (news := (valsP g g2 g9)) 0 rfl Tryz.underlying86 Tryz.underlying86 (fun _ h => by cases h) Ty.sz84 (by decide) Ty.by84 Ty.zr84 rfl rfl rfl rfl hS16 rfl ((hS16.own_rd_i 2 rfl).src) rfl (by omega) (by omega) (fun a19 c20 w18 hS18 => ?_)
   replace hS18 : St B (own a19 5 c20 84 1 (valsR g g2 g9) :: dkA g D :: own (some ⟨g12, 0, none⟩) 4 4 84 1 (valsP g g2 g9) :: cel g9 [str ((encM m).1)] 9 :: X :: cel g4 [Value.int .i64 m.e, Value.int .i64 m.b, Value.int .i64 m.p, Value.int .i64 m.k, Value.int .i64 m.c, Value.slice a m.bl.length cap] 30 :: cel g2 [Value.pointer (some ⟨g, 0, none⟩)] 39 :: L) w18 := hS18
   refine WO.as (d := 37) (v := Value.slice a19 5 c20) rfl rfl ?_
   clear hS16
   refine WO.val (run_assign rfl) rfl rfl rfl ?_
   refine WO.nil ?_
   refine NX.go ?_
   refine WP.seq ?_
   refine WP.seq ?_
   refine WP.region rfl ?_
   refine WO.val (run_move rfl) rfl rfl rfl ?_
   refine WO.val (run_len rfl Tryz.underlying86 rfl) rfl rfl rfl ?_
   refine WO.val (run_move rfl) rfl rfl rfl ?_
   refine WO.nil ?_
   refine NX.go ?_
   refine WP.block ?_
   refine WP.loop (α := Nat × Dk × Nat × Nat) (fun x => match x with | ⟨i, Dq, nq, tq⟩ => [(38, Value.slice a19 5 c20), (39, Value.int .i64 (5 : Int)), (40, Value.int .i64 (i : Int))]) (fun x w => match x with | ⟨i, Dq, nq, tq⟩ => (i ≤ 5 ∧ OkD Dq nq tq ∧ nq ≤ n + i ∧ tq ≤ t + 100000 * i ∧ publishD D m = runD ((stepsR (encM m).1).drop i) Dq) ∧ St B (own a19 5 c20 84 1 (valsR g g2 g9) :: dkA g Dq :: own (some ⟨g12, 0, none⟩) 4 4 84 1 (valsP g g2 g9) :: cel g9 [str ((encM m).1)] 9 :: X :: cel g4 [Value.int .i64 m.e, Value.int .i64 m.b, Value.int .i64 m.p, Value.int .i64 m.k, Value.int .i64 m.c, Value.slice a m.bl.length cap] 30 :: cel g2 [Value.pointer (some ⟨g, 0, none⟩)] 39 :: L) w) (fun x => match x with | ⟨i, Dq, nq, tq⟩ => 5 - i) (0, D, n, t) ⟨⟨Nat.zero_le _, hk, Nat.le_refl _, Nat.le_refl _, by unfold publishD; rw [if_neg g19, if_pos g33]; rfl⟩, hS18⟩ (Sub.cons rfl (Sub.cons rfl (Sub.consE rfl (by first | rfl | first | rfl | (congr 1; omega) | (simp; done) | (simp; omega)) (Sub.nil _)))) ?_
   rintro ⟨i, Dq, nq, tq⟩ w21 ⟨⟨hi, hkq, hnq, htq, hp⟩, hS21⟩
   clear hS18
   refine WP.seq ?_
   refine WP.region rfl ?_
   refine WO.val (run_lss rfl rfl) rfl rfl rfl ?_
   refine WO.nil ?_
   refine NX.go ?_
   refine WP.seq ?_
   refine WP.condP rfl (fun g41 => ?_) (fun g41 => ?_)
   ·
    refine WP.skip ?_
    refine NX.go ?_
    refine WP.seq ?_
    refine WP.block ?_
    refine WP.seq ?_
    obtain ⟨fv, hv0⟩ : ∃ fv, (valsR g g2 g9)[i]? = some fv := ⟨_, List.getElem?_eq_getElem (by show i < 5; omega)⟩
    refine WP.region rfl ?_
    refine WO.val (run_indexAddr (q := adr a19 i) Tryz.underlying86 Ty.sz84 rfl rfl (by omega) (by omega) ((hS21.own_rd_i 0 rfl).2.1 (by omega)) (by simp)) rfl rfl rfl ?_
    refine WO.val (run_load Ty.ag84 rfl ((hS21.own_rd_i 0 rfl).cell hv0)) rfl rfl rfl ?_
    refine WO.val (run_assign rfl) rfl rfl rfl ?_
    refine WO.nil ?_
    refine NX.go ?_
    refine WP.seq ?_
    refine WP.region rfl ?_
    refine WO.val (run_move rfl) rfl rfl rfl ?_
    obtain ⟨f, hf, F, us, cs, hfv, hF, hD, hok⟩ := callR hkq (by omega) (by omega) hel hv0 (hS21.permT [1, 5, 2, 0, 0, 0, 0] (L' := dkA g Dq :: cel g2 [Value.pointer (some ⟨g, 0, none⟩)] 39 :: cel g9 [str ((encM m).1)] 9 :: own a19 5 c20 84 1 (valsR g g2 g9) :: own (some ⟨g12, 0, none⟩) 4 4 84 1 (valsP g g2 g9) :: X :: cel g4 [Value.int .i64 m.e, Value.int .i64 m.b, Value.int .i64 m.p, Value.int .i64 m.k, Value.int .i64 m.c, Value.slice a m.bl.length cap] 30 :: L) rfl)
    subst hfv
    refine WO.callV (us := us) (cs := cs) rfl rfl hF rfl hD (fun v23 w22 pv23 => ?_)
    obtain ⟨rfl, hS22⟩ := pv23
    clear hS21
    refine WO.val (run_assign rfl) rfl rfl rfl ?_
    refine WO.nil ?_
    refine NX.go ?_
    refine WP.seq ?_
    refine WP.region rfl ?_
    refine WO.val (run_move rfl) rfl rfl rfl ?_
    refine WO.val (run_neq rfl rfl) rfl rfl rfl ?_
    refine WO.nil ?_
    refine NX.go ?_
    refine WP.condP rfl (fun g47 => ?_) (fun g47 => ?_)
    ·
     refine WP.seq ?_
     refine WP.region rfl ?_
     refine WO.val (run_move rfl) rfl rfl rfl ?_
     refine WO.val (run_assign rfl) rfl rfl rfl ?_
     refine WO.nil ?_
     refine NX.go ?_
     refine WP.ret ?_
     refine NX.blkRet ?_
     refine NX.thenRet ?_
     refine NX.thenRet ?_
     refine NX.blkRet ?_
     refine NX.thenRet ?_
     refine NX.done (l := [.tmp 4]) rfl rfl ?_
     have e0 : publishD D m = f Dq := by rw [hp, runD_step hf, if_neg g47]
     rw [e0]
     exact ⟨rfl, (hS22.permT [1, 1, 1, 1, 2, 0, 0] (L' := cel g2 [Value.pointer (some ⟨g, 0, none⟩)] 39 :: cel g9 [str ((encM m).1)] 9 :: own a19 5 c20 84 1 (valsR g g2 g9) :: own (some ⟨g12, 0, none⟩) 4 4 84 1 (valsP g g2 g9) :: cel g4 [Value.int .i64 m.e, Value.int .i64 m.b, Value.int .i64 m.p, Value.int .i64 m.k, Value.int .i64 m.c, Value.slice a m.bl.length cap] 30 :: dkA g ((f Dq).1) :: X :: L) rfl).drop.drop.drop.drop.drop⟩
    ·
     refine WP.skip ?_
     refine NX.blk ?_
     refine NX.go ?_
     refine WP.region rfl ?_
     refine WO.val (run_add rfl rfl (IntWalk.i64_in _ (by omega))) rfl rfl rfl ?_
     refine WO.val (run_move rfl) rfl rfl rfl ?_
     refine WO.nil ?_
     exact NX.again (i + 1, (f Dq).1, nq + 1, tq + 100000) ⟨⟨by omega, hok, by omega, by omega, by rw [hp, runD_step hf, if_pos (Decidable.of_not_not g47)]⟩, (hS22.permT [3, 0, 2, 1, 1, 1, 0] (L' := own a19 5 c20 84 1 (valsR g g2 g9) :: dkA g ((f Dq).1) :: own (some ⟨g12, 0, none⟩) 4 4 84 1 (valsP g g2 g9) :: cel g9 [str ((encM m).1)] 9 :: X :: cel g4 [Value.int .i64 m.e, Value.int .i64 m.b, Value.int .i64 m.p, Value.int .i64 m.k, Value.int .i64 m.c, Value.slice a m.bl.length cap] 30 :: cel g2 [Value.pointer (some ⟨g, 0, none⟩)] 39 :: L) rfl)⟩ (by show 5 - (i + 1) < 5 - i; omega) (Sub.cons rfl (Sub.cons rfl (Sub.consE rfl (by congr 1) (Sub.nil _))))
   ·
    refine WP.exit ?_
    refine NX.thenExit ?_
    refine NX.thenExit ?_
    refine NX.blkExit ?_
    refine NX.go ?_
    refine WP.seq ?_
    refine WP.region rfl ?_
    refine WO.val (run_assign rfl) rfl rfl rfl ?_
    refine WO.nil ?_
    refine NX.go ?_
    refine WP.ret ?_
    refine NX.done (l := [.tmp 4]) rfl rfl ?_
    have hin : i = 5 := by omega
    subst hin
    have e0 : publishD D m = (Dq, 0) := by rw [hp]; rfl
    rw [e0]
    exact ⟨rfl, (hS21.permT [0, 1, 1, 2, 2, 0, 0] (L' := own a19 5 c20 84 1 (valsR g g2 g9) :: own (some ⟨g12, 0, none⟩) 4 4 84 1 (valsP g g2 g9) :: cel g9 [str ((encM m).1)] 9 :: cel g4 [Value.int .i64 m.e, Value.int .i64 m.b, Value.int .i64 m.p, Value.int .i64 m.k, Value.int .i64 m.c, Value.slice a m.bl.length cap] 30 :: cel g2 [Value.pointer (some ⟨g, 0, none⟩)] 39 :: dkA g Dq :: X :: L) rfl).drop.drop.drop.drop.drop⟩
  ·
   refine WP.skip ?_
   refine NX.go ?_
   refine WP.seq ?_
   refine WP.seq ?_
   refine WP.region rfl ?_
   refine WO.val (run_move rfl) rfl rfl rfl ?_
   refine WO.val (run_len rfl Tryz.underlying86 rfl) rfl rfl rfl ?_
   refine WO.val (run_move rfl) rfl rfl rfl ?_
   refine WO.nil ?_
   refine NX.go ?_
   refine WP.block ?_
   refine WP.loop (α := Nat × Dk × Nat × Nat) (fun x => match x with | ⟨i, Dq, nq, tq⟩ => [(38, Value.slice (some ⟨g12, 0, none⟩) 4 4), (39, Value.int .i64 (4 : Int)), (40, Value.int .i64 (i : Int))]) (fun x w => match x with | ⟨i, Dq, nq, tq⟩ => (i ≤ 4 ∧ OkD Dq nq tq ∧ nq ≤ n + i ∧ tq ≤ t + 100000 * i ∧ publishD D m = runD ((stepsP (encM m).1).drop i) Dq) ∧ St B (dkA g Dq :: own (some ⟨g12, 0, none⟩) 4 4 84 1 (valsP g g2 g9) :: cel g9 [str ((encM m).1)] 9 :: X :: cel g4 [Value.int .i64 m.e, Value.int .i64 m.b, Value.int .i64 m.p, Value.int .i64 m.k, Value.int .i64 m.c, Value.slice a m.bl.length cap] 30 :: cel g2 [Value.pointer (some ⟨g, 0, none⟩)] 39 :: L) w) (fun x => match x with | ⟨i, Dq, nq, tq⟩ => 4 - i) (0, D, n, t) ⟨⟨Nat.zero_le _, hk, Nat.le_refl _, Nat.le_refl _, by unfold publishD; rw [if_neg g19, if_neg g33]; rfl⟩, hS14⟩ (Sub.cons rfl (Sub.cons rfl (Sub.consE rfl (by first | rfl | first | rfl | (congr 1; omega) | (simp; done) | (simp; omega)) (Sub.nil _)))) ?_
   rintro ⟨i, Dq, nq, tq⟩ w24 ⟨⟨hi, hkq, hnq, htq, hp⟩, hS24⟩
   clear hS14
   refine WP.seq ?_
   refine WP.region rfl ?_
   refine WO.val (run_lss rfl rfl) rfl rfl rfl ?_
   refine WO.nil ?_
   refine NX.go ?_
   refine WP.seq ?_
   refine WP.condP rfl (fun g41 => ?_) (fun g41 => ?_)
   ·
    refine WP.skip ?_
    refine NX.go ?_
    refine WP.seq ?_
    refine WP.block ?_
    refine WP.seq ?_
    obtain ⟨fv, hv0⟩ : ∃ fv, (valsP g g2 g9)[i]? = some fv := ⟨_, List.getElem?_eq_getElem (by show i < 4; omega)⟩
    refine WP.region rfl ?_
    refine WO.val (run_indexAddr (q := adr (some ⟨g12, 0, none⟩) i) Tryz.underlying86 Ty.sz84 rfl rfl (by omega) (by omega) ((hS24.own_rd_i 1 rfl).2.1 (by omega)) (by simp)) rfl rfl rfl ?_
    refine WO.val (run_load Ty.ag84 rfl ((hS24.own_rd_i 1 rfl).cell hv0)) rfl rfl rfl ?_
    refine WO.val (run_assign rfl) rfl rfl rfl ?_
    refine WO.nil ?_
    refine NX.go ?_
    refine WP.seq ?_
    refine WP.region rfl ?_
    refine WO.val (run_move rfl) rfl rfl rfl ?_
    obtain ⟨f, hf, F, us, cs, hfv, hF, hD, hok⟩ := callP hkq (by omega) (by omega) hel hv0 (hS24.permT [0, 4, 1, 0, 0, 0] (L' := dkA g Dq :: cel g2 [Value.pointer (some ⟨g, 0, none⟩)] 39 :: cel g9 [str ((encM m).1)] 9 :: own (some ⟨g12, 0, none⟩) 4 4 84 1 (valsP g g2 g9) :: X :: cel g4 [Value.int .i64 m.e, Value.int .i64 m.b, Value.int .i64 m.p, Value.int .i64 m.k, Value.int .i64 m.c, Value.slice a m.bl.length cap] 30 :: L) rfl)
    subst hfv
    refine WO.callV (us := us) (cs := cs) rfl rfl hF rfl hD (fun v26 w25 pv26 => ?_)
    obtain ⟨rfl, hS25⟩ := pv26
    clear hS24
    refine WO.val (run_assign rfl) rfl rfl rfl ?_
    refine WO.nil ?_
    refine NX.go ?_
    refine WP.seq ?_
    refine WP.region rfl ?_
    refine WO.val (run_move rfl) rfl rfl rfl ?_
    refine WO.val (run_neq rfl rfl) rfl rfl rfl ?_
    refine WO.nil ?_
    refine NX.go ?_
    refine WP.condP rfl (fun g47 => ?_) (fun g47 => ?_)
    ·
     refine WP.seq ?_
     refine WP.region rfl ?_
     refine WO.val (run_move rfl) rfl rfl rfl ?_
     refine WO.val (run_assign rfl) rfl rfl rfl ?_
     refine WO.nil ?_
     refine NX.go ?_
     refine WP.ret ?_
     refine NX.blkRet ?_
     refine NX.thenRet ?_
     refine NX.thenRet ?_
     refine NX.blkRet ?_
     refine NX.thenRet ?_
     refine NX.done (l := [.tmp 4]) rfl rfl ?_
     have e0 : publishD D m = f Dq := by rw [hp, runD_step hf, if_neg g47]
     rw [e0]
     exact ⟨rfl, (hS25.permT [1, 1, 1, 2, 0, 0] (L' := cel g2 [Value.pointer (some ⟨g, 0, none⟩)] 39 :: cel g9 [str ((encM m).1)] 9 :: own (some ⟨g12, 0, none⟩) 4 4 84 1 (valsP g g2 g9) :: cel g4 [Value.int .i64 m.e, Value.int .i64 m.b, Value.int .i64 m.p, Value.int .i64 m.k, Value.int .i64 m.c, Value.slice a m.bl.length cap] 30 :: dkA g ((f Dq).1) :: X :: L) rfl).drop.drop.drop.drop⟩
    ·
     refine WP.skip ?_
     refine NX.blk ?_
     refine NX.go ?_
     refine WP.region rfl ?_
     refine WO.val (run_add rfl rfl (IntWalk.i64_in _ (by omega))) rfl rfl rfl ?_
     refine WO.val (run_move rfl) rfl rfl rfl ?_
     refine WO.nil ?_
     exact NX.again (i + 1, (f Dq).1, nq + 1, tq + 100000) ⟨⟨by omega, hok, by omega, by omega, by rw [hp, runD_step hf, if_pos (Decidable.of_not_not g47)]⟩, (hS25.permT [0, 2, 1, 1, 1, 0] (L' := dkA g ((f Dq).1) :: own (some ⟨g12, 0, none⟩) 4 4 84 1 (valsP g g2 g9) :: cel g9 [str ((encM m).1)] 9 :: X :: cel g4 [Value.int .i64 m.e, Value.int .i64 m.b, Value.int .i64 m.p, Value.int .i64 m.k, Value.int .i64 m.c, Value.slice a m.bl.length cap] 30 :: cel g2 [Value.pointer (some ⟨g, 0, none⟩)] 39 :: L) rfl)⟩ (by show 4 - (i + 1) < 4 - i; omega) (Sub.cons rfl (Sub.cons rfl (Sub.consE rfl (by congr 1) (Sub.nil _))))
   ·
    refine WP.exit ?_
    refine NX.thenExit ?_
    refine NX.thenExit ?_
    refine NX.blkExit ?_
    refine NX.go ?_
    refine WP.seq ?_
    refine WP.region rfl ?_
    refine WO.val (run_assign rfl) rfl rfl rfl ?_
    refine WO.nil ?_
    refine NX.go ?_
    refine WP.ret ?_
    refine NX.done (l := [.tmp 4]) rfl rfl ?_
    have hin : i = 4 := by omega
    subst hin
    have e0 : publishD D m = (Dq, 0) := by rw [hp]; rfl
    rw [e0]
    exact ⟨rfl, (hS24.permT [1, 1, 2, 2, 0, 0] (L' := own (some ⟨g12, 0, none⟩) 4 4 84 1 (valsP g g2 g9) :: cel g9 [str ((encM m).1)] 9 :: cel g4 [Value.int .i64 m.e, Value.int .i64 m.b, Value.int .i64 m.p, Value.int .i64 m.k, Value.int .i64 m.c, Value.slice a m.bl.length cap] 30 :: cel g2 [Value.pointer (some ⟨g, 0, none⟩)] 39 :: dkA g Dq :: X :: L) rfl).drop.drop.drop.drop⟩
end Go.Proofs.YtcehlnpbdffdhaaGreatDoor.SL
