/- The last one holds. -/
import Derived.Test.YtcehlnpbdffdhaaGreatDoorMan3
import Derived.Test.YtcehlnpbdffdhaaGreatDoorKv
namespace Go.Proofs.YtcehlnpbdffdhaaGreatDoor.SL
open Go.RowKit Go.Proofs.YtcehlnpbdffdhaaGreatDoor
open Go.Proofs.YtcehlnpbdffdhaaGreatDoorW.PrintLast (rtab opsOf)
set_option linter.unusedVariables false
set_option linter.unusedSimpArgs false

structure QM where
  m : Man
  a : Option Addr
  cap : Nat
def qac (x : QM) : List Value := [.int .i64 x.m.e, .int .i64 x.m.b, .int .i64 x.m.p, .int .i64 x.m.k, .int .i64 x.m.c, .slice x.a x.m.bl.length x.cap]
theorem qac_len (x : QM) : (qac x).length = 6 := rfl
theorem PS.step {D : Dk} {w : Option Man} {m : Man} (h : PS D w) (hr : RngM m) : (publishD D m).2 = checkM m ∧ PS (publishD D m).1 (if checkM m = 0 then some m else w) := by
  by_cases hc : checkM m = 0
  · obtain ⟨D', e, h'⟩ := h.publish hr hc
    rw [e, if_pos hc, hc]; exact ⟨rfl, h'⟩
  · rw [PS.refuse hc, if_neg hc]; exact ⟨rfl, h⟩
theorem noneM_rng3 : RngM noneM := ⟨by decide, by decide, by decide, by decide, by decide, by decide, by intro t h; cases h⟩
theorem manifestLast_core_t18 : rtab .any (opsOf Tryz.f5 18) = (true, [([], []), ([0], [0]), ([1], [1]), ([2], [2]), ([3, 2, 2], [2, 3]), ([2], [2]), ([4, 5, 4, 2], [2, 4, 5]), ([6, 2], [2, 6]), ([2, 7], [2, 7])]) := by kernel_rfl
theorem manifestLast_core {B w : World} {L : List HP} {aa ka : Option Addr} {ac kc : Nat} {l : List QM} {zs : List Int} (hA : Rd B aa l.length 6 (l.flatMap qac)) (hall : ∀ x ∈ l, Rd B x.a x.m.bl.length 1 (x.m.bl.map str) ∧ RngM x.m) (hK : Rd B ka zs.length 1 (ri zs)) (hkl : zs.length ≤ 17592186043904) (hS : St B L w) : Does Tryz.prog 5 [Value.slice aa l.length ac, Value.slice ka zs.length kc] w (fun v w1 => v = .bool true ∧ St B L w1) := by
 replace hS := (((hS.addPure (p := True) trivial).addPure (p := True) trivial).addPure (p := True) trivial).addPure (p := True) trivial
 refine enter (n := 76) Tryz.func5 rfl rfl [Value.slice aa l.length ac, Value.slice ka zs.length kc] rfl ?_
 refine WP.seq ?_
 refine WP.region rfl ?_
 refine WO.val (run_assign rfl) rfl rfl rfl ?_
 refine WO.nil ?_
 refine NX.go ?_
 refine WP.seq ?_
 refine WP.seq ?_
 refine WP.region rfl ?_
 refine WO.call rfl rfl Ty.hd8 rfl (works17_spec hS) (fun v2 w1 pv2 => ?_)
 obtain ⟨rfl, hS1⟩ := pv2
 clear hS
 refine WO.val (run_not rfl rfl) rfl rfl rfl ?_
 refine WO.nil ?_
 refine NX.go ?_
 refine WP.condF rfl (notB_t rfl) ?_
 refine WP.skip ?_
 refine NX.go ?_
 refine WP.seq ?_
 refine WP.region rfl ?_
 refine WO.call rfl rfl Ty.hd16 rfl (dnew_spec 1048576 hS1) (fun v4 w3 pv4 => ?_)
 obtain ⟨g, rfl, hS3⟩ := pv4
 clear hS1
 refine WO.val (run_assign rfl) rfl rfl rfl ?_
 refine WO.nil ?_
 refine NX.go ?_
 refine WP.seq ?_
 refine WP.region rfl ?_
 refine WO.call rfl rfl Ty.hd21 rfl (rnone_spec hS3) (fun v6 w5 pv6 => ?_)
 obtain ⟨rfl, hS5⟩ := pv6
 clear hS3
 refine WO.alloc (l := [Value.int .i64 0, Value.int .i64 0, Value.int .i64 0, Value.int .i64 0, Value.int .i64 0, Value.slice none 0 0]) hS5 Ty.zr24 rfl rfl (fun g8 w7 lg8 hS7 => ?_)
 clear hS5
 refine WO.store (l' := [Value.int .i64 noneM.e, Value.int .i64 noneM.b, Value.int .i64 noneM.p, Value.int .i64 noneM.k, Value.int .i64 noneM.c, Value.slice none noneM.bl.length 0]) 0 hS7 rfl Ty.sz24 rfl rfl rfl rfl rfl (Nat.le_of_ble_eq_true rfl) rfl (fun w9 (hS9 : St B (cel g8 [Value.int .i64 noneM.e, Value.int .i64 noneM.b, Value.int .i64 noneM.p, Value.int .i64 noneM.k, Value.int .i64 noneM.c, Value.slice none noneM.bl.length 0] 24 :: dkA g (newD 1048576) :: (.pure True) :: (.pure True) :: (.pure True) :: (.pure True) :: L) w9) => ?_)
 clear hS7
 refine WO.nil ?_
 refine NX.go ?_
 refine WP.seq ?_
 refine WP.seq ?_
 refine WP.region rfl ?_
 refine WO.val (run_assign rfl) rfl rfl rfl ?_
 refine WO.nil ?_
 refine NX.go ?_
 refine WP.block ?_
 refine WP.loop (α := Nat × Dk × Nat × Nat × QM × Option Man) (fun x => match x with | ⟨i, Dq, nq, tq, q, wq⟩ => [(0, Value.slice aa l.length ac), (1, Value.slice ka zs.length kc), (4, Value.bool false), (5, Value.pointer (some ⟨g, 0, none⟩)), (6, Value.pointer (some ⟨g8, 0, none⟩)), (7, Value.int .i64 (i : Int))]) (fun x w => match x with | ⟨i, Dq, nq, tq, q, wq⟩ => (i ≤ 20 ∧ OkD Dq nq tq ∧ nq ≤ 5 * i ∧ tq ≤ 5070 * i ∧ PS Dq wq ∧ wq.getD noneM = q.m ∧ Rd B q.a q.m.bl.length 1 (q.m.bl.map str) ∧ RngM q.m) ∧ St B (cel g8 [Value.int .i64 q.m.e, Value.int .i64 q.m.b, Value.int .i64 q.m.p, Value.int .i64 q.m.k, Value.int .i64 q.m.c, Value.slice q.a q.m.bl.length q.cap] 24 :: dkA g Dq :: (.pure True) :: (.pure True) :: (.pure True) :: (.pure True) :: L) w) (fun x => match x with | ⟨i, Dq, nq, tq, q, wq⟩ => 20 - i) (0, newD 1048576, 0, 0, ⟨noneM, none, 0⟩, none) ⟨⟨Nat.zero_le _, OkD.new (by omega), Nat.le_refl _, Nat.le_refl _, PS.new, rfl, rd_nil _ _, noneM_rng3⟩, hS9⟩ (Sub.cons rfl (Sub.cons rfl (Sub.cons rfl (Sub.cons rfl (Sub.cons rfl (Sub.consE rfl (by first | rfl | first | rfl | (congr 1; omega) | (simp; done) | (simp; omega)) (Sub.nil _))))))) ?_
 rintro ⟨i, Dq, nq, tq, q, wq⟩ w10 ⟨⟨hi, hkq, hnq, htq, hps, hwq, hq, hrq⟩, hS10⟩
 clear hS9
 refine WP.seq ?_
 refine WP.seq ?_
 refine WP.region rfl ?_
 refine WO.val (run_move rfl) rfl rfl rfl ?_
 refine WO.val (run_move rfl) rfl rfl rfl ?_
 refine WO.val (run_len rfl Tryz.underlying47 rfl) rfl rfl rfl ?_
 refine WO.val (run_lss rfl rfl) rfl rfl rfl ?_
 refine WO.val (run_move rfl) rfl rfl rfl ?_
 by_cases g19 : (i : Int) < ((l.length : Nat) : Int)
 ·
  refine WO.on rfl rfl (decide_eq_true g19) ?_
  refine WO.val (run_move rfl) rfl rfl rfl ?_
  refine WO.on rfl rfl (decide_eq_true g19) ?_
  refine WO.val (run_lss rfl rfl) rfl rfl rfl ?_
  refine WO.val (run_pickT rfl (decide_eq_true g19) rfl) rfl rfl rfl ?_
  refine WO.nil ?_
  refine NX.go ?_
  refine WP.condP rfl (fun g22 => ?_) (fun g22 => ?_)
  ·
   refine WP.skip ?_
   refine NX.go ?_
   refine WP.seq ?_
   refine WP.block ?_
   refine WP.seq ?_
   refine WP.seq ?_
   obtain ⟨x, hx0⟩ : ∃ x, l[i]? = some x := ⟨_, List.getElem?_eq_getElem (by omega)⟩
   have hx := hall x (List.mem_of_getElem? hx0)
   have hsa : aa.isSome = true := by obtain ⟨q, hq, _⟩ := (((fun h => St.rdB h hA) (hS10.focus 2 rfl))).2.1 (by omega); rw [hq]; rfl
   refine WP.region rfl ?_
   refine WO.val (run_move rfl) rfl rfl rfl ?_
   refine WO.val (run_move rfl) rfl rfl rfl ?_
   refine WO.val (run_indexAddr (q := adr aa (i * 6)) Tryz.underlying47 Ty.sz24 rfl rfl (by omega) (by omega) (((fun h => St.rdB h hA) (hS10.focus 2 rfl)).2.1 (by omega)) rfl) rfl rfl rfl ?_
   refine WO.val (run_loadAgg (vs := [Value.int .i64 x.m.e, Value.int .i64 x.m.b, Value.int .i64 x.m.p, Value.int .i64 x.m.k, Value.int .i64 x.m.c, Value.slice x.a x.m.bl.length x.cap]) Ty.ag24 Ty.sz24 rfl (((fun h => St.rdB h hA) (hS10.focus 2 rfl)).cells (by rw [flat_len qac_len]; omega) (flat_part qac_len hx0)).1 (((fun h => St.rdB h hA) (hS10.focus 2 rfl)).cells (by rw [flat_len qac_len]; omega) (flat_part qac_len hx0)).2) rfl rfl rfl ?_
   have hS11 := hS10.permT [4, 0, 0, 0, 0, 0] (L' := (.pure True) :: cel g8 [Value.int .i64 q.m.e, Value.int .i64 q.m.b, Value.int .i64 q.m.p, Value.int .i64 q.m.k, Value.int .i64 q.m.c, Value.slice q.a q.m.bl.length q.cap] 24 :: dkA g Dq :: (.pure True) :: (.pure True) :: (.pure True) :: L) rfl
   clear hS10
   refine WO.call rfl rfl Ty.hd9 rfl (great_spec (m := x.m) (fun h => St.rdB h hx.1) hx.2 hS11) (fun v13 w12 pv13 => ?_)
   obtain ⟨gb, rfl, hgb, hS12⟩ := pv13
   clear hS11
   refine WO.nil ?_
   refine NX.go ?_
   refine WP.condB rfl (fun g29 => ?_) (fun g29 => ?_)
   ·
    refine WP.seq ?_
    refine WP.region rfl ?_
    refine WO.val (run_assign rfl) rfl rfl rfl ?_
    refine WO.nil ?_
    refine NX.go ?_
    refine WP.ret ?_
    refine NX.thenRet ?_
    refine NX.blkRet ?_
    refine NX.thenRet ?_
    refine NX.thenRet ?_
    refine NX.blkRet ?_
    refine NX.thenRet ?_
    refine NX.done (l := [.tmp 4]) rfl rfl ?_
    exact ⟨rfl, hS12.drop.drop.drop.drop.drop.drop⟩
   ·
    refine WP.skip ?_
    refine NX.go ?_
    refine WP.seq ?_
    refine WP.region rfl ?_
    refine WO.val (run_move rfl) rfl rfl rfl ?_
    refine WO.val (run_move rfl) rfl rfl rfl ?_
    refine WO.val (run_move rfl) rfl rfl rfl ?_
    refine WO.val (run_indexAddr (q := adr aa (i * 6)) Tryz.underlying47 Ty.sz24 rfl rfl (by omega) (by omega) (((fun h => St.rdB h hA) (hS12.focus 3 rfl)).2.1 (by omega)) rfl) rfl rfl rfl ?_
    refine WO.val (run_loadAgg (vs := [Value.int .i64 x.m.e, Value.int .i64 x.m.b, Value.int .i64 x.m.p, Value.int .i64 x.m.k, Value.int .i64 x.m.c, Value.slice x.a x.m.bl.length x.cap]) Ty.ag24 Ty.sz24 rfl (((fun h => St.rdB h hA) (hS12.focus 3 rfl)).cells (by rw [flat_len qac_len]; omega) (flat_part qac_len hx0)).1 (((fun h => St.rdB h hA) (hS12.focus 3 rfl)).cells (by rw [flat_len qac_len]; omega) (flat_part qac_len hx0)).2) rfl rfl rfl ?_
    refine WO.call rfl rfl Ty.hd11 rfl (to_spec (m := x.m) (fun h => St.rdB h hx.1) hx.2 hS12) (fun v15 w14 pv15 => ?_)
    obtain ⟨b1, c1, rfl, hS14⟩ := pv15
    clear hS12
    have hS16 := hS14.permT [3, 0, 0, 0, 0, 0, 0] (L' := dkA g Dq :: own b1 x.m.bl.length c1 9 1 (x.m.bl.map str) :: (.pure True) :: cel g8 [Value.int .i64 q.m.e, Value.int .i64 q.m.b, Value.int .i64 q.m.p, Value.int .i64 q.m.k, Value.int .i64 q.m.c, Value.slice q.a q.m.bl.length q.cap] 24 :: (.pure True) :: (.pure True) :: (.pure True) :: L) rfl
    clear hS14
    refine WO.call rfl rfl Ty.hd17 rfl (publish_spec (m := x.m) (fun h => h.own_rd.1) hx.2 hkq (by omega) (by omega) (by have := enc_len hx.2; omega) hS16) (fun v18 w17 pv18 => ?_)
    obtain ⟨hv, hS17⟩ := pv18
    clear hS16
    have hst := PS.step hps hx.2
    obtain ⟨D2, eD2⟩ : ∃ qq, qq = (publishD Dq x.m).1 := ⟨_, rfl⟩
    rw [hst.1] at hv
    subst hv
    have hps2 := hst.2
    rw [← eD2] at hps2
    rw [← eD2] at hS17
    have kD2 : OkD D2 (nq + 5) (tq + 5 * 1014) := by rw [eD2]; exact hkq.publish (enc_len hx.2)
    refine WO.val (run_assign rfl) rfl rfl rfl ?_
    refine WO.nil ?_
    refine NX.go ?_
    refine WP.seq ?_
    refine WP.seq ?_
    refine WP.region rfl ?_
    refine WO.val (run_move rfl) rfl rfl rfl ?_
    refine WO.val (run_move rfl) rfl rfl rfl ?_
    refine WO.val (run_move rfl) rfl rfl rfl ?_
    refine WO.val (run_indexAddr (q := adr aa (i * 6)) Tryz.underlying47 Ty.sz24 rfl rfl (by omega) (by omega) (((fun h => St.rdB h hA) (hS17.focus 4 rfl)).2.1 (by omega)) rfl) rfl rfl rfl ?_
    refine WO.val (run_loadAgg (vs := [Value.int .i64 x.m.e, Value.int .i64 x.m.b, Value.int .i64 x.m.p, Value.int .i64 x.m.k, Value.int .i64 x.m.c, Value.slice x.a x.m.bl.length x.cap]) Ty.ag24 Ty.sz24 rfl (((fun h => St.rdB h hA) (hS17.focus 4 rfl)).cells (by rw [flat_len qac_len]; omega) (flat_part qac_len hx0)).1 (((fun h => St.rdB h hA) (hS17.focus 4 rfl)).cells (by rw [flat_len qac_len]; omega) (flat_part qac_len hx0)).2) rfl rfl rfl ?_
    have hS19 := hS17.permT [2, 0, 0, 0, 0, 0, 0] (L' := (.pure True) :: dkA g D2 :: own b1 x.m.bl.length c1 9 1 (x.m.bl.map str) :: cel g8 [Value.int .i64 q.m.e, Value.int .i64 q.m.b, Value.int .i64 q.m.p, Value.int .i64 q.m.k, Value.int .i64 q.m.c, Value.slice q.a q.m.bl.length q.cap] 24 :: (.pure True) :: (.pure True) :: (.pure True) :: L) rfl
    clear hS17
    refine WO.call rfl rfl Ty.hd15 rfl (rcheckM_spec (m := x.m) (fun h => St.rdB h hx.1) hx.2 hS19) (fun v21 w20 pv21 => ?_)
    obtain ⟨rfl, hS20⟩ := pv21
    clear hS19
    refine WO.val (run_neq rfl rfl) rfl rfl rfl ?_
    refine WO.nil ?_
    refine NX.go ?_
    refine WP.condF rfl (decide_eq_false (fun h => h rfl)) ?_
    refine WP.skip ?_
    refine NX.go ?_
    refine WP.seq ?_
    refine WP.seq ?_
    refine WP.region rfl ?_
    refine WO.val (run_move rfl) rfl rfl rfl ?_
    refine WO.val (run_eql rfl rfl) rfl rfl rfl ?_
    refine WO.nil ?_
    refine NX.go ?_
    refine WP.condP rfl (fun g45 => ?_) (fun g45 => ?_)
    ·
     refine WP.region rfl ?_
     refine WO.val (run_move rfl) rfl rfl rfl ?_
     refine WO.val (run_move rfl) rfl rfl rfl ?_
     refine WO.val (run_indexAddr (q := adr aa (i * 6)) Tryz.underlying47 Ty.sz24 rfl rfl (by omega) (by omega) (((fun h => St.rdB h hA) (hS20.focus 4 rfl)).2.1 (by omega)) rfl) rfl rfl rfl ?_
     refine WO.val (run_loadAgg (vs := [Value.int .i64 x.m.e, Value.int .i64 x.m.b, Value.int .i64 x.m.p, Value.int .i64 x.m.k, Value.int .i64 x.m.c, Value.slice x.a x.m.bl.length x.cap]) Ty.ag24 Ty.sz24 rfl (((fun h => St.rdB h hA) (hS20.focus 4 rfl)).cells (by rw [flat_len qac_len]; omega) (flat_part qac_len hx0)).1 (((fun h => St.rdB h hA) (hS20.focus 4 rfl)).cells (by rw [flat_len qac_len]; omega) (flat_part qac_len hx0)).2) rfl rfl rfl ?_
     refine WO.store (l' := [Value.int .i64 x.m.e, Value.int .i64 x.m.b, Value.int .i64 x.m.p, Value.int .i64 x.m.k, Value.int .i64 x.m.c, Value.slice x.a x.m.bl.length x.cap]) 3 hS20 rfl Ty.sz24 rfl rfl rfl rfl rfl (Nat.le_of_ble_eq_true rfl) rfl (fun w22 (hS22 : St B ((.pure True) :: dkA g D2 :: own b1 x.m.bl.length c1 9 1 (x.m.bl.map str) :: cel g8 [Value.int .i64 x.m.e, Value.int .i64 x.m.b, Value.int .i64 x.m.p, Value.int .i64 x.m.k, Value.int .i64 x.m.c, Value.slice x.a x.m.bl.length x.cap] 24 :: (.pure True) :: (.pure True) :: (.pure True) :: L) w22) => ?_)
     clear hS20
     refine WO.nil ?_
     refine NX.go ?_
     refine WP.seq ?_
     refine WP.seq ?_
     refine WP.region rfl ?_
     refine WO.val (run_move rfl) rfl rfl rfl ?_
     refine WO.val (run_rem rfl rfl (by omega) (IntWalk.rem_in _ _ (by omega))) rfl rfl rfl ?_
     refine WO.val (run_eql rfl rfl) rfl rfl rfl ?_
     refine WO.nil ?_
     refine NX.go ?_
     refine WP.condP rfl (fun g52 => ?_) (fun g52 => ?_)
     ·
      refine WP.region rfl ?_
      refine WO.val (run_move rfl) rfl rfl rfl ?_
      refine WO.buildSlice (l := []) hS22 Tryz.underlying37 rfl (fun w => by kernel_rfl) rfl (fun g24 w23 lg24 hS23 => ?_)
      clear hS22
      have hS23 := hS23.own_of_cel (m := 0) (k := 1) rfl
      refine WO.val (run_move rfl) rfl rfl rfl ?_
      refine WO.append (news := (ri zs)) 0 rfl Tryz.underlying37 Tryz.underlying37 (fun _ h => by cases h) Ty.sz3 (by decide) Ty.by3 Ty.zr3 rfl rfl rfl rfl hS23 rfl (((fun h => St.rdB h hK) (hS23.focus 6 rfl)).src) (ri_noAgg _) (by omega) (by omega) (fun a26 c27 w25 hS25 => ?_)
      replace hS25 : St B (own a26 zs.length c27 3 1 (ri zs) :: (.pure True) :: dkA g D2 :: own b1 x.m.bl.length c1 9 1 (x.m.bl.map str) :: cel g8 [Value.int .i64 x.m.e, Value.int .i64 x.m.b, Value.int .i64 x.m.p, Value.int .i64 x.m.k, Value.int .i64 x.m.c, Value.slice x.a x.m.bl.length x.cap] 24 :: (.pure True) :: (.pure True) :: (.pure True) :: L) w25 := (by have z := hS25; rw [Nat.zero_add] at z; exact z)
      refine WO.as (d := 56) (v := Value.slice a26 zs.length c27) rfl (by rw [Nat.zero_add]) ?_
      clear hS23
      have hcap := hS25.own_le_i 0 rfl
      have hS28 := hS25.permT [2, 0, 0, 0, 0, 0, 0, 0] (L' := dkA g D2 :: own a26 zs.length c27 3 1 (ri zs) :: (.pure True) :: own b1 x.m.bl.length c1 9 1 (x.m.bl.map str) :: cel g8 [Value.int .i64 x.m.e, Value.int .i64 x.m.b, Value.int .i64 x.m.p, Value.int .i64 x.m.k, Value.int .i64 x.m.c, Value.slice x.a x.m.bl.length x.cap] 24 :: (.pure True) :: (.pure True) :: (.pure True) :: L) rfl
      clear hS25
      refine WO.call rfl rfl Ty.hd19 rfl (dcrash_spec (zs := zs) kD2.w kD2.b (by omega) (by omega) (fun h => h.own_rd.1) (by omega) (by omega) hS28) (fun v30 w29 pv30 => ?_)
      obtain ⟨rfl, hS29⟩ := pv30
      clear hS28
      refine WO.nil ?_
      refine NX.go ?_
      refine WP.seq ?_
      refine WP.region rfl ?_
      refine WO.val (run_move rfl) rfl rfl rfl ?_
      refine WO.call rfl rfl Ty.hd20 rfl (load_spec kD2.crash (by omega) hS29) (fun v32 w31 pv32 => ?_)
      obtain ⟨lb, ld, hv, _, hS31⟩ := pv32
      clear hS29
      have hl0 : loadD (crashD D2 zs) = (x.m, 0) := by rw [(hps2.crash (zs := zs)).load, if_pos g45]; rfl
      rw [hl0] at hv
      rw [hl0] at hS31
      change _ = Value.tuple #[Value.agg #[Value.int .i64 x.m.e, Value.int .i64 x.m.b, Value.int .i64 x.m.p, Value.int .i64 x.m.k, Value.int .i64 x.m.c, Value.slice lb x.m.bl.length ld], Value.int .i64 0] at hv
      subst hv
      replace hS31 : St B (own lb x.m.bl.length ld 9 1 (x.m.bl.map str) :: dkA g (crashD D2 zs) :: own a26 zs.length c27 3 1 (ri zs) :: (.pure True) :: own b1 x.m.bl.length c1 9 1 (x.m.bl.map str) :: cel g8 [Value.int .i64 x.m.e, Value.int .i64 x.m.b, Value.int .i64 x.m.p, Value.int .i64 x.m.k, Value.int .i64 x.m.c, Value.slice x.a x.m.bl.length x.cap] 24 :: (.pure True) :: (.pure True) :: (.pure True) :: L) w31 := hS31
      refine WO.val (run_move rfl) rfl rfl rfl ?_
      refine WO.val (run_extract rfl rfl) rfl rfl rfl ?_
      refine WO.val (run_extract rfl rfl) rfl rfl rfl ?_
      refine WO.alloc (l := [Value.int .i64 0, Value.int .i64 0, Value.int .i64 0, Value.int .i64 0, Value.int .i64 0, Value.slice none 0 0]) hS31 Ty.zr30 rfl rfl (fun g34 w33 lg34 hS33 => ?_)
      clear hS31
      refine WO.store (l' := [Value.int .i64 x.m.e, Value.int .i64 x.m.b, Value.int .i64 x.m.p, Value.int .i64 x.m.k, Value.int .i64 x.m.c, Value.slice lb x.m.bl.length ld]) 0 hS33 rfl Ty.sz30 rfl rfl rfl rfl rfl (Nat.le_of_ble_eq_true rfl) rfl (fun w35 (hS35 : St B (cel g34 [Value.int .i64 x.m.e, Value.int .i64 x.m.b, Value.int .i64 x.m.p, Value.int .i64 x.m.k, Value.int .i64 x.m.c, Value.slice lb x.m.bl.length ld] 30 :: own lb x.m.bl.length ld 9 1 (x.m.bl.map str) :: dkA g (crashD D2 zs) :: own a26 zs.length c27 3 1 (ri zs) :: (.pure True) :: own b1 x.m.bl.length c1 9 1 (x.m.bl.map str) :: cel g8 [Value.int .i64 x.m.e, Value.int .i64 x.m.b, Value.int .i64 x.m.p, Value.int .i64 x.m.k, Value.int .i64 x.m.c, Value.slice x.a x.m.bl.length x.cap] 24 :: (.pure True) :: (.pure True) :: (.pure True) :: L) w35) => ?_)
      clear hS33
      refine WO.val (run_assign rfl) rfl rfl rfl ?_
      refine WO.nil ?_
      refine NX.go ?_
      refine WP.seq ?_
      refine WD.start (fun w => (∀ j, World.cell? w ⟨g34, j, none⟩ = [Value.int .i64 x.m.e, Value.int .i64 x.m.b, Value.int .i64 x.m.p, Value.int .i64 x.m.k, Value.int .i64 x.m.c, Value.slice lb x.m.bl.length ld][j]?) ∧ (∀ j, World.cell? w ⟨g8, j, none⟩ = [Value.int .i64 x.m.e, Value.int .i64 x.m.b, Value.int .i64 x.m.p, Value.int .i64 x.m.k, Value.int .i64 x.m.c, Value.slice x.a x.m.bl.length x.cap][j]?)) [] #[false, false, false, false, false, false, false, false, false] Ty.mo rfl (by kernel_rfl) hS35 (fun _ h => ⟨h.cel_at 0 rfl, h.cel_at 6 rfl⟩) (fun w36 hS36 s37 => ?_)
      clear hS35
      refine WD.pure (i := 0) manifestLast_core_t18 #[true, false, false, false, false, false, false, false, false] rfl rfl rfl (by kernel_rfl) (PQ.then (PQ.blk (PQ.then (PQ.then (PQ.blk (PQ.then PQ.body)))))) rfl (fun w => run_move rfl) ?_
      refine WD.pure (i := 1) manifestLast_core_t18 #[true, true, false, false, false, false, false, false, false] rfl rfl rfl (by kernel_rfl) (PQ.then (PQ.blk (PQ.then (PQ.then (PQ.blk (PQ.then PQ.body)))))) rfl (fun w => run_neq rfl rfl) ?_
      refine WD.pure (i := 2) manifestLast_core_t18 #[true, true, true, false, false, false, false, false, false] rfl rfl rfl (by kernel_rfl) (PQ.then (PQ.blk (PQ.then (PQ.then (PQ.blk (PQ.then PQ.body)))))) rfl (fun w => run_move rfl) ?_
      refine WD.takeOn (i := 3) manifestLast_core_t18 #[true, true, true, true, false, false, false, false, false] s37 rfl rfl rfl (by decide) (by kernel_rfl) (PQ.then (PQ.blk (PQ.then (PQ.then (PQ.blk (PQ.then PQ.body)))))) rfl (fun w hs => run_loadAgg (vs := [Value.int .i64 x.m.e, Value.int .i64 x.m.b, Value.int .i64 x.m.p, Value.int .i64 x.m.k, Value.int .i64 x.m.c, Value.slice lb x.m.bl.length ld]) Ty.ag30 Ty.sz30 rfl rfl (cell_all (hs.1) 0 rfl)) ?_
      refine WD.takeOn (i := 5) manifestLast_core_t18 #[true, true, true, true, false, true, false, false, false] s37 rfl rfl rfl (by decide) (by kernel_rfl) (PQ.then (PQ.blk (PQ.then (PQ.then (PQ.blk (PQ.then PQ.body)))))) rfl (fun w hs => run_loadAgg (vs := [Value.int .i64 x.m.e, Value.int .i64 x.m.b, Value.int .i64 x.m.p, Value.int .i64 x.m.k, Value.int .i64 x.m.c, Value.slice x.a x.m.bl.length x.cap]) Ty.ag24 Ty.sz24 rfl rfl (cell_all (hs.2) 0 rfl)) ?_
      refine WD.one (i := 4) manifestLast_core_t18 #[true, true, true, true, true, true, false, false, false] rfl (by kernel_rfl) ?_
      refine WO.on rfl rfl (by decide) ?_
      refine WO.call rfl rfl Ty.hd14 rfl (from_spec (m := x.m) hS36) (fun v39 w38 pv39 => ?_)
      obtain ⟨rfl, hS38⟩ := pv39
      clear hS36
      refine WO.nil ?_
      have s40 : (∀ j, World.cell? w38 ⟨g34, j, none⟩ = [Value.int .i64 x.m.e, Value.int .i64 x.m.b, Value.int .i64 x.m.p, Value.int .i64 x.m.k, Value.int .i64 x.m.c, Value.slice lb x.m.bl.length ld][j]?) ∧ (∀ j, World.cell? w38 ⟨g8, j, none⟩ = [Value.int .i64 x.m.e, Value.int .i64 x.m.b, Value.int .i64 x.m.p, Value.int .i64 x.m.k, Value.int .i64 x.m.c, Value.slice x.a x.m.bl.length x.cap][j]?) := ⟨hS38.cel_at 0 rfl, hS38.cel_at 6 rfl⟩
      refine NX.held s40 ?_
      refine WD.one (i := 6) manifestLast_core_t18 #[true, true, true, true, true, true, true, false, false] rfl (by kernel_rfl) ?_
      refine WO.on rfl rfl (by decide) ?_
      have hS41 := hS38.permT [1, 3, 0, 0, 0, 0, 0, 0, 0, 0] (L' := own lb x.m.bl.length ld 9 1 (x.m.bl.map str) :: (.pure True) :: cel g34 [Value.int .i64 x.m.e, Value.int .i64 x.m.b, Value.int .i64 x.m.p, Value.int .i64 x.m.k, Value.int .i64 x.m.c, Value.slice lb x.m.bl.length ld] 30 :: dkA g (crashD D2 zs) :: own a26 zs.length c27 3 1 (ri zs) :: own b1 x.m.bl.length c1 9 1 (x.m.bl.map str) :: cel g8 [Value.int .i64 x.m.e, Value.int .i64 x.m.b, Value.int .i64 x.m.p, Value.int .i64 x.m.k, Value.int .i64 x.m.c, Value.slice x.a x.m.bl.length x.cap] 24 :: (.pure True) :: (.pure True) :: (.pure True) :: L) rfl
      clear hS38
      refine WO.call rfl rfl Ty.hd13 rfl (rsame_spec (m := x.m) (n := x.m) (fun h => h.own_rd.1) (fun h => St.rdB h hx.1) hx.2 hx.2 hS41) (fun v43 w42 pv43 => ?_)
      obtain ⟨rfl, hS42⟩ := pv43
      clear hS41
      refine WO.nil ?_
      have s44 : (∀ j, World.cell? w42 ⟨g34, j, none⟩ = [Value.int .i64 x.m.e, Value.int .i64 x.m.b, Value.int .i64 x.m.p, Value.int .i64 x.m.k, Value.int .i64 x.m.c, Value.slice lb x.m.bl.length ld][j]?) ∧ (∀ j, World.cell? w42 ⟨g8, j, none⟩ = [Value.int .i64 x.m.e, Value.int .i64 x.m.b, Value.int .i64 x.m.p, Value.int .i64 x.m.k, Value.int .i64 x.m.c, Value.slice x.a x.m.bl.length x.cap][j]?) := ⟨hS42.cel_at 2 rfl, hS42.cel_at 6 rfl⟩
      refine NX.held s44 ?_
      refine WD.pureOn (i := 7) manifestLast_core_t18 #[true, true, true, true, true, true, true, true, false] rfl rfl rfl (by decide) (by kernel_rfl) (PQ.then (PQ.blk (PQ.then (PQ.then (PQ.blk (PQ.then PQ.body)))))) rfl (fun w => run_not rfl rfl) ?_
      refine WD.pure (i := 8) manifestLast_core_t18 #[true, true, true, true, true, true, true, true, true] rfl rfl rfl (by kernel_rfl) (PQ.then (PQ.blk (PQ.then (PQ.then (PQ.blk (PQ.then PQ.body)))))) rfl (fun w => run_pickF rfl (by decide) rfl) ?_
      refine WD.done manifestLast_core_t18 (by kernel_rfl) ?_
      refine NX.go ?_
      refine WP.condF rfl (notB_t (decide_eq_true rfl)) ?_
      refine WP.skip ?_
      refine NX.blk ?_
      refine NX.go ?_
      refine WP.region rfl ?_
      refine WO.val (run_move rfl) rfl rfl rfl ?_
      refine WO.val (run_add rfl rfl (IntWalk.i64_in _ (by omega))) rfl rfl rfl ?_
      refine WO.val (run_assign rfl) rfl rfl rfl ?_
      refine WO.nil ?_
      exact NX.again (i + 1, (crashD D2 zs), nq + 5, tq + 5 * 1014, x, (some x.m)) ⟨⟨by omega, kD2.crash, by omega, by omega, by have z := (hps2.crash (zs := zs)); rw [if_pos g45] at z; exact z, rfl, hx.1, hx.2⟩, (hS42.permT [0, 1, 2, 2, 2, 1, 1, 1, 0, 0] (L' := own lb x.m.bl.length ld 9 1 (x.m.bl.map str) :: cel g34 [Value.int .i64 x.m.e, Value.int .i64 x.m.b, Value.int .i64 x.m.p, Value.int .i64 x.m.k, Value.int .i64 x.m.c, Value.slice lb x.m.bl.length ld] 30 :: own a26 zs.length c27 3 1 (ri zs) :: own b1 x.m.bl.length c1 9 1 (x.m.bl.map str) :: cel g8 [Value.int .i64 x.m.e, Value.int .i64 x.m.b, Value.int .i64 x.m.p, Value.int .i64 x.m.k, Value.int .i64 x.m.c, Value.slice x.a x.m.bl.length x.cap] 24 :: dkA g (crashD D2 zs) :: (.pure True) :: (.pure True) :: (.pure True) :: (.pure True) :: L) rfl).drop.drop.drop.drop⟩ (by show 20 - (i + 1) < 20 - i; omega) (Sub.cons rfl (Sub.cons rfl (Sub.cons rfl (Sub.cons rfl (Sub.cons rfl (Sub.consE rfl (by congr 1) (Sub.nil _)))))))
     ·
      refine WP.skip ?_
      refine NX.go ?_
      refine WP.seq ?_
      refine WP.region rfl ?_
      refine WO.val (run_move rfl) rfl rfl rfl ?_
      have hS45 := hS22.permT [1, 0, 0, 0, 0, 0, 0] (L' := dkA g D2 :: (.pure True) :: own b1 x.m.bl.length c1 9 1 (x.m.bl.map str) :: cel g8 [Value.int .i64 x.m.e, Value.int .i64 x.m.b, Value.int .i64 x.m.p, Value.int .i64 x.m.k, Value.int .i64 x.m.c, Value.slice x.a x.m.bl.length x.cap] 24 :: (.pure True) :: (.pure True) :: (.pure True) :: L) rfl
      clear hS22
      refine WO.call rfl rfl Ty.hd20 rfl (load_spec kD2 (by omega) hS45) (fun v47 w46 pv47 => ?_)
      obtain ⟨lb, ld, hv, _, hS46⟩ := pv47
      clear hS45
      have hl0 : loadD D2 = (x.m, 0) := by rw [hps2.load, if_pos g45]; rfl
      rw [hl0] at hv
      rw [hl0] at hS46
      change _ = Value.tuple #[Value.agg #[Value.int .i64 x.m.e, Value.int .i64 x.m.b, Value.int .i64 x.m.p, Value.int .i64 x.m.k, Value.int .i64 x.m.c, Value.slice lb x.m.bl.length ld], Value.int .i64 0] at hv
      subst hv
      replace hS46 : St B (own lb x.m.bl.length ld 9 1 (x.m.bl.map str) :: dkA g D2 :: (.pure True) :: own b1 x.m.bl.length c1 9 1 (x.m.bl.map str) :: cel g8 [Value.int .i64 x.m.e, Value.int .i64 x.m.b, Value.int .i64 x.m.p, Value.int .i64 x.m.k, Value.int .i64 x.m.c, Value.slice x.a x.m.bl.length x.cap] 24 :: (.pure True) :: (.pure True) :: (.pure True) :: L) w46 := hS46
      refine WO.val (run_move rfl) rfl rfl rfl ?_
      refine WO.val (run_extract rfl rfl) rfl rfl rfl ?_
      refine WO.val (run_extract rfl rfl) rfl rfl rfl ?_
      refine WO.alloc (l := [Value.int .i64 0, Value.int .i64 0, Value.int .i64 0, Value.int .i64 0, Value.int .i64 0, Value.slice none 0 0]) hS46 Ty.zr30 rfl rfl (fun g49 w48 lg49 hS48 => ?_)
      clear hS46
      refine WO.store (l' := [Value.int .i64 x.m.e, Value.int .i64 x.m.b, Value.int .i64 x.m.p, Value.int .i64 x.m.k, Value.int .i64 x.m.c, Value.slice lb x.m.bl.length ld]) 0 hS48 rfl Ty.sz30 rfl rfl rfl rfl rfl (Nat.le_of_ble_eq_true rfl) rfl (fun w50 (hS50 : St B (cel g49 [Value.int .i64 x.m.e, Value.int .i64 x.m.b, Value.int .i64 x.m.p, Value.int .i64 x.m.k, Value.int .i64 x.m.c, Value.slice lb x.m.bl.length ld] 30 :: own lb x.m.bl.length ld 9 1 (x.m.bl.map str) :: dkA g D2 :: (.pure True) :: own b1 x.m.bl.length c1 9 1 (x.m.bl.map str) :: cel g8 [Value.int .i64 x.m.e, Value.int .i64 x.m.b, Value.int .i64 x.m.p, Value.int .i64 x.m.k, Value.int .i64 x.m.c, Value.slice x.a x.m.bl.length x.cap] 24 :: (.pure True) :: (.pure True) :: (.pure True) :: L) w50) => ?_)
      clear hS48
      refine WO.val (run_assign rfl) rfl rfl rfl ?_
      refine WO.nil ?_
      refine NX.go ?_
      refine WP.seq ?_
      refine WD.start (fun w => (∀ j, World.cell? w ⟨g49, j, none⟩ = [Value.int .i64 x.m.e, Value.int .i64 x.m.b, Value.int .i64 x.m.p, Value.int .i64 x.m.k, Value.int .i64 x.m.c, Value.slice lb x.m.bl.length ld][j]?) ∧ (∀ j, World.cell? w ⟨g8, j, none⟩ = [Value.int .i64 x.m.e, Value.int .i64 x.m.b, Value.int .i64 x.m.p, Value.int .i64 x.m.k, Value.int .i64 x.m.c, Value.slice x.a x.m.bl.length x.cap][j]?)) [] #[false, false, false, false, false, false, false, false, false] Ty.mo rfl (by kernel_rfl) hS50 (fun _ h => ⟨h.cel_at 0 rfl, h.cel_at 5 rfl⟩) (fun w51 hS51 s52 => ?_)
      clear hS50
      refine WD.pure (i := 0) manifestLast_core_t18 #[true, false, false, false, false, false, false, false, false] rfl rfl rfl (by kernel_rfl) (PQ.then (PQ.blk (PQ.then (PQ.then (PQ.blk (PQ.then PQ.body)))))) rfl (fun w => run_move rfl) ?_
      refine WD.pure (i := 1) manifestLast_core_t18 #[true, true, false, false, false, false, false, false, false] rfl rfl rfl (by kernel_rfl) (PQ.then (PQ.blk (PQ.then (PQ.then (PQ.blk (PQ.then PQ.body)))))) rfl (fun w => run_neq rfl rfl) ?_
      refine WD.pure (i := 2) manifestLast_core_t18 #[true, true, true, false, false, false, false, false, false] rfl rfl rfl (by kernel_rfl) (PQ.then (PQ.blk (PQ.then (PQ.then (PQ.blk (PQ.then PQ.body)))))) rfl (fun w => run_move rfl) ?_
      refine WD.takeOn (i := 3) manifestLast_core_t18 #[true, true, true, true, false, false, false, false, false] s52 rfl rfl rfl (by decide) (by kernel_rfl) (PQ.then (PQ.blk (PQ.then (PQ.then (PQ.blk (PQ.then PQ.body)))))) rfl (fun w hs => run_loadAgg (vs := [Value.int .i64 x.m.e, Value.int .i64 x.m.b, Value.int .i64 x.m.p, Value.int .i64 x.m.k, Value.int .i64 x.m.c, Value.slice lb x.m.bl.length ld]) Ty.ag30 Ty.sz30 rfl rfl (cell_all (hs.1) 0 rfl)) ?_
      refine WD.takeOn (i := 5) manifestLast_core_t18 #[true, true, true, true, false, true, false, false, false] s52 rfl rfl rfl (by decide) (by kernel_rfl) (PQ.then (PQ.blk (PQ.then (PQ.then (PQ.blk (PQ.then PQ.body)))))) rfl (fun w hs => run_loadAgg (vs := [Value.int .i64 x.m.e, Value.int .i64 x.m.b, Value.int .i64 x.m.p, Value.int .i64 x.m.k, Value.int .i64 x.m.c, Value.slice x.a x.m.bl.length x.cap]) Ty.ag24 Ty.sz24 rfl rfl (cell_all (hs.2) 0 rfl)) ?_
      refine WD.one (i := 4) manifestLast_core_t18 #[true, true, true, true, true, true, false, false, false] rfl (by kernel_rfl) ?_
      refine WO.on rfl rfl (by decide) ?_
      refine WO.call rfl rfl Ty.hd14 rfl (from_spec (m := x.m) hS51) (fun v54 w53 pv54 => ?_)
      obtain ⟨rfl, hS53⟩ := pv54
      clear hS51
      refine WO.nil ?_
      have s55 : (∀ j, World.cell? w53 ⟨g49, j, none⟩ = [Value.int .i64 x.m.e, Value.int .i64 x.m.b, Value.int .i64 x.m.p, Value.int .i64 x.m.k, Value.int .i64 x.m.c, Value.slice lb x.m.bl.length ld][j]?) ∧ (∀ j, World.cell? w53 ⟨g8, j, none⟩ = [Value.int .i64 x.m.e, Value.int .i64 x.m.b, Value.int .i64 x.m.p, Value.int .i64 x.m.k, Value.int .i64 x.m.c, Value.slice x.a x.m.bl.length x.cap][j]?) := ⟨hS53.cel_at 0 rfl, hS53.cel_at 5 rfl⟩
      refine NX.held s55 ?_
      refine WD.one (i := 6) manifestLast_core_t18 #[true, true, true, true, true, true, true, false, false] rfl (by kernel_rfl) ?_
      refine WO.on rfl rfl (by decide) ?_
      have hS56 := hS53.permT [1, 2, 0, 0, 0, 0, 0, 0, 0] (L' := own lb x.m.bl.length ld 9 1 (x.m.bl.map str) :: (.pure True) :: cel g49 [Value.int .i64 x.m.e, Value.int .i64 x.m.b, Value.int .i64 x.m.p, Value.int .i64 x.m.k, Value.int .i64 x.m.c, Value.slice lb x.m.bl.length ld] 30 :: dkA g D2 :: own b1 x.m.bl.length c1 9 1 (x.m.bl.map str) :: cel g8 [Value.int .i64 x.m.e, Value.int .i64 x.m.b, Value.int .i64 x.m.p, Value.int .i64 x.m.k, Value.int .i64 x.m.c, Value.slice x.a x.m.bl.length x.cap] 24 :: (.pure True) :: (.pure True) :: (.pure True) :: L) rfl
      clear hS53
      refine WO.call rfl rfl Ty.hd13 rfl (rsame_spec (m := x.m) (n := x.m) (fun h => h.own_rd.1) (fun h => St.rdB h hx.1) hx.2 hx.2 hS56) (fun v58 w57 pv58 => ?_)
      obtain ⟨rfl, hS57⟩ := pv58
      clear hS56
      refine WO.nil ?_
      have s59 : (∀ j, World.cell? w57 ⟨g49, j, none⟩ = [Value.int .i64 x.m.e, Value.int .i64 x.m.b, Value.int .i64 x.m.p, Value.int .i64 x.m.k, Value.int .i64 x.m.c, Value.slice lb x.m.bl.length ld][j]?) ∧ (∀ j, World.cell? w57 ⟨g8, j, none⟩ = [Value.int .i64 x.m.e, Value.int .i64 x.m.b, Value.int .i64 x.m.p, Value.int .i64 x.m.k, Value.int .i64 x.m.c, Value.slice x.a x.m.bl.length x.cap][j]?) := ⟨hS57.cel_at 2 rfl, hS57.cel_at 5 rfl⟩
      refine NX.held s59 ?_
      refine WD.pureOn (i := 7) manifestLast_core_t18 #[true, true, true, true, true, true, true, true, false] rfl rfl rfl (by decide) (by kernel_rfl) (PQ.then (PQ.blk (PQ.then (PQ.then (PQ.blk (PQ.then PQ.body)))))) rfl (fun w => run_not rfl rfl) ?_
      refine WD.pure (i := 8) manifestLast_core_t18 #[true, true, true, true, true, true, true, true, true] rfl rfl rfl (by kernel_rfl) (PQ.then (PQ.blk (PQ.then (PQ.then (PQ.blk (PQ.then PQ.body)))))) rfl (fun w => run_pickF rfl (by decide) rfl) ?_
      refine WD.done manifestLast_core_t18 (by kernel_rfl) ?_
      refine NX.go ?_
      refine WP.condF rfl (notB_t (decide_eq_true rfl)) ?_
      refine WP.skip ?_
      refine NX.blk ?_
      refine NX.go ?_
      refine WP.region rfl ?_
      refine WO.val (run_move rfl) rfl rfl rfl ?_
      refine WO.val (run_add rfl rfl (IntWalk.i64_in _ (by omega))) rfl rfl rfl ?_
      refine WO.val (run_assign rfl) rfl rfl rfl ?_
      refine WO.nil ?_
      exact NX.again (i + 1, D2, nq + 5, tq + 5 * 1014, x, (some x.m)) ⟨⟨by omega, kD2, by omega, by omega, by have z := hps2; rw [if_pos g45] at z; exact z, rfl, hx.1, hx.2⟩, (hS57.permT [0, 1, 2, 2, 1, 1, 1, 0, 0] (L' := own lb x.m.bl.length ld 9 1 (x.m.bl.map str) :: cel g49 [Value.int .i64 x.m.e, Value.int .i64 x.m.b, Value.int .i64 x.m.p, Value.int .i64 x.m.k, Value.int .i64 x.m.c, Value.slice lb x.m.bl.length ld] 30 :: own b1 x.m.bl.length c1 9 1 (x.m.bl.map str) :: cel g8 [Value.int .i64 x.m.e, Value.int .i64 x.m.b, Value.int .i64 x.m.p, Value.int .i64 x.m.k, Value.int .i64 x.m.c, Value.slice x.a x.m.bl.length x.cap] 24 :: dkA g D2 :: (.pure True) :: (.pure True) :: (.pure True) :: (.pure True) :: L) rfl).drop.drop.drop⟩ (by show 20 - (i + 1) < 20 - i; omega) (Sub.cons rfl (Sub.cons rfl (Sub.cons rfl (Sub.cons rfl (Sub.cons rfl (Sub.consE rfl (by congr 1) (Sub.nil _)))))))
    ·
     refine WP.skip ?_
     refine NX.go ?_
     refine WP.seq ?_
     refine WP.seq ?_
     refine WP.region rfl ?_
     refine WO.val (run_move rfl) rfl rfl rfl ?_
     refine WO.val (run_rem rfl rfl (by omega) (IntWalk.rem_in _ _ (by omega))) rfl rfl rfl ?_
     refine WO.val (run_eql rfl rfl) rfl rfl rfl ?_
     refine WO.nil ?_
     refine NX.go ?_
     refine WP.condP rfl (fun g52 => ?_) (fun g52 => ?_)
     ·
      refine WP.region rfl ?_
      refine WO.val (run_move rfl) rfl rfl rfl ?_
      refine WO.buildSlice (l := []) hS20 Tryz.underlying37 rfl (fun w => by kernel_rfl) rfl (fun g61 w60 lg61 hS60 => ?_)
      clear hS20
      have hS60 := hS60.own_of_cel (m := 0) (k := 1) rfl
      refine WO.val (run_move rfl) rfl rfl rfl ?_
      refine WO.append (news := (ri zs)) 0 rfl Tryz.underlying37 Tryz.underlying37 (fun _ h => by cases h) Ty.sz3 (by decide) Ty.by3 Ty.zr3 rfl rfl rfl rfl hS60 rfl (((fun h => St.rdB h hK) (hS60.focus 6 rfl)).src) (ri_noAgg _) (by omega) (by omega) (fun a63 c64 w62 hS62 => ?_)
      replace hS62 : St B (own a63 zs.length c64 3 1 (ri zs) :: (.pure True) :: dkA g D2 :: own b1 x.m.bl.length c1 9 1 (x.m.bl.map str) :: cel g8 [Value.int .i64 q.m.e, Value.int .i64 q.m.b, Value.int .i64 q.m.p, Value.int .i64 q.m.k, Value.int .i64 q.m.c, Value.slice q.a q.m.bl.length q.cap] 24 :: (.pure True) :: (.pure True) :: (.pure True) :: L) w62 := (by have z := hS62; rw [Nat.zero_add] at z; exact z)
      refine WO.as (d := 56) (v := Value.slice a63 zs.length c64) rfl (by rw [Nat.zero_add]) ?_
      clear hS60
      have hcap := hS62.own_le_i 0 rfl
      have hS65 := hS62.permT [2, 0, 0, 0, 0, 0, 0, 0] (L' := dkA g D2 :: own a63 zs.length c64 3 1 (ri zs) :: (.pure True) :: own b1 x.m.bl.length c1 9 1 (x.m.bl.map str) :: cel g8 [Value.int .i64 q.m.e, Value.int .i64 q.m.b, Value.int .i64 q.m.p, Value.int .i64 q.m.k, Value.int .i64 q.m.c, Value.slice q.a q.m.bl.length q.cap] 24 :: (.pure True) :: (.pure True) :: (.pure True) :: L) rfl
      clear hS62
      refine WO.call rfl rfl Ty.hd19 rfl (dcrash_spec (zs := zs) kD2.w kD2.b (by omega) (by omega) (fun h => h.own_rd.1) (by omega) (by omega) hS65) (fun v67 w66 pv67 => ?_)
      obtain ⟨rfl, hS66⟩ := pv67
      clear hS65
      refine WO.nil ?_
      refine NX.go ?_
      refine WP.seq ?_
      refine WP.region rfl ?_
      refine WO.val (run_move rfl) rfl rfl rfl ?_
      refine WO.call rfl rfl Ty.hd20 rfl (load_spec kD2.crash (by omega) hS66) (fun v69 w68 pv69 => ?_)
      obtain ⟨lb, ld, hv, _, hS68⟩ := pv69
      clear hS66
      have hl0 : loadD (crashD D2 zs) = (q.m, 0) := by rw [(hps2.crash (zs := zs)).load, if_neg g45, hwq]
      rw [hl0] at hv
      rw [hl0] at hS68
      change _ = Value.tuple #[Value.agg #[Value.int .i64 q.m.e, Value.int .i64 q.m.b, Value.int .i64 q.m.p, Value.int .i64 q.m.k, Value.int .i64 q.m.c, Value.slice lb q.m.bl.length ld], Value.int .i64 0] at hv
      subst hv
      replace hS68 : St B (own lb q.m.bl.length ld 9 1 (q.m.bl.map str) :: dkA g (crashD D2 zs) :: own a63 zs.length c64 3 1 (ri zs) :: (.pure True) :: own b1 x.m.bl.length c1 9 1 (x.m.bl.map str) :: cel g8 [Value.int .i64 q.m.e, Value.int .i64 q.m.b, Value.int .i64 q.m.p, Value.int .i64 q.m.k, Value.int .i64 q.m.c, Value.slice q.a q.m.bl.length q.cap] 24 :: (.pure True) :: (.pure True) :: (.pure True) :: L) w68 := hS68
      refine WO.val (run_move rfl) rfl rfl rfl ?_
      refine WO.val (run_extract rfl rfl) rfl rfl rfl ?_
      refine WO.val (run_extract rfl rfl) rfl rfl rfl ?_
      refine WO.alloc (l := [Value.int .i64 0, Value.int .i64 0, Value.int .i64 0, Value.int .i64 0, Value.int .i64 0, Value.slice none 0 0]) hS68 Ty.zr30 rfl rfl (fun g72 w70 lg72 hS70 => ?_)
      clear hS68
      refine WO.store (l' := [Value.int .i64 q.m.e, Value.int .i64 q.m.b, Value.int .i64 q.m.p, Value.int .i64 q.m.k, Value.int .i64 q.m.c, Value.slice lb q.m.bl.length ld]) 0 hS70 rfl Ty.sz30 rfl rfl rfl rfl rfl (Nat.le_of_ble_eq_true rfl) rfl (fun w73 (hS73 : St B (cel g72 [Value.int .i64 q.m.e, Value.int .i64 q.m.b, Value.int .i64 q.m.p, Value.int .i64 q.m.k, Value.int .i64 q.m.c, Value.slice lb q.m.bl.length ld] 30 :: own lb q.m.bl.length ld 9 1 (q.m.bl.map str) :: dkA g (crashD D2 zs) :: own a63 zs.length c64 3 1 (ri zs) :: (.pure True) :: own b1 x.m.bl.length c1 9 1 (x.m.bl.map str) :: cel g8 [Value.int .i64 q.m.e, Value.int .i64 q.m.b, Value.int .i64 q.m.p, Value.int .i64 q.m.k, Value.int .i64 q.m.c, Value.slice q.a q.m.bl.length q.cap] 24 :: (.pure True) :: (.pure True) :: (.pure True) :: L) w73) => ?_)
      clear hS70
      refine WO.val (run_assign rfl) rfl rfl rfl ?_
      refine WO.nil ?_
      refine NX.go ?_
      refine WP.seq ?_
      refine WD.start (fun w => (∀ j, World.cell? w ⟨g72, j, none⟩ = [Value.int .i64 q.m.e, Value.int .i64 q.m.b, Value.int .i64 q.m.p, Value.int .i64 q.m.k, Value.int .i64 q.m.c, Value.slice lb q.m.bl.length ld][j]?) ∧ (∀ j, World.cell? w ⟨g8, j, none⟩ = [Value.int .i64 q.m.e, Value.int .i64 q.m.b, Value.int .i64 q.m.p, Value.int .i64 q.m.k, Value.int .i64 q.m.c, Value.slice q.a q.m.bl.length q.cap][j]?)) [] #[false, false, false, false, false, false, false, false, false] Ty.mo rfl (by kernel_rfl) hS73 (fun _ h => ⟨h.cel_at 0 rfl, h.cel_at 6 rfl⟩) (fun w74 hS74 s75 => ?_)
      clear hS73
      refine WD.pure (i := 0) manifestLast_core_t18 #[true, false, false, false, false, false, false, false, false] rfl rfl rfl (by kernel_rfl) (PQ.then (PQ.blk (PQ.then (PQ.then (PQ.blk (PQ.then PQ.body)))))) rfl (fun w => run_move rfl) ?_
      refine WD.pure (i := 1) manifestLast_core_t18 #[true, true, false, false, false, false, false, false, false] rfl rfl rfl (by kernel_rfl) (PQ.then (PQ.blk (PQ.then (PQ.then (PQ.blk (PQ.then PQ.body)))))) rfl (fun w => run_neq rfl rfl) ?_
      refine WD.pure (i := 2) manifestLast_core_t18 #[true, true, true, false, false, false, false, false, false] rfl rfl rfl (by kernel_rfl) (PQ.then (PQ.blk (PQ.then (PQ.then (PQ.blk (PQ.then PQ.body)))))) rfl (fun w => run_move rfl) ?_
      refine WD.takeOn (i := 3) manifestLast_core_t18 #[true, true, true, true, false, false, false, false, false] s75 rfl rfl rfl (by decide) (by kernel_rfl) (PQ.then (PQ.blk (PQ.then (PQ.then (PQ.blk (PQ.then PQ.body)))))) rfl (fun w hs => run_loadAgg (vs := [Value.int .i64 q.m.e, Value.int .i64 q.m.b, Value.int .i64 q.m.p, Value.int .i64 q.m.k, Value.int .i64 q.m.c, Value.slice lb q.m.bl.length ld]) Ty.ag30 Ty.sz30 rfl rfl (cell_all (hs.1) 0 rfl)) ?_
      refine WD.takeOn (i := 5) manifestLast_core_t18 #[true, true, true, true, false, true, false, false, false] s75 rfl rfl rfl (by decide) (by kernel_rfl) (PQ.then (PQ.blk (PQ.then (PQ.then (PQ.blk (PQ.then PQ.body)))))) rfl (fun w hs => run_loadAgg (vs := [Value.int .i64 q.m.e, Value.int .i64 q.m.b, Value.int .i64 q.m.p, Value.int .i64 q.m.k, Value.int .i64 q.m.c, Value.slice q.a q.m.bl.length q.cap]) Ty.ag24 Ty.sz24 rfl rfl (cell_all (hs.2) 0 rfl)) ?_
      refine WD.one (i := 4) manifestLast_core_t18 #[true, true, true, true, true, true, false, false, false] rfl (by kernel_rfl) ?_
      refine WO.on rfl rfl (by decide) ?_
      refine WO.call rfl rfl Ty.hd14 rfl (from_spec (m := q.m) hS74) (fun v77 w76 pv77 => ?_)
      obtain ⟨rfl, hS76⟩ := pv77
      clear hS74
      refine WO.nil ?_
      have s78 : (∀ j, World.cell? w76 ⟨g72, j, none⟩ = [Value.int .i64 q.m.e, Value.int .i64 q.m.b, Value.int .i64 q.m.p, Value.int .i64 q.m.k, Value.int .i64 q.m.c, Value.slice lb q.m.bl.length ld][j]?) ∧ (∀ j, World.cell? w76 ⟨g8, j, none⟩ = [Value.int .i64 q.m.e, Value.int .i64 q.m.b, Value.int .i64 q.m.p, Value.int .i64 q.m.k, Value.int .i64 q.m.c, Value.slice q.a q.m.bl.length q.cap][j]?) := ⟨hS76.cel_at 0 rfl, hS76.cel_at 6 rfl⟩
      refine NX.held s78 ?_
      refine WD.one (i := 6) manifestLast_core_t18 #[true, true, true, true, true, true, true, false, false] rfl (by kernel_rfl) ?_
      refine WO.on rfl rfl (by decide) ?_
      have hS79 := hS76.permT [1, 8, 0, 0, 0, 0, 0, 0, 0, 0] (L' := own lb q.m.bl.length ld 9 1 (q.m.bl.map str) :: (.pure True) :: cel g72 [Value.int .i64 q.m.e, Value.int .i64 q.m.b, Value.int .i64 q.m.p, Value.int .i64 q.m.k, Value.int .i64 q.m.c, Value.slice lb q.m.bl.length ld] 30 :: dkA g (crashD D2 zs) :: own a63 zs.length c64 3 1 (ri zs) :: (.pure True) :: own b1 x.m.bl.length c1 9 1 (x.m.bl.map str) :: cel g8 [Value.int .i64 q.m.e, Value.int .i64 q.m.b, Value.int .i64 q.m.p, Value.int .i64 q.m.k, Value.int .i64 q.m.c, Value.slice q.a q.m.bl.length q.cap] 24 :: (.pure True) :: (.pure True) :: L) rfl
      clear hS76
      refine WO.call rfl rfl Ty.hd13 rfl (rsame_spec (m := q.m) (n := q.m) (fun h => h.own_rd.1) (fun h => St.rdB h hq) hrq hrq hS79) (fun v81 w80 pv81 => ?_)
      obtain ⟨rfl, hS80⟩ := pv81
      clear hS79
      refine WO.nil ?_
      have s82 : (∀ j, World.cell? w80 ⟨g72, j, none⟩ = [Value.int .i64 q.m.e, Value.int .i64 q.m.b, Value.int .i64 q.m.p, Value.int .i64 q.m.k, Value.int .i64 q.m.c, Value.slice lb q.m.bl.length ld][j]?) ∧ (∀ j, World.cell? w80 ⟨g8, j, none⟩ = [Value.int .i64 q.m.e, Value.int .i64 q.m.b, Value.int .i64 q.m.p, Value.int .i64 q.m.k, Value.int .i64 q.m.c, Value.slice q.a q.m.bl.length q.cap][j]?) := ⟨hS80.cel_at 2 rfl, hS80.cel_at 7 rfl⟩
      refine NX.held s82 ?_
      refine WD.pureOn (i := 7) manifestLast_core_t18 #[true, true, true, true, true, true, true, true, false] rfl rfl rfl (by decide) (by kernel_rfl) (PQ.then (PQ.blk (PQ.then (PQ.then (PQ.blk (PQ.then PQ.body)))))) rfl (fun w => run_not rfl rfl) ?_
      refine WD.pure (i := 8) manifestLast_core_t18 #[true, true, true, true, true, true, true, true, true] rfl rfl rfl (by kernel_rfl) (PQ.then (PQ.blk (PQ.then (PQ.then (PQ.blk (PQ.then PQ.body)))))) rfl (fun w => run_pickF rfl (by decide) rfl) ?_
      refine WD.done manifestLast_core_t18 (by kernel_rfl) ?_
      refine NX.go ?_
      refine WP.condF rfl (notB_t (decide_eq_true rfl)) ?_
      refine WP.skip ?_
      refine NX.blk ?_
      refine NX.go ?_
      refine WP.region rfl ?_
      refine WO.val (run_move rfl) rfl rfl rfl ?_
      refine WO.val (run_add rfl rfl (IntWalk.i64_in _ (by omega))) rfl rfl rfl ?_
      refine WO.val (run_assign rfl) rfl rfl rfl ?_
      refine WO.nil ?_
      exact NX.again (i + 1, (crashD D2 zs), nq + 5, tq + 5 * 1014, q, wq) ⟨⟨by omega, kD2.crash, by omega, by omega, by have z := (hps2.crash (zs := zs)); rw [if_neg g45] at z; exact z, hwq, hq, hrq⟩, (hS80.permT [0, 1, 2, 3, 3, 1, 2, 2, 1, 0] (L' := own lb q.m.bl.length ld 9 1 (q.m.bl.map str) :: cel g72 [Value.int .i64 q.m.e, Value.int .i64 q.m.b, Value.int .i64 q.m.p, Value.int .i64 q.m.k, Value.int .i64 q.m.c, Value.slice lb q.m.bl.length ld] 30 :: own a63 zs.length c64 3 1 (ri zs) :: own b1 x.m.bl.length c1 9 1 (x.m.bl.map str) :: cel g8 [Value.int .i64 q.m.e, Value.int .i64 q.m.b, Value.int .i64 q.m.p, Value.int .i64 q.m.k, Value.int .i64 q.m.c, Value.slice q.a q.m.bl.length q.cap] 24 :: dkA g (crashD D2 zs) :: (.pure True) :: (.pure True) :: (.pure True) :: (.pure True) :: L) rfl).drop.drop.drop.drop⟩ (by show 20 - (i + 1) < 20 - i; omega) (Sub.cons rfl (Sub.cons rfl (Sub.cons rfl (Sub.cons rfl (Sub.cons rfl (Sub.consE rfl (by congr 1) (Sub.nil _)))))))
     ·
      refine WP.skip ?_
      refine NX.go ?_
      refine WP.seq ?_
      refine WP.region rfl ?_
      refine WO.val (run_move rfl) rfl rfl rfl ?_
      have hS83 := hS20.permT [1, 0, 0, 0, 0, 0, 0] (L' := dkA g D2 :: (.pure True) :: own b1 x.m.bl.length c1 9 1 (x.m.bl.map str) :: cel g8 [Value.int .i64 q.m.e, Value.int .i64 q.m.b, Value.int .i64 q.m.p, Value.int .i64 q.m.k, Value.int .i64 q.m.c, Value.slice q.a q.m.bl.length q.cap] 24 :: (.pure True) :: (.pure True) :: (.pure True) :: L) rfl
      clear hS20
      refine WO.call rfl rfl Ty.hd20 rfl (load_spec kD2 (by omega) hS83) (fun v85 w84 pv85 => ?_)
      obtain ⟨lb, ld, hv, _, hS84⟩ := pv85
      clear hS83
      have hl0 : loadD D2 = (q.m, 0) := by rw [hps2.load, if_neg g45, hwq]
      rw [hl0] at hv
      rw [hl0] at hS84
      change _ = Value.tuple #[Value.agg #[Value.int .i64 q.m.e, Value.int .i64 q.m.b, Value.int .i64 q.m.p, Value.int .i64 q.m.k, Value.int .i64 q.m.c, Value.slice lb q.m.bl.length ld], Value.int .i64 0] at hv
      subst hv
      replace hS84 : St B (own lb q.m.bl.length ld 9 1 (q.m.bl.map str) :: dkA g D2 :: (.pure True) :: own b1 x.m.bl.length c1 9 1 (x.m.bl.map str) :: cel g8 [Value.int .i64 q.m.e, Value.int .i64 q.m.b, Value.int .i64 q.m.p, Value.int .i64 q.m.k, Value.int .i64 q.m.c, Value.slice q.a q.m.bl.length q.cap] 24 :: (.pure True) :: (.pure True) :: (.pure True) :: L) w84 := hS84
      refine WO.val (run_move rfl) rfl rfl rfl ?_
      refine WO.val (run_extract rfl rfl) rfl rfl rfl ?_
      refine WO.val (run_extract rfl rfl) rfl rfl rfl ?_
      refine WO.alloc (l := [Value.int .i64 0, Value.int .i64 0, Value.int .i64 0, Value.int .i64 0, Value.int .i64 0, Value.slice none 0 0]) hS84 Ty.zr30 rfl rfl (fun g87 w86 lg87 hS86 => ?_)
      clear hS84
      refine WO.store (l' := [Value.int .i64 q.m.e, Value.int .i64 q.m.b, Value.int .i64 q.m.p, Value.int .i64 q.m.k, Value.int .i64 q.m.c, Value.slice lb q.m.bl.length ld]) 0 hS86 rfl Ty.sz30 rfl rfl rfl rfl rfl (Nat.le_of_ble_eq_true rfl) rfl (fun w88 (hS88 : St B (cel g87 [Value.int .i64 q.m.e, Value.int .i64 q.m.b, Value.int .i64 q.m.p, Value.int .i64 q.m.k, Value.int .i64 q.m.c, Value.slice lb q.m.bl.length ld] 30 :: own lb q.m.bl.length ld 9 1 (q.m.bl.map str) :: dkA g D2 :: (.pure True) :: own b1 x.m.bl.length c1 9 1 (x.m.bl.map str) :: cel g8 [Value.int .i64 q.m.e, Value.int .i64 q.m.b, Value.int .i64 q.m.p, Value.int .i64 q.m.k, Value.int .i64 q.m.c, Value.slice q.a q.m.bl.length q.cap] 24 :: (.pure True) :: (.pure True) :: (.pure True) :: L) w88) => ?_)
      clear hS86
      refine WO.val (run_assign rfl) rfl rfl rfl ?_
      refine WO.nil ?_
      refine NX.go ?_
      refine WP.seq ?_
      refine WD.start (fun w => (∀ j, World.cell? w ⟨g87, j, none⟩ = [Value.int .i64 q.m.e, Value.int .i64 q.m.b, Value.int .i64 q.m.p, Value.int .i64 q.m.k, Value.int .i64 q.m.c, Value.slice lb q.m.bl.length ld][j]?) ∧ (∀ j, World.cell? w ⟨g8, j, none⟩ = [Value.int .i64 q.m.e, Value.int .i64 q.m.b, Value.int .i64 q.m.p, Value.int .i64 q.m.k, Value.int .i64 q.m.c, Value.slice q.a q.m.bl.length q.cap][j]?)) [] #[false, false, false, false, false, false, false, false, false] Ty.mo rfl (by kernel_rfl) hS88 (fun _ h => ⟨h.cel_at 0 rfl, h.cel_at 5 rfl⟩) (fun w89 hS89 s90 => ?_)
      clear hS88
      refine WD.pure (i := 0) manifestLast_core_t18 #[true, false, false, false, false, false, false, false, false] rfl rfl rfl (by kernel_rfl) (PQ.then (PQ.blk (PQ.then (PQ.then (PQ.blk (PQ.then PQ.body)))))) rfl (fun w => run_move rfl) ?_
      refine WD.pure (i := 1) manifestLast_core_t18 #[true, true, false, false, false, false, false, false, false] rfl rfl rfl (by kernel_rfl) (PQ.then (PQ.blk (PQ.then (PQ.then (PQ.blk (PQ.then PQ.body)))))) rfl (fun w => run_neq rfl rfl) ?_
      refine WD.pure (i := 2) manifestLast_core_t18 #[true, true, true, false, false, false, false, false, false] rfl rfl rfl (by kernel_rfl) (PQ.then (PQ.blk (PQ.then (PQ.then (PQ.blk (PQ.then PQ.body)))))) rfl (fun w => run_move rfl) ?_
      refine WD.takeOn (i := 3) manifestLast_core_t18 #[true, true, true, true, false, false, false, false, false] s90 rfl rfl rfl (by decide) (by kernel_rfl) (PQ.then (PQ.blk (PQ.then (PQ.then (PQ.blk (PQ.then PQ.body)))))) rfl (fun w hs => run_loadAgg (vs := [Value.int .i64 q.m.e, Value.int .i64 q.m.b, Value.int .i64 q.m.p, Value.int .i64 q.m.k, Value.int .i64 q.m.c, Value.slice lb q.m.bl.length ld]) Ty.ag30 Ty.sz30 rfl rfl (cell_all (hs.1) 0 rfl)) ?_
      refine WD.takeOn (i := 5) manifestLast_core_t18 #[true, true, true, true, false, true, false, false, false] s90 rfl rfl rfl (by decide) (by kernel_rfl) (PQ.then (PQ.blk (PQ.then (PQ.then (PQ.blk (PQ.then PQ.body)))))) rfl (fun w hs => run_loadAgg (vs := [Value.int .i64 q.m.e, Value.int .i64 q.m.b, Value.int .i64 q.m.p, Value.int .i64 q.m.k, Value.int .i64 q.m.c, Value.slice q.a q.m.bl.length q.cap]) Ty.ag24 Ty.sz24 rfl rfl (cell_all (hs.2) 0 rfl)) ?_
      refine WD.one (i := 4) manifestLast_core_t18 #[true, true, true, true, true, true, false, false, false] rfl (by kernel_rfl) ?_
      refine WO.on rfl rfl (by decide) ?_
      refine WO.call rfl rfl Ty.hd14 rfl (from_spec (m := q.m) hS89) (fun v92 w91 pv92 => ?_)
      obtain ⟨rfl, hS91⟩ := pv92
      clear hS89
      refine WO.nil ?_
      have s93 : (∀ j, World.cell? w91 ⟨g87, j, none⟩ = [Value.int .i64 q.m.e, Value.int .i64 q.m.b, Value.int .i64 q.m.p, Value.int .i64 q.m.k, Value.int .i64 q.m.c, Value.slice lb q.m.bl.length ld][j]?) ∧ (∀ j, World.cell? w91 ⟨g8, j, none⟩ = [Value.int .i64 q.m.e, Value.int .i64 q.m.b, Value.int .i64 q.m.p, Value.int .i64 q.m.k, Value.int .i64 q.m.c, Value.slice q.a q.m.bl.length q.cap][j]?) := ⟨hS91.cel_at 0 rfl, hS91.cel_at 5 rfl⟩
      refine NX.held s93 ?_
      refine WD.one (i := 6) manifestLast_core_t18 #[true, true, true, true, true, true, true, false, false] rfl (by kernel_rfl) ?_
      refine WO.on rfl rfl (by decide) ?_
      have hS94 := hS91.permT [1, 7, 0, 0, 0, 0, 0, 0, 0] (L' := own lb q.m.bl.length ld 9 1 (q.m.bl.map str) :: (.pure True) :: cel g87 [Value.int .i64 q.m.e, Value.int .i64 q.m.b, Value.int .i64 q.m.p, Value.int .i64 q.m.k, Value.int .i64 q.m.c, Value.slice lb q.m.bl.length ld] 30 :: dkA g D2 :: (.pure True) :: own b1 x.m.bl.length c1 9 1 (x.m.bl.map str) :: cel g8 [Value.int .i64 q.m.e, Value.int .i64 q.m.b, Value.int .i64 q.m.p, Value.int .i64 q.m.k, Value.int .i64 q.m.c, Value.slice q.a q.m.bl.length q.cap] 24 :: (.pure True) :: (.pure True) :: L) rfl
      clear hS91
      refine WO.call rfl rfl Ty.hd13 rfl (rsame_spec (m := q.m) (n := q.m) (fun h => h.own_rd.1) (fun h => St.rdB h hq) hrq hrq hS94) (fun v96 w95 pv96 => ?_)
      obtain ⟨rfl, hS95⟩ := pv96
      clear hS94
      refine WO.nil ?_
      have s97 : (∀ j, World.cell? w95 ⟨g87, j, none⟩ = [Value.int .i64 q.m.e, Value.int .i64 q.m.b, Value.int .i64 q.m.p, Value.int .i64 q.m.k, Value.int .i64 q.m.c, Value.slice lb q.m.bl.length ld][j]?) ∧ (∀ j, World.cell? w95 ⟨g8, j, none⟩ = [Value.int .i64 q.m.e, Value.int .i64 q.m.b, Value.int .i64 q.m.p, Value.int .i64 q.m.k, Value.int .i64 q.m.c, Value.slice q.a q.m.bl.length q.cap][j]?) := ⟨hS95.cel_at 2 rfl, hS95.cel_at 6 rfl⟩
      refine NX.held s97 ?_
      refine WD.pureOn (i := 7) manifestLast_core_t18 #[true, true, true, true, true, true, true, true, false] rfl rfl rfl (by decide) (by kernel_rfl) (PQ.then (PQ.blk (PQ.then (PQ.then (PQ.blk (PQ.then PQ.body)))))) rfl (fun w => run_not rfl rfl) ?_
      refine WD.pure (i := 8) manifestLast_core_t18 #[true, true, true, true, true, true, true, true, true] rfl rfl rfl (by kernel_rfl) (PQ.then (PQ.blk (PQ.then (PQ.then (PQ.blk (PQ.then PQ.body)))))) rfl (fun w => run_pickF rfl (by decide) rfl) ?_
      refine WD.done manifestLast_core_t18 (by kernel_rfl) ?_
      refine NX.go ?_
      refine WP.condF rfl (notB_t (decide_eq_true rfl)) ?_
      refine WP.skip ?_
      refine NX.blk ?_
      refine NX.go ?_
      refine WP.region rfl ?_
      refine WO.val (run_move rfl) rfl rfl rfl ?_
      refine WO.val (run_add rfl rfl (IntWalk.i64_in _ (by omega))) rfl rfl rfl ?_
      refine WO.val (run_assign rfl) rfl rfl rfl ?_
      refine WO.nil ?_
      exact NX.again (i + 1, D2, nq + 5, tq + 5 * 1014, q, wq) ⟨⟨by omega, kD2, by omega, by omega, by have z := hps2; rw [if_neg g45] at z; exact z, hwq, hq, hrq⟩, (hS95.permT [0, 1, 3, 3, 1, 2, 2, 1, 0] (L' := own lb q.m.bl.length ld 9 1 (q.m.bl.map str) :: cel g87 [Value.int .i64 q.m.e, Value.int .i64 q.m.b, Value.int .i64 q.m.p, Value.int .i64 q.m.k, Value.int .i64 q.m.c, Value.slice lb q.m.bl.length ld] 30 :: own b1 x.m.bl.length c1 9 1 (x.m.bl.map str) :: cel g8 [Value.int .i64 q.m.e, Value.int .i64 q.m.b, Value.int .i64 q.m.p, Value.int .i64 q.m.k, Value.int .i64 q.m.c, Value.slice q.a q.m.bl.length q.cap] 24 :: dkA g D2 :: (.pure True) :: (.pure True) :: (.pure True) :: (.pure True) :: L) rfl).drop.drop.drop⟩ (by show 20 - (i + 1) < 20 - i; omega) (Sub.cons rfl (Sub.cons rfl (Sub.cons rfl (Sub.cons rfl (Sub.cons rfl (Sub.consE rfl (by congr 1) (Sub.nil _)))))))
  ·
   refine WP.exit ?_
   refine NX.thenExit ?_
   refine NX.thenExit ?_
   refine NX.blkExit ?_
   refine NX.go ?_
   refine WP.seq ?_
   have hnl : (namesD Dq).length = Dq.nm.length := by unfold namesD; rw [hps.dead, if_neg Bool.noConfusion, List.length_map]
   have hn1 := hps.used.2.1
   refine WP.region rfl ?_
   refine WO.val (run_move rfl) rfl rfl rfl ?_
   have hS98 := hS10.permT [1, 0, 0, 0, 0, 0] (L' := dkA g Dq :: cel g8 [Value.int .i64 q.m.e, Value.int .i64 q.m.b, Value.int .i64 q.m.p, Value.int .i64 q.m.k, Value.int .i64 q.m.c, Value.slice q.a q.m.bl.length q.cap] 24 :: (.pure True) :: (.pure True) :: (.pure True) :: (.pure True) :: L) rfl
   clear hS10
   refine WO.call rfl rfl Ty.hd22 rfl (dnames_spec hkq.w hS98) (fun v100 w99 pv100 => ?_)
   obtain ⟨na, nc, rfl, hS99⟩ := pv100
   clear hS98
   refine WO.val (run_len rfl Tryz.underlying22 rfl) rfl rfl rfl ?_
   refine WO.val (run_leq rfl rfl) rfl rfl rfl ?_
   refine WO.val (run_assign rfl) rfl rfl rfl ?_
   refine WO.nil ?_
   refine NX.go ?_
   refine WP.ret ?_
   refine NX.done (l := [.tmp 4]) rfl rfl ?_
   exact ⟨congrArg Value.bool (decide_eq_true (by omega)), hS99.drop.drop.drop.drop.drop.drop.drop⟩
 ·
  refine WO.off rfl rfl (decide_eq_false g19) rfl ?_
  refine WO.off rfl rfl (decide_eq_false g19) rfl ?_
  refine WO.val (run_pickF rfl (decide_eq_false g19) rfl) rfl rfl rfl ?_
  refine WO.nil ?_
  refine NX.go ?_
  refine WP.condF rfl rfl ?_
  refine WP.exit ?_
  refine NX.thenExit ?_
  refine NX.thenExit ?_
  refine NX.blkExit ?_
  refine NX.go ?_
  refine WP.seq ?_
  have hnl : (namesD Dq).length = Dq.nm.length := by unfold namesD; rw [hps.dead, if_neg Bool.noConfusion, List.length_map]
  have hn1 := hps.used.2.1
  refine WP.region rfl ?_
  refine WO.val (run_move rfl) rfl rfl rfl ?_
  have hS101 := hS10.permT [1, 0, 0, 0, 0, 0] (L' := dkA g Dq :: cel g8 [Value.int .i64 q.m.e, Value.int .i64 q.m.b, Value.int .i64 q.m.p, Value.int .i64 q.m.k, Value.int .i64 q.m.c, Value.slice q.a q.m.bl.length q.cap] 24 :: (.pure True) :: (.pure True) :: (.pure True) :: (.pure True) :: L) rfl
  clear hS10
  refine WO.call rfl rfl Ty.hd22 rfl (dnames_spec hkq.w hS101) (fun v103 w102 pv103 => ?_)
  obtain ⟨na, nc, rfl, hS102⟩ := pv103
  clear hS101
  refine WO.val (run_len rfl Tryz.underlying22 rfl) rfl rfl rfl ?_
  refine WO.val (run_leq rfl rfl) rfl rfl rfl ?_
  refine WO.val (run_assign rfl) rfl rfl rfl ?_
  refine WO.nil ?_
  refine NX.go ?_
  refine WP.ret ?_
  refine NX.done (l := [.tmp 4]) rfl rfl ?_
  exact ⟨congrArg Value.bool (decide_eq_true (by omega)), hS102.drop.drop.drop.drop.drop.drop.drop⟩
end Go.Proofs.YtcehlnpbdffdhaaGreatDoor.SL
