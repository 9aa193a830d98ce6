/- Manifests: read of bytes: the reference. -/
import Derived.Test.YtcehlnpbdffdhaaGreatDoorKw3
namespace Go.Proofs.YtcehlnpbdffdhaaGreatDoor.SL
open Go.RowKit Go.Proofs.YtcehlnpbdffdhaaGreatDoor
open Go.Proofs.YtcehlnpbdffdhaaGreatDoorW.PrintLast (rtab opsOf)
set_option linter.unusedVariables false
set_option linter.unusedSimpArgs false

theorem all_snoc {α : Type} {P : α → Prop} {l : List α} {x : α} (h : ∀ t ∈ l, P t) (hx : P x) : ∀ t ∈ l ++ [x], P t := fun t ht => by
  rcases List.mem_append.1 ht with ht | ht
  · exact h t ht
  · cases List.mem_singleton.1 ht; exact hx
theorem inNum_len (x : List UInt8 × Int) : (inNum x).2.1.length ≤ x.1.length := by unfold inNum; split <;> simp
theorem inSig_len (x : List UInt8 × Int) : (inSig x).2.1.length ≤ x.1.length := by unfold inSig; split <;> simp
theorem inText_len (x : List UInt8 × Int) (m : Int) : (inText x m).2.1.length ≤ x.1.length := by unfold inText; split <;> simp
theorem must_len (x : List UInt8 × Int) (c : Bool) (e : Int) : (must x c e).1 = x.1 := by unfold must; split <;> rfl
theorem inText_got (x : List UInt8 × Int) (m : Int) : (inText x m).1.length ≤ x.1.length := by
  unfold inText; split
  · unfold getText
    split
    · simp
    · split
      · simp
      · split
        · simp
        · simp only [List.length_take, List.length_drop]; omega
  · simp
theorem inNum_lt (x : List UInt8 × Int) : (inNum x).1 < 18446744073709551616 := by
  unfold inNum; split
  · exact getNum_lt _
  · show 0 < _; decide
theorem inSig_rng (x : List UInt8 × Int) : -9223372036854775808 ≤ (inSig x).1 ∧ (inSig x).1 ≤ 9223372036854775807 := by
  unfold inSig; split
  · exact zag_rng (getNum_lt _)
  · show -9223372036854775808 ≤ (0 : Int) ∧ (0 : Int) ≤ 9223372036854775807; decide
theorem i64w_rng (n : Nat) : -9223372036854775808 ≤ i64w n ∧ i64w n ≤ 9223372036854775807 := by unfold i64w; rw [IntKind.wrap_i64]; omega
theorem n7_zero {d : List UInt8} (h : (n7 d).2 = 0) : (n6 d).1 ≤ 16 := by
  unfold n7 must at h
  split at h
  · cases h
  · rename_i hq
    cases e : decide ((n1 d).1 ≤ 99999999 ∧ (n2 d).1 ≤ 99999999 ∧ (n3 d).1 ≤ 99999999 ∧ (n5 d).1 ≤ 99999999 ∧ (n6 d).1 ≤ 16) with
    | true => exact (of_decide_eq_true e).2.2.2.2
    | false => exact absurd ⟨h, e⟩ hq
theorem zeroM_rng : RngM zeroM := ⟨by decide, by decide, by decide, by decide, by decide, by decide, by intro t h; cases h⟩
theorem getF_le (s : List UInt8) : (getF s).1.2.length ≤ s.length := by
  by_cases h : (getF s).2.2 = 0
  · obtain ⟨h1, h2, h3, h4, _⟩ := getF_canon h
    have := congrArg List.length h4
    rw [List.length_append, putF_length h1 h2 h3, textB_length] at this
    omega
  · have e0 : (getF s).1.2 = [] := by
      unfold getF at h ⊢
      split
      · rfl
      · rename_i c r
        split
        · rfl
        · split
          · rfl
          · split
            · rfl
            · split
              · rfl
              · rename_i h1 h2 h3 h4; exact absurd (by simp only [if_neg h1, if_neg h2, if_neg h3, if_neg h4]) h
    rw [e0]; exact Nat.zero_le _
theorem rdecM_spec_t16 : rtab .any (opsOf Tryz.f75 16) = (true, [([], []), ([0], [0]), ([], []), ([2], [2]), ([3], [3]), ([1, 4, 3], [1, 4]), ([0, 1, 2, 3, 4, 5], []), ([6, 5, 5, 0, 1, 2, 3, 4, 5], [5, 6])]) := by kernel_rfl
theorem rdecM_spec {B w : World} {L : List HP} (s : List UInt8) (hs : s.length ≤ 140737488355328) (hS : St B L w) : Does Tryz.prog 75 [str s] w (fun v w1 => ∃ (a : Option Addr) (cap : Nat), v = .tuple #[manV (decM s).1 a cap, .int .i64 (decM s).2] ∧ RngM (decM s).1 ∧ St B (own a (decM s).1.bl.length cap 9 1 ((decM s).1.bl.map str) :: L) w1) := by
 have hdl := getF_le s
 obtain ⟨d, hd⟩ : ∃ d, d = (getF s).1.2 := ⟨_, rfl⟩
 rw [← hd] at hdl
 refine enter (n := 112) Tryz.func75 rfl rfl [str s] rfl ?_
 refine WP.seq ?_
 refine WP.region rfl ?_
 refine WO.alloc (l := [Value.int .i64 0, Value.int .i64 0, Value.int .i64 0, Value.int .i64 0, Value.int .i64 0, Value.slice none 0 0]) hS Ty.zr24 rfl rfl (fun g2 w1 lg2 hS1 => ?_)
 clear hS
 refine WO.val (run_assign rfl) rfl rfl rfl ?_
 refine WO.nil ?_
 refine NX.go ?_
 refine WP.seq ?_
 refine WP.region rfl ?_
 refine WO.val (run_move rfl) rfl rfl rfl ?_
 refine WO.call rfl rfl Ty.hd98 rfl (rgetFrame_spec s hs hS1) (fun v4 w3 pv4 => ?_)
 obtain ⟨hv, hS3⟩ := pv4
 clear hS1
 replace hv : v4 = Value.tuple #[Value.agg #[Value.int .i64 ((getF s).1.1), str d], Value.int .i64 ((getF s).2.1), Value.int .i64 ((getF s).2.2)] := (by rw [hd]; exact hv)
 subst hv
 replace hS3 : St B (cel g2 [Value.int .i64 0, Value.int .i64 0, Value.int .i64 0, Value.int .i64 0, Value.int .i64 0, Value.slice none 0 0] 24 :: L) w3 := hS3
 refine WO.val (run_move rfl) rfl rfl rfl ?_
 refine WO.val (run_extract rfl rfl) rfl rfl rfl ?_
 refine WO.val (run_extract rfl rfl) rfl rfl rfl ?_
 refine WO.val (run_extract rfl rfl) rfl rfl rfl ?_
 refine WO.alloc (l := [Value.int .i64 0, str []]) hS3 Ty.zr144 rfl rfl (fun g6 w5 lg6 hS5 => ?_)
 clear hS3
 refine WO.store (l' := [Value.int .i64 ((getF s).1.1), str d]) 0 hS5 rfl Ty.sz144 rfl rfl rfl rfl rfl (Nat.le_of_ble_eq_true rfl) rfl (fun w7 (hS7 : St B (cel g6 [Value.int .i64 ((getF s).1.1), str d] 144 :: cel g2 [Value.int .i64 0, Value.int .i64 0, Value.int .i64 0, Value.int .i64 0, Value.int .i64 0, Value.slice none 0 0] 24 :: L) w7) => ?_)
 clear hS5
 refine WO.val (run_assign rfl) rfl rfl rfl ?_
 refine WO.val (run_assign rfl) rfl rfl rfl ?_
 refine WO.nil ?_
 refine NX.go ?_
 refine WP.seq ?_
 refine WP.seq ?_
 refine WP.region rfl ?_
 refine WO.val (run_move rfl) rfl rfl rfl ?_
 refine WO.val (run_neq rfl rfl) rfl rfl rfl ?_
 refine WO.nil ?_
 refine NX.go ?_
 refine WP.condP rfl (fun g24 => ?_) (fun g24 => ?_)
 ·
  refine WP.seq ?_
  refine WP.region rfl ?_
  refine WO.val (run_build (v := Value.agg #[Value.int .i64 0, Value.int .i64 0, Value.int .i64 0, Value.int .i64 0, Value.int .i64 0, Value.slice none 0 0]) rfl (fun w => by kernel_rfl)) rfl rfl rfl ?_
  refine WO.store (l' := [Value.int .i64 0, Value.int .i64 0, Value.int .i64 0, Value.int .i64 0, Value.int .i64 0, Value.slice none 0 0]) 1 hS7 rfl Ty.sz24 rfl rfl rfl rfl rfl (Nat.le_of_ble_eq_true rfl) rfl (fun w8 (hS8 : St B (cel g6 [Value.int .i64 ((getF s).1.1), str d] 144 :: cel g2 [Value.int .i64 0, Value.int .i64 0, Value.int .i64 0, Value.int .i64 0, Value.int .i64 0, Value.slice none 0 0] 24 :: L) w8) => ?_)
  clear hS7
  refine WO.val (run_assign rfl) rfl rfl rfl ?_
  refine WO.nil ?_
  refine NX.go ?_
  refine WP.ret ?_
  refine NX.thenRet ?_
  refine NX.doneC (l := [.cell 2 24, .tmp 3]) rfl (.cons (.cell rfl (loadVar_agg (vs := [Value.int .i64 0, Value.int .i64 0, Value.int .i64 0, Value.int .i64 0, Value.int .i64 0, Value.slice none 0 0]) Ty.ag24 Ty.sz24 rfl (cell_all (hS8.cel_at 1 rfl) 0 rfl))) (.cons (.tmp rfl) .nil)) ?_
  have hdc : decM s = (zeroM, 3) := by rw [← refDec_eq, refDec, if_neg (fun q => g24 q.1)]
  rw [hdc]
  exact ⟨none, 0, rfl, zeroM_rng, (hS8.drop.drop).own_nil 9 1⟩
 ·
  refine WP.skip ?_
  refine NX.go ?_
  refine WP.seq ?_
  refine WP.region rfl ?_
  refine WO.val (run_fieldAddr (q := ⟨g6, 1, none⟩) (show fieldB Tryz.prog 144 1 = some 1 from by kernel_rfl) rfl rfl) rfl rfl rfl ?_
  refine WO.val (run_load Ty.ag9 rfl ((hS7.cel_at 0 rfl 1).trans rfl)) rfl rfl rfl ?_
  refine WO.val (run_build (v := Value.agg #[str d, Value.int .i64 0]) rfl (fun w => by kernel_rfl)) rfl rfl rfl ?_
  refine WO.box (l := [str d, Value.int .i64 0]) hS7 rfl rfl rfl (fun g10 w9 lg10 hS9 => ?_)
  clear hS7
  refine WO.val (run_assign rfl) rfl rfl rfl ?_
  refine WO.nil ?_
  refine NX.go ?_
  refine WP.seq ?_
  refine WP.region rfl ?_
  refine WO.val (run_move rfl) rfl rfl rfl ?_
  refine WO.call rfl rfl Ty.hd99 rfl (inNum_spec g10 (d, 0) (by simp only; omega) hS9) (fun v12 w11 pv12 => ?_)
  obtain ⟨rfl, hS11⟩ := pv12
  clear hS9
  have hl1 : (n1 d).2.1.length ≤ d.length := Nat.le_trans (inNum_len _) (by first | exact hl0 | exact Nat.le_refl _)
  refine WO.val (run_assign rfl) rfl rfl rfl ?_
  refine WO.nil ?_
  refine NX.go ?_
  refine WP.seq ?_
  refine WP.region rfl ?_
  refine WO.val (run_move rfl) rfl rfl rfl ?_
  refine WO.call rfl rfl Ty.hd99 rfl (inNum_spec g10 (n1 d).2 (by omega) hS11) (fun v14 w13 pv14 => ?_)
  obtain ⟨rfl, hS13⟩ := pv14
  clear hS11
  have hl2 : (n2 d).2.1.length ≤ d.length := Nat.le_trans (inNum_len _) (by first | exact hl1 | exact Nat.le_refl _)
  refine WO.val (run_assign rfl) rfl rfl rfl ?_
  refine WO.nil ?_
  refine NX.go ?_
  refine WP.seq ?_
  refine WP.region rfl ?_
  refine WO.val (run_move rfl) rfl rfl rfl ?_
  refine WO.call rfl rfl Ty.hd99 rfl (inNum_spec g10 (n2 d).2 (by omega) hS13) (fun v16 w15 pv16 => ?_)
  obtain ⟨rfl, hS15⟩ := pv16
  clear hS13
  have hl3 : (n3 d).2.1.length ≤ d.length := Nat.le_trans (inNum_len _) (by first | exact hl2 | exact Nat.le_refl _)
  refine WO.val (run_assign rfl) rfl rfl rfl ?_
  refine WO.nil ?_
  refine NX.go ?_
  refine WP.seq ?_
  refine WP.region rfl ?_
  refine WO.val (run_move rfl) rfl rfl rfl ?_
  refine WO.call rfl rfl Ty.hd100 rfl (inSig_spec g10 (n3 d).2 (by omega) hS15) (fun v18 w17 pv18 => ?_)
  obtain ⟨rfl, hS17⟩ := pv18
  clear hS15
  have hl4 : (n4 d).2.1.length ≤ d.length := Nat.le_trans (inSig_len _) (by first | exact hl3 | exact Nat.le_refl _)
  refine WO.val (run_assign rfl) rfl rfl rfl ?_
  refine WO.nil ?_
  refine NX.go ?_
  refine WP.seq ?_
  refine WP.region rfl ?_
  refine WO.val (run_move rfl) rfl rfl rfl ?_
  refine WO.call rfl rfl Ty.hd99 rfl (inNum_spec g10 (n4 d).2 (by omega) hS17) (fun v20 w19 pv20 => ?_)
  obtain ⟨rfl, hS19⟩ := pv20
  clear hS17
  have hl5 : (n5 d).2.1.length ≤ d.length := Nat.le_trans (inNum_len _) (by first | exact hl4 | exact Nat.le_refl _)
  refine WO.val (run_assign rfl) rfl rfl rfl ?_
  refine WO.nil ?_
  refine NX.go ?_
  refine WP.seq ?_
  refine WP.region rfl ?_
  refine WO.val (run_move rfl) rfl rfl rfl ?_
  refine WO.call rfl rfl Ty.hd99 rfl (inNum_spec g10 (n5 d).2 (by omega) hS19) (fun v22 w21 pv22 => ?_)
  obtain ⟨rfl, hS21⟩ := pv22
  clear hS19
  have hl6 : (n6 d).2.1.length ≤ d.length := Nat.le_trans (inNum_len _) (by first | exact hl5 | exact Nat.le_refl _)
  refine WO.val (run_assign rfl) rfl rfl rfl ?_
  refine WO.nil ?_
  refine NX.go ?_
  refine WP.seq ?_
  refine WP.meet (α := Unit) (fun x => match x with | _ => [(0, str s), (2, Value.pointer (some ⟨g2, 0, none⟩)), (3, Value.int .i64 0), (4, Value.pointer (some ⟨g6, 0, none⟩)), (7, Value.pointer (some ⟨g10, 0, none⟩)), (8, Value.int .u64 ((n1 d).1 : Int)), (9, Value.int .u64 ((n2 d).1 : Int)), (10, Value.int .u64 ((n3 d).1 : Int)), (11, Value.int .i64 ((n4 d).1)), (12, Value.int .u64 ((n5 d).1 : Int)), (13, Value.int .u64 ((n6 d).1 : Int))]) (fun x w => match x with | _ => St B (cel g10 [str ((n7 d).1), Value.int .i64 ((n7 d).2)] 149 :: cel g6 [Value.int .i64 ((getF s).1.1), str d] 144 :: cel g2 [Value.int .i64 0, Value.int .i64 0, Value.int .i64 0, Value.int .i64 0, Value.int .i64 0, Value.slice none 0 0] 24 :: L) w) ?_ (fun K23 => ?_)
  ·
   rintro _ w24 hS24
   clear hS21
   refine NX.go ?_
   refine WP.seq ?_
   refine WP.region rfl ?_
   refine WO.val (run_move rfl) rfl rfl rfl ?_
   refine WO.val (run_convI Tryz.underlying3 (by kernel_rfl) rfl rfl) rfl rfl rfl ?_
   refine WO.val (run_move rfl) rfl rfl rfl ?_
   refine WO.val (run_convI Tryz.underlying3 (by kernel_rfl) rfl rfl) rfl rfl rfl ?_
   refine WO.val (run_move rfl) rfl rfl rfl ?_
   refine WO.val (run_convI Tryz.underlying3 (by kernel_rfl) rfl rfl) rfl rfl rfl ?_
   refine WO.val (run_move rfl) rfl rfl rfl ?_
   refine WO.val (run_move rfl) rfl rfl rfl ?_
   refine WO.val (run_convI Tryz.underlying3 (by kernel_rfl) rfl rfl) rfl rfl rfl ?_
   refine WO.val (run_build (v := Value.agg #[Value.int .i64 (i64w (n1 d).1), Value.int .i64 (i64w (n2 d).1), Value.int .i64 (i64w (n3 d).1), Value.int .i64 ((n4 d).1), Value.int .i64 (i64w (n5 d).1), Value.slice none 0 0]) rfl (fun w => by kernel_rfl)) rfl rfl rfl ?_
   refine WO.alloc (l := [Value.int .i64 0, Value.int .i64 0, Value.int .i64 0, Value.int .i64 0, Value.int .i64 0, Value.slice none 0 0]) hS24 Ty.zr24 rfl rfl (fun g26 w25 lg26 hS25 => ?_)
   clear hS24
   refine WO.store (l' := [Value.int .i64 (i64w (n1 d).1), Value.int .i64 (i64w (n2 d).1), Value.int .i64 (i64w (n3 d).1), Value.int .i64 ((n4 d).1), Value.int .i64 (i64w (n5 d).1), Value.slice none 0 0]) 0 hS25 rfl Ty.sz24 rfl rfl rfl rfl rfl (Nat.le_of_ble_eq_true rfl) rfl (fun w27 (hS27 : St B (cel g26 [Value.int .i64 (i64w (n1 d).1), Value.int .i64 (i64w (n2 d).1), Value.int .i64 (i64w (n3 d).1), Value.int .i64 ((n4 d).1), Value.int .i64 (i64w (n5 d).1), Value.slice none 0 0] 24 :: cel g10 [str ((n7 d).1), Value.int .i64 ((n7 d).2)] 149 :: cel g6 [Value.int .i64 ((getF s).1.1), str d] 144 :: cel g2 [Value.int .i64 0, Value.int .i64 0, Value.int .i64 0, Value.int .i64 0, Value.int .i64 0, Value.slice none 0 0] 24 :: L) w27) => ?_)
   clear hS25
   refine WO.nil ?_
   refine NX.go ?_
   refine WP.seq ?_
   refine WP.seq ?_
   refine WP.region rfl ?_
   refine WO.val (run_assign rfl) rfl rfl rfl ?_
   refine WO.nil ?_
   refine NX.go ?_
   refine WP.meet (α := List (List UInt8) × (List UInt8 × Int) × Option Addr × Nat) (fun x => match x with | ⟨acc, x, a, cap⟩ => [(0, str s), (2, Value.pointer (some ⟨g2, 0, none⟩)), (3, Value.int .i64 0), (7, Value.pointer (some ⟨g10, 0, none⟩)), (14, Value.pointer (some ⟨g26, 0, none⟩))]) (fun x w => match x with | ⟨acc, x, a, cap⟩ => (n8 d = (acc, x) ∧ acc.length ≤ 16 ∧ ∀ t ∈ acc, t.length ≤ 140737488355328) ∧ St B (cel g10 [str x.1, Value.int .i64 x.2] 149 :: cel g26 [Value.int .i64 (i64w (n1 d).1), Value.int .i64 (i64w (n2 d).1), Value.int .i64 (i64w (n3 d).1), Value.int .i64 ((n4 d).1), Value.int .i64 (i64w (n5 d).1), Value.slice a acc.length cap] 24 :: own a acc.length cap 9 1 (acc.map str) :: cel g2 [Value.int .i64 0, Value.int .i64 0, Value.int .i64 0, Value.int .i64 0, Value.int .i64 0, Value.slice none 0 0] 24 :: L) w) ?_ (fun K28 => ?_)
   ·
    rintro ⟨acc, x, a, cap⟩ w29 ⟨⟨hn8, ha16, hat⟩, hS29⟩
    clear hS27
    refine NX.go ?_
    refine WP.seq ?_
    have hrefm : refM d = ⟨i64w (n1 d).1, i64w (n2 d).1, i64w (n3 d).1, (n4 d).1, i64w (n5 d).1, acc⟩ := by unfold refM; rw [hn8]
    have hrm : RngM ⟨i64w (n1 d).1, i64w (n2 d).1, i64w (n3 d).1, (n4 d).1, i64w (n5 d).1, acc⟩ := ⟨i64w_rng _, i64w_rng _, i64w_rng _, inSig_rng _, i64w_rng _, by show acc.length ≤ _; omega, hat⟩
    refine WP.region rfl ?_
    refine WO.val (run_loadAgg (vs := [Value.int .i64 (i64w (n1 d).1), Value.int .i64 (i64w (n2 d).1), Value.int .i64 (i64w (n3 d).1), Value.int .i64 ((n4 d).1), Value.int .i64 (i64w (n5 d).1), Value.slice a acc.length cap]) Ty.ag24 Ty.sz24 rfl rfl (cell_all (hS29.cel_at 1 rfl) 0 rfl)) rfl rfl rfl ?_
    have hS30 := hS29.permT [2, 0, 0, 0] (L' := own a acc.length cap 9 1 (acc.map str) :: cel g10 [str x.1, Value.int .i64 x.2] 149 :: cel g26 [Value.int .i64 (i64w (n1 d).1), Value.int .i64 (i64w (n2 d).1), Value.int .i64 (i64w (n3 d).1), Value.int .i64 ((n4 d).1), Value.int .i64 (i64w (n5 d).1), Value.slice a acc.length cap] 24 :: cel g2 [Value.int .i64 0, Value.int .i64 0, Value.int .i64 0, Value.int .i64 0, Value.int .i64 0, Value.slice none 0 0] 24 :: L) rfl
    clear hS29
    refine WO.call rfl rfl Ty.hd69 rfl (rencM_spec (m := ⟨i64w (n1 d).1, i64w (n2 d).1, i64w (n3 d).1, (n4 d).1, i64w (n5 d).1, acc⟩) (fun h => h.own_rd.1) hrm hS30) (fun v32 w31 pv32 => ?_)
    obtain ⟨rfl, hS31⟩ := pv32
    clear hS30
    refine WO.val (run_move rfl) rfl rfl rfl ?_
    refine WO.val (run_extract rfl rfl) rfl rfl rfl ?_
    refine WO.val (run_extract rfl rfl) rfl rfl rfl ?_
    refine WO.val (run_assign rfl) rfl rfl rfl ?_
    refine WO.val (run_assign rfl) rfl rfl rfl ?_
    refine WO.nil ?_
    refine NX.go ?_
    refine WP.seq ?_
    refine WP.seq ?_
    refine WP.region rfl ?_
    refine WO.val (run_move rfl) rfl rfl rfl ?_
    refine WO.val (run_nilCheck rfl) rfl rfl rfl ?_
    refine WO.val (run_fieldAddr (q := ⟨g10, 1, none⟩) (show fieldB Tryz.prog 149 1 = some 1 from by kernel_rfl) rfl rfl) rfl rfl rfl ?_
    refine WO.val (run_load Ty.ag27 rfl ((hS31.cel_at 1 rfl 1).trans rfl)) rfl rfl rfl ?_
    refine WO.val (run_neq rfl rfl) rfl rfl rfl ?_
    refine WO.val (run_move rfl) rfl rfl rfl ?_
    by_cases g101 : ¬ x.2 = 0
    ·
     refine WO.off rfl rfl (decide_eq_true g101) rfl ?_
     refine WO.off rfl rfl (decide_eq_true g101) rfl ?_
     refine WO.val (run_pickT rfl (decide_eq_true g101) rfl) rfl rfl rfl ?_
     refine WO.val (run_move rfl) rfl rfl rfl ?_
     refine WO.off rfl rfl rfl rfl ?_
     refine WO.off rfl rfl rfl rfl ?_
     refine WO.off rfl rfl rfl rfl ?_
     refine WO.val (run_pickT rfl rfl rfl) rfl rfl rfl ?_
     refine WO.nil ?_
     refine NX.go ?_
     refine WP.condT rfl rfl ?_
     refine WP.seq ?_
     refine WP.region rfl ?_
     refine WO.val (run_build (v := Value.agg #[Value.int .i64 0, Value.int .i64 0, Value.int .i64 0, Value.int .i64 0, Value.int .i64 0, Value.slice none 0 0]) rfl (fun w => by kernel_rfl)) rfl rfl rfl ?_
     refine WO.store (l' := [Value.int .i64 0, Value.int .i64 0, Value.int .i64 0, Value.int .i64 0, Value.int .i64 0, Value.slice none 0 0]) 3 hS31 rfl Ty.sz24 rfl rfl rfl rfl rfl (Nat.le_of_ble_eq_true rfl) rfl (fun w33 (hS33 : St B (own a acc.length cap 9 1 (acc.map str) :: cel g10 [str x.1, Value.int .i64 x.2] 149 :: cel g26 [Value.int .i64 (i64w (n1 d).1), Value.int .i64 (i64w (n2 d).1), Value.int .i64 (i64w (n3 d).1), Value.int .i64 ((n4 d).1), Value.int .i64 (i64w (n5 d).1), Value.slice a acc.length cap] 24 :: cel g2 [Value.int .i64 0, Value.int .i64 0, Value.int .i64 0, Value.int .i64 0, Value.int .i64 0, Value.slice none 0 0] 24 :: L) w33) => ?_)
     clear hS31
     refine WO.val (run_assign rfl) rfl rfl rfl ?_
     refine WO.nil ?_
     refine NX.go ?_
     refine WP.ret ?_
     refine NX.thenRet ?_
     refine NX.doneC (l := [.cell 2 24, .tmp 3]) rfl (.cons (.cell rfl (loadVar_agg (vs := [Value.int .i64 0, Value.int .i64 0, Value.int .i64 0, Value.int .i64 0, Value.int .i64 0, Value.slice none 0 0]) Ty.ag24 Ty.sz24 rfl (cell_all (hS33.cel_at 3 rfl) 0 rfl))) (.cons (.tmp rfl) .nil)) ?_
     have hdc : decM s = (zeroM, 3) := by rw [← refDec_eq, refDec, if_neg (fun q => by rw [← hd] at q; obtain ⟨_, q2, q3⟩ := q; rw [hn8] at q2; rw [hrefm] at q3; first | exact g101 q2 | exact g105 (congrArg Prod.snd q3) | exact g109 (congrArg Prod.fst q3))]
     rw [hdc]
     exact ⟨none, 0, rfl, zeroM_rng, (hS33.drop.drop.drop.drop).own_nil 9 1⟩
    ·
     refine WO.on rfl rfl (decide_eq_false g101) ?_
     refine WO.val (run_move rfl) rfl rfl rfl ?_
     refine WO.on rfl rfl (decide_eq_false g101) ?_
     refine WO.val (run_neq rfl rfl) rfl rfl rfl ?_
     refine WO.val (run_pickF rfl (decide_eq_false g101) rfl) rfl rfl rfl ?_
     refine WO.val (run_move rfl) rfl rfl rfl ?_
     by_cases g105 : ¬ ((encM ⟨i64w (n1 d).1, i64w (n2 d).1, i64w (n3 d).1, (n4 d).1, i64w (n5 d).1, acc⟩).2) = 0
     ·
      refine WO.off rfl rfl (decide_eq_true g105) rfl ?_
      refine WO.off rfl rfl (decide_eq_true g105) rfl ?_
      refine WO.off rfl rfl (decide_eq_true g105) rfl ?_
      refine WO.val (run_pickT rfl (decide_eq_true g105) rfl) rfl rfl rfl ?_
      refine WO.nil ?_
      refine NX.go ?_
      refine WP.condT rfl rfl ?_
      refine WP.seq ?_
      refine WP.region rfl ?_
      refine WO.val (run_build (v := Value.agg #[Value.int .i64 0, Value.int .i64 0, Value.int .i64 0, Value.int .i64 0, Value.int .i64 0, Value.slice none 0 0]) rfl (fun w => by kernel_rfl)) rfl rfl rfl ?_
      refine WO.store (l' := [Value.int .i64 0, Value.int .i64 0, Value.int .i64 0, Value.int .i64 0, Value.int .i64 0, Value.slice none 0 0]) 3 hS31 rfl Ty.sz24 rfl rfl rfl rfl rfl (Nat.le_of_ble_eq_true rfl) rfl (fun w34 (hS34 : St B (own a acc.length cap 9 1 (acc.map str) :: cel g10 [str x.1, Value.int .i64 x.2] 149 :: cel g26 [Value.int .i64 (i64w (n1 d).1), Value.int .i64 (i64w (n2 d).1), Value.int .i64 (i64w (n3 d).1), Value.int .i64 ((n4 d).1), Value.int .i64 (i64w (n5 d).1), Value.slice a acc.length cap] 24 :: cel g2 [Value.int .i64 0, Value.int .i64 0, Value.int .i64 0, Value.int .i64 0, Value.int .i64 0, Value.slice none 0 0] 24 :: L) w34) => ?_)
      clear hS31
      refine WO.val (run_assign rfl) rfl rfl rfl ?_
      refine WO.nil ?_
      refine NX.go ?_
      refine WP.ret ?_
      refine NX.thenRet ?_
      refine NX.doneC (l := [.cell 2 24, .tmp 3]) rfl (.cons (.cell rfl (loadVar_agg (vs := [Value.int .i64 0, Value.int .i64 0, Value.int .i64 0, Value.int .i64 0, Value.int .i64 0, Value.slice none 0 0]) Ty.ag24 Ty.sz24 rfl (cell_all (hS34.cel_at 3 rfl) 0 rfl))) (.cons (.tmp rfl) .nil)) ?_
      have hdc : decM s = (zeroM, 3) := by rw [← refDec_eq, refDec, if_neg (fun q => by rw [← hd] at q; obtain ⟨_, q2, q3⟩ := q; rw [hn8] at q2; rw [hrefm] at q3; first | exact g101 q2 | exact g105 (congrArg Prod.snd q3) | exact g109 (congrArg Prod.fst q3))]
      rw [hdc]
      exact ⟨none, 0, rfl, zeroM_rng, (hS34.drop.drop.drop.drop).own_nil 9 1⟩
     ·
      refine WO.on rfl rfl (decide_eq_false g105) ?_
      refine WO.val (run_move rfl) rfl rfl rfl ?_
      refine WO.on rfl rfl (decide_eq_false g105) ?_
      refine WO.val (run_move rfl) rfl rfl rfl ?_
      refine WO.on rfl rfl (decide_eq_false g105) ?_
      refine WO.val (run_neqS rfl rfl) rfl rfl rfl ?_
      refine WO.val (run_pickF rfl (decide_eq_false g105) rfl) rfl rfl rfl ?_
      refine WO.nil ?_
      refine NX.go ?_
      refine WP.condP rfl (fun g109 => ?_) (fun g109 => ?_)
      ·
       refine WP.seq ?_
       refine WP.region rfl ?_
       refine WO.val (run_build (v := Value.agg #[Value.int .i64 0, Value.int .i64 0, Value.int .i64 0, Value.int .i64 0, Value.int .i64 0, Value.slice none 0 0]) rfl (fun w => by kernel_rfl)) rfl rfl rfl ?_
       refine WO.store (l' := [Value.int .i64 0, Value.int .i64 0, Value.int .i64 0, Value.int .i64 0, Value.int .i64 0, Value.slice none 0 0]) 3 hS31 rfl Ty.sz24 rfl rfl rfl rfl rfl (Nat.le_of_ble_eq_true rfl) rfl (fun w35 (hS35 : St B (own a acc.length cap 9 1 (acc.map str) :: cel g10 [str x.1, Value.int .i64 x.2] 149 :: cel g26 [Value.int .i64 (i64w (n1 d).1), Value.int .i64 (i64w (n2 d).1), Value.int .i64 (i64w (n3 d).1), Value.int .i64 ((n4 d).1), Value.int .i64 (i64w (n5 d).1), Value.slice a acc.length cap] 24 :: cel g2 [Value.int .i64 0, Value.int .i64 0, Value.int .i64 0, Value.int .i64 0, Value.int .i64 0, Value.slice none 0 0] 24 :: L) w35) => ?_)
       clear hS31
       refine WO.val (run_assign rfl) rfl rfl rfl ?_
       refine WO.nil ?_
       refine NX.go ?_
       refine WP.ret ?_
       refine NX.thenRet ?_
       refine NX.doneC (l := [.cell 2 24, .tmp 3]) rfl (.cons (.cell rfl (loadVar_agg (vs := [Value.int .i64 0, Value.int .i64 0, Value.int .i64 0, Value.int .i64 0, Value.int .i64 0, Value.slice none 0 0]) Ty.ag24 Ty.sz24 rfl (cell_all (hS35.cel_at 3 rfl) 0 rfl))) (.cons (.tmp rfl) .nil)) ?_
       have hdc : decM s = (zeroM, 3) := by rw [← refDec_eq, refDec, if_neg (fun q => by rw [← hd] at q; obtain ⟨_, q2, q3⟩ := q; rw [hn8] at q2; rw [hrefm] at q3; first | exact g101 q2 | exact g105 (congrArg Prod.snd q3) | exact g109 (congrArg Prod.fst q3))]
       rw [hdc]
       exact ⟨none, 0, rfl, zeroM_rng, (hS35.drop.drop.drop.drop).own_nil 9 1⟩
      ·
       refine WP.skip ?_
       refine NX.go ?_
       refine WP.seq ?_
       refine WP.region rfl ?_
       refine WO.val (run_loadAgg (vs := [Value.int .i64 (i64w (n1 d).1), Value.int .i64 (i64w (n2 d).1), Value.int .i64 (i64w (n3 d).1), Value.int .i64 ((n4 d).1), Value.int .i64 (i64w (n5 d).1), Value.slice a acc.length cap]) Ty.ag24 Ty.sz24 rfl rfl (cell_all (hS31.cel_at 2 rfl) 0 rfl)) rfl rfl rfl ?_
       refine WO.store (l' := [Value.int .i64 (i64w (n1 d).1), Value.int .i64 (i64w (n2 d).1), Value.int .i64 (i64w (n3 d).1), Value.int .i64 ((n4 d).1), Value.int .i64 (i64w (n5 d).1), Value.slice a acc.length cap]) 3 hS31 rfl Ty.sz24 rfl rfl rfl rfl rfl (Nat.le_of_ble_eq_true rfl) rfl (fun w36 (hS36 : St B (own a acc.length cap 9 1 (acc.map str) :: cel g10 [str x.1, Value.int .i64 x.2] 149 :: cel g26 [Value.int .i64 (i64w (n1 d).1), Value.int .i64 (i64w (n2 d).1), Value.int .i64 (i64w (n3 d).1), Value.int .i64 ((n4 d).1), Value.int .i64 (i64w (n5 d).1), Value.slice a acc.length cap] 24 :: cel g2 [Value.int .i64 (i64w (n1 d).1), Value.int .i64 (i64w (n2 d).1), Value.int .i64 (i64w (n3 d).1), Value.int .i64 ((n4 d).1), Value.int .i64 (i64w (n5 d).1), Value.slice a acc.length cap] 24 :: L) w36) => ?_)
       clear hS31
       refine WO.val (run_assign rfl) rfl rfl rfl ?_
       refine WO.nil ?_
       refine NX.go ?_
       refine WP.ret ?_
       refine NX.doneC (l := [.cell 2 24, .tmp 3]) rfl (.cons (.cell rfl (loadVar_agg (vs := [Value.int .i64 (i64w (n1 d).1), Value.int .i64 (i64w (n2 d).1), Value.int .i64 (i64w (n3 d).1), Value.int .i64 ((n4 d).1), Value.int .i64 (i64w (n5 d).1), Value.slice a acc.length cap]) Ty.ag24 Ty.sz24 rfl (cell_all (hS36.cel_at 3 rfl) 0 rfl))) (.cons (.tmp rfl) .nil)) ?_
       have hdc : decM s = (refM d, 0) := by rw [← refDec_eq, refDec, ← hd, if_pos ⟨Decidable.of_not_not g24, by rw [hn8]; exact Decidable.of_not_not g101, by rw [hrefm]; exact Prod.ext (Decidable.of_not_not g109) (Decidable.of_not_not g105)⟩]
       rw [hdc, hrefm]
       exact ⟨a, cap, rfl, hrm, (hS36.permT [1, 1, 1, 0] (L' := cel g10 [str x.1, Value.int .i64 x.2] 149 :: cel g26 [Value.int .i64 (i64w (n1 d).1), Value.int .i64 (i64w (n2 d).1), Value.int .i64 (i64w (n3 d).1), Value.int .i64 ((n4 d).1), Value.int .i64 (i64w (n5 d).1), Value.slice a acc.length cap] 24 :: cel g2 [Value.int .i64 (i64w (n1 d).1), Value.int .i64 (i64w (n2 d).1), Value.int .i64 (i64w (n3 d).1), Value.int .i64 ((n4 d).1), Value.int .i64 (i64w (n5 d).1), Value.slice a acc.length cap] 24 :: own a acc.length cap 9 1 (acc.map str) :: L) rfl).drop.drop.drop⟩
   ·
    refine WP.block ?_
    have hS37 := hS27.own_nil 9 1
    clear hS27
    refine WP.loop (α := Nat × List (List UInt8) × (List UInt8 × Int) × Option Addr × Nat) (fun x => match x with | ⟨i, acc, x, a, cap⟩ => [(0, str s), (2, Value.pointer (some ⟨g2, 0, none⟩)), (3, Value.int .i64 0), (4, Value.pointer (some ⟨g6, 0, none⟩)), (7, Value.pointer (some ⟨g10, 0, none⟩)), (8, Value.int .u64 ((n1 d).1 : Int)), (9, Value.int .u64 ((n2 d).1 : Int)), (10, Value.int .u64 ((n3 d).1 : Int)), (11, Value.int .i64 ((n4 d).1)), (12, Value.int .u64 ((n5 d).1 : Int)), (13, Value.int .u64 ((n6 d).1 : Int)), (14, Value.pointer (some ⟨g26, 0, none⟩)), (15, Value.int .u64 (i : Int))]) (fun x w => match x with | ⟨i, acc, x, a, cap⟩ => (i ≤ (n6 d).1 ∧ inTexts ((n6 d).1 - i) x acc = n8 d ∧ acc.length = i ∧ (x.2 = 0 → (n6 d).1 ≤ 16) ∧ acc.length ≤ 16 ∧ x.1.length ≤ 140737488355328 ∧ ∀ t ∈ acc, t.length ≤ 140737488355328) ∧ St B (own a acc.length cap 9 1 (acc.map str) :: cel g26 [Value.int .i64 (i64w (n1 d).1), Value.int .i64 (i64w (n2 d).1), Value.int .i64 (i64w (n3 d).1), Value.int .i64 ((n4 d).1), Value.int .i64 (i64w (n5 d).1), Value.slice a acc.length cap] 24 :: cel g10 [str x.1, Value.int .i64 x.2] 149 :: cel g6 [Value.int .i64 ((getF s).1.1), str d] 144 :: cel g2 [Value.int .i64 0, Value.int .i64 0, Value.int .i64 0, Value.int .i64 0, Value.int .i64 0, Value.slice none 0 0] 24 :: L) w) (fun x => match x with | ⟨i, acc, x, a, cap⟩ => (n6 d).1 - i) (0, [], n7 d, none, 0) ⟨⟨Nat.zero_le _, rfl, rfl, n7_zero, by decide, by rw [show (n7 d).1 = (n6 d).2.1 from must_len _ _ _]; omega, fun t h => (by cases h)⟩, hS37⟩ (Sub.cons rfl (Sub.cons rfl (Sub.cons rfl (Sub.cons rfl (Sub.cons rfl (Sub.cons rfl (Sub.cons rfl (Sub.cons rfl (Sub.cons rfl (Sub.cons rfl (Sub.cons rfl (Sub.cons rfl (Sub.consE rfl (by first | rfl | first | rfl | (congr 1; omega) | (simp; done) | (simp; omega)) (Sub.nil _)))))))))))))) ?_
    rintro ⟨i, acc, x, a, cap⟩ w38 ⟨⟨hi, hn8, hal, h16, ha16, hxl, hat⟩, hS38⟩
    clear hS37
    refine WP.seq ?_
    refine WP.seq ?_
    refine WP.region rfl ?_
    refine WO.val (run_move rfl) rfl rfl rfl ?_
    refine WO.val (run_move rfl) rfl rfl rfl ?_
    refine WO.val (run_lss rfl rfl) rfl rfl rfl ?_
    refine WO.val (run_move rfl) rfl rfl rfl ?_
    by_cases g75 : (i : Int) < ((n6 d).1 : Int)
    ·
     refine WO.on rfl rfl (decide_eq_true g75) ?_
     refine WO.val (run_move rfl) rfl rfl rfl ?_
     refine WO.on rfl rfl (decide_eq_true g75) ?_
     refine WO.val (run_nilCheck rfl) rfl rfl rfl ?_
     refine WO.on rfl rfl (decide_eq_true g75) ?_
     refine WO.val (run_fieldAddr (q := ⟨g10, 1, none⟩) (show fieldB Tryz.prog 149 1 = some 1 from by kernel_rfl) rfl rfl) rfl rfl rfl ?_
     refine WO.on rfl rfl (decide_eq_true g75) ?_
     refine WO.val (run_load Ty.ag27 rfl ((hS38.cel_at 2 rfl 1).trans rfl)) rfl rfl rfl ?_
     refine WO.on rfl rfl (decide_eq_true g75) ?_
     refine WO.val (run_eql rfl rfl) rfl rfl rfl ?_
     refine WO.val (run_pickT rfl (decide_eq_true g75) rfl) rfl rfl rfl ?_
     refine WO.nil ?_
     refine NX.go ?_
     refine WP.condP rfl (fun g81 => ?_) (fun g81 => ?_)
     ·
      refine WP.skip ?_
      refine NX.go ?_
      refine WP.seq ?_
      refine WP.block ?_
      refine WD.start (fun w => (∀ j, World.cell? w ⟨g26, j, none⟩ = [Value.int .i64 (i64w (n1 d).1), Value.int .i64 (i64w (n2 d).1), Value.int .i64 (i64w (n3 d).1), Value.int .i64 ((n4 d).1), Value.int .i64 (i64w (n5 d).1), Value.slice a acc.length cap][j]?)) [7] #[false, false, false, false, false, false, false, false] Ty.mo rfl (by kernel_rfl) hS38 (fun _ h => h.cel_at 1 rfl) (fun w39 hS39 s40 => ?_)
      clear hS38
      refine WD.pure (i := 0) rdecM_spec_t16 #[true, false, false, false, false, false, false, false] rfl rfl rfl (by kernel_rfl) (PQ.blk (PQ.then (PQ.then (PQ.blk (PQ.then PQ.body))))) rfl (fun w => run_fieldAddr (q := ⟨g26, 5, none⟩) (show fieldB Tryz.prog 24 5 = some 5 from by kernel_rfl) rfl rfl) ?_
      refine WD.take (i := 1) rdecM_spec_t16 #[true, true, false, false, false, false, false, false] s40 rfl rfl rfl (by kernel_rfl) (PQ.blk (PQ.then (PQ.then (PQ.blk (PQ.then PQ.body))))) rfl (fun w hs => run_load Ty.ag22 rfl ((hs 5).trans rfl)) ?_
      refine WD.pure (i := 2) rdecM_spec_t16 #[true, true, true, false, false, false, false, false] rfl rfl rfl (by kernel_rfl) (PQ.blk (PQ.then (PQ.then (PQ.blk (PQ.then PQ.body))))) rfl (fun w => run_move rfl) ?_
      refine WD.one (i := 3) rdecM_spec_t16 #[true, true, true, true, false, false, false, false] rfl (by kernel_rfl) ?_
      have hS41 := hS39.permT [2, 0, 0, 0, 0] (L' := cel g10 [str x.1, Value.int .i64 x.2] 149 :: own a acc.length cap 9 1 (acc.map str) :: cel g26 [Value.int .i64 (i64w (n1 d).1), Value.int .i64 (i64w (n2 d).1), Value.int .i64 (i64w (n3 d).1), Value.int .i64 ((n4 d).1), Value.int .i64 (i64w (n5 d).1), Value.slice a acc.length cap] 24 :: cel g6 [Value.int .i64 ((getF s).1.1), str d] 144 :: cel g2 [Value.int .i64 0, Value.int .i64 0, Value.int .i64 0, Value.int .i64 0, Value.int .i64 0, Value.slice none 0 0] 24 :: L) rfl
      clear hS39
      refine WO.call rfl rfl Ty.hd102 rfl (inText_spec g10 x 32 (by decide) (by omega) hS41) (fun v43 w42 pv43 => ?_)
      obtain ⟨rfl, hS42⟩ := pv43
      clear hS41
      refine WO.nil ?_
      have s44 : (∀ j, World.cell? w42 ⟨g26, j, none⟩ = [Value.int .i64 (i64w (n1 d).1), Value.int .i64 (i64w (n2 d).1), Value.int .i64 (i64w (n3 d).1), Value.int .i64 ((n4 d).1), Value.int .i64 (i64w (n5 d).1), Value.slice a acc.length cap][j]?) := hS42.cel_at 2 rfl
      refine NX.held s44 ?_
      refine WD.one (i := 4) rdecM_spec_t16 #[true, true, true, true, true, false, false, false] rfl (by kernel_rfl) ?_
      refine WO.buildSlice (l := [str ((inText x 32).1)]) hS42 Tryz.underlying22 rfl (fun w => by kernel_rfl) rfl (fun g46 w45 lg46 hS45 => ?_)
      clear hS42
      have hS45 := hS45.own_of_cel (m := 1) (k := 1) rfl
      replace hS45 : St B (own (some ⟨g46, 0, none⟩) 1 1 9 1 ([(inText x 32).1].map str) :: cel g10 [str ((inText x 32).2.1), Value.int .i64 ((inText x 32).2.2)] 149 :: own a acc.length cap 9 1 (acc.map str) :: cel g26 [Value.int .i64 (i64w (n1 d).1), Value.int .i64 (i64w (n2 d).1), Value.int .i64 (i64w (n3 d).1), Value.int .i64 ((n4 d).1), Value.int .i64 (i64w (n5 d).1), Value.slice a acc.length cap] 24 :: cel g6 [Value.int .i64 ((getF s).1.1), str d] 144 :: cel g2 [Value.int .i64 0, Value.int .i64 0, Value.int .i64 0, Value.int .i64 0, Value.int .i64 0, Value.slice none 0 0] 24 :: L) w45 := hS45
      refine WO.nil ?_
      have s47 : (∀ j, World.cell? w45 ⟨g26, j, none⟩ = [Value.int .i64 (i64w (n1 d).1), Value.int .i64 (i64w (n2 d).1), Value.int .i64 (i64w (n3 d).1), Value.int .i64 ((n4 d).1), Value.int .i64 (i64w (n5 d).1), Value.slice a acc.length cap][j]?) := hS45.cel_at 3 rfl
      refine NX.held s47 ?_
      refine WD.one (i := 5) rdecM_spec_t16 #[true, true, true, true, true, true, false, false] rfl (by kernel_rfl) ?_
      refine WO.append (news := ([(inText x 32).1].map str)) 2 rfl Tryz.underlying22 Tryz.underlying22 (fun _ h => by cases h) Ty.sz9 (by decide) Ty.by9 Ty.zr9 rfl rfl rfl rfl hS45 rfl ((hS45.own_rd_i 0 rfl).src) rfl (by omega) (by omega) (fun a49 c50 w48 hS48 => ?_)
      replace hS48 : St B (own (some ⟨g46, 0, none⟩) 1 1 9 1 ([(inText x 32).1].map str) :: cel g10 [str ((inText x 32).2.1), Value.int .i64 ((inText x 32).2.2)] 149 :: own a49 ((acc ++ [(inText x 32).1]).length) c50 9 1 ((acc ++ [(inText x 32).1]).map str) :: cel g26 [Value.int .i64 (i64w (n1 d).1), Value.int .i64 (i64w (n2 d).1), Value.int .i64 (i64w (n3 d).1), Value.int .i64 ((n4 d).1), Value.int .i64 (i64w (n5 d).1), Value.slice a acc.length cap] 24 :: cel g6 [Value.int .i64 ((getF s).1.1), str d] 144 :: cel g2 [Value.int .i64 0, Value.int .i64 0, Value.int .i64 0, Value.int .i64 0, Value.int .i64 0, Value.slice none 0 0] 24 :: L) w48 := (by rw [List.map_append, List.length_append]; exact hS48)
      refine WO.as (d := 89) (v := Value.slice a49 ((acc ++ [(inText x 32).1]).length) c50) rfl (by simp) ?_
      clear hS45
      refine WO.nil ?_
      have s51 : (∀ j, World.cell? w48 ⟨g26, j, none⟩ = [Value.int .i64 (i64w (n1 d).1), Value.int .i64 (i64w (n2 d).1), Value.int .i64 (i64w (n3 d).1), Value.int .i64 ((n4 d).1), Value.int .i64 (i64w (n5 d).1), Value.slice a acc.length cap][j]?) := hS48.cel_at 3 rfl
      refine NX.held s51 ?_
      refine WD.pure (i := 6) rdecM_spec_t16 #[true, true, true, true, true, true, true, false] rfl rfl rfl (by kernel_rfl) (PQ.blk (PQ.then (PQ.then (PQ.blk (PQ.then PQ.body))))) rfl (fun w => run_fieldAddr (q := ⟨g26, 5, none⟩) (show fieldB Tryz.prog 24 5 = some 5 from by kernel_rfl) rfl rfl) ?_
      refine WD.one (i := 7) rdecM_spec_t16 #[true, true, true, true, true, true, true, true] rfl (by kernel_rfl) ?_
      refine WO.store (l' := [Value.int .i64 (i64w (n1 d).1), Value.int .i64 (i64w (n2 d).1), Value.int .i64 (i64w (n3 d).1), Value.int .i64 ((n4 d).1), Value.int .i64 (i64w (n5 d).1), Value.slice a49 ((acc ++ [(inText x 32).1]).length) c50]) 3 hS48 rfl Ty.sz22 rfl rfl rfl rfl rfl (Nat.le_of_ble_eq_true rfl) rfl (fun w52 (hS52 : St B (own (some ⟨g46, 0, none⟩) 1 1 9 1 ([(inText x 32).1].map str) :: cel g10 [str ((inText x 32).2.1), Value.int .i64 ((inText x 32).2.2)] 149 :: own a49 ((acc ++ [(inText x 32).1]).length) c50 9 1 ((acc ++ [(inText x 32).1]).map str) :: cel g26 [Value.int .i64 (i64w (n1 d).1), Value.int .i64 (i64w (n2 d).1), Value.int .i64 (i64w (n3 d).1), Value.int .i64 ((n4 d).1), Value.int .i64 (i64w (n5 d).1), Value.slice a49 ((acc ++ [(inText x 32).1]).length) c50] 24 :: cel g6 [Value.int .i64 ((getF s).1.1), str d] 144 :: cel g2 [Value.int .i64 0, Value.int .i64 0, Value.int .i64 0, Value.int .i64 0, Value.int .i64 0, Value.slice none 0 0] 24 :: L) w52) => ?_)
      clear hS48
      refine WO.nil ?_
      refine NX.last (by decide) ?_
      refine WD.done rdecM_spec_t16 (by kernel_rfl) ?_
      refine NX.blk ?_
      refine NX.go ?_
      refine WP.region rfl ?_
      refine WO.val (run_move rfl) rfl rfl rfl ?_
      refine WO.val (run_add rfl rfl (IntWalk.u64_in _ (by omega))) rfl rfl rfl ?_
      refine WO.val (run_assign rfl) rfl rfl rfl ?_
      refine WO.nil ?_
      exact NX.again (i + 1, acc ++ [(inText x 32).1], (inText x 32).2, a49, c50) ⟨⟨by omega, by rw [← hn8, show (n6 d).1 - i = ((n6 d).1 - (i + 1)) + 1 by omega]; conv => rhs; unfold inTexts; rw [if_pos g81], by rw [List.length_append, List.length_singleton, hal], fun _ => h16 g81, by rw [List.length_append, List.length_singleton]; have := h16 g81; omega, Nat.le_trans (inText_len x 32) hxl, all_snoc hat (Nat.le_trans (inText_got x 32) hxl)⟩, (hS52.permT [0, 1, 1, 0, 0, 0] (L' := own (some ⟨g46, 0, none⟩) 1 1 9 1 ([(inText x 32).1].map str) :: own a49 ((acc ++ [(inText x 32).1]).length) c50 9 1 ((acc ++ [(inText x 32).1]).map str) :: cel g26 [Value.int .i64 (i64w (n1 d).1), Value.int .i64 (i64w (n2 d).1), Value.int .i64 (i64w (n3 d).1), Value.int .i64 ((n4 d).1), Value.int .i64 (i64w (n5 d).1), Value.slice a49 ((acc ++ [(inText x 32).1]).length) c50] 24 :: cel g10 [str ((inText x 32).2.1), Value.int .i64 ((inText x 32).2.2)] 149 :: cel g6 [Value.int .i64 ((getF s).1.1), str d] 144 :: cel g2 [Value.int .i64 0, Value.int .i64 0, Value.int .i64 0, Value.int .i64 0, Value.int .i64 0, Value.slice none 0 0] 24 :: L) rfl).drop⟩ (by show (n6 d).1 - (i + 1) < (n6 d).1 - i; omega) (Sub.cons rfl (Sub.cons rfl (Sub.cons rfl (Sub.cons rfl (Sub.cons rfl (Sub.cons rfl (Sub.cons rfl (Sub.cons rfl (Sub.cons rfl (Sub.cons rfl (Sub.cons rfl (Sub.cons rfl (Sub.consE rfl (by congr 1) (Sub.nil _))))))))))))))
     ·
      refine WP.exit ?_
      refine NX.thenExit ?_
      refine NX.thenExit ?_
      refine NX.blkExit ?_
      exact K28 (acc, x, a, cap) _ _ ⟨⟨by rw [← hn8]; exact inTexts_err g81 acc _, ha16, hat⟩, (hS38.permT [3, 2, 1, 0, 0] (L' := cel g6 [Value.int .i64 ((getF s).1.1), str d] 144 :: cel g10 [str x.1, Value.int .i64 x.2] 149 :: cel g26 [Value.int .i64 (i64w (n1 d).1), Value.int .i64 (i64w (n2 d).1), Value.int .i64 (i64w (n3 d).1), Value.int .i64 ((n4 d).1), Value.int .i64 (i64w (n5 d).1), Value.slice a acc.length cap] 24 :: own a acc.length cap 9 1 (acc.map str) :: cel g2 [Value.int .i64 0, Value.int .i64 0, Value.int .i64 0, Value.int .i64 0, Value.int .i64 0, Value.slice none 0 0] 24 :: L) rfl).drop⟩ (Sub.cons rfl (Sub.cons rfl (Sub.cons rfl (Sub.cons rfl (Sub.cons rfl (Sub.nil _))))))
    ·
     refine WO.off rfl rfl (decide_eq_false g75) rfl ?_
     refine WO.off rfl rfl (decide_eq_false g75) rfl ?_
     refine WO.off rfl rfl (decide_eq_false g75) rfl ?_
     refine WO.off rfl rfl (decide_eq_false g75) rfl ?_
     refine WO.off rfl rfl (decide_eq_false g75) rfl ?_
     refine WO.val (run_pickF rfl (decide_eq_false g75) rfl) rfl rfl rfl ?_
     refine WO.nil ?_
     refine NX.go ?_
     refine WP.condF rfl rfl ?_
     refine WP.exit ?_
     refine NX.thenExit ?_
     refine NX.thenExit ?_
     refine NX.blkExit ?_
     exact K28 (acc, x, a, cap) _ _ ⟨⟨by rw [← hn8]; rw [show (n6 d).1 - i = 0 by omega]; rfl, ha16, hat⟩, (hS38.permT [3, 2, 1, 0, 0] (L' := cel g6 [Value.int .i64 ((getF s).1.1), str d] 144 :: cel g10 [str x.1, Value.int .i64 x.2] 149 :: cel g26 [Value.int .i64 (i64w (n1 d).1), Value.int .i64 (i64w (n2 d).1), Value.int .i64 (i64w (n3 d).1), Value.int .i64 ((n4 d).1), Value.int .i64 (i64w (n5 d).1), Value.slice a acc.length cap] 24 :: own a acc.length cap 9 1 (acc.map str) :: cel g2 [Value.int .i64 0, Value.int .i64 0, Value.int .i64 0, Value.int .i64 0, Value.int .i64 0, Value.slice none 0 0] 24 :: L) rfl).drop⟩ (Sub.cons rfl (Sub.cons rfl (Sub.cons rfl (Sub.cons rfl (Sub.cons rfl (Sub.nil _))))))
  ·
   refine WP.region rfl ?_
   refine WO.val (run_move rfl) rfl rfl rfl ?_
   refine WO.val (run_move rfl) rfl rfl rfl ?_
   refine WO.val (run_leq rfl rfl) rfl rfl rfl ?_
   refine WO.val (run_move rfl) rfl rfl rfl ?_
   by_cases g45 : ((n1 d).1 : Int) ≤ 99999999
   ·
    refine WO.on rfl rfl (decide_eq_true g45) ?_
    refine WO.val (run_move rfl) rfl rfl rfl ?_
    refine WO.on rfl rfl (decide_eq_true g45) ?_
    refine WO.val (run_leq rfl rfl) rfl rfl rfl ?_
    refine WO.val (run_pickT rfl (decide_eq_true g45) rfl) rfl rfl rfl ?_
    refine WO.val (run_move rfl) rfl rfl rfl ?_
    by_cases g49 : ((n2 d).1 : Int) ≤ 99999999
    ·
     refine WO.on rfl rfl (decide_eq_true g49) ?_
     refine WO.val (run_move rfl) rfl rfl rfl ?_
     refine WO.on rfl rfl (decide_eq_true g49) ?_
     refine WO.val (run_leq rfl rfl) rfl rfl rfl ?_
     refine WO.val (run_pickT rfl (decide_eq_true g49) rfl) rfl rfl rfl ?_
     refine WO.val (run_move rfl) rfl rfl rfl ?_
     by_cases g53 : ((n3 d).1 : Int) ≤ 99999999
     ·
      refine WO.on rfl rfl (decide_eq_true g53) ?_
      refine WO.val (run_move rfl) rfl rfl rfl ?_
      refine WO.on rfl rfl (decide_eq_true g53) ?_
      refine WO.val (run_leq rfl rfl) rfl rfl rfl ?_
      refine WO.val (run_pickT rfl (decide_eq_true g53) rfl) rfl rfl rfl ?_
      refine WO.val (run_move rfl) rfl rfl rfl ?_
      by_cases g57 : ((n5 d).1 : Int) ≤ 99999999
      ·
       refine WO.on rfl rfl (decide_eq_true g57) ?_
       refine WO.val (run_move rfl) rfl rfl rfl ?_
       refine WO.on rfl rfl (decide_eq_true g57) ?_
       refine WO.val (run_leq rfl rfl) rfl rfl rfl ?_
       refine WO.val (run_pickT rfl (decide_eq_true g57) rfl) rfl rfl rfl ?_
       refine WO.call rfl rfl Ty.hd101 rfl (inMust_spec g10 (n6 d).2 (decide (((n6 d).1 : Int) ≤ 16)) 3 hS21) (fun v54 w53 pv54 => ?_)
       obtain ⟨rfl, hS53⟩ := pv54
       clear hS21
       refine WO.nil ?_
       exact K23 () _ _ (by have e7 : (decide (((n6 d).1 : Int) ≤ 16)) = decide ((n1 d).1 ≤ 99999999 ∧ (n2 d).1 ≤ 99999999 ∧ (n3 d).1 ≤ 99999999 ∧ (n5 d).1 ≤ 99999999 ∧ (n6 d).1 ≤ 16) := (by first | exact (decide_eq_false (by omega)).symm | exact decide_eq_decide.2 (by omega)); rw [e7] at hS53; exact hS53) (Sub.cons rfl (Sub.cons rfl (Sub.cons rfl (Sub.cons rfl (Sub.cons rfl (Sub.cons rfl (Sub.cons rfl (Sub.cons rfl (Sub.cons rfl (Sub.cons rfl (Sub.cons rfl (Sub.nil _))))))))))))
      ·
       refine WO.off rfl rfl (decide_eq_false g57) rfl ?_
       refine WO.off rfl rfl (decide_eq_false g57) rfl ?_
       refine WO.val (run_pickF rfl (decide_eq_false g57) rfl) rfl rfl rfl ?_
       refine WO.call rfl rfl Ty.hd101 rfl (inMust_spec g10 (n6 d).2 false 3 hS21) (fun v56 w55 pv56 => ?_)
       obtain ⟨rfl, hS55⟩ := pv56
       clear hS21
       refine WO.nil ?_
       exact K23 () _ _ (by have e7 : false = decide ((n1 d).1 ≤ 99999999 ∧ (n2 d).1 ≤ 99999999 ∧ (n3 d).1 ≤ 99999999 ∧ (n5 d).1 ≤ 99999999 ∧ (n6 d).1 ≤ 16) := (by first | exact (decide_eq_false (by omega)).symm | exact decide_eq_decide.2 (by omega)); rw [e7] at hS55; exact hS55) (Sub.cons rfl (Sub.cons rfl (Sub.cons rfl (Sub.cons rfl (Sub.cons rfl (Sub.cons rfl (Sub.cons rfl (Sub.cons rfl (Sub.cons rfl (Sub.cons rfl (Sub.cons rfl (Sub.nil _))))))))))))
     ·
      refine WO.off rfl rfl (decide_eq_false g53) rfl ?_
      refine WO.off rfl rfl (decide_eq_false g53) rfl ?_
      refine WO.val (run_pickF rfl (decide_eq_false g53) rfl) rfl rfl rfl ?_
      refine WO.val (run_move rfl) rfl rfl rfl ?_
      refine WO.off rfl rfl rfl rfl ?_
      refine WO.off rfl rfl rfl rfl ?_
      refine WO.val (run_pickF rfl rfl rfl) rfl rfl rfl ?_
      refine WO.call rfl rfl Ty.hd101 rfl (inMust_spec g10 (n6 d).2 false 3 hS21) (fun v58 w57 pv58 => ?_)
      obtain ⟨rfl, hS57⟩ := pv58
      clear hS21
      refine WO.nil ?_
      exact K23 () _ _ (by have e7 : false = decide ((n1 d).1 ≤ 99999999 ∧ (n2 d).1 ≤ 99999999 ∧ (n3 d).1 ≤ 99999999 ∧ (n5 d).1 ≤ 99999999 ∧ (n6 d).1 ≤ 16) := (by first | exact (decide_eq_false (by omega)).symm | exact decide_eq_decide.2 (by omega)); rw [e7] at hS57; exact hS57) (Sub.cons rfl (Sub.cons rfl (Sub.cons rfl (Sub.cons rfl (Sub.cons rfl (Sub.cons rfl (Sub.cons rfl (Sub.cons rfl (Sub.cons rfl (Sub.cons rfl (Sub.cons rfl (Sub.nil _))))))))))))
    ·
     refine WO.off rfl rfl (decide_eq_false g49) rfl ?_
     refine WO.off rfl rfl (decide_eq_false g49) rfl ?_
     refine WO.val (run_pickF rfl (decide_eq_false g49) rfl) rfl rfl rfl ?_
     refine WO.val (run_move rfl) rfl rfl rfl ?_
     refine WO.off rfl rfl rfl rfl ?_
     refine WO.off rfl rfl rfl rfl ?_
     refine WO.val (run_pickF rfl rfl rfl) rfl rfl rfl ?_
     refine WO.val (run_move rfl) rfl rfl rfl ?_
     refine WO.off rfl rfl rfl rfl ?_
     refine WO.off rfl rfl rfl rfl ?_
     refine WO.val (run_pickF rfl rfl rfl) rfl rfl rfl ?_
     refine WO.call rfl rfl Ty.hd101 rfl (inMust_spec g10 (n6 d).2 false 3 hS21) (fun v60 w59 pv60 => ?_)
     obtain ⟨rfl, hS59⟩ := pv60
     clear hS21
     refine WO.nil ?_
     exact K23 () _ _ (by have e7 : false = decide ((n1 d).1 ≤ 99999999 ∧ (n2 d).1 ≤ 99999999 ∧ (n3 d).1 ≤ 99999999 ∧ (n5 d).1 ≤ 99999999 ∧ (n6 d).1 ≤ 16) := (by first | exact (decide_eq_false (by omega)).symm | exact decide_eq_decide.2 (by omega)); rw [e7] at hS59; exact hS59) (Sub.cons rfl (Sub.cons rfl (Sub.cons rfl (Sub.cons rfl (Sub.cons rfl (Sub.cons rfl (Sub.cons rfl (Sub.cons rfl (Sub.cons rfl (Sub.cons rfl (Sub.cons rfl (Sub.nil _))))))))))))
   ·
    refine WO.off rfl rfl (decide_eq_false g45) rfl ?_
    refine WO.off rfl rfl (decide_eq_false g45) rfl ?_
    refine WO.val (run_pickF rfl (decide_eq_false g45) rfl) rfl rfl rfl ?_
    refine WO.val (run_move rfl) rfl rfl rfl ?_
    refine WO.off rfl rfl rfl rfl ?_
    refine WO.off rfl rfl rfl rfl ?_
    refine WO.val (run_pickF rfl rfl rfl) rfl rfl rfl ?_
    refine WO.val (run_move rfl) rfl rfl rfl ?_
    refine WO.off rfl rfl rfl rfl ?_
    refine WO.off rfl rfl rfl rfl ?_
    refine WO.val (run_pickF rfl rfl rfl) rfl rfl rfl ?_
    refine WO.val (run_move rfl) rfl rfl rfl ?_
    refine WO.off rfl rfl rfl rfl ?_
    refine WO.off rfl rfl rfl rfl ?_
    refine WO.val (run_pickF rfl rfl rfl) rfl rfl rfl ?_
    refine WO.call rfl rfl Ty.hd101 rfl (inMust_spec g10 (n6 d).2 false 3 hS21) (fun v62 w61 pv62 => ?_)
    obtain ⟨rfl, hS61⟩ := pv62
    clear hS21
    refine WO.nil ?_
    exact K23 () _ _ (by have e7 : false = decide ((n1 d).1 ≤ 99999999 ∧ (n2 d).1 ≤ 99999999 ∧ (n3 d).1 ≤ 99999999 ∧ (n5 d).1 ≤ 99999999 ∧ (n6 d).1 ≤ 16) := (by first | exact (decide_eq_false (by omega)).symm | exact decide_eq_decide.2 (by omega)); rw [e7] at hS61; exact hS61) (Sub.cons rfl (Sub.cons rfl (Sub.cons rfl (Sub.cons rfl (Sub.cons rfl (Sub.cons rfl (Sub.cons rfl (Sub.cons rfl (Sub.cons rfl (Sub.cons rfl (Sub.cons rfl (Sub.nil _))))))))))))
end Go.Proofs.YtcehlnpbdffdhaaGreatDoor.SL
