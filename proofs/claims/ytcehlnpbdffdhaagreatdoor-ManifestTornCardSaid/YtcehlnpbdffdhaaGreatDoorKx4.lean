/- Manifests: read of data. -/
import Derived.Test.YtcehlnpbdffdhaaGreatDoorKx3
import Derived.Test.YtcehlnpbdffdhaaGreatDoorKw4
namespace Go.Proofs.YtcehlnpbdffdhaaGreatDoor.SL
open Go.RowKit Go.Proofs.YtcehlnpbdffdhaaGreatDoor
open Go.Proofs.YtcehlnpbdffdhaaGreatDoorW.PrintLast (rtab opsOf)
set_option linter.unusedVariables false
set_option linter.unusedSimpArgs false

theorem nx_len (s : List UInt8) : (nx s).length ≤ s.length := by unfold nx; rw [List.length_drop]; omega
theorem boolAnd (b : Bool) (p : Prop) [Decidable p] (h : b = true → p) (h2 : p) : b = (b && decide p) := by simp [h2]
theorem pnum_spec {B w : World} {L : List HP} (g k : Nat) (s : List UInt8) (ok : Bool) (hs : s.length ≤ 140737488355328) (hS : St B (cel g [str s] 9 :: cel k [Value.bool ok] 4 :: L) w) : Does Tryz.prog 83 [Value.pointer (some ⟨g, 0, none⟩), Value.pointer (some ⟨k, 0, none⟩)] w (fun v w1 => v = .int .i64 (i64w (getNum s).1) ∧ St B (cel g [str (nx s)] 9 :: cel k [Value.bool (ok && decide (okN s))] 4 :: L) w1) := by
 refine enter (n := 26) Tryz.func83 rfl rfl [Value.pointer (some ⟨g, 0, none⟩), Value.pointer (some ⟨k, 0, none⟩)] rfl ?_
 refine WP.seq ?_
 refine WP.region rfl ?_
 refine WO.val (run_assign rfl) rfl rfl rfl ?_
 refine WO.nil ?_
 refine NX.go ?_
 refine WP.seq ?_
 refine WP.region rfl ?_
 refine WO.val (run_load Ty.ag9 rfl ((hS.cel_at 0 rfl 0).trans rfl)) rfl rfl rfl ?_
 refine WO.call rfl rfl Ty.hd84 rfl (getNum_spec s hs hS) (fun v2 w1 pv2 => ?_)
 obtain ⟨rfl, hS1⟩ := pv2
 clear hS
 refine WO.val (run_move rfl) rfl rfl rfl ?_
 refine WO.val (run_extract rfl rfl) rfl rfl rfl ?_
 refine WO.val (run_extract rfl rfl) rfl rfl rfl ?_
 refine WO.val (run_extract rfl rfl) rfl rfl rfl ?_
 refine WO.val (run_assign rfl) rfl rfl rfl ?_
 refine WO.val (run_assign rfl) rfl rfl rfl ?_
 refine WO.val (run_assign rfl) rfl rfl rfl ?_
 refine WO.nil ?_
 refine NX.go ?_
 refine WP.seq ?_
 refine WP.meet (α := Unit) (fun x => match x with | _ => [(0, Value.pointer (some ⟨g, 0, none⟩)), (1, Value.pointer (some ⟨k, 0, none⟩)), (3, Value.int .u64 ((getNum s).1 : Int)), (4, Value.int .i64 ((getNum s).2.1 : Int)), (5, Value.int .i64 ((getNum s).2.2))]) (fun x w => match x with | _ => St B (cel g [str s] 9 :: cel k [Value.bool (ok && decide (okN s))] 4 :: L) w) ?_ (fun K3 => ?_)
 ·
  rintro _ w4 hS4
  clear hS1
  refine NX.go ?_
  refine WP.seq ?_
  have hle := getNum_le s
  refine WP.region rfl ?_
  refine WO.val (run_load Ty.ag9 rfl ((hS4.cel_at 0 rfl 0).trans rfl)) rfl rfl rfl ?_
  refine WO.val (run_move rfl) rfl rfl rfl ?_
  refine WO.val (run_sliceS (i := (getNum s).2.1) (j := s.length) Tryz.underlying9 rfl ⟨_, rfl⟩ rfl (by omega) (Nat.le_refl _) (by rw [List.take_length])) rfl rfl rfl ?_
  refine WO.store (l' := [str (s.drop ((getNum s).2.1))]) 0 hS4 rfl Ty.sz9 rfl rfl rfl rfl rfl (Nat.le_of_ble_eq_true rfl) rfl (fun w5 (hS5 : St B (cel g [str (s.drop ((getNum s).2.1))] 9 :: cel k [Value.bool (ok && decide (okN s))] 4 :: L) w5) => ?_)
  clear hS4
  refine WO.nil ?_
  refine NX.go ?_
  refine WP.seq ?_
  refine WP.region rfl ?_
  refine WO.val (run_move rfl) rfl rfl rfl ?_
  refine WO.val (run_convI Tryz.underlying3 (by kernel_rfl) rfl rfl) rfl rfl rfl ?_
  refine WO.val (run_assign rfl) rfl rfl rfl ?_
  refine WO.nil ?_
  refine NX.go ?_
  refine WP.ret ?_
  refine NX.done (l := [.tmp 2]) rfl rfl ?_
  exact ⟨rfl, hS5⟩
 ·
  refine WP.region rfl ?_
  refine WO.val (run_load Ty.ag4 rfl ((hS1.cel_at 1 rfl 0).trans rfl)) rfl rfl rfl ?_
  refine WO.val (run_move rfl) rfl rfl rfl ?_
  rcases Bool.eq_false_or_eq_true ok with g13 | g13
  ·
   refine WO.on rfl rfl g13 ?_
   refine WO.val (run_move rfl) rfl rfl rfl ?_
   refine WO.on rfl rfl g13 ?_
   refine WO.val (run_eql rfl rfl) rfl rfl rfl ?_
   refine WO.val (run_pickT rfl g13 rfl) rfl rfl rfl ?_
   refine WO.val (run_move rfl) rfl rfl rfl ?_
   by_cases g17 : ((getNum s).2.2) = 0
   ·
    refine WO.on rfl rfl (decide_eq_true g17) ?_
    refine WO.val (run_move rfl) rfl rfl rfl ?_
    refine WO.on rfl rfl (decide_eq_true g17) ?_
    refine WO.val (run_leq rfl rfl) rfl rfl rfl ?_
    refine WO.val (run_pickT rfl (decide_eq_true g17) rfl) rfl rfl rfl ?_
    refine WO.store (l' := [Value.bool (decide (((getNum s).1 : Int) ≤ 99999999))]) 1 hS1 rfl Ty.sz4 rfl rfl rfl rfl rfl (Nat.le_of_ble_eq_true rfl) rfl (fun w6 (hS6 : St B (cel g [str s] 9 :: cel k [Value.bool (decide (((getNum s).1 : Int) ≤ 99999999))] 4 :: L) w6) => ?_)
    clear hS1
    refine WO.nil ?_
    exact K3 () _ _ (by have e : decide (((getNum s).1 : Int) ≤ 99999999) = (ok && decide (okN s)) := (by rw [g13, Bool.true_and]; exact decide_eq_decide.2 ⟨fun h => ⟨g17, by omega⟩, fun h => by have := h.2; omega⟩); rw [e] at hS6; exact hS6) (Sub.cons rfl (Sub.cons rfl (Sub.cons rfl (Sub.cons rfl (Sub.cons rfl (Sub.nil _))))))
   ·
    refine WO.off rfl rfl (decide_eq_false g17) rfl ?_
    refine WO.off rfl rfl (decide_eq_false g17) rfl ?_
    refine WO.val (run_pickF rfl (decide_eq_false g17) rfl) rfl rfl rfl ?_
    refine WO.store (l' := [Value.bool false]) 1 hS1 rfl Ty.sz4 rfl rfl rfl rfl rfl (Nat.le_of_ble_eq_true rfl) rfl (fun w7 (hS7 : St B (cel g [str s] 9 :: cel k [Value.bool false] 4 :: L) w7) => ?_)
    clear hS1
    refine WO.nil ?_
    exact K3 () _ _ (by have e : false = (ok && decide (okN s)) := (by rw [g13]; exact (decide_eq_false (fun h => g17 h.1)).symm); rw [e] at hS7; exact hS7) (Sub.cons rfl (Sub.cons rfl (Sub.cons rfl (Sub.cons rfl (Sub.cons rfl (Sub.nil _))))))
  ·
   refine WO.off rfl rfl g13 rfl ?_
   refine WO.off rfl rfl g13 rfl ?_
   refine WO.val (run_pickF rfl g13 rfl) rfl rfl rfl ?_
   refine WO.val (run_move rfl) rfl rfl rfl ?_
   refine WO.off rfl rfl rfl rfl ?_
   refine WO.off rfl rfl rfl rfl ?_
   refine WO.val (run_pickF rfl rfl rfl) rfl rfl rfl ?_
   refine WO.store (l' := [Value.bool false]) 1 hS1 rfl Ty.sz4 rfl rfl rfl rfl rfl (Nat.le_of_ble_eq_true rfl) rfl (fun w8 (hS8 : St B (cel g [str s] 9 :: cel k [Value.bool false] 4 :: L) w8) => ?_)
   clear hS1
   refine WO.nil ?_
   exact K3 () _ _ (by have e : false = (ok && decide (okN s)) := (by rw [g13]; rfl); rw [e] at hS8; exact hS8) (Sub.cons rfl (Sub.cons rfl (Sub.cons rfl (Sub.cons rfl (Sub.cons rfl (Sub.nil _))))))

theorem parse_no {d : List UInt8} (h : ¬ ok6 d) : parseM d = none := by unfold parseM; rw [if_neg h]
theorem parse_yes {d : List UInt8} (h : ok6 d) {bl : List (List UInt8)} {r : List UInt8} (hb : blkP (getNum (nx (nx (nx (nx (nx d)))))).1 (nx (nx (nx (nx (nx (nx d)))))) [] = some (bl, r)) : parseM d = if r = [] then some (head6 d bl) else none := by
  unfold parseM; rw [if_pos h, hb]
  cases r with
  | nil => rfl
  | cons a r => rfl
theorem parse_none {d : List UInt8} (hb : blkP (getNum (nx (nx (nx (nx (nx d)))))).1 (nx (nx (nx (nx (nx (nx d)))))) [] = none) : parseM d = none := by
  unfold parseM; rw [hb]; split <;> rfl
theorem head6_rng {d : List UInt8} (h : ok6 d) {bl : List (List UInt8)} (hl : bl.length ≤ 17) (ht : ∀ t ∈ bl, t.length ≤ 140737488355328) : RngM (head6 d bl) := by
  obtain ⟨a, b, c, _, e, _⟩ := h
  have a := a.2; have b := b.2; have c := c.2; have e := e.2
  exact ⟨by show _ ≤ ((getNum d).1 : Int) ∧ ((getNum d).1 : Int) ≤ _; omega, by show _ ≤ ((getNum (nx d)).1 : Int) ∧ ((getNum (nx d)).1 : Int) ≤ _; omega, by show _ ≤ ((getNum (nx (nx d))).1 : Int) ∧ ((getNum (nx (nx d))).1 : Int) ≤ _; omega, zag_rng (getNum_lt _), by show _ ≤ ((getNum (nx (nx (nx (nx d))))).1 : Int) ∧ ((getNum (nx (nx (nx (nx d))))).1 : Int) ≤ _; omega, by show bl.length ≤ _; omega, ht⟩
/-- What the walk of 'parse' has in its cells. -/
def cellsP (d : List UInt8) (bl : List (List UInt8)) : Man := ⟨i64w (getNum d).1, i64w (getNum (nx d)).1, i64w (getNum (nx (nx d))).1, zag (getNum (nx (nx (nx d)))).1, i64w (getNum (nx (nx (nx (nx d))))).1, bl⟩
theorem cellsP_ok {d : List UInt8} (h : ok6 d) (bl : List (List UInt8)) : cellsP d bl = head6 d bl := by
  obtain ⟨a, b, c, _, e, _⟩ := h
  unfold cellsP head6
  rw [i64w_small a.2, i64w_small b.2, i64w_small c.2, i64w_small e.2]
theorem getText_got (s : List UInt8) (m : Int) : (getText s m).1.length ≤ s.length := by
  unfold getText
  split
  · simp
  · split
    · simp
    · split
      · simp
      · simp only [List.length_take, List.length_drop]; omega
/-- The flag behind the six numbers. -/
def flag6 (d : List UInt8) : Bool := ((((((true && decide (okN d)) && decide (okN (nx d))) && decide (okN (nx (nx d)))) && decide ((getNum (nx (nx (nx d)))).2.2 = 0)) && decide (okN (nx (nx (nx (nx d)))))) && decide (okN (nx (nx (nx (nx (nx d)))))))
theorem flag6_iff (d : List UInt8) : flag6 d = decide (ok6 d) := by
  unfold flag6 ok6
  by_cases a : okN d <;> by_cases b : okN (nx d) <;> by_cases c : okN (nx (nx d)) <;> by_cases e : (getNum (nx (nx (nx d)))).2.2 = 0 <;> by_cases f : okN (nx (nx (nx (nx d)))) <;> by_cases g : okN (nx (nx (nx (nx (nx d))))) <;> simp [a, b, c, e, f, g]

theorem parse_next {d s2 : List UInt8} {b b2 : Bool} {i : Nat} {acc : List (List UInt8)} (hb : b = true) (h1 : b = true → ok6 d ∧ i ≤ (getNum (nx (nx (nx (nx (nx d)))))).1 ∧ blkP ((getNum (nx (nx (nx (nx (nx d)))))).1 - i) s2 acc = blkP (getNum (nx (nx (nx (nx (nx d)))))).1 (nx (nx (nx (nx (nx (nx d)))))) [] ∧ acc.length ≤ 16) (hi : (i : Int) < i64w (getNum (nx (nx (nx (nx (nx d)))))).1)
    (h2 : b2 = decide ((getText s2 32).2.2 = 0 ∧ acc.length < 16)) (hs : s2.length ≤ 140737488355328) (hat : ∀ t ∈ acc, t.length ≤ 140737488355328) :
    (b2 = true → ok6 d ∧ i + 1 ≤ (getNum (nx (nx (nx (nx (nx d)))))).1 ∧ blkP ((getNum (nx (nx (nx (nx (nx d)))))).1 - (i + 1)) (s2.drop (getText s2 32).2.1) (acc ++ [(getText s2 32).1]) = blkP (getNum (nx (nx (nx (nx (nx d)))))).1 (nx (nx (nx (nx (nx (nx d)))))) [] ∧ (acc ++ [(getText s2 32).1]).length ≤ 16) ∧ (b2 = false → parseM d = none) ∧ (acc ++ [(getText s2 32).1]).length ≤ 17 ∧ (s2.drop (getText s2 32).2.1).length ≤ 140737488355328 ∧ ∀ t ∈ acc ++ [(getText s2 32).1], t.length ≤ 140737488355328 := by
  obtain ⟨k1, k2, k3, k4⟩ := h1 hb
  have hw := i64w_small k1.2.2.2.2.2.2
  rw [hw] at hi
  have hsub : (getNum (nx (nx (nx (nx (nx d)))))).1 - i = ((getNum (nx (nx (nx (nx (nx d)))))).1 - (i + 1)) + 1 := by omega
  rw [hsub, show ∀ n, blkP (n + 1) s2 acc = if (getText s2 32).2.2 = 0 ∧ acc.length < 16 then blkP n (s2.drop (getText s2 32).2.1) (acc ++ [(getText s2 32).1]) else none from fun n => rfl] at k3
  refine ⟨fun h => ?_, fun h => ?_, by rw [List.length_append, List.length_singleton]; omega, by rw [List.length_drop]; omega, all_snoc hat (Nat.le_trans (getText_got s2 32) hs)⟩
  · have hc := of_decide_eq_true (h2.symm.trans h)
    rw [if_pos hc] at k3
    exact ⟨k1, by omega, k3, by rw [List.length_append, List.length_singleton]; omega⟩
  · have hc := of_decide_eq_false (h2.symm.trans h)
    rw [if_neg hc] at k3
    exact parse_none k3.symm
theorem parseM_spec_t6 : rtab .any (opsOf Tryz.f42 6) = (true, [([], []), ([], []), ([], []), ([1, 2], [1, 2]), ([0], []), ([4, 0, 0], [0, 4]), ([3, 5, 0, 1, 2, 3, 4, 5], [3])]) := by kernel_rfl
theorem parseM_spec_t14 : rtab .any (opsOf Tryz.f42 14) = (true, [([], []), ([0], [0]), ([], []), ([2], [2]), ([1, 3], [1, 3]), ([], []), ([], []), ([5, 6], [5, 6]), ([0, 1, 2, 3, 4], []), ([8, 4, 4, 0, 1, 2, 3, 4], [4, 8]), ([7, 9, 0, 1, 2, 3, 4, 5, 6, 7, 8, 9], [7])]) := by kernel_rfl
theorem parseM_spec_t16 : rtab .any (opsOf Tryz.f42 16) = (true, [([], []), ([], []), ([1], [1]), ([2], [2]), ([3, 2], [2, 3]), ([2, 4], [2, 4]), ([0, 2, 0], [0]), ([5, 6, 0, 1, 2, 3, 4, 5, 6], [5])]) := by kernel_rfl
theorem parseM_spec {B w : World} {L : List HP} (d : List UInt8) (hd : d.length ≤ 140737488355328) (hS : St B L w) : Does Tryz.prog 42 [str d] w (fun v w1 => ∃ (m : Man) (a : Option Addr) (cap : Nat) (b : Bool), v = .tuple #[manV m a cap, .bool b] ∧ (b = true → parseM d = some m ∧ RngM m) ∧ (b = false → parseM d = none) ∧ St B (own a m.bl.length cap 9 1 (m.bl.map str) :: L) w1) := by
 refine enter (n := 77) Tryz.func42 rfl rfl [str d] rfl ?_
 refine WP.seq ?_
 refine WP.region rfl ?_
 refine WO.box (l := [str d]) hS rfl rfl rfl (fun g2 w1 lg2 hS1 => ?_)
 clear hS
 refine WO.alloc (l := [Value.int .i64 0, Value.int .i64 0, Value.int .i64 0, Value.int .i64 0, Value.int .i64 0, Value.slice none 0 0]) hS1 Ty.zr30 rfl rfl (fun g4 w3 lg4 hS3 => ?_)
 clear hS1
 refine WO.alloc (l := [Value.bool false]) hS3 Ty.zr4 rfl rfl (fun g6 w5 lg6 hS5 => ?_)
 clear hS3
 refine WO.nil ?_
 refine NX.go ?_
 refine WP.seq ?_
 refine WP.region rfl ?_
 refine WO.val (run_makeFunc rfl rfl) rfl rfl rfl ?_
 refine WO.val (run_assign rfl) rfl rfl rfl ?_
 refine WO.nil ?_
 refine NX.go ?_
 refine WP.seq ?_
 refine WP.region rfl ?_
 refine WO.store (l' := [Value.bool true]) 0 hS5 rfl Ty.sz4 rfl rfl rfl rfl rfl (Nat.le_of_ble_eq_true rfl) rfl (fun w7 (hS7 : St B (cel g6 [Value.bool true] 4 :: cel g4 [Value.int .i64 0, Value.int .i64 0, Value.int .i64 0, Value.int .i64 0, Value.int .i64 0, Value.slice none 0 0] 30 :: cel g2 [str d] 9 :: L) w7) => ?_)
 clear hS5
 refine WO.nil ?_
 refine NX.go ?_
 refine WP.seq ?_
 refine WP.region rfl ?_
 refine WO.val (run_move rfl) rfl rfl rfl ?_
 have hS8 := hS7.permT [2, 0, 0] (L' := cel g2 [str d] 9 :: cel g6 [Value.bool true] 4 :: cel g4 [Value.int .i64 0, Value.int .i64 0, Value.int .i64 0, Value.int .i64 0, Value.int .i64 0, Value.slice none 0 0] 30 :: L) rfl
 clear hS7
 refine WO.callV (us := []) (cs := [Value.pointer (some ⟨g2, 0, none⟩), Value.pointer (some ⟨g6, 0, none⟩)]) rfl rfl Ty.hd83 rfl (pnum_spec g2 g6 d true (by omega) hS8) (fun v10 w9 pv10 => ?_)
 obtain ⟨rfl, hS9⟩ := pv10
 clear hS8
 have hx1 : (nx d).length ≤ 140737488355328 := Nat.le_trans (nx_len _) (by omega)
 refine WO.val (run_move rfl) rfl rfl rfl ?_
 refine WO.callV (us := []) (cs := [Value.pointer (some ⟨g2, 0, none⟩), Value.pointer (some ⟨g6, 0, none⟩)]) rfl rfl Ty.hd83 rfl (pnum_spec g2 g6 (nx d) (true && decide (okN d)) (by omega) hS9) (fun v12 w11 pv12 => ?_)
 obtain ⟨rfl, hS11⟩ := pv12
 clear hS9
 have hx2 : (nx (nx d)).length ≤ 140737488355328 := Nat.le_trans (nx_len _) (by omega)
 refine WO.val (run_move rfl) rfl rfl rfl ?_
 refine WO.callV (us := []) (cs := [Value.pointer (some ⟨g2, 0, none⟩), Value.pointer (some ⟨g6, 0, none⟩)]) rfl rfl Ty.hd83 rfl (pnum_spec g2 g6 (nx (nx d)) ((true && decide (okN d)) && decide (okN (nx d))) (by omega) hS11) (fun v14 w13 pv14 => ?_)
 obtain ⟨rfl, hS13⟩ := pv14
 clear hS11
 have hx3 : (nx (nx (nx d))).length ≤ 140737488355328 := Nat.le_trans (nx_len _) (by omega)
 refine WO.val (run_fieldAddr (q := ⟨g4, 0, none⟩) (show fieldB Tryz.prog 30 0 = some 0 from by kernel_rfl) rfl rfl) rfl rfl rfl ?_
 refine WO.store (l' := [Value.int .i64 (i64w (getNum d).1), Value.int .i64 0, Value.int .i64 0, Value.int .i64 0, Value.int .i64 0, Value.slice none 0 0]) 2 hS13 rfl Ty.sz3 rfl rfl rfl rfl rfl (Nat.le_of_ble_eq_true rfl) rfl (fun w15 (hS15 : St B (cel g2 [str (nx (nx (nx d)))] 9 :: cel g6 [Value.bool (((true && decide (okN d)) && decide (okN (nx d))) && decide (okN (nx (nx d))))] 4 :: cel g4 [Value.int .i64 (i64w (getNum d).1), Value.int .i64 0, Value.int .i64 0, Value.int .i64 0, Value.int .i64 0, Value.slice none 0 0] 30 :: L) w15) => ?_)
 clear hS13
 refine WO.val (run_fieldAddr (q := ⟨g4, 1, none⟩) (show fieldB Tryz.prog 30 1 = some 1 from by kernel_rfl) rfl rfl) rfl rfl rfl ?_
 refine WO.store (l' := [Value.int .i64 (i64w (getNum d).1), Value.int .i64 (i64w (getNum (nx d)).1), Value.int .i64 0, Value.int .i64 0, Value.int .i64 0, Value.slice none 0 0]) 2 hS15 rfl Ty.sz3 rfl rfl rfl rfl rfl (Nat.le_of_ble_eq_true rfl) rfl (fun w16 (hS16 : St B (cel g2 [str (nx (nx (nx d)))] 9 :: cel g6 [Value.bool (((true && decide (okN d)) && decide (okN (nx d))) && decide (okN (nx (nx d))))] 4 :: cel g4 [Value.int .i64 (i64w (getNum d).1), Value.int .i64 (i64w (getNum (nx d)).1), Value.int .i64 0, Value.int .i64 0, Value.int .i64 0, Value.slice none 0 0] 30 :: L) w16) => ?_)
 clear hS15
 refine WO.val (run_fieldAddr (q := ⟨g4, 2, none⟩) (show fieldB Tryz.prog 30 2 = some 2 from by kernel_rfl) rfl rfl) rfl rfl rfl ?_
 refine WO.store (l' := [Value.int .i64 (i64w (getNum d).1), Value.int .i64 (i64w (getNum (nx d)).1), Value.int .i64 (i64w (getNum (nx (nx d))).1), Value.int .i64 0, Value.int .i64 0, Value.slice none 0 0]) 2 hS16 rfl Ty.sz3 rfl rfl rfl rfl rfl (Nat.le_of_ble_eq_true rfl) rfl (fun w17 (hS17 : St B (cel g2 [str (nx (nx (nx d)))] 9 :: cel g6 [Value.bool (((true && decide (okN d)) && decide (okN (nx d))) && decide (okN (nx (nx d))))] 4 :: cel g4 [Value.int .i64 (i64w (getNum d).1), Value.int .i64 (i64w (getNum (nx d)).1), Value.int .i64 (i64w (getNum (nx (nx d))).1), Value.int .i64 0, Value.int .i64 0, Value.slice none 0 0] 30 :: L) w17) => ?_)
 clear hS16
 refine WO.nil ?_
 refine NX.go ?_
 refine WP.seq ?_
 refine WP.region rfl ?_
 refine WO.val (run_load Ty.ag9 rfl ((hS17.cel_at 0 rfl 0).trans rfl)) rfl rfl rfl ?_
 refine WO.call rfl rfl Ty.hd85 rfl (getSigned_spec (nx (nx (nx d))) (by omega) hS17) (fun v19 w18 pv19 => ?_)
 obtain ⟨rfl, hS18⟩ := pv19
 clear hS17
 have hx4 : (nx (nx (nx (nx d)))).length ≤ 140737488355328 := Nat.le_trans (nx_len _) (by omega)
 refine WO.val (run_move rfl) rfl rfl rfl ?_
 refine WO.val (run_extract rfl rfl) rfl rfl rfl ?_
 refine WO.val (run_extract rfl rfl) rfl rfl rfl ?_
 refine WO.val (run_extract rfl rfl) rfl rfl rfl ?_
 refine WO.val (run_assign rfl) rfl rfl rfl ?_
 refine WO.val (run_assign rfl) rfl rfl rfl ?_
 refine WO.val (run_assign rfl) rfl rfl rfl ?_
 refine WO.nil ?_
 refine NX.go ?_
 refine WP.seq ?_
 refine WP.meet (α := Unit) (fun x => match x with | _ => [(1, Value.pointer (some ⟨g2, 0, none⟩)), (2, Value.pointer (some ⟨g4, 0, none⟩)), (3, Value.pointer (some ⟨g6, 0, none⟩)), (4, Value.func (.func 83) #[] #[Value.pointer (some ⟨g2, 0, none⟩), Value.pointer (some ⟨g6, 0, none⟩)]), (5, Value.int .i64 (zag (getNum (nx (nx (nx d)))).1)), (6, Value.int .i64 ((getNum (nx (nx (nx d)))).2.1 : Int))]) (fun x w => match x with | _ => St B (cel g2 [str (nx (nx (nx d)))] 9 :: cel g6 [Value.bool ((((true && decide (okN d)) && decide (okN (nx d))) && decide (okN (nx (nx d)))) && decide ((getNum (nx (nx (nx d)))).2.2 = 0))] 4 :: cel g4 [Value.int .i64 (i64w (getNum d).1), Value.int .i64 (i64w (getNum (nx d)).1), Value.int .i64 (i64w (getNum (nx (nx d))).1), Value.int .i64 0, Value.int .i64 0, Value.slice none 0 0] 30 :: L) w) ?_ (fun K20 => ?_)
 ·
  rintro _ w21 hS21
  clear hS18
  refine NX.go ?_
  refine WP.seq ?_
  have hle3 := getNum_le (nx (nx (nx d)))
  refine WD.start (fun w => (∀ j, World.cell? w ⟨g2, j, none⟩ = [str (nx (nx (nx d)))][j]?)) [6] #[false, false, false, false, false, false, false] Ty.mo rfl (by kernel_rfl) hS21 (fun _ h => h.cel_at 0 rfl) (fun w22 hS22 s23 => ?_)
  clear hS21
  refine WD.pure (i := 0) parseM_spec_t6 #[true, false, false, false, false, false, false] rfl rfl rfl (by kernel_rfl) (PQ.then PQ.body) rfl (fun w => run_move rfl) ?_
  refine WD.take (i := 1) parseM_spec_t6 #[true, true, false, false, false, false, false] s23 rfl rfl rfl (by kernel_rfl) (PQ.then PQ.body) rfl (fun w hs => run_load Ty.ag9 rfl ((hs 0).trans rfl)) ?_
  refine WD.pure (i := 2) parseM_spec_t6 #[true, true, true, false, false, false, false] rfl rfl rfl (by kernel_rfl) (PQ.then PQ.body) rfl (fun w => run_move rfl) ?_
  refine WD.pure (i := 3) parseM_spec_t6 #[true, true, true, true, false, false, false] rfl rfl rfl (by kernel_rfl) (PQ.then PQ.body) rfl (fun w => run_sliceS (i := (getNum (nx (nx (nx d)))).2.1) (j := (nx (nx (nx d))).length) Tryz.underlying9 rfl ⟨_, rfl⟩ rfl (by omega) (Nat.le_refl _) (by rw [List.take_length])) ?_
  refine WD.pure (i := 4) parseM_spec_t6 #[true, true, true, true, true, false, false] rfl rfl rfl (by kernel_rfl) (PQ.then PQ.body) rfl (fun w => run_fieldAddr (q := ⟨g4, 3, none⟩) (show fieldB Tryz.prog 30 3 = some 3 from by kernel_rfl) rfl rfl) ?_
  refine WD.one (i := 5) parseM_spec_t6 #[true, true, true, true, true, true, false] rfl (by kernel_rfl) ?_
  refine WO.store (l' := [Value.int .i64 (i64w (getNum d).1), Value.int .i64 (i64w (getNum (nx d)).1), Value.int .i64 (i64w (getNum (nx (nx d))).1), Value.int .i64 (zag (getNum (nx (nx (nx d)))).1), Value.int .i64 0, Value.slice none 0 0]) 2 hS22 rfl Ty.sz2 rfl rfl rfl rfl rfl (Nat.le_of_ble_eq_true rfl) rfl (fun w24 (hS24 : St B (cel g2 [str (nx (nx (nx d)))] 9 :: cel g6 [Value.bool ((((true && decide (okN d)) && decide (okN (nx d))) && decide (okN (nx (nx d)))) && decide ((getNum (nx (nx (nx d)))).2.2 = 0))] 4 :: cel g4 [Value.int .i64 (i64w (getNum d).1), Value.int .i64 (i64w (getNum (nx d)).1), Value.int .i64 (i64w (getNum (nx (nx d))).1), Value.int .i64 (zag (getNum (nx (nx (nx d)))).1), Value.int .i64 0, Value.slice none 0 0] 30 :: L) w24) => ?_)
  clear hS22
  refine WO.nil ?_
  have s25 : (∀ j, World.cell? w24 ⟨g2, j, none⟩ = [str (nx (nx (nx d)))][j]?) := hS24.cel_at 0 rfl
  refine NX.held s25 ?_
  refine WD.one (i := 6) parseM_spec_t6 #[true, true, true, true, true, true, true] rfl (by kernel_rfl) ?_
  refine WO.store (l' := [str ((nx (nx (nx d))).drop ((getNum (nx (nx (nx d)))).2.1))]) 0 hS24 rfl Ty.sz9 rfl rfl rfl rfl rfl (Nat.le_of_ble_eq_true rfl) rfl (fun w26 (hS26 : St B (cel g2 [str ((nx (nx (nx d))).drop ((getNum (nx (nx (nx d)))).2.1))] 9 :: cel g6 [Value.bool ((((true && decide (okN d)) && decide (okN (nx d))) && decide (okN (nx (nx d)))) && decide ((getNum (nx (nx (nx d)))).2.2 = 0))] 4 :: cel g4 [Value.int .i64 (i64w (getNum d).1), Value.int .i64 (i64w (getNum (nx d)).1), Value.int .i64 (i64w (getNum (nx (nx d))).1), Value.int .i64 (zag (getNum (nx (nx (nx d)))).1), Value.int .i64 0, Value.slice none 0 0] 30 :: L) w26) => ?_)
  clear hS24
  refine WO.nil ?_
  refine NX.last (by decide) ?_
  refine WD.done parseM_spec_t6 (by kernel_rfl) ?_
  refine NX.go ?_
  refine WP.seq ?_
  refine WP.region rfl ?_
  refine WO.val (run_move rfl) rfl rfl rfl ?_
  refine WO.callV (us := []) (cs := [Value.pointer (some ⟨g2, 0, none⟩), Value.pointer (some ⟨g6, 0, none⟩)]) rfl rfl Ty.hd83 rfl (pnum_spec g2 g6 (nx (nx (nx (nx d)))) ((((true && decide (okN d)) && decide (okN (nx d))) && decide (okN (nx (nx d)))) && decide ((getNum (nx (nx (nx d)))).2.2 = 0)) (by omega) hS26) (fun v28 w27 pv28 => ?_)
  obtain ⟨rfl, hS27⟩ := pv28
  clear hS26
  have hx5 : (nx (nx (nx (nx (nx d))))).length ≤ 140737488355328 := Nat.le_trans (nx_len _) (by omega)
  refine WO.val (run_fieldAddr (q := ⟨g4, 4, none⟩) (show fieldB Tryz.prog 30 4 = some 4 from by kernel_rfl) rfl rfl) rfl rfl rfl ?_
  refine WO.store (l' := [Value.int .i64 (i64w (getNum d).1), Value.int .i64 (i64w (getNum (nx d)).1), Value.int .i64 (i64w (getNum (nx (nx d))).1), Value.int .i64 (zag (getNum (nx (nx (nx d)))).1), Value.int .i64 (i64w (getNum (nx (nx (nx (nx d))))).1), Value.slice none 0 0]) 2 hS27 rfl Ty.sz3 rfl rfl rfl rfl rfl (Nat.le_of_ble_eq_true rfl) rfl (fun w29 (hS29 : St B (cel g2 [str (nx (nx (nx (nx (nx d)))))] 9 :: cel g6 [Value.bool (((((true && decide (okN d)) && decide (okN (nx d))) && decide (okN (nx (nx d)))) && decide ((getNum (nx (nx (nx d)))).2.2 = 0)) && decide (okN (nx (nx (nx (nx d))))))] 4 :: cel g4 [Value.int .i64 (i64w (getNum d).1), Value.int .i64 (i64w (getNum (nx d)).1), Value.int .i64 (i64w (getNum (nx (nx d))).1), Value.int .i64 (zag (getNum (nx (nx (nx d)))).1), Value.int .i64 (i64w (getNum (nx (nx (nx (nx d))))).1), Value.slice none 0 0] 30 :: L) w29) => ?_)
  clear hS27
  refine WO.nil ?_
  refine NX.go ?_
  refine WP.seq ?_
  refine WP.seq ?_
  refine WP.region rfl ?_
  refine WO.val (run_move rfl) rfl rfl rfl ?_
  refine WO.callV (us := []) (cs := [Value.pointer (some ⟨g2, 0, none⟩), Value.pointer (some ⟨g6, 0, none⟩)]) rfl rfl Ty.hd83 rfl (pnum_spec g2 g6 (nx (nx (nx (nx (nx d))))) (((((true && decide (okN d)) && decide (okN (nx d))) && decide (okN (nx (nx d)))) && decide ((getNum (nx (nx (nx d)))).2.2 = 0)) && decide (okN (nx (nx (nx (nx d)))))) (by omega) hS29) (fun v31 w30 pv31 => ?_)
  obtain ⟨rfl, hS30⟩ := pv31
  clear hS29
  have hx6 : (nx (nx (nx (nx (nx (nx d)))))).length ≤ 140737488355328 := Nat.le_trans (nx_len _) (by omega)
  refine WO.val (run_move rfl) rfl rfl rfl ?_
  refine WO.nil ?_
  refine NX.go ?_
  refine WP.block ?_
  have hS32 := hS30.own_nil 9 1
  clear hS30
  refine WP.loop (α := Nat × Bool × List UInt8 × List (List UInt8) × Option Addr × Nat) (fun x => match x with | ⟨i, b, s2, acc, a, cap⟩ => [(1, Value.pointer (some ⟨g2, 0, none⟩)), (2, Value.pointer (some ⟨g4, 0, none⟩)), (3, Value.pointer (some ⟨g6, 0, none⟩)), (4, Value.func (.func 83) #[] #[Value.pointer (some ⟨g2, 0, none⟩), Value.pointer (some ⟨g6, 0, none⟩)]), (41, Value.int .i64 (i64w (getNum (nx (nx (nx (nx (nx d)))))).1)), (42, Value.int .i64 (i : Int))]) (fun x w => match x with | ⟨i, b, s2, acc, a, cap⟩ => ((b = true → ok6 d ∧ i ≤ (getNum (nx (nx (nx (nx (nx d)))))).1 ∧ blkP ((getNum (nx (nx (nx (nx (nx d)))))).1 - i) s2 acc = blkP (getNum (nx (nx (nx (nx (nx d)))))).1 (nx (nx (nx (nx (nx (nx d)))))) [] ∧ acc.length ≤ 16) ∧ (b = false → parseM d = none) ∧ acc.length ≤ 17 ∧ s2.length ≤ 140737488355328 ∧ ∀ t ∈ acc, t.length ≤ 140737488355328) ∧ St B (own a acc.length cap 9 1 (acc.map str) :: cel g2 [str s2] 9 :: cel g6 [Value.bool b] 4 :: cel g4 [Value.int .i64 (i64w (getNum d).1), Value.int .i64 (i64w (getNum (nx d)).1), Value.int .i64 (i64w (getNum (nx (nx d))).1), Value.int .i64 (zag (getNum (nx (nx (nx d)))).1), Value.int .i64 (i64w (getNum (nx (nx (nx (nx d))))).1), Value.slice a acc.length cap] 30 :: L) w) (fun x => match x with | ⟨i, b, s2, acc, a, cap⟩ => (i64w (getNum (nx (nx (nx (nx (nx d)))))).1).toNat - i) (0, ((((((true && decide (okN d)) && decide (okN (nx d))) && decide (okN (nx (nx d)))) && decide ((getNum (nx (nx (nx d)))).2.2 = 0)) && decide (okN (nx (nx (nx (nx d)))))) && decide (okN (nx (nx (nx (nx (nx d))))))), (nx (nx (nx (nx (nx (nx d)))))), [], none, 0) ⟨⟨fun h => ⟨of_decide_eq_true ((flag6_iff d).symm.trans h), Nat.zero_le _, rfl, by decide⟩, fun h => parse_no (of_decide_eq_false ((flag6_iff d).symm.trans h)), by decide, hx6, fun t h => (by cases h)⟩, hS32⟩ (Sub.cons rfl (Sub.cons rfl (Sub.cons rfl (Sub.cons rfl (Sub.cons rfl (Sub.consE rfl (by first | rfl | first | rfl | (congr 1; omega) | (simp; done) | (simp; omega)) (Sub.nil _))))))) ?_
  rintro ⟨i, b, s2, acc, a, cap⟩ w33 ⟨⟨hb1, hb0, ha17, hs2, hat⟩, hS33⟩
  clear hS32
  have hwB := (i64w_rng (getNum (nx (nx (nx (nx (nx d)))))).1).2
  refine WP.seq ?_
  refine WP.region rfl ?_
  refine WO.val (run_lss rfl rfl) rfl rfl rfl ?_
  refine WO.nil ?_
  refine NX.go ?_
  refine WP.seq ?_
  refine WP.condP rfl (fun g43 => ?_) (fun g43 => ?_)
  ·
   refine WP.skip ?_
   refine NX.go ?_
   refine WP.seq ?_
   refine WP.block ?_
   refine WP.seq ?_
   refine WP.seq ?_
   refine WP.region rfl ?_
   refine WO.val (run_load Ty.ag4 rfl ((hS33.cel_at 2 rfl 0).trans rfl)) rfl rfl rfl ?_
   refine WO.val (run_not rfl rfl) rfl rfl rfl ?_
   refine WO.nil ?_
   refine NX.go ?_
   refine WP.condB rfl (fun g45 => ?_) (fun g45 => ?_)
   ·
    refine WP.seq ?_
    refine WP.region rfl ?_
    refine WO.val (run_loadAgg (vs := [Value.int .i64 (i64w (getNum d).1), Value.int .i64 (i64w (getNum (nx d)).1), Value.int .i64 (i64w (getNum (nx (nx d))).1), Value.int .i64 (zag (getNum (nx (nx (nx d)))).1), Value.int .i64 (i64w (getNum (nx (nx (nx (nx d))))).1), Value.slice a acc.length cap]) Ty.ag30 Ty.sz30 rfl rfl (cell_all (hS33.cel_at 3 rfl) 0 rfl)) rfl rfl rfl ?_
    refine WO.store (l' := [Value.int .i64 (i64w (getNum d).1), Value.int .i64 (i64w (getNum (nx d)).1), Value.int .i64 (i64w (getNum (nx (nx d))).1), Value.int .i64 (zag (getNum (nx (nx (nx d)))).1), Value.int .i64 (i64w (getNum (nx (nx (nx (nx d))))).1), Value.slice a acc.length cap]) 3 hS33 rfl Ty.sz30 rfl rfl rfl rfl rfl (Nat.le_of_ble_eq_true rfl) rfl (fun w34 (hS34 : St B (own a acc.length cap 9 1 (acc.map str) :: cel g2 [str s2] 9 :: cel g6 [Value.bool b] 4 :: cel g4 [Value.int .i64 (i64w (getNum d).1), Value.int .i64 (i64w (getNum (nx d)).1), Value.int .i64 (i64w (getNum (nx (nx d))).1), Value.int .i64 (zag (getNum (nx (nx (nx d)))).1), Value.int .i64 (i64w (getNum (nx (nx (nx (nx d))))).1), Value.slice a acc.length cap] 30 :: L) w34) => ?_)
    clear hS33
    refine WO.store (l' := [Value.bool false]) 2 hS34 rfl Ty.sz4 rfl rfl rfl rfl rfl (Nat.le_of_ble_eq_true rfl) rfl (fun w35 (hS35 : St B (own a acc.length cap 9 1 (acc.map str) :: cel g2 [str s2] 9 :: cel g6 [Value.bool false] 4 :: cel g4 [Value.int .i64 (i64w (getNum d).1), Value.int .i64 (i64w (getNum (nx d)).1), Value.int .i64 (i64w (getNum (nx (nx d))).1), Value.int .i64 (zag (getNum (nx (nx (nx d)))).1), Value.int .i64 (i64w (getNum (nx (nx (nx (nx d))))).1), Value.slice a acc.length cap] 30 :: L) w35) => ?_)
    clear hS34
    refine WO.nil ?_
    refine NX.go ?_
    refine WP.ret ?_
    refine NX.thenRet ?_
    refine NX.blkRet ?_
    refine NX.thenRet ?_
    refine NX.thenRet ?_
    refine NX.blkRet ?_
    refine NX.thenRet ?_
    refine NX.doneC (l := [.cell 2 30, .cell 3 4]) rfl (.cons (.cell rfl (loadVar_agg (vs := [Value.int .i64 (i64w (getNum d).1), Value.int .i64 (i64w (getNum (nx d)).1), Value.int .i64 (i64w (getNum (nx (nx d))).1), Value.int .i64 (zag (getNum (nx (nx (nx d)))).1), Value.int .i64 (i64w (getNum (nx (nx (nx (nx d))))).1), Value.slice a acc.length cap]) Ty.ag30 Ty.sz30 rfl (cell_all (hS35.cel_at 3 rfl) 0 rfl))) (.cons (.cell rfl (loadVar_one Ty.ag4 ((hS35.cel_at 2 rfl 0).trans rfl))) .nil)) ?_
    exact ⟨cellsP d acc, a, cap, false, rfl, fun h => (by cases h), fun _ => hb0 (by simpa using g45), (hS35.permT [1, 1, 1, 0] (L' := cel g2 [str s2] 9 :: cel g6 [Value.bool false] 4 :: cel g4 [Value.int .i64 (i64w (getNum d).1), Value.int .i64 (i64w (getNum (nx d)).1), Value.int .i64 (i64w (getNum (nx (nx d))).1), Value.int .i64 (zag (getNum (nx (nx (nx d)))).1), Value.int .i64 (i64w (getNum (nx (nx (nx (nx d))))).1), Value.slice a acc.length cap] 30 :: own a acc.length cap 9 1 (acc.map str) :: L) rfl).drop.drop.drop⟩
   ·
    refine WP.skip ?_
    refine NX.go ?_
    refine WP.seq ?_
    have hle := getText_le s2 32
    refine WP.region rfl ?_
    refine WO.val (run_load Ty.ag9 rfl ((hS33.cel_at 1 rfl 0).trans rfl)) rfl rfl rfl ?_
    refine WO.call rfl rfl Ty.hd82 rfl (getText_spec s2 32 hs2 (by decide) hS33) (fun v37 w36 pv37 => ?_)
    obtain ⟨rfl, hS36⟩ := pv37
    clear hS33
    refine WO.val (run_move rfl) rfl rfl rfl ?_
    refine WO.val (run_extract rfl rfl) rfl rfl rfl ?_
    refine WO.val (run_extract rfl rfl) rfl rfl rfl ?_
    refine WO.val (run_extract rfl rfl) rfl rfl rfl ?_
    refine WO.val (run_assign rfl) rfl rfl rfl ?_
    refine WO.val (run_assign rfl) rfl rfl rfl ?_
    refine WO.val (run_assign rfl) rfl rfl rfl ?_
    refine WO.nil ?_
    refine NX.go ?_
    refine WP.seq ?_
    refine WP.meet (α := Bool) (fun x => match x with | b2 => [(1, Value.pointer (some ⟨g2, 0, none⟩)), (2, Value.pointer (some ⟨g4, 0, none⟩)), (3, Value.pointer (some ⟨g6, 0, none⟩)), (4, Value.func (.func 83) #[] #[Value.pointer (some ⟨g2, 0, none⟩), Value.pointer (some ⟨g6, 0, none⟩)]), (8, str ((getText s2 32).1)), (9, Value.int .i64 ((getText s2 32).2.1 : Int)), (10, Value.int .i64 ((getText s2 32).2.2)), (41, Value.int .i64 (i64w (getNum (nx (nx (nx (nx (nx d)))))).1)), (42, Value.int .i64 (i : Int))]) (fun x w => match x with | b2 => (b2 = decide ((getText s2 32).2.2 = 0 ∧ acc.length < 16)) ∧ St B (cel g6 [Value.bool b2] 4 :: own a acc.length cap 9 1 (acc.map str) :: cel g2 [str s2] 9 :: cel g4 [Value.int .i64 (i64w (getNum d).1), Value.int .i64 (i64w (getNum (nx d)).1), Value.int .i64 (i64w (getNum (nx (nx d))).1), Value.int .i64 (zag (getNum (nx (nx (nx d)))).1), Value.int .i64 (i64w (getNum (nx (nx (nx (nx d))))).1), Value.slice a acc.length cap] 30 :: L) w) ?_ (fun K38 => ?_)
    ·
     rintro b2 w39 ⟨hb2, hS39⟩
     clear hS36
     refine NX.go ?_
     refine WD.start (fun w => (∀ j, World.cell? w ⟨g2, j, none⟩ = [str s2][j]?)) [10] #[false, false, false, false, false, false, false, false, false, false, false] Ty.mo rfl (by kernel_rfl) hS39 (fun _ h => h.cel_at 2 rfl) (fun w40 hS40 s41 => ?_)
     clear hS39
     refine WD.pure (i := 0) parseM_spec_t14 #[true, false, false, false, false, false, false, false, false, false, false] rfl rfl rfl (by kernel_rfl) (PQ.blk (PQ.then (PQ.then (PQ.blk (PQ.then PQ.body))))) rfl (fun w => run_fieldAddr (q := ⟨g4, 5, none⟩) (show fieldB Tryz.prog 30 5 = some 5 from by kernel_rfl) rfl rfl) ?_
     refine WD.pure (i := 2) parseM_spec_t14 #[true, false, true, false, false, false, false, false, false, false, false] rfl rfl rfl (by kernel_rfl) (PQ.blk (PQ.then (PQ.then (PQ.blk (PQ.then PQ.body))))) rfl (fun w => run_move rfl) ?_
     refine WD.take (i := 5) parseM_spec_t14 #[true, false, true, false, false, true, false, false, false, false, false] s41 rfl rfl rfl (by kernel_rfl) (PQ.blk (PQ.then (PQ.then (PQ.blk (PQ.then PQ.body))))) rfl (fun w hs => run_load Ty.ag9 rfl ((hs 0).trans rfl)) ?_
     refine WD.pure (i := 6) parseM_spec_t14 #[true, false, true, false, false, true, true, false, false, false, false] rfl rfl rfl (by kernel_rfl) (PQ.blk (PQ.then (PQ.then (PQ.blk (PQ.then PQ.body))))) rfl (fun w => run_move rfl) ?_
     refine WD.pure (i := 7) parseM_spec_t14 #[true, false, true, false, false, true, true, true, false, false, false] rfl rfl rfl (by kernel_rfl) (PQ.blk (PQ.then (PQ.then (PQ.blk (PQ.then PQ.body))))) rfl (fun w => run_sliceS (i := (getText s2 32).2.1) (j := s2.length) Tryz.underlying9 rfl ⟨_, rfl⟩ rfl (by omega) (Nat.le_refl _) (by rw [List.take_length])) ?_
     refine WD.two (i := 1) (k := 3) parseM_spec_t14 #[true, true, true, false, false, true, true, true, false, false, false] #[true, false, true, true, false, true, true, true, false, false, false] rfl rfl (by kernel_rfl) ?_ ?_
     ·
      refine WO.val (run_load Ty.ag22 rfl ((hS40.cel_at 3 rfl 5).trans rfl)) rfl rfl rfl ?_
      refine WO.nil ?_
      have s42 : (∀ j, World.cell? w40 ⟨g2, j, none⟩ = [str s2][j]?) := hS40.cel_at 2 rfl
      refine NX.held s42 ?_
      refine WD.one (i := 3) parseM_spec_t14 #[true, true, true, true, false, true, true, true, false, false, false] rfl (by kernel_rfl) ?_
      refine WO.buildSlice (l := [str ((getText s2 32).1)]) hS40 Tryz.underlying22 rfl (fun w => by kernel_rfl) rfl (fun g44 w43 lg44 hS43 => ?_)
      clear hS40
      have hS43 := hS43.own_of_cel (m := 1) (k := 1) rfl
      replace hS43 : St B (own (some ⟨g44, 0, none⟩) 1 1 9 1 ([(getText s2 32).1].map str) :: cel g6 [Value.bool b2] 4 :: own a acc.length cap 9 1 (acc.map str) :: cel g2 [str s2] 9 :: cel g4 [Value.int .i64 (i64w (getNum d).1), Value.int .i64 (i64w (getNum (nx d)).1), Value.int .i64 (i64w (getNum (nx (nx d))).1), Value.int .i64 (zag (getNum (nx (nx (nx d)))).1), Value.int .i64 (i64w (getNum (nx (nx (nx (nx d))))).1), Value.slice a acc.length cap] 30 :: L) w43 := hS43
      refine WO.nil ?_
      have s45 : (∀ j, World.cell? w43 ⟨g2, j, none⟩ = [str s2][j]?) := hS43.cel_at 3 rfl
      refine NX.held s45 ?_
      refine WD.one (i := 4) parseM_spec_t14 #[true, true, true, true, true, true, true, true, false, false, false] rfl (by kernel_rfl) ?_
      refine WO.append (news := ([(getText s2 32).1].map str)) 2 rfl Tryz.underlying22 Tryz.underlying22 (fun _ h => by cases h) Ty.sz9 (by decide) Ty.by9 Ty.zr9 rfl rfl rfl rfl hS43 rfl ((hS43.own_rd_i 0 rfl).src) rfl (by omega) (by omega) (fun a47 c48 w46 hS46 => ?_)
      replace hS46 : St B (own (some ⟨g44, 0, none⟩) 1 1 9 1 ([(getText s2 32).1].map str) :: cel g6 [Value.bool b2] 4 :: own a47 ((acc ++ [(getText s2 32).1]).length) c48 9 1 ((acc ++ [(getText s2 32).1]).map str) :: cel g2 [str s2] 9 :: cel g4 [Value.int .i64 (i64w (getNum d).1), Value.int .i64 (i64w (getNum (nx d)).1), Value.int .i64 (i64w (getNum (nx (nx d))).1), Value.int .i64 (zag (getNum (nx (nx (nx d)))).1), Value.int .i64 (i64w (getNum (nx (nx (nx (nx d))))).1), Value.slice a acc.length cap] 30 :: L) w46 := (by rw [List.map_append, List.length_append]; exact hS46)
      refine WO.as (d := 65) (v := Value.slice a47 ((acc ++ [(getText s2 32).1]).length) c48) rfl (by simp) ?_
      clear hS43
      refine WO.nil ?_
      have s49 : (∀ j, World.cell? w46 ⟨g2, j, none⟩ = [str s2][j]?) := hS46.cel_at 3 rfl
      refine NX.held s49 ?_
      refine WD.pure (i := 8) parseM_spec_t14 #[true, true, true, true, true, true, true, true, true, false, false] rfl rfl rfl (by kernel_rfl) (PQ.blk (PQ.then (PQ.then (PQ.blk (PQ.then PQ.body))))) rfl (fun w => run_fieldAddr (q := ⟨g4, 5, none⟩) (show fieldB Tryz.prog 30 5 = some 5 from by kernel_rfl) rfl rfl) ?_
      refine WD.one (i := 9) parseM_spec_t14 #[true, true, true, true, true, true, true, true, true, true, false] rfl (by kernel_rfl) ?_
      refine WO.store (l' := [Value.int .i64 (i64w (getNum d).1), Value.int .i64 (i64w (getNum (nx d)).1), Value.int .i64 (i64w (getNum (nx (nx d))).1), Value.int .i64 (zag (getNum (nx (nx (nx d)))).1), Value.int .i64 (i64w (getNum (nx (nx (nx (nx d))))).1), Value.slice a47 ((acc ++ [(getText s2 32).1]).length) c48]) 4 hS46 rfl Ty.sz22 rfl rfl rfl rfl rfl (Nat.le_of_ble_eq_true rfl) rfl (fun w50 (hS50 : St B (own (some ⟨g44, 0, none⟩) 1 1 9 1 ([(getText s2 32).1].map str) :: cel g6 [Value.bool b2] 4 :: own a47 ((acc ++ [(getText s2 32).1]).length) c48 9 1 ((acc ++ [(getText s2 32).1]).map str) :: cel g2 [str s2] 9 :: cel g4 [Value.int .i64 (i64w (getNum d).1), Value.int .i64 (i64w (getNum (nx d)).1), Value.int .i64 (i64w (getNum (nx (nx d))).1), Value.int .i64 (zag (getNum (nx (nx (nx d)))).1), Value.int .i64 (i64w (getNum (nx (nx (nx (nx d))))).1), Value.slice a47 ((acc ++ [(getText s2 32).1]).length) c48] 30 :: L) w50) => ?_)
      clear hS46
      refine WO.nil ?_
      have s51 : (∀ j, World.cell? w50 ⟨g2, j, none⟩ = [str s2][j]?) := hS50.cel_at 3 rfl
      refine NX.held s51 ?_
      refine WD.one (i := 10) parseM_spec_t14 #[true, true, true, true, true, true, true, true, true, true, true] rfl (by kernel_rfl) ?_
      refine WO.store (l' := [str (s2.drop ((getText s2 32).2.1))]) 3 hS50 rfl Ty.sz9 rfl rfl rfl rfl rfl (Nat.le_of_ble_eq_true rfl) rfl (fun w52 (hS52 : St B (own (some ⟨g44, 0, none⟩) 1 1 9 1 ([(getText s2 32).1].map str) :: cel g6 [Value.bool b2] 4 :: own a47 ((acc ++ [(getText s2 32).1]).length) c48 9 1 ((acc ++ [(getText s2 32).1]).map str) :: cel g2 [str (s2.drop ((getText s2 32).2.1))] 9 :: cel g4 [Value.int .i64 (i64w (getNum d).1), Value.int .i64 (i64w (getNum (nx d)).1), Value.int .i64 (i64w (getNum (nx (nx d))).1), Value.int .i64 (zag (getNum (nx (nx (nx d)))).1), Value.int .i64 (i64w (getNum (nx (nx (nx (nx d))))).1), Value.slice a47 ((acc ++ [(getText s2 32).1]).length) c48] 30 :: L) w52) => ?_)
      clear hS50
      refine WO.nil ?_
      refine NX.last (by decide) ?_
      refine WD.done parseM_spec_t14 (by kernel_rfl) ?_
      refine NX.blk ?_
      refine NX.go ?_
      refine WP.region rfl ?_
      refine WO.val (run_add rfl rfl (IntWalk.i64_in _ (by omega))) rfl rfl rfl ?_
      refine WO.val (run_move rfl) rfl rfl rfl ?_
      refine WO.nil ?_
      exact NX.again (i + 1, b2, s2.drop (getText s2 32).2.1, acc ++ [(getText s2 32).1], a47, c48) ⟨parse_next (by simpa using g45) hb1 (by omega) hb2 hs2 hat, (hS52.permT [0, 1, 1, 0, 0] (L' := own (some ⟨g44, 0, none⟩) 1 1 9 1 ([(getText s2 32).1].map str) :: own a47 ((acc ++ [(getText s2 32).1]).length) c48 9 1 ((acc ++ [(getText s2 32).1]).map str) :: cel g2 [str (s2.drop ((getText s2 32).2.1))] 9 :: cel g6 [Value.bool b2] 4 :: cel g4 [Value.int .i64 (i64w (getNum d).1), Value.int .i64 (i64w (getNum (nx d)).1), Value.int .i64 (i64w (getNum (nx (nx d))).1), Value.int .i64 (zag (getNum (nx (nx (nx d)))).1), Value.int .i64 (i64w (getNum (nx (nx (nx (nx d))))).1), Value.slice a47 ((acc ++ [(getText s2 32).1]).length) c48] 30 :: L) rfl).drop⟩ (by show (i64w (getNum (nx (nx (nx (nx (nx d)))))).1).toNat - (i + 1) < (i64w (getNum (nx (nx (nx (nx (nx d)))))).1).toNat - i; omega) (Sub.cons rfl (Sub.cons rfl (Sub.cons rfl (Sub.cons rfl (Sub.cons rfl (Sub.consE rfl (by congr 1) (Sub.nil _)))))))
     ·
      refine WO.buildSlice (l := [str ((getText s2 32).1)]) hS40 Tryz.underlying22 rfl (fun w => by kernel_rfl) rfl (fun g54 w53 lg54 hS53 => ?_)
      clear hS40
      have hS53 := hS53.own_of_cel (m := 1) (k := 1) rfl
      replace hS53 : St B (own (some ⟨g54, 0, none⟩) 1 1 9 1 ([(getText s2 32).1].map str) :: cel g6 [Value.bool b2] 4 :: own a acc.length cap 9 1 (acc.map str) :: cel g2 [str s2] 9 :: cel g4 [Value.int .i64 (i64w (getNum d).1), Value.int .i64 (i64w (getNum (nx d)).1), Value.int .i64 (i64w (getNum (nx (nx d))).1), Value.int .i64 (zag (getNum (nx (nx (nx d)))).1), Value.int .i64 (i64w (getNum (nx (nx (nx (nx d))))).1), Value.slice a acc.length cap] 30 :: L) w53 := hS53
      refine WO.nil ?_
      have s55 : (∀ j, World.cell? w53 ⟨g2, j, none⟩ = [str s2][j]?) := hS53.cel_at 3 rfl
      refine NX.held s55 ?_
      refine WD.one (i := 1) parseM_spec_t14 #[true, true, true, true, false, true, true, true, false, false, false] rfl (by kernel_rfl) ?_
      refine WO.val (run_load Ty.ag22 rfl ((hS53.cel_at 4 rfl 5).trans rfl)) rfl rfl rfl ?_
      refine WO.nil ?_
      have s56 : (∀ j, World.cell? w53 ⟨g2, j, none⟩ = [str s2][j]?) := hS53.cel_at 3 rfl
      refine NX.held s56 ?_
      refine WD.one (i := 4) parseM_spec_t14 #[true, true, true, true, true, true, true, true, false, false, false] rfl (by kernel_rfl) ?_
      refine WO.append (news := ([(getText s2 32).1].map str)) 2 rfl Tryz.underlying22 Tryz.underlying22 (fun _ h => by cases h) Ty.sz9 (by decide) Ty.by9 Ty.zr9 rfl rfl rfl rfl hS53 rfl ((hS53.own_rd_i 0 rfl).src) rfl (by omega) (by omega) (fun a58 c59 w57 hS57 => ?_)
      replace hS57 : St B (own (some ⟨g54, 0, none⟩) 1 1 9 1 ([(getText s2 32).1].map str) :: cel g6 [Value.bool b2] 4 :: own a58 ((acc ++ [(getText s2 32).1]).length) c59 9 1 ((acc ++ [(getText s2 32).1]).map str) :: cel g2 [str s2] 9 :: cel g4 [Value.int .i64 (i64w (getNum d).1), Value.int .i64 (i64w (getNum (nx d)).1), Value.int .i64 (i64w (getNum (nx (nx d))).1), Value.int .i64 (zag (getNum (nx (nx (nx d)))).1), Value.int .i64 (i64w (getNum (nx (nx (nx (nx d))))).1), Value.slice a acc.length cap] 30 :: L) w57 := (by rw [List.map_append, List.length_append]; exact hS57)
      refine WO.as (d := 65) (v := Value.slice a58 ((acc ++ [(getText s2 32).1]).length) c59) rfl (by simp) ?_
      clear hS53
      refine WO.nil ?_
      have s60 : (∀ j, World.cell? w57 ⟨g2, j, none⟩ = [str s2][j]?) := hS57.cel_at 3 rfl
      refine NX.held s60 ?_
      refine WD.pure (i := 8) parseM_spec_t14 #[true, true, true, true, true, true, true, true, true, false, false] rfl rfl rfl (by kernel_rfl) (PQ.blk (PQ.then (PQ.then (PQ.blk (PQ.then PQ.body))))) rfl (fun w => run_fieldAddr (q := ⟨g4, 5, none⟩) (show fieldB Tryz.prog 30 5 = some 5 from by kernel_rfl) rfl rfl) ?_
      refine WD.one (i := 9) parseM_spec_t14 #[true, true, true, true, true, true, true, true, true, true, false] rfl (by kernel_rfl) ?_
      refine WO.store (l' := [Value.int .i64 (i64w (getNum d).1), Value.int .i64 (i64w (getNum (nx d)).1), Value.int .i64 (i64w (getNum (nx (nx d))).1), Value.int .i64 (zag (getNum (nx (nx (nx d)))).1), Value.int .i64 (i64w (getNum (nx (nx (nx (nx d))))).1), Value.slice a58 ((acc ++ [(getText s2 32).1]).length) c59]) 4 hS57 rfl Ty.sz22 rfl rfl rfl rfl rfl (Nat.le_of_ble_eq_true rfl) rfl (fun w61 (hS61 : St B (own (some ⟨g54, 0, none⟩) 1 1 9 1 ([(getText s2 32).1].map str) :: cel g6 [Value.bool b2] 4 :: own a58 ((acc ++ [(getText s2 32).1]).length) c59 9 1 ((acc ++ [(getText s2 32).1]).map str) :: cel g2 [str s2] 9 :: cel g4 [Value.int .i64 (i64w (getNum d).1), Value.int .i64 (i64w (getNum (nx d)).1), Value.int .i64 (i64w (getNum (nx (nx d))).1), Value.int .i64 (zag (getNum (nx (nx (nx d)))).1), Value.int .i64 (i64w (getNum (nx (nx (nx (nx d))))).1), Value.slice a58 ((acc ++ [(getText s2 32).1]).length) c59] 30 :: L) w61) => ?_)
      clear hS57
      refine WO.nil ?_
      have s62 : (∀ j, World.cell? w61 ⟨g2, j, none⟩ = [str s2][j]?) := hS61.cel_at 3 rfl
      refine NX.held s62 ?_
      refine WD.one (i := 10) parseM_spec_t14 #[true, true, true, true, true, true, true, true, true, true, true] rfl (by kernel_rfl) ?_
      refine WO.store (l' := [str (s2.drop ((getText s2 32).2.1))]) 3 hS61 rfl Ty.sz9 rfl rfl rfl rfl rfl (Nat.le_of_ble_eq_true rfl) rfl (fun w63 (hS63 : St B (own (some ⟨g54, 0, none⟩) 1 1 9 1 ([(getText s2 32).1].map str) :: cel g6 [Value.bool b2] 4 :: own a58 ((acc ++ [(getText s2 32).1]).length) c59 9 1 ((acc ++ [(getText s2 32).1]).map str) :: cel g2 [str (s2.drop ((getText s2 32).2.1))] 9 :: cel g4 [Value.int .i64 (i64w (getNum d).1), Value.int .i64 (i64w (getNum (nx d)).1), Value.int .i64 (i64w (getNum (nx (nx d))).1), Value.int .i64 (zag (getNum (nx (nx (nx d)))).1), Value.int .i64 (i64w (getNum (nx (nx (nx (nx d))))).1), Value.slice a58 ((acc ++ [(getText s2 32).1]).length) c59] 30 :: L) w63) => ?_)
      clear hS61
      refine WO.nil ?_
      refine NX.last (by decide) ?_
      refine WD.done parseM_spec_t14 (by kernel_rfl) ?_
      refine NX.blk ?_
      refine NX.go ?_
      refine WP.region rfl ?_
      refine WO.val (run_add rfl rfl (IntWalk.i64_in _ (by omega))) rfl rfl rfl ?_
      refine WO.val (run_move rfl) rfl rfl rfl ?_
      refine WO.nil ?_
      exact NX.again (i + 1, b2, s2.drop (getText s2 32).2.1, acc ++ [(getText s2 32).1], a58, c59) ⟨parse_next (by simpa using g45) hb1 (by omega) hb2 hs2 hat, (hS63.permT [0, 1, 1, 0, 0] (L' := own (some ⟨g54, 0, none⟩) 1 1 9 1 ([(getText s2 32).1].map str) :: own a58 ((acc ++ [(getText s2 32).1]).length) c59 9 1 ((acc ++ [(getText s2 32).1]).map str) :: cel g2 [str (s2.drop ((getText s2 32).2.1))] 9 :: cel g6 [Value.bool b2] 4 :: cel g4 [Value.int .i64 (i64w (getNum d).1), Value.int .i64 (i64w (getNum (nx d)).1), Value.int .i64 (i64w (getNum (nx (nx d))).1), Value.int .i64 (zag (getNum (nx (nx (nx d)))).1), Value.int .i64 (i64w (getNum (nx (nx (nx (nx d))))).1), Value.slice a58 ((acc ++ [(getText s2 32).1]).length) c59] 30 :: L) rfl).drop⟩ (by show (i64w (getNum (nx (nx (nx (nx (nx d)))))).1).toNat - (i + 1) < (i64w (getNum (nx (nx (nx (nx (nx d)))))).1).toNat - i; omega) (Sub.cons rfl (Sub.cons rfl (Sub.cons rfl (Sub.cons rfl (Sub.cons rfl (Sub.consE rfl (by congr 1) (Sub.nil _)))))))
    ·
     refine WP.region rfl ?_
     refine WO.val (run_move rfl) rfl rfl rfl ?_
     refine WO.val (run_eql rfl rfl) rfl rfl rfl ?_
     refine WO.val (run_move rfl) rfl rfl rfl ?_
     by_cases g55 : ((getText s2 32).2.2) = 0
     ·
      refine WO.on rfl rfl (decide_eq_true g55) ?_
      refine WO.val (run_fieldAddr (q := ⟨g4, 5, none⟩) (show fieldB Tryz.prog 30 5 = some 5 from by kernel_rfl) rfl rfl) rfl rfl rfl ?_
      refine WO.on rfl rfl (decide_eq_true g55) ?_
      refine WO.val (run_load Ty.ag22 rfl ((hS36.cel_at 3 rfl 5).trans rfl)) rfl rfl rfl ?_
      refine WO.on rfl rfl (decide_eq_true g55) ?_
      refine WO.val (run_len rfl Tryz.underlying22 rfl) rfl rfl rfl ?_
      refine WO.on rfl rfl (decide_eq_true g55) ?_
      refine WO.val (run_lss rfl rfl) rfl rfl rfl ?_
      refine WO.val (run_pickT rfl (decide_eq_true g55) rfl) rfl rfl rfl ?_
      refine WO.store (l' := [Value.bool (decide (((acc.length : Nat) : Int) < 16))]) 2 hS36 rfl Ty.sz4 rfl rfl rfl rfl rfl (Nat.le_of_ble_eq_true rfl) rfl (fun w64 (hS64 : St B (own a acc.length cap 9 1 (acc.map str) :: cel g2 [str s2] 9 :: cel g6 [Value.bool (decide (((acc.length : Nat) : Int) < 16))] 4 :: cel g4 [Value.int .i64 (i64w (getNum d).1), Value.int .i64 (i64w (getNum (nx d)).1), Value.int .i64 (i64w (getNum (nx (nx d))).1), Value.int .i64 (zag (getNum (nx (nx (nx d)))).1), Value.int .i64 (i64w (getNum (nx (nx (nx (nx d))))).1), Value.slice a acc.length cap] 30 :: L) w64) => ?_)
      clear hS36
      refine WO.nil ?_
      exact K38 (decide (((acc.length : Nat) : Int) < 16)) _ _ ⟨decide_eq_decide.2 ⟨fun h => ⟨g55, by omega⟩, fun h => by have := h.2; omega⟩, (hS64.permT [2, 0, 0, 0] (L' := cel g6 [Value.bool (decide (((acc.length : Nat) : Int) < 16))] 4 :: own a acc.length cap 9 1 (acc.map str) :: cel g2 [str s2] 9 :: cel g4 [Value.int .i64 (i64w (getNum d).1), Value.int .i64 (i64w (getNum (nx d)).1), Value.int .i64 (i64w (getNum (nx (nx d))).1), Value.int .i64 (zag (getNum (nx (nx (nx d)))).1), Value.int .i64 (i64w (getNum (nx (nx (nx (nx d))))).1), Value.slice a acc.length cap] 30 :: L) rfl)⟩ (Sub.cons rfl (Sub.cons rfl (Sub.cons rfl (Sub.cons rfl (Sub.cons rfl (Sub.cons rfl (Sub.cons rfl (Sub.cons rfl (Sub.cons rfl (Sub.nil _))))))))))
     ·
      refine WO.off rfl rfl (decide_eq_false g55) rfl ?_
      refine WO.off rfl rfl (decide_eq_false g55) rfl ?_
      refine WO.off rfl rfl (decide_eq_false g55) rfl ?_
      refine WO.off rfl rfl (decide_eq_false g55) rfl ?_
      refine WO.val (run_pickF rfl (decide_eq_false g55) rfl) rfl rfl rfl ?_
      refine WO.store (l' := [Value.bool false]) 2 hS36 rfl Ty.sz4 rfl rfl rfl rfl rfl (Nat.le_of_ble_eq_true rfl) rfl (fun w65 (hS65 : St B (own a acc.length cap 9 1 (acc.map str) :: cel g2 [str s2] 9 :: cel g6 [Value.bool false] 4 :: cel g4 [Value.int .i64 (i64w (getNum d).1), Value.int .i64 (i64w (getNum (nx d)).1), Value.int .i64 (i64w (getNum (nx (nx d))).1), Value.int .i64 (zag (getNum (nx (nx (nx d)))).1), Value.int .i64 (i64w (getNum (nx (nx (nx (nx d))))).1), Value.slice a acc.length cap] 30 :: L) w65) => ?_)
      clear hS36
      refine WO.nil ?_
      exact K38 false _ _ ⟨(decide_eq_false (fun h => g55 h.1)).symm, (hS65.permT [2, 0, 0, 0] (L' := cel g6 [Value.bool false] 4 :: own a acc.length cap 9 1 (acc.map str) :: cel g2 [str s2] 9 :: cel g4 [Value.int .i64 (i64w (getNum d).1), Value.int .i64 (i64w (getNum (nx d)).1), Value.int .i64 (i64w (getNum (nx (nx d))).1), Value.int .i64 (zag (getNum (nx (nx (nx d)))).1), Value.int .i64 (i64w (getNum (nx (nx (nx (nx d))))).1), Value.slice a acc.length cap] 30 :: L) rfl)⟩ (Sub.cons rfl (Sub.cons rfl (Sub.cons rfl (Sub.cons rfl (Sub.cons rfl (Sub.cons rfl (Sub.cons rfl (Sub.cons rfl (Sub.cons rfl (Sub.nil _))))))))))
  ·
   refine WP.exit ?_
   refine NX.thenExit ?_
   refine NX.thenExit ?_
   refine NX.blkExit ?_
   refine NX.go ?_
   refine WP.seq ?_
   refine WD.start (fun w => (∀ j, World.cell? w ⟨g2, j, none⟩ = [str s2][j]?) ∧ (∀ j, World.cell? w ⟨g6, j, none⟩ = [Value.bool b][j]?)) [7] #[false, false, false, false, false, false, false, false] Ty.mo rfl (by kernel_rfl) hS33 (fun _ h => ⟨h.cel_at 1 rfl, h.cel_at 2 rfl⟩) (fun w66 hS66 s67 => ?_)
   clear hS33
   refine WD.take (i := 1) parseM_spec_t16 #[false, true, false, false, false, false, false, false] s67 rfl rfl rfl (by kernel_rfl) (PQ.then PQ.body) rfl (fun w hs => run_load Ty.ag4 rfl ((hs.2 0).trans rfl)) ?_
   refine WD.pure (i := 2) parseM_spec_t16 #[false, true, true, false, false, false, false, false] rfl rfl rfl (by kernel_rfl) (PQ.then PQ.body) rfl (fun w => run_move rfl) ?_
   rcases Bool.eq_false_or_eq_true b with g73 | g73
   ·
    refine WD.takeOn (i := 3) parseM_spec_t16 #[false, true, true, true, false, false, false, false] s67 rfl rfl rfl g73 (by kernel_rfl) (PQ.then PQ.body) rfl (fun w hs => run_load Ty.ag9 rfl ((hs.1 0).trans rfl)) ?_
    refine WD.pureOn (i := 4) parseM_spec_t16 #[false, true, true, true, true, false, false, false] rfl rfl rfl g73 (by kernel_rfl) (PQ.then PQ.body) rfl (fun w => run_eqlS rfl rfl) ?_
    refine WD.pure (i := 5) parseM_spec_t16 #[false, true, true, true, true, true, false, false] rfl rfl rfl (by kernel_rfl) (PQ.then PQ.body) rfl (fun w => run_pickT rfl g73 rfl) ?_
    refine WD.one (i := 0) parseM_spec_t16 #[true, true, true, true, true, true, false, false] rfl (by kernel_rfl) ?_
    refine WO.val (run_loadAgg (vs := [Value.int .i64 (i64w (getNum d).1), Value.int .i64 (i64w (getNum (nx d)).1), Value.int .i64 (i64w (getNum (nx (nx d))).1), Value.int .i64 (zag (getNum (nx (nx (nx d)))).1), Value.int .i64 (i64w (getNum (nx (nx (nx (nx d))))).1), Value.slice a acc.length cap]) Ty.ag30 Ty.sz30 rfl rfl (cell_all (hS66.cel_at 3 rfl) 0 rfl)) rfl rfl rfl ?_
    refine WO.nil ?_
    have s68 : (∀ j, World.cell? w66 ⟨g2, j, none⟩ = [str s2][j]?) ∧ (∀ j, World.cell? w66 ⟨g6, j, none⟩ = [Value.bool b][j]?) := ⟨hS66.cel_at 1 rfl, hS66.cel_at 2 rfl⟩
    refine NX.held s68 ?_
    refine WD.one (i := 6) parseM_spec_t16 #[true, true, true, true, true, true, true, false] rfl (by kernel_rfl) ?_
    refine WO.store (l' := [Value.int .i64 (i64w (getNum d).1), Value.int .i64 (i64w (getNum (nx d)).1), Value.int .i64 (i64w (getNum (nx (nx d))).1), Value.int .i64 (zag (getNum (nx (nx (nx d)))).1), Value.int .i64 (i64w (getNum (nx (nx (nx (nx d))))).1), Value.slice a acc.length cap]) 3 hS66 rfl Ty.sz30 rfl rfl rfl rfl rfl (Nat.le_of_ble_eq_true rfl) rfl (fun w69 (hS69 : St B (own a acc.length cap 9 1 (acc.map str) :: cel g2 [str s2] 9 :: cel g6 [Value.bool b] 4 :: cel g4 [Value.int .i64 (i64w (getNum d).1), Value.int .i64 (i64w (getNum (nx d)).1), Value.int .i64 (i64w (getNum (nx (nx d))).1), Value.int .i64 (zag (getNum (nx (nx (nx d)))).1), Value.int .i64 (i64w (getNum (nx (nx (nx (nx d))))).1), Value.slice a acc.length cap] 30 :: L) w69) => ?_)
    clear hS66
    refine WO.nil ?_
    have s70 : (∀ j, World.cell? w69 ⟨g2, j, none⟩ = [str s2][j]?) ∧ (∀ j, World.cell? w69 ⟨g6, j, none⟩ = [Value.bool b][j]?) := ⟨hS69.cel_at 1 rfl, hS69.cel_at 2 rfl⟩
    refine NX.held s70 ?_
    refine WD.one (i := 7) parseM_spec_t16 #[true, true, true, true, true, true, true, true] rfl (by kernel_rfl) ?_
    refine WO.store (l' := [Value.bool (decide (s2 = []))]) 2 hS69 rfl Ty.sz4 rfl rfl rfl rfl rfl (Nat.le_of_ble_eq_true rfl) rfl (fun w71 (hS71 : St B (own a acc.length cap 9 1 (acc.map str) :: cel g2 [str s2] 9 :: cel g6 [Value.bool (decide (s2 = []))] 4 :: cel g4 [Value.int .i64 (i64w (getNum d).1), Value.int .i64 (i64w (getNum (nx d)).1), Value.int .i64 (i64w (getNum (nx (nx d))).1), Value.int .i64 (zag (getNum (nx (nx (nx d)))).1), Value.int .i64 (i64w (getNum (nx (nx (nx (nx d))))).1), Value.slice a acc.length cap] 30 :: L) w71) => ?_)
    clear hS69
    refine WO.nil ?_
    refine NX.last (by decide) ?_
    refine WD.done parseM_spec_t16 (by kernel_rfl) ?_
    refine NX.go ?_
    refine WP.ret ?_
    refine NX.doneC (l := [.cell 2 30, .cell 3 4]) rfl (.cons (.cell rfl (loadVar_agg (vs := [Value.int .i64 (i64w (getNum d).1), Value.int .i64 (i64w (getNum (nx d)).1), Value.int .i64 (i64w (getNum (nx (nx d))).1), Value.int .i64 (zag (getNum (nx (nx (nx d)))).1), Value.int .i64 (i64w (getNum (nx (nx (nx (nx d))))).1), Value.slice a acc.length cap]) Ty.ag30 Ty.sz30 rfl (cell_all (hS71.cel_at 3 rfl) 0 rfl))) (.cons (.cell rfl (loadVar_one Ty.ag4 ((hS71.cel_at 2 rfl 0).trans rfl))) .nil)) ?_
    have hfin : b = true → ok6 d ∧ acc.length ≤ 17 ∧ parseM d = if s2 = [] then some (head6 d acc) else none := fun h => (by obtain ⟨k1, k2, k3, k4⟩ := hb1 h; have hw := i64w_small k1.2.2.2.2.2.2; rw [hw] at g43; have e : (getNum (nx (nx (nx (nx (nx d)))))).1 - i = 0 := (by omega); rw [e] at k3; exact ⟨k1, ha17, parse_yes k1 k3.symm⟩)
    exact ⟨cellsP d acc, a, cap, decide (s2 = []), rfl, fun h => (by obtain ⟨k1, k2, k3⟩ := hfin g73; rw [if_pos (of_decide_eq_true h)] at k3; rw [cellsP_ok k1]; exact ⟨k3, head6_rng k1 k2 hat⟩), fun h => (by obtain ⟨k1, k2, k3⟩ := hfin g73; rw [if_neg (of_decide_eq_false h)] at k3; exact k3), (hS71.permT [1, 1, 1, 0] (L' := cel g2 [str s2] 9 :: cel g6 [Value.bool (decide (s2 = []))] 4 :: cel g4 [Value.int .i64 (i64w (getNum d).1), Value.int .i64 (i64w (getNum (nx d)).1), Value.int .i64 (i64w (getNum (nx (nx d))).1), Value.int .i64 (zag (getNum (nx (nx (nx d)))).1), Value.int .i64 (i64w (getNum (nx (nx (nx (nx d))))).1), Value.slice a acc.length cap] 30 :: own a acc.length cap 9 1 (acc.map str) :: L) rfl).drop.drop.drop⟩
   ·
    refine WD.off (i := 3) parseM_spec_t16 #[false, true, true, true, false, false, false, false] rfl rfl rfl g73 (by kernel_rfl) (PQ.then PQ.body) rfl ?_
    refine WD.off (i := 4) parseM_spec_t16 #[false, true, true, true, true, false, false, false] rfl rfl rfl g73 (by kernel_rfl) (PQ.then PQ.body) rfl ?_
    refine WD.pure (i := 5) parseM_spec_t16 #[false, true, true, true, true, true, false, false] rfl rfl rfl (by kernel_rfl) (PQ.then PQ.body) rfl (fun w => run_pickF rfl g73 rfl) ?_
    refine WD.one (i := 0) parseM_spec_t16 #[true, true, true, true, true, true, false, false] rfl (by kernel_rfl) ?_
    refine WO.val (run_loadAgg (vs := [Value.int .i64 (i64w (getNum d).1), Value.int .i64 (i64w (getNum (nx d)).1), Value.int .i64 (i64w (getNum (nx (nx d))).1), Value.int .i64 (zag (getNum (nx (nx (nx d)))).1), Value.int .i64 (i64w (getNum (nx (nx (nx (nx d))))).1), Value.slice a acc.length cap]) Ty.ag30 Ty.sz30 rfl rfl (cell_all (hS66.cel_at 3 rfl) 0 rfl)) rfl rfl rfl ?_
    refine WO.nil ?_
    have s72 : (∀ j, World.cell? w66 ⟨g2, j, none⟩ = [str s2][j]?) ∧ (∀ j, World.cell? w66 ⟨g6, j, none⟩ = [Value.bool b][j]?) := ⟨hS66.cel_at 1 rfl, hS66.cel_at 2 rfl⟩
    refine NX.held s72 ?_
    refine WD.one (i := 6) parseM_spec_t16 #[true, true, true, true, true, true, true, false] rfl (by kernel_rfl) ?_
    refine WO.store (l' := [Value.int .i64 (i64w (getNum d).1), Value.int .i64 (i64w (getNum (nx d)).1), Value.int .i64 (i64w (getNum (nx (nx d))).1), Value.int .i64 (zag (getNum (nx (nx (nx d)))).1), Value.int .i64 (i64w (getNum (nx (nx (nx (nx d))))).1), Value.slice a acc.length cap]) 3 hS66 rfl Ty.sz30 rfl rfl rfl rfl rfl (Nat.le_of_ble_eq_true rfl) rfl (fun w73 (hS73 : St B (own a acc.length cap 9 1 (acc.map str) :: cel g2 [str s2] 9 :: cel g6 [Value.bool b] 4 :: cel g4 [Value.int .i64 (i64w (getNum d).1), Value.int .i64 (i64w (getNum (nx d)).1), Value.int .i64 (i64w (getNum (nx (nx d))).1), Value.int .i64 (zag (getNum (nx (nx (nx d)))).1), Value.int .i64 (i64w (getNum (nx (nx (nx (nx d))))).1), Value.slice a acc.length cap] 30 :: L) w73) => ?_)
    clear hS66
    refine WO.nil ?_
    have s74 : (∀ j, World.cell? w73 ⟨g2, j, none⟩ = [str s2][j]?) ∧ (∀ j, World.cell? w73 ⟨g6, j, none⟩ = [Value.bool b][j]?) := ⟨hS73.cel_at 1 rfl, hS73.cel_at 2 rfl⟩
    refine NX.held s74 ?_
    refine WD.one (i := 7) parseM_spec_t16 #[true, true, true, true, true, true, true, true] rfl (by kernel_rfl) ?_
    refine WO.store (l' := [Value.bool false]) 2 hS73 rfl Ty.sz4 rfl rfl rfl rfl rfl (Nat.le_of_ble_eq_true rfl) rfl (fun w75 (hS75 : St B (own a acc.length cap 9 1 (acc.map str) :: cel g2 [str s2] 9 :: cel g6 [Value.bool false] 4 :: cel g4 [Value.int .i64 (i64w (getNum d).1), Value.int .i64 (i64w (getNum (nx d)).1), Value.int .i64 (i64w (getNum (nx (nx d))).1), Value.int .i64 (zag (getNum (nx (nx (nx d)))).1), Value.int .i64 (i64w (getNum (nx (nx (nx (nx d))))).1), Value.slice a acc.length cap] 30 :: L) w75) => ?_)
    clear hS73
    refine WO.nil ?_
    refine NX.last (by decide) ?_
    refine WD.done parseM_spec_t16 (by kernel_rfl) ?_
    refine NX.go ?_
    refine WP.ret ?_
    refine NX.doneC (l := [.cell 2 30, .cell 3 4]) rfl (.cons (.cell rfl (loadVar_agg (vs := [Value.int .i64 (i64w (getNum d).1), Value.int .i64 (i64w (getNum (nx d)).1), Value.int .i64 (i64w (getNum (nx (nx d))).1), Value.int .i64 (zag (getNum (nx (nx (nx d)))).1), Value.int .i64 (i64w (getNum (nx (nx (nx (nx d))))).1), Value.slice a acc.length cap]) Ty.ag30 Ty.sz30 rfl (cell_all (hS75.cel_at 3 rfl) 0 rfl))) (.cons (.cell rfl (loadVar_one Ty.ag4 ((hS75.cel_at 2 rfl 0).trans rfl))) .nil)) ?_
    exact ⟨cellsP d acc, a, cap, false, rfl, fun h => (by cases h), fun _ => hb0 g73, (hS75.permT [1, 1, 1, 0] (L' := cel g2 [str s2] 9 :: cel g6 [Value.bool false] 4 :: cel g4 [Value.int .i64 (i64w (getNum d).1), Value.int .i64 (i64w (getNum (nx d)).1), Value.int .i64 (i64w (getNum (nx (nx d))).1), Value.int .i64 (zag (getNum (nx (nx (nx d)))).1), Value.int .i64 (i64w (getNum (nx (nx (nx (nx d))))).1), Value.slice a acc.length cap] 30 :: own a acc.length cap 9 1 (acc.map str) :: L) rfl).drop.drop.drop⟩
 ·
  refine WP.region rfl ?_
  refine WO.val (run_load Ty.ag4 rfl ((hS18.cel_at 1 rfl 0).trans rfl)) rfl rfl rfl ?_
  refine WO.val (run_move rfl) rfl rfl rfl ?_
  rcases Bool.eq_false_or_eq_true (((true && decide (okN d)) && decide (okN (nx d))) && decide (okN (nx (nx d)))) with g28 | g28
  ·
   refine WO.on rfl rfl g28 ?_
   refine WO.val (run_move rfl) rfl rfl rfl ?_
   refine WO.on rfl rfl g28 ?_
   refine WO.val (run_eql rfl rfl) rfl rfl rfl ?_
   refine WO.val (run_pickT rfl g28 rfl) rfl rfl rfl ?_
   refine WO.store (l' := [Value.bool (decide (((getNum (nx (nx (nx d)))).2.2) = 0))]) 1 hS18 rfl Ty.sz4 rfl rfl rfl rfl rfl (Nat.le_of_ble_eq_true rfl) rfl (fun w76 (hS76 : St B (cel g2 [str (nx (nx (nx d)))] 9 :: cel g6 [Value.bool (decide (((getNum (nx (nx (nx d)))).2.2) = 0))] 4 :: cel g4 [Value.int .i64 (i64w (getNum d).1), Value.int .i64 (i64w (getNum (nx d)).1), Value.int .i64 (i64w (getNum (nx (nx d))).1), Value.int .i64 0, Value.int .i64 0, Value.slice none 0 0] 30 :: L) w76) => ?_)
   clear hS18
   refine WO.nil ?_
   exact K20 () _ _ (by have e : decide (((getNum (nx (nx (nx d)))).2.2) = 0) = ((((true && decide (okN d)) && decide (okN (nx d))) && decide (okN (nx (nx d)))) && decide ((getNum (nx (nx (nx d)))).2.2 = 0)) := (by rw [g28]; rfl); rw [e] at hS76; exact hS76) (Sub.cons rfl (Sub.cons rfl (Sub.cons rfl (Sub.cons rfl (Sub.cons rfl (Sub.cons rfl (Sub.nil _)))))))
  ·
   refine WO.off rfl rfl g28 rfl ?_
   refine WO.off rfl rfl g28 rfl ?_
   refine WO.val (run_pickF rfl g28 rfl) rfl rfl rfl ?_
   refine WO.store (l' := [Value.bool false]) 1 hS18 rfl Ty.sz4 rfl rfl rfl rfl rfl (Nat.le_of_ble_eq_true rfl) rfl (fun w77 (hS77 : St B (cel g2 [str (nx (nx (nx d)))] 9 :: cel g6 [Value.bool false] 4 :: cel g4 [Value.int .i64 (i64w (getNum d).1), Value.int .i64 (i64w (getNum (nx d)).1), Value.int .i64 (i64w (getNum (nx (nx d))).1), Value.int .i64 0, Value.int .i64 0, Value.slice none 0 0] 30 :: L) w77) => ?_)
   clear hS18
   refine WO.nil ?_
   exact K20 () _ _ (by have e : false = ((((true && decide (okN d)) && decide (okN (nx d))) && decide (okN (nx (nx d)))) && decide ((getNum (nx (nx (nx d)))).2.2 = 0)) := (by rw [g28]; rfl); rw [e] at hS77; exact hS77) (Sub.cons rfl (Sub.cons rfl (Sub.cons rfl (Sub.cons rfl (Sub.cons rfl (Sub.cons rfl (Sub.nil _)))))))
end Go.Proofs.YtcehlnpbdffdhaaGreatDoor.SL
