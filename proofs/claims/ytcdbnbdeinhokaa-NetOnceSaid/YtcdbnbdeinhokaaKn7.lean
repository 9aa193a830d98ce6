/- The law that each thing comes out once. -/
import Derived.Test.YtcdbnbdeinhokaaKn6
namespace Go.Proofs.Ytcdbnbdeinhokaa.SL
open Go.RowKit Go.Proofs.Ytcdbnbdeinhokaa
open Go.Proofs.YtcdbnbdeinhokaaW.PrintLast (rtab opsOf)
set_option linter.unusedVariables false
set_option linter.unusedSimpArgs false

def pvOf (j : Nat) : PV := ⟨((j % 2 : Nat) : Int), [UInt8.ofNat j], false⟩
def sent (i : Nat) : List PV := (List.range i).map pvOf
theorem sent_step {i : Nat} (h : i < 60) : sendF (sent i) 0 ((i : Int) % 2) [UInt8.ofNat i] = (true, sent (i + 1), 0) := by
  unfold sendF sent
  rw [if_neg (by omega), if_neg (by simp; omega), List.range_succ, List.map_append]
  rfl
theorem takeF_perm {V : List PV} {k : Nat} {p : PV} (h : V[k]? = some p) : (p :: takeF V k).Perm V := by
  obtain ⟨A, C, rfl, rfl⟩ : ∃ A C, V = A ++ p :: C ∧ A.length = k := by
    have hk := (List.getElem?_eq_some_iff.1 h).1
    have hp := (List.getElem?_eq_some_iff.1 h).2
    exact ⟨V.take k, V.drop (k + 1), by rw [← hp, List.getElem_cons_drop, List.take_append_drop], by rw [List.length_take]; omega⟩
  unfold takeF
  rw [if_neg (by omega), Int.toNat_natCast, h]
  rcases List.eq_nil_or_concat C with rfl | ⟨C', q, rfl⟩
  · have : (A ++ [p]).getLast? = some p := by simp
    rw [this]
    simp only []
    rw [List.set_append_right _ _ (Nat.le_refl _), Nat.sub_self]
    simp only [List.set_cons_zero, List.dropLast_concat]
    exact (List.perm_append_singleton p A).symm
  · have : (A ++ p :: C'.concat q).getLast? = some q := by simp [List.concat_eq_append, List.getLast?_append, List.getLast?_cons]
    rw [this]
    simp only []
    rw [List.set_append_right _ _ (Nat.le_refl _), Nat.sub_self, List.set_cons_zero, List.concat_eq_append]
    have e : (A ++ q :: (C' ++ [q])).dropLast = A ++ q :: C' := by
      rw [show A ++ q :: (C' ++ [q]) = (A ++ q :: C') ++ [q] by simp, List.dropLast_concat]
    rw [e]
    refine List.Perm.trans ?_ List.perm_middle.symm
    exact (List.Perm.append_left A (List.perm_append_singleton q C').symm).cons p
theorem getS_put_ne {es : List (List UInt8 × Value)} {k q : List UInt8} {v : Value} (h : ¬ q = k) : getS (putS es k v) q = getS es q := by
  induction es with
  | nil => simp [putS, getS, h]
  | cons e es ih =>
    obtain ⟨x, u⟩ := e
    simp only [putS]
    by_cases hx : k = x
    · subst hx; simp [getS, h]
    · simp only [if_neg hx, getS, ih]
theorem putS_len {es : List (List UInt8 × Value)} {k : List UInt8} {v : Value} (h : getS es k = none) : (putS es k v).length = es.length + 1 := by
  induction es with
  | nil => rfl
  | cons e es ih =>
    obtain ⟨x, u⟩ := e
    simp only [getS] at h
    by_cases hx : k = x
    · simp [hx] at h
    · simp only [if_neg hx] at h
      simp only [putS, if_neg hx, List.length_cons, ih h]
def Onc (c i : Nat) (V : List PV) (es : List (List UInt8 × Value)) : Prop := V.length + i = c ∧ (∀ p ∈ V, ∃ j, j < 60 ∧ p = pvOf j) ∧ (V.map PV.s).Nodup ∧ es.length = i ∧ ∀ p ∈ V, getS es p.s = none
theorem u8_of_nat {j : Nat} (h : j < 60) : (UInt8.ofNat j).toNat = j := by rw [UInt8.toNat_ofNat']; omega
theorem onc_start {c : Nat} (h : c < 60) : Onc c 0 (sent c) [] := by
  refine ⟨by simp [sent], ?_, ?_, rfl, fun _ _ => rfl⟩
  · intro p hp
    obtain ⟨j, hj, rfl⟩ := List.mem_map.1 hp
    exact ⟨j, by have := List.mem_range.1 hj; omega, rfl⟩
  · have e : (sent c).map PV.s = (List.range c).map fun j => [UInt8.ofNat j] := by simp [sent, pvOf]
    rw [e]
    unfold List.Nodup
    rw [List.pairwise_map]
    refine List.Pairwise.imp_of_mem ?_ List.nodup_range
    intro a b ha hb hab he
    have h1 := List.mem_range.1 ha
    have h2 := List.mem_range.1 hb
    simp only [List.cons.injEq, and_true] at he
    apply hab
    rw [← u8_of_nat (show a < 60 by omega), ← u8_of_nat (show b < 60 by omega), he]
theorem onc_step {c i k : Nat} {V : List PV} {es : List (List UInt8 × Value)} {p : PV} {v : Value} (h : Onc c i V es) (hp : V[k]? = some p) : Onc c (i + 1) (takeF V k) (putS es p.s v) := by
  obtain ⟨h1, h2, h3, h4, h5⟩ := h
  have hP := takeF_perm hp
  have hl := hP.length_eq
  have hn : (List.map PV.s (p :: takeF V k)).Nodup := (hP.map PV.s).nodup_iff.2 h3
  rw [List.map_cons, List.nodup_cons] at hn
  refine ⟨by simp at hl; omega, fun q hq => h2 q (hP.mem_iff.1 (List.mem_cons_of_mem _ hq)), hn.2, ?_, ?_⟩
  · rw [putS_len (h5 p (List.mem_of_getElem? hp)), h4]
  · intro q hq
    rw [getS_put_ne]
    · exact h5 q (hP.mem_iff.1 (List.mem_cons_of_mem _ hq))
    · intro e
      exact hn.1 (e ▸ List.mem_map_of_mem hq)
theorem netOnce_core {B w : World} {L : List HP} (count : Int) (xs : List Int) (a : Option Addr) (cap : Nat) (hA : Rd B a xs.length 1 (xs.map (Value.int .i64))) (hS : St B L w) : Does Try.prog 3 [Value.int .i64 count, Value.slice a xs.length cap] w (fun v w1 => v = .bool true ∧ St B L w1) := by
 refine enter (n := 93) Try.func3 rfl rfl [Value.int .i64 count, Value.slice a xs.length cap] rfl ?_
 refine WP.seq ?_
 refine WP.region rfl ?_
 refine WO.val (run_assign rfl) rfl rfl rfl ?_
 refine WO.nil ?_
 refine NX.go ?_
 refine WP.seq ?_
 refine WP.seq ?_
 refine WP.region rfl ?_
 refine WO.call rfl rfl Ty.hd7 rfl (works_spec hS) (fun v2 w1 pv2 => ?_)
 obtain ⟨rfl, hS1⟩ := pv2
 clear hS
 refine WO.val (run_not rfl rfl) rfl rfl rfl ?_
 refine WO.nil ?_
 refine NX.go ?_
 refine WP.condF rfl (notB_t rfl) ?_
 refine WP.skip ?_
 refine NX.go ?_
 refine WP.seq ?_
 refine WP.region rfl ?_
 refine WO.val (run_move rfl) rfl rfl rfl ?_
 refine WO.val (run_convI Try.underlying24 (by kernel_rfl) rfl (IntKind.wrap_u64 _)) rfl rfl rfl ?_
 refine WO.val (run_rem rfl rfl (by omega) (IntWalk.rem_in _ _ (by omega))) rfl rfl rfl ?_
 have hm1 := Int.emod_nonneg (count % 18446744073709551616) (show (60 : Int) ≠ 0 by omega)
 have hm2 := Int.emod_lt_of_pos (count % 18446744073709551616) (show (0 : Int) < 60 by omega)
 refine WO.val (run_convI Try.underlying3 (by kernel_rfl) rfl (IntWalk.i64_in _ (by omega))) rfl rfl rfl ?_
 obtain ⟨c, hc⟩ : ∃ c : Nat, count % 18446744073709551616 % 60 = (c : Int) := ⟨(count % 18446744073709551616 % 60).toNat, by omega⟩
 have hc60 : c < 60 := by omega
 refine WO.val (run_assignAs (v := Value.int .i64 (c : Int)) rfl (by rw [hc])) rfl rfl rfl ?_
 refine WO.nil ?_
 refine NX.go ?_
 refine WP.seq ?_
 refine WP.region rfl ?_
 refine WO.call rfl rfl Ty.hd8 rfl (new_spec hS1) (fun v4 w3 pv4 => ?_)
 obtain ⟨gn, rfl, hS3⟩ := pv4
 clear hS1
 refine WO.val (run_assign rfl) rfl rfl rfl ?_
 refine WO.nil ?_
 refine NX.go ?_
 refine WP.seq ?_
 refine WP.seq ?_
 refine WP.region rfl ?_
 refine WO.val (run_assign rfl) rfl rfl rfl ?_
 refine WO.nil ?_
 refine NX.go ?_
 refine WP.block ?_
 refine WP.loop (α := Nat) (fun x => match x with | i => [(0, Value.int .i64 (c : Int)), (1, Value.slice a xs.length cap), (5, Value.pointer (some ⟨gn, 0, none⟩)), (6, Value.int .i64 (i : Int))]) (fun x w => match x with | i => (i ≤ c) ∧ St B ((netP gn (sent i) 0) :: L) w) (fun x => match x with | i => c - i) 0 ⟨by omega, hS3⟩ (Sub.cons rfl (Sub.cons rfl (Sub.cons rfl (Sub.consE rfl (by first | rfl | first | rfl | (congr 1; omega) | (simp; done) | (simp; omega)) (Sub.nil _))))) ?_
 rintro i w5 ⟨hi0, hS5⟩
 clear hS3
 refine WP.seq ?_
 refine WP.seq ?_
 refine WP.region rfl ?_
 refine WO.val (run_move rfl) rfl rfl rfl ?_
 refine WO.val (run_move rfl) rfl rfl rfl ?_
 refine WO.val (run_lss rfl rfl) rfl rfl rfl ?_
 refine WO.nil ?_
 refine NX.go ?_
 refine WP.condP rfl (fun g22 => ?_) (fun g22 => ?_)
 ·
  refine WP.skip ?_
  refine NX.go ?_
  refine WP.seq ?_
  refine WP.block ?_
  refine WP.seq ?_
  refine WP.region rfl ?_
  refine WO.val (run_move rfl) rfl rfl rfl ?_
  refine WO.val (run_move rfl) rfl rfl rfl ?_
  refine WO.val (run_rem rfl rfl (by omega) (IntWalk.rem_in _ _ (by omega))) rfl rfl rfl ?_
  refine WO.val (run_move rfl) rfl rfl rfl ?_
  refine WO.val (run_convI Try.underlying5 (by kernel_rfl) rfl (show IntKind.u8.wrap (i : Int) = ((UInt8.ofNat i).toNat : Int) by rw [IntKind.wrap_u8, u8_of_nat (show i < 60 by omega)]; omega)) rfl rfl rfl ?_
  refine WO.buildSlice (l := [Value.int .u8 ((UInt8.ofNat i).toNat : Int)]) hS5 Try.underlying28 rfl (fun w => by kernel_rfl) rfl (fun g7 w6 lg7 hS6 => ?_)
  clear hS5
  have hS6 := hS6.own_of_cel (m := 1) (k := 1) rfl
  refine WO.val (run_bytesToStr Try.underlying28 Try.underlying5 Try.underlying9 rfl (show Rd w6 (some ⟨g7, 0, none⟩) 1 1 (List.map (fun b : UInt8 => Value.int .u8 (b.toNat : Int)) [UInt8.ofNat i]) from hS6.own_rd_i 0 rfl)) rfl rfl rfl ?_
  have hS8 := hS6.permT [1, 0] (L' := (netP gn (sent i) 0) :: own (some ⟨g7, 0, none⟩) 1 1 5 1 [Value.int .u8 ((UInt8.ofNat i).toNat : Int)] :: L) rfl
  clear hS6
  refine WO.call rfl rfl Ty.hd9 rfl (send_spec hS8 ((i : Int) % 2) [UInt8.ofNat i] (by omega)) (fun v10 w9 pv10 => ?_)
  obtain ⟨hv, hS9⟩ := pv10
  clear hS8
  replace hv : v10 = Value.bool true := by rw [hv, sent_step (show i < 60 by omega)]
  subst hv
  replace hS9 : St B ((netP gn (sent (i + 1)) 0) :: own (some ⟨g7, 0, none⟩) 1 1 5 1 [Value.int .u8 ((UInt8.ofNat i).toNat : Int)] :: L) w9 := by rw [sent_step (show i < 60 by omega)] at hS9; exact hS9
  refine WO.val (run_not rfl rfl) rfl rfl rfl ?_
  refine WO.nil ?_
  refine NX.go ?_
  refine WP.condF rfl (notB_t rfl) ?_
  refine WP.skip ?_
  refine NX.blk ?_
  refine NX.go ?_
  refine WP.region rfl ?_
  refine WO.val (run_move rfl) rfl rfl rfl ?_
  refine WO.val (run_add rfl rfl (IntWalk.i64_in _ (by omega))) rfl rfl rfl ?_
  refine WO.val (run_assign rfl) rfl rfl rfl ?_
  refine WO.nil ?_
  exact NX.again (i + 1) ⟨by omega, (hS9.permT [1, 0] (L' := own (some ⟨g7, 0, none⟩) 1 1 5 1 [Value.int .u8 ((UInt8.ofNat i).toNat : Int)] :: (netP gn (sent (i + 1)) 0) :: L) rfl).drop⟩ (by show c - (i + 1) < c - i; omega) (Sub.cons rfl (Sub.cons rfl (Sub.cons rfl (Sub.consE rfl (by congr 1) (Sub.nil _)))))
 ·
  refine WP.exit ?_
  refine NX.thenExit ?_
  refine NX.thenExit ?_
  refine NX.blkExit ?_
  refine NX.go ?_
  refine WP.seq ?_
  have hic : i = c := by omega
  refine WP.region rfl ?_
  refine WO.makeMap hS5 rfl (fun r12 w11 hS11 => ?_)
  clear hS5
  refine WO.val (run_assign rfl) rfl rfl rfl ?_
  refine WO.nil ?_
  refine NX.go ?_
  refine WP.seq ?_
  refine WP.seq ?_
  refine WP.region rfl ?_
  refine WO.val (run_assign rfl) rfl rfl rfl ?_
  refine WO.nil ?_
  refine NX.go ?_
  refine WP.block ?_
  refine WP.loop (α := Nat × List PV × List (List UInt8 × Value)) (fun x => match x with | ⟨i, V, es⟩ => [(0, Value.int .i64 (c : Int)), (1, Value.slice a xs.length cap), (5, Value.pointer (some ⟨gn, 0, none⟩)), (7, Value.map (some r12)), (8, Value.int .i64 (i : Int))]) (fun x w => match x with | ⟨i, V, es⟩ => (Onc c i V es) ∧ St B ((netP gn V 0) :: mpS r12 es :: L) w) (fun x => match x with | ⟨i, V, es⟩ => c - i) (0, sent c, []) ⟨onc_start hc60, (by have := hS11; rw [hic] at this; exact this.permT [1, 0] rfl)⟩ (Sub.cons rfl (Sub.cons rfl (Sub.cons rfl (Sub.cons rfl (Sub.consE rfl (by first | rfl | first | rfl | (congr 1; omega) | (simp; done) | (simp; omega)) (Sub.nil _)))))) ?_
  rintro ⟨i, V, es⟩ w13 ⟨ho, hS13⟩
  clear hS11
  have hoL := ho.1
  have hoE := ho.2.2.2.1
  refine WP.seq ?_
  refine WP.seq ?_
  refine WP.region rfl ?_
  refine WO.val (run_move rfl) rfl rfl rfl ?_
  refine WO.val (run_move rfl) rfl rfl rfl ?_
  refine WO.val (run_lss rfl rfl) rfl rfl rfl ?_
  refine WO.nil ?_
  refine NX.go ?_
  refine WP.condP rfl (fun g37 => ?_) (fun g37 => ?_)
  ·
   refine WP.skip ?_
   refine NX.go ?_
   refine WP.seq ?_
   refine WP.block ?_
   refine WP.seq ?_
   refine WP.region rfl ?_
   refine WO.val (run_assign rfl) rfl rfl rfl ?_
   refine WO.nil ?_
   refine NX.go ?_
   refine WP.seq ?_
   refine WP.seq ?_
   refine WP.region rfl ?_
   refine WO.val (run_move rfl) rfl rfl rfl ?_
   refine WO.val (run_move rfl) rfl rfl rfl ?_
   refine WO.val (run_len rfl Try.underlying22 rfl) rfl rfl rfl ?_
   refine WO.val (run_lss rfl rfl) rfl rfl rfl ?_
   refine WO.nil ?_
   refine NX.go ?_
   refine WP.meet (α := Nat) (fun x => match x with | k => [(0, Value.int .i64 (c : Int)), (1, Value.slice a xs.length cap), (5, Value.pointer (some ⟨gn, 0, none⟩)), (7, Value.map (some r12)), (8, Value.int .i64 (i : Int)), (9, Value.int .i64 (k : Int))]) (fun x w => match x with | k => (k < V.length) ∧ St B ((netP gn V 0) :: mpS r12 es :: L) w) ?_ (fun K14 => ?_)
   ·
    rintro k w15 ⟨hkV, hS15⟩
    clear hS13
    refine NX.go ?_
    refine WP.seq ?_
    obtain ⟨p, hp⟩ := get_some hkV
    obtain ⟨j, hj60, hpj⟩ := ho.2.1 p (List.mem_of_getElem? hp)
    have hnew : getS es [UInt8.ofNat j] = none := by have := ho.2.2.2.2 p (List.mem_of_getElem? hp); rw [hpj] at this; exact this
    subst hpj
    have hj8 := u8_of_nat hj60
    refine WP.region rfl ?_
    refine WO.val (run_move rfl) rfl rfl rfl ?_
    refine WO.val (run_move rfl) rfl rfl rfl ?_
    refine WO.call rfl rfl Ty.hd10 rfl (take_spec hS15 (k : Int)) (fun v17 w16 pv17 => ?_)
    obtain ⟨hv, hS16⟩ := pv17
    clear hS15
    replace hv : v17 = Value.tuple #[Value.int .i64 ((j % 2 : Nat) : Int), str [UInt8.ofNat j], Value.int .i64 0] := by rw [hv, atF_some hp]; rfl
    subst hv
    replace hS16 : St B ((netP gn (takeF V k) 0) :: mpS r12 es :: L) w16 := hS16
    refine WO.val (run_move rfl) rfl rfl rfl ?_
    refine WO.val (run_extract rfl rfl) rfl rfl rfl ?_
    refine WO.val (run_extract rfl rfl) rfl rfl rfl ?_
    refine WO.val (run_extract rfl rfl) rfl rfl rfl ?_
    refine WO.val (run_assign rfl) rfl rfl rfl ?_
    refine WO.val (run_assign rfl) rfl rfl rfl ?_
    refine WO.val (run_assign rfl) rfl rfl rfl ?_
    refine WO.nil ?_
    refine NX.go ?_
    refine WP.seq ?_
    refine WP.seq ?_
    refine WP.region rfl ?_
    refine WO.val (run_move rfl) rfl rfl rfl ?_
    refine WO.val (run_neq rfl rfl) rfl rfl rfl ?_
    refine WO.val (run_move rfl) rfl rfl rfl ?_
    refine WO.on rfl rfl (by decide) ?_
    refine WO.val (run_move rfl) rfl rfl rfl ?_
    refine WO.on rfl rfl (by decide) ?_
    refine WO.val (run_lenS rfl Try.underlying9 rfl) rfl rfl rfl ?_
    refine WO.on rfl rfl (by decide) ?_
    refine WO.val (run_neq rfl rfl) rfl rfl rfl ?_
    refine WO.val (run_pickF rfl (by decide) rfl) rfl rfl rfl ?_
    refine WO.val (run_move rfl) rfl rfl rfl ?_
    by_cases g69 : ¬ ([UInt8.ofNat j].length : Int) = 1
    ·
     exact absurd rfl g69
    ·
     refine WO.on rfl rfl (decide_eq_false g69) ?_
     refine WO.val (run_move rfl) rfl rfl rfl ?_
     refine WO.on rfl rfl (decide_eq_false g69) ?_
     refine WO.val (run_move rfl) rfl rfl rfl ?_
     refine WO.on rfl rfl (decide_eq_false g69) ?_
     refine WO.val (run_lookupS 1 hS16 rfl Try.underlying29 Try.underlying9 Ty.zr4 rfl rfl (by rw [hnew])) rfl rfl rfl ?_
     refine WO.val (run_pickF rfl (decide_eq_false g69) rfl) rfl rfl rfl ?_
     refine WO.val (run_move rfl) rfl rfl rfl ?_
     refine WO.on rfl rfl rfl ?_
     refine WO.val (run_move rfl) rfl rfl rfl ?_
     refine WO.on rfl rfl rfl ?_
     refine WO.val (run_move rfl) rfl rfl rfl ?_
     refine WO.on rfl rfl rfl ?_
     refine WO.val (run_indexS Try.underlying9 rfl rfl (by omega) rfl) rfl rfl rfl ?_
     refine WO.on rfl rfl rfl ?_
     refine WO.val (run_convI Try.underlying3 (by kernel_rfl) rfl (IntWalk.i64_in _ (by omega))) rfl rfl rfl ?_
     refine WO.on rfl rfl rfl ?_
     refine WO.val (run_rem rfl rfl (by omega) (IntWalk.rem_in _ _ (by omega))) rfl rfl rfl ?_
     refine WO.on rfl rfl rfl ?_
     refine WO.val (run_neq rfl rfl) rfl rfl rfl ?_
     refine WO.val (run_pickF rfl rfl rfl) rfl rfl rfl ?_
     refine WO.nil ?_
     refine NX.go ?_
     refine WP.condP rfl (fun g81 => ?_) (fun g81 => ?_)
     ·
      exact absurd (by rw [hj8]; omega) g81
     ·
      refine WP.skip ?_
      refine NX.go ?_
      refine WP.region rfl ?_
      refine WO.val (run_move rfl) rfl rfl rfl ?_
      refine WO.val (run_move rfl) rfl rfl rfl ?_
      refine WO.mapUpdateS 1 hS16 rfl Try.underlying29 Try.underlying9 rfl rfl rfl (fun w18 hS18 => ?_)
      replace hS18 : St B ((netP gn (takeF V k) 0) :: mpS r12 (putS es [UInt8.ofNat j] (Value.bool true)) :: L) w18 := hS18
      clear hS16
      refine WO.nil ?_
      refine NX.blk ?_
      refine NX.go ?_
      refine WP.region rfl ?_
      refine WO.val (run_move rfl) rfl rfl rfl ?_
      refine WO.val (run_add rfl rfl (IntWalk.i64_in _ (by omega))) rfl rfl rfl ?_
      refine WO.val (run_assign rfl) rfl rfl rfl ?_
      refine WO.nil ?_
      exact NX.again (i + 1, takeF V k, putS es [UInt8.ofNat j] (Value.bool true)) ⟨onc_step ho hp, hS18⟩ (by show c - (i + 1) < c - i; omega) (Sub.cons rfl (Sub.cons rfl (Sub.cons rfl (Sub.cons rfl (Sub.consE rfl (by congr 1) (Sub.nil _))))))
   ·
    refine WP.condP rfl (fun g43 => ?_) (fun g43 => ?_)
    ·
     refine WP.region rfl ?_
     refine WO.val (run_move rfl) rfl rfl rfl ?_
     refine WO.val (run_move rfl) rfl rfl rfl ?_
     obtain ⟨x, hx⟩ : ∃ x, xs[i]? = some x := ⟨_, List.getElem?_eq_getElem (by omega)⟩
     refine WO.val (run_indexAddr (q := adr a i) Try.underlying22 Ty.sz3 rfl rfl (by omega) (by omega) ((hS13.rdB hA).2.1 (by omega)) (by simp)) rfl rfl rfl ?_
     refine WO.val (run_load Ty.ag3 rfl ((hS13.rdB hA).cell (by rw [List.getElem?_map, hx]; rfl))) rfl rfl rfl ?_
     refine WO.val (run_convI Try.underlying24 (by kernel_rfl) rfl (IntKind.wrap_u64 _)) rfl rfl rfl ?_
     refine WO.val (run_move rfl) rfl rfl rfl ?_
     refine WO.val (run_move rfl) rfl rfl rfl ?_
     refine WO.val (run_sub rfl rfl (IntWalk.i64_in _ (by omega))) rfl rfl rfl ?_
     refine WO.val (run_convI Try.underlying24 (by kernel_rfl) rfl (IntWalk.u64_in _ (by omega))) rfl rfl rfl ?_
     have hq1 := Int.emod_nonneg (x % 18446744073709551616) (show ((c : Int) - (i : Int)) ≠ 0 by omega)
     have hq2 := Int.emod_lt_of_pos (x % 18446744073709551616) (show (0 : Int) < (c : Int) - (i : Int) by omega)
     obtain ⟨k, hk⟩ : ∃ k : Nat, x % 18446744073709551616 % ((c : Int) - (i : Int)) = (k : Int) := ⟨(x % 18446744073709551616 % ((c : Int) - (i : Int))).toNat, by omega⟩
     have hkc : k < V.length := by omega
     refine WO.val (run_rem rfl rfl (by omega) ((IntWalk.rem_in _ _ (by omega)).trans hk)) rfl rfl rfl ?_
     refine WO.val (run_convI Try.underlying3 (by kernel_rfl) rfl (IntWalk.i64_in _ (by omega))) rfl rfl rfl ?_
     refine WO.val (run_assign rfl) rfl rfl rfl ?_
     refine WO.nil ?_
     exact K14 k _ _ ⟨by omega, hS13⟩ (Sub.cons rfl (Sub.cons rfl (Sub.cons rfl (Sub.cons rfl (Sub.cons rfl (Sub.cons rfl (Sub.nil _)))))))
    ·
     refine WP.skip ?_
     exact K14 0 _ _ ⟨by omega, hS13⟩ (Sub.cons rfl (Sub.cons rfl (Sub.cons rfl (Sub.cons rfl (Sub.cons rfl (Sub.consE rfl (by first | rfl | first | rfl | (congr 1; omega) | (simp; done) | (simp; omega)) (Sub.nil _)))))))
  ·
   refine WP.exit ?_
   refine NX.thenExit ?_
   refine NX.thenExit ?_
   refine NX.blkExit ?_
   refine NX.go ?_
   refine WP.seq ?_
   refine WP.region rfl ?_
   refine WO.val (run_move rfl) rfl rfl rfl ?_
   refine WO.call rfl rfl Ty.hd11 rfl (len_spec hS13) (fun v20 w19 pv20 => ?_)
   obtain ⟨rfl, hS19⟩ := pv20
   clear hS13
   refine WO.val (run_eql rfl rfl) rfl rfl rfl ?_
   refine WO.val (run_move rfl) rfl rfl rfl ?_
   by_cases g87 : ((V.length : Nat) : Int) = 0
   ·
    refine WO.on rfl rfl (decide_eq_true g87) ?_
    refine WO.val (run_move rfl) rfl rfl rfl ?_
    refine WO.on rfl rfl (decide_eq_true g87) ?_
    refine WO.val (run_lenMapS 1 hS19 rfl rfl Try.underlying29 rfl) rfl rfl rfl ?_
    refine WO.on rfl rfl (decide_eq_true g87) ?_
    refine WO.val (run_move rfl) rfl rfl rfl ?_
    refine WO.on rfl rfl (decide_eq_true g87) ?_
    refine WO.val (run_eql rfl rfl) rfl rfl rfl ?_
    refine WO.val (run_pickT rfl (decide_eq_true g87) rfl) rfl rfl rfl ?_
    refine WO.val (run_assign rfl) rfl rfl rfl ?_
    refine WO.nil ?_
    refine NX.go ?_
    refine WP.ret ?_
    refine NX.done (l := [.tmp 4]) rfl rfl ?_
    exact ⟨congrArg Value.bool (decide_eq_true (show (es.length : Int) = (c : Int) by omega)), hS19.drop.drop⟩
   ·
    exact absurd (by omega) g87
end Go.Proofs.Ytcdbnbdeinhokaa.SL
