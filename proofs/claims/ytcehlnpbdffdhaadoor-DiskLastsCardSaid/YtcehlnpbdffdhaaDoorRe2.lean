/- The document's disk: a change of names. -/
import Derived.Test.YtcehlnpbdffdhaaDoorRe
namespace Go.Proofs.YtcehlnpbdffdhaaDoor.SL
open Go.RowKit Go.Proofs.YtcehlnpbdffdhaaDoor
open Go.Proofs.YtcehlnpbdffdhaaDoorW.PrintLast (rtab opsOf)
set_option linter.unusedVariables false
set_option linter.unusedSimpArgs false

theorem own_eq {B w : World} {L : List HP} {a : Option Addr} {n n' cap t k : Nat} {l l' : List Value} (h : St B (own a n cap t k l :: L) w) (e : n = n') (e2 : l = l') : St B (own a n' cap t k l' :: L) w := by subst e; subst e2; exact h
theorem all_take' {p : Value → Bool} {l : List Value} {n : Nat} (h : l.all p = true) : (l.take n).all p = true := List.all_eq_true.2 fun x hx => List.all_eq_true.1 h x (List.mem_of_mem_take hx)
theorem all_drop' {p : Value → Bool} {l : List Value} {n : Nat} (h : l.all p = true) : (l.drop n).all p = true := List.all_eq_true.2 fun x hx => List.all_eq_true.1 h x (List.mem_of_mem_drop hx)
theorem Rd.dropk {w : World} {a : Option Addr} {n i c k : Nat} {l : List Value} (hk : 0 < k) (h : Rd w a n k l) (hi : i ≤ n) (hc : n ≤ c) : Rd w (if c = i then a else a.map (·.add (i * k))) (n - i) k (l.drop (i * k)) := by
  have e : (n - i) * k = n * k - i * k := Nat.sub_mul ..
  have hle : i * k ≤ n * k := Nat.mul_le_mul_right _ hi
  refine ⟨by rw [List.length_drop, h.1, e], fun hp => ?_, fun j hj => ?_⟩
  · obtain ⟨⟨b, o, sp⟩, rfl, hs⟩ := h.2.1 (by omega)
    simp only at hs; subst hs
    rw [if_neg (by omega), Option.map_some, Go.WideShapes.add_plain]
    exact ⟨_, rfl, rfl⟩
  · have hn : 0 < n - i := Nat.pos_of_ne_zero fun h0 => by rw [h0, Nat.zero_mul] at hj; exact absurd hj (Nat.not_lt_zero _)
    obtain ⟨⟨b, o, sp⟩, rfl, hs⟩ := h.2.1 (by omega)
    simp only at hs; subst hs
    rw [if_neg (by omega), List.getElem?_drop, ← h.2.2 (i * k + j) (by omega), Option.map_some, Go.WideShapes.add_plain]
    show w.cell? ⟨b, o + i * k + j, none⟩ = w.cell? ⟨b, o + (i * k + j), none⟩
    rw [Nat.add_assoc]
theorem keepN_take {c : Chg} {l : Nm} {i : Nat} {e : List UInt8 × Nat} (h : l[i]? = some e) : keepN c (l.take (i + 1)) = if ¬ e.1 = c.fr ∧ ¬ e.1 = c.tn then keepN c (l.take i) ++ [e] else keepN c (l.take i) := by
  unfold keepN
  rw [List.take_add_one, h, Option.toList_some, List.filter_append, List.filter_cons, List.filter_nil]
  by_cases hc : ¬ e.1 = c.fr ∧ ¬ e.1 = c.tn
  · rw [if_pos hc, if_pos (decide_eq_true hc)]
  · rw [if_neg hc, if_neg (by rw [decide_eq_false hc]; exact Bool.noConfusion), List.append_nil]
theorem insN_step {x e : List UInt8 × Nat} {l : Nm} {i : Nat} (h : l[i]? = some e) (hlt : strLt e.1 x.1 = true) (hr : insN x l = l.take i ++ insN x (l.drop i)) : insN x l = l.take (i + 1) ++ insN x (l.drop (i + 1)) := by
  obtain ⟨hi, he⟩ := List.getElem?_eq_some_iff.1 h
  rw [hr, List.take_add_one, h, Option.toList_some, List.drop_eq_getElem_cons hi, he]
  show _ ++ (if strLt e.1 x.1 = true then e :: insN x (l.drop (i + 1)) else _) = _
  rw [if_pos hlt]; simp
theorem insN_stop {x e : List UInt8 × Nat} {l : Nm} {i : Nat} (h : l[i]? = some e) (hlt : strLt e.1 x.1 = false) (hr : insN x l = l.take i ++ insN x (l.drop i)) : insN x l = l.take i ++ x :: l.drop i := by
  obtain ⟨hi, he⟩ := List.getElem?_eq_some_iff.1 h
  rw [hr, List.drop_eq_getElem_cons hi, he]
  show _ ++ (if strLt e.1 x.1 = true then _ else x :: e :: l.drop (i + 1)) = _
  rw [if_neg (by rw [hlt]; exact Bool.noConfusion)]
theorem insN_end {x : List UInt8 × Nat} {l : Nm} {i : Nat} (h : l.length ≤ i) (hr : insN x l = l.take i ++ insN x (l.drop i)) : insN x l = l.take i ++ x :: l.drop i := by
  rw [hr, List.drop_of_length_le h]; rfl
theorem r4apply_spec_t5 : rtab .any (opsOf Tryd.f103 5) = (true, [([], []), ([], []), ([0, 1], [0, 1]), ([2], [2]), ([3], [3]), ([], []), ([5], [5]), ([4, 6], [4, 6]), ([7], [7]), ([8], [8]), ([8], [8]), ([9, 10, 8], [8, 9, 10]), ([11, 8], [8, 11]), ([12, 8], [8, 12]), ([8], [8]), ([14, 8], [8, 14]), ([13, 15, 8], [8, 13, 15]), ([8, 16], [8, 16])]) := by kernel_rfl
theorem r4apply_spec_t12 : rtab .any (opsOf Tryd.f103 12) = (true, [([], []), ([], []), ([], []), ([1, 2], [1, 2]), ([0, 3], [0, 3]), ([], []), ([5], [5]), ([], []), ([7], [7]), ([6, 8], [6, 8]), ([9], [9]), ([4, 10, 4], [4, 10]), ([], []), ([], []), ([12, 13], [12, 13]), ([11, 14, 11], [11, 14]), ([15, 15, 0, 1, 2, 3, 4, 5, 6, 7, 8, 9, 10, 11, 12, 13, 14, 15], [15])]) := by kernel_rfl
theorem r4apply_spec_t10 : rtab .any (opsOf Tryd.f103 10) = (true, [([], []), ([], []), ([1], [1]), ([0, 2], [0, 2]), ([3], [3]), ([4], [4]), ([4], [4]), ([5, 6, 4], [4, 5, 6]), ([7, 4], [4, 7]), ([8, 4], [4, 8]), ([4], [4]), ([10, 4], [4, 10]), ([9, 11, 4], [4, 9, 11]), ([4, 12], [4, 12])]) := by kernel_rfl
theorem r4apply_spec {B w : World} {L : List HP} {X : HP} {a : Option Addr} {cp : Nat} {l : Nm} (hX : ∀ {L : List HP} {w : World}, St B (X :: L) w → Rd w a l.length 2 (l.flatMap fcl)) (c : Chg) (hl : l.length ≤ 4294967296) (hS : St B (X :: L) w) : Does Tryd.prog 103 [Value.slice a l.length cp, Value.agg #[str c.fr, str c.tn, Value.int .i64 (c.fi : Int)]] w (fun v w1 => ∃ a1 c1, v = .slice a1 (applyN l c).length c1 ∧ St B (own a1 ((applyN l c).length) c1 121 2 ((applyN l c).flatMap fcl) :: X :: L) w1) := by
 refine enter (n := 75) Tryd.func103 rfl rfl [Value.slice a l.length cp, Value.agg #[str c.fr, str c.tn, Value.int .i64 (c.fi : Int)]] rfl ?_
 refine WP.seq ?_
 refine WP.region rfl ?_
 refine WO.box (l := [str c.fr, str c.tn, Value.int .i64 (c.fi : Int)]) hS rfl rfl rfl (fun g2 w1 lg2 hS1 => ?_)
 clear hS
 refine WO.val (run_assign rfl) rfl rfl rfl ?_
 refine WO.nil ?_
 refine NX.go ?_
 refine WP.seq ?_
 refine WP.region rfl ?_
 refine WO.val (run_assign rfl) rfl rfl rfl ?_
 refine WO.nil ?_
 refine NX.go ?_
 refine WP.seq ?_
 refine WP.seq ?_
 refine WP.region rfl ?_
 refine WO.val (run_assign rfl) rfl rfl rfl ?_
 refine WO.nil ?_
 refine NX.go ?_
 refine WP.block ?_
 replace hS1 := hS1.own_nil 121 2
 refine WP.loop (α := Nat × Nm × Option Addr × Nat) (fun x => match x with | ⟨i, o, oa, oc⟩ => [(0, Value.slice a l.length cp), (3, Value.pointer (some ⟨g2, 0, none⟩)), (5, Value.slice oa o.length oc), (6, Value.int .i64 (i : Int))]) (fun x w => match x with | ⟨i, o, oa, oc⟩ => (i ≤ l.length ∧ o = keepN c (l.take i) ∧ o.length ≤ i) ∧ St B (own oa o.length oc 121 2 (o.flatMap fcl) :: cel g2 [str c.fr, str c.tn, Value.int .i64 (c.fi : Int)] 146 :: X :: L) w) (fun x => match x with | ⟨i, o, oa, oc⟩ => l.length - i) (0, [], none, 0) ⟨⟨Nat.zero_le _, rfl, Nat.le_refl _⟩, hS1⟩ (Sub.cons rfl (Sub.cons rfl (Sub.consE rfl (by first | rfl | first | rfl | (congr 1; omega) | (simp; done) | (simp; omega)) (Sub.consE rfl (by first | rfl | first | rfl | (congr 1; omega) | (simp; done) | (simp; omega)) (Sub.nil _))))) ?_
 rintro ⟨i, o, oa, oc⟩ w3 ⟨⟨hi, ho, hol⟩, hS3⟩
 clear hS1
 refine WP.seq ?_
 refine WP.seq ?_
 refine WP.region rfl ?_
 refine WO.val (run_move rfl) rfl rfl rfl ?_
 refine WO.val (run_move rfl) rfl rfl rfl ?_
 refine WO.val (run_len rfl Tryd.underlying68 rfl) rfl rfl rfl ?_
 refine WO.val (run_lss rfl rfl) rfl rfl rfl ?_
 refine WO.nil ?_
 refine NX.go ?_
 refine WP.condP rfl (fun g11 => ?_) (fun g11 => ?_)
 ·
  refine WP.skip ?_
  refine NX.go ?_
  refine WP.seq ?_
  refine WP.block ?_
  refine WP.seq ?_
  obtain ⟨e, he⟩ : ∃ e, l[i]? = some e := ⟨_, List.getElem?_eq_getElem (by omega)⟩
  have hsa : a.isSome = true := by obtain ⟨q, hq, _⟩ := (hX (hS3.focus 2 rfl)).2.1 (by omega); rw [hq]; rfl
  refine WD.start (fun w => Rd w oa o.length 2 (o.flatMap fcl) ∧ (∀ j, World.cell? w ⟨g2, j, none⟩ = [str c.fr, str c.tn, Value.int .i64 (c.fi : Int)][j]?) ∧ Rd w a l.length 2 (l.flatMap fcl)) [] #[false, false, false, false, false, false, false, false, false, false, false, false, false, false, false, false, false, false] Ty.mo rfl (by kernel_rfl) hS3 (fun _ h => ⟨(h.own_rd_i 0 rfl), h.cel_at 1 rfl, (hX (h.focus 2 rfl))⟩) (fun w4 hS4 s5 => ?_)
  clear hS3
  refine WD.pure (i := 0) r4apply_spec_t5 #[true, false, false, false, false, false, false, false, false, false, false, false, false, false, false, false, false, false] rfl rfl rfl (by kernel_rfl) (PQ.then (PQ.blk (PQ.then (PQ.then (PQ.blk (PQ.then PQ.body)))))) rfl (fun w => run_move rfl) ?_
  refine WD.pure (i := 1) r4apply_spec_t5 #[true, true, false, false, false, false, false, false, false, false, false, false, false, false, false, false, false, false] rfl rfl rfl (by kernel_rfl) (PQ.then (PQ.blk (PQ.then (PQ.then (PQ.blk (PQ.then PQ.body)))))) rfl (fun w => run_move rfl) ?_
  refine WD.take (i := 2) r4apply_spec_t5 #[true, true, true, false, false, false, false, false, false, false, false, false, false, false, false, false, false, false] s5 rfl rfl rfl (by kernel_rfl) (PQ.then (PQ.blk (PQ.then (PQ.then (PQ.blk (PQ.then PQ.body)))))) rfl (fun w hs => run_indexAddr (q := adr a (i * 2)) Tryd.underlying68 Ty.sz121 rfl rfl (by omega) (by omega) ((hs.2.2).2.1 (by omega)) rfl) ?_
  refine WD.pure (i := 3) r4apply_spec_t5 #[true, true, true, true, false, false, false, false, false, false, false, false, false, false, false, false, false, false] rfl rfl rfl (by kernel_rfl) (PQ.then (PQ.blk (PQ.then (PQ.then (PQ.blk (PQ.then PQ.body)))))) rfl (fun w => run_fieldAddr (q := (adr a (i * 2 + 0))) (show fieldB Tryd.prog 121 0 = some 0 from by kernel_rfl) rfl (adr_add _ (by assumption) _ _)) ?_
  refine WD.take (i := 4) r4apply_spec_t5 #[true, true, true, true, true, false, false, false, false, false, false, false, false, false, false, false, false, false] s5 rfl rfl rfl (by kernel_rfl) (PQ.then (PQ.blk (PQ.then (PQ.then (PQ.blk (PQ.then PQ.body)))))) rfl (fun w hs => run_load Ty.ag9 rfl ((hs.2.2).cell ((flat_get fcl_len he (j := 0) (by decide)).trans rfl))) ?_
  refine WD.pure (i := 5) r4apply_spec_t5 #[true, true, true, true, true, true, false, false, false, false, false, false, false, false, false, false, false, false] rfl rfl rfl (by kernel_rfl) (PQ.then (PQ.blk (PQ.then (PQ.then (PQ.blk (PQ.then PQ.body)))))) rfl (fun w => run_fieldAddr (q := ⟨g2, 0, none⟩) (show fieldB Tryd.prog 146 0 = some 0 from by kernel_rfl) rfl rfl) ?_
  refine WD.take (i := 6) r4apply_spec_t5 #[true, true, true, true, true, true, true, false, false, false, false, false, false, false, false, false, false, false] s5 rfl rfl rfl (by kernel_rfl) (PQ.then (PQ.blk (PQ.then (PQ.then (PQ.blk (PQ.then PQ.body)))))) rfl (fun w hs => run_load Ty.ag9 rfl ((hs.2.1 0).trans rfl)) ?_
  refine WD.pure (i := 7) r4apply_spec_t5 #[true, true, true, true, true, true, true, true, false, false, false, false, false, false, false, false, false, false] rfl rfl rfl (by kernel_rfl) (PQ.then (PQ.blk (PQ.then (PQ.then (PQ.blk (PQ.then PQ.body)))))) rfl (fun w => run_neqS rfl rfl) ?_
  refine WD.pure (i := 8) r4apply_spec_t5 #[true, true, true, true, true, true, true, true, true, false, false, false, false, false, false, false, false, false] rfl rfl rfl (by kernel_rfl) (PQ.then (PQ.blk (PQ.then (PQ.then (PQ.blk (PQ.then PQ.body)))))) rfl (fun w => run_move rfl) ?_
  by_cases g22 : ¬ e.1 = c.fr
  ·
   refine WD.pureOn (i := 9) r4apply_spec_t5 #[true, true, true, true, true, true, true, true, true, true, false, false, false, false, false, false, false, false] rfl rfl rfl (decide_eq_true g22) (by kernel_rfl) (PQ.then (PQ.blk (PQ.then (PQ.then (PQ.blk (PQ.then PQ.body)))))) rfl (fun w => run_move rfl) ?_
   refine WD.pureOn (i := 10) r4apply_spec_t5 #[true, true, true, true, true, true, true, true, true, true, true, false, false, false, false, false, false, false] rfl rfl rfl (decide_eq_true g22) (by kernel_rfl) (PQ.then (PQ.blk (PQ.then (PQ.then (PQ.blk (PQ.then PQ.body)))))) rfl (fun w => run_move rfl) ?_
   refine WD.takeOn (i := 11) r4apply_spec_t5 #[true, true, true, true, true, true, true, true, true, true, true, true, false, false, false, false, false, false] s5 rfl rfl rfl (decide_eq_true g22) (by kernel_rfl) (PQ.then (PQ.blk (PQ.then (PQ.then (PQ.blk (PQ.then PQ.body)))))) rfl (fun w hs => run_indexAddr (q := adr a (i * 2)) Tryd.underlying68 Ty.sz121 rfl rfl (by omega) (by omega) ((hs.2.2).2.1 (by omega)) rfl) ?_
   refine WD.pureOn (i := 12) r4apply_spec_t5 #[true, true, true, true, true, true, true, true, true, true, true, true, true, false, false, false, false, false] rfl rfl rfl (decide_eq_true g22) (by kernel_rfl) (PQ.then (PQ.blk (PQ.then (PQ.then (PQ.blk (PQ.then PQ.body)))))) rfl (fun w => run_fieldAddr (q := (adr a (i * 2 + 0))) (show fieldB Tryd.prog 121 0 = some 0 from by kernel_rfl) rfl (adr_add _ (by assumption) _ _)) ?_
   refine WD.takeOn (i := 13) r4apply_spec_t5 #[true, true, true, true, true, true, true, true, true, true, true, true, true, true, false, false, false, false] s5 rfl rfl rfl (decide_eq_true g22) (by kernel_rfl) (PQ.then (PQ.blk (PQ.then (PQ.then (PQ.blk (PQ.then PQ.body)))))) rfl (fun w hs => run_load Ty.ag9 rfl ((hs.2.2).cell ((flat_get fcl_len he (j := 0) (by decide)).trans rfl))) ?_
   refine WD.pureOn (i := 14) r4apply_spec_t5 #[true, true, true, true, true, true, true, true, true, true, true, true, true, true, true, false, false, false] rfl rfl rfl (decide_eq_true g22) (by kernel_rfl) (PQ.then (PQ.blk (PQ.then (PQ.then (PQ.blk (PQ.then PQ.body)))))) rfl (fun w => run_fieldAddr (q := ⟨g2, 1, none⟩) (show fieldB Tryd.prog 146 1 = some 1 from by kernel_rfl) rfl rfl) ?_
   refine WD.takeOn (i := 15) r4apply_spec_t5 #[true, true, true, true, true, true, true, true, true, true, true, true, true, true, true, true, false, false] s5 rfl rfl rfl (decide_eq_true g22) (by kernel_rfl) (PQ.then (PQ.blk (PQ.then (PQ.then (PQ.blk (PQ.then PQ.body)))))) rfl (fun w hs => run_load Ty.ag9 rfl ((hs.2.1 1).trans rfl)) ?_
   refine WD.pureOn (i := 16) r4apply_spec_t5 #[true, true, true, true, true, true, true, true, true, true, true, true, true, true, true, true, true, false] rfl rfl rfl (decide_eq_true g22) (by kernel_rfl) (PQ.then (PQ.blk (PQ.then (PQ.then (PQ.blk (PQ.then PQ.body)))))) rfl (fun w => run_neqS rfl rfl) ?_
   refine WD.pure (i := 17) r4apply_spec_t5 #[true, true, true, true, true, true, true, true, true, true, true, true, true, true, true, true, true, true] rfl rfl rfl (by kernel_rfl) (PQ.then (PQ.blk (PQ.then (PQ.then (PQ.blk (PQ.then PQ.body)))))) rfl (fun w => run_pickT rfl (decide_eq_true g22) rfl) ?_
   refine WD.done r4apply_spec_t5 (by kernel_rfl) ?_
   refine NX.go ?_
   refine WP.condP rfl (fun g31 => ?_) (fun g31 => ?_)
   ·
    refine WP.region rfl ?_
    refine WO.val (run_move rfl) rfl rfl rfl ?_
    refine WO.val (run_move rfl) rfl rfl rfl ?_
    refine WO.val (run_move rfl) rfl rfl rfl ?_
    refine WO.val (run_indexAddr (q := adr a (i * 2)) Tryd.underlying68 Ty.sz121 rfl rfl (by omega) (by omega) ((hX (hS4.focus 2 rfl)).2.1 (by omega)) rfl) rfl rfl rfl ?_
    refine WO.val (run_loadAgg (vs := [str e.1, Value.int .i64 (e.2 : Int)]) Ty.ag121 Ty.sz121 rfl ((hX (hS4.focus 2 rfl)).cells (by rw [flat_len fcl_len]; omega) (flat_part fcl_len he)).1 ((hX (hS4.focus 2 rfl)).cells (by rw [flat_len fcl_len]; omega) (flat_part fcl_len he)).2) rfl rfl rfl ?_
    refine WO.buildSlice (l := [str e.1, Value.int .i64 (e.2 : Int)]) hS4 Tryd.underlying68 rfl (fun w => by kernel_rfl) rfl (fun g7 w6 lg7 hS6 => ?_)
    clear hS4
    refine WO.append (news := [str e.1, Value.int .i64 (e.2 : Int)]) 1 rfl Tryd.underlying68 Tryd.underlying68 (fun _ h => by cases h) Ty.sz121 (by decide) Ty.by121 Ty.zr121 rfl rfl rfl rfl hS6 rfl ((hS6.cel_rd 0 rfl (o := 0) (m := 1) (k := 2) rfl (Nat.le_of_ble_eq_true rfl)).src) rfl (by omega) (by omega) (fun a9 c10 w8 hS8 => ?_)
    replace hS8 : St B (cel g7 [str e.1, Value.int .i64 (e.2 : Int)] 121 :: own a9 (o.length + 1) c10 121 2 ((o.flatMap fcl) ++ [str e.1, Value.int .i64 (e.2 : Int)]) :: cel g2 [str c.fr, str c.tn, Value.int .i64 (c.fi : Int)] 146 :: X :: L) w8 := hS8
    clear hS6
    refine WO.val (run_assign rfl) rfl rfl rfl ?_
    refine WO.nil ?_
    refine NX.blk ?_
    refine NX.go ?_
    refine WP.region rfl ?_
    refine WO.val (run_move rfl) rfl rfl rfl ?_
    refine WO.val (run_add rfl rfl (IntWalk.i64_in _ (by omega))) rfl rfl rfl ?_
    refine WO.val (run_assign rfl) rfl rfl rfl ?_
    refine WO.nil ?_
    exact NX.again (i + 1, o ++ [e], a9, c10) ⟨⟨by omega, by rw [keepN_take he, if_pos ⟨g22, g31⟩, ← ho], by rw [List.length_append]; simp; omega⟩, own_eq (hS8.drop) (by rw [List.length_append]; rfl) (by rw [flat_snoc]; rfl)⟩ (by show l.length - (i + 1) < l.length - i; omega) (Sub.cons rfl (Sub.cons rfl (Sub.consE rfl (by rw [List.length_append]; rfl) (Sub.consE rfl (by congr 1) (Sub.nil _)))))
   ·
    refine WP.skip ?_
    refine NX.blk ?_
    refine NX.go ?_
    refine WP.region rfl ?_
    refine WO.val (run_move rfl) rfl rfl rfl ?_
    refine WO.val (run_add rfl rfl (IntWalk.i64_in _ (by omega))) rfl rfl rfl ?_
    refine WO.val (run_assign rfl) rfl rfl rfl ?_
    refine WO.nil ?_
    exact NX.again (i + 1, o, oa, oc) ⟨⟨by omega, by rw [keepN_take he, if_neg (fun h => g31 h.2), ← ho], by omega⟩, hS4⟩ (by show l.length - (i + 1) < l.length - i; omega) (Sub.cons rfl (Sub.cons rfl (Sub.consE rfl (by first | rfl | (congr 1; omega) | (simp; done) | (simp; omega)) (Sub.consE rfl (by congr 1) (Sub.nil _)))))
  ·
   refine WD.off (i := 9) r4apply_spec_t5 #[true, true, true, true, true, true, true, true, true, true, false, false, false, false, false, false, false, false] rfl rfl rfl (decide_eq_false g22) (by kernel_rfl) (PQ.then (PQ.blk (PQ.then (PQ.then (PQ.blk (PQ.then PQ.body)))))) rfl ?_
   refine WD.off (i := 10) r4apply_spec_t5 #[true, true, true, true, true, true, true, true, true, true, true, false, false, false, false, false, false, false] rfl rfl rfl (decide_eq_false g22) (by kernel_rfl) (PQ.then (PQ.blk (PQ.then (PQ.then (PQ.blk (PQ.then PQ.body)))))) rfl ?_
   refine WD.off (i := 11) r4apply_spec_t5 #[true, true, true, true, true, true, true, true, true, true, true, true, false, false, false, false, false, false] rfl rfl rfl (decide_eq_false g22) (by kernel_rfl) (PQ.then (PQ.blk (PQ.then (PQ.then (PQ.blk (PQ.then PQ.body)))))) rfl ?_
   refine WD.off (i := 12) r4apply_spec_t5 #[true, true, true, true, true, true, true, true, true, true, true, true, true, false, false, false, false, false] rfl rfl rfl (decide_eq_false g22) (by kernel_rfl) (PQ.then (PQ.blk (PQ.then (PQ.then (PQ.blk (PQ.then PQ.body)))))) rfl ?_
   refine WD.off (i := 13) r4apply_spec_t5 #[true, true, true, true, true, true, true, true, true, true, true, true, true, true, false, false, false, false] rfl rfl rfl (decide_eq_false g22) (by kernel_rfl) (PQ.then (PQ.blk (PQ.then (PQ.then (PQ.blk (PQ.then PQ.body)))))) rfl ?_
   refine WD.off (i := 14) r4apply_spec_t5 #[true, true, true, true, true, true, true, true, true, true, true, true, true, true, true, false, false, false] rfl rfl rfl (decide_eq_false g22) (by kernel_rfl) (PQ.then (PQ.blk (PQ.then (PQ.then (PQ.blk (PQ.then PQ.body)))))) rfl ?_
   refine WD.off (i := 15) r4apply_spec_t5 #[true, true, true, true, true, true, true, true, true, true, true, true, true, true, true, true, false, false] rfl rfl rfl (decide_eq_false g22) (by kernel_rfl) (PQ.then (PQ.blk (PQ.then (PQ.then (PQ.blk (PQ.then PQ.body)))))) rfl ?_
   refine WD.off (i := 16) r4apply_spec_t5 #[true, true, true, true, true, true, true, true, true, true, true, true, true, true, true, true, true, false] rfl rfl rfl (decide_eq_false g22) (by kernel_rfl) (PQ.then (PQ.blk (PQ.then (PQ.then (PQ.blk (PQ.then PQ.body)))))) rfl ?_
   refine WD.pure (i := 17) r4apply_spec_t5 #[true, true, true, true, true, true, true, true, true, true, true, true, true, true, true, true, true, true] rfl rfl rfl (by kernel_rfl) (PQ.then (PQ.blk (PQ.then (PQ.then (PQ.blk (PQ.then PQ.body)))))) rfl (fun w => run_pickF rfl (decide_eq_false g22) rfl) ?_
   refine WD.done r4apply_spec_t5 (by kernel_rfl) ?_
   refine NX.go ?_
   refine WP.condF rfl rfl ?_
   refine WP.skip ?_
   refine NX.blk ?_
   refine NX.go ?_
   refine WP.region rfl ?_
   refine WO.val (run_move rfl) rfl rfl rfl ?_
   refine WO.val (run_add rfl rfl (IntWalk.i64_in _ (by omega))) rfl rfl rfl ?_
   refine WO.val (run_assign rfl) rfl rfl rfl ?_
   refine WO.nil ?_
   exact NX.again (i + 1, o, oa, oc) ⟨⟨by omega, by rw [keepN_take he, if_neg (fun h => g22 h.1), ← ho], by omega⟩, hS4⟩ (by show l.length - (i + 1) < l.length - i; omega) (Sub.cons rfl (Sub.cons rfl (Sub.consE rfl (by first | rfl | (congr 1; omega) | (simp; done) | (simp; omega)) (Sub.consE rfl (by congr 1) (Sub.nil _)))))
 ·
  refine WP.exit ?_
  refine NX.thenExit ?_
  refine NX.thenExit ?_
  refine NX.blkExit ?_
  refine NX.go ?_
  refine WP.seq ?_
  refine WP.seq ?_
  have hil : i = l.length := by omega
  subst hil
  rw [List.take_length] at ho
  refine WP.region rfl ?_
  refine WO.val (run_fieldAddr (q := ⟨g2, 1, none⟩) (show fieldB Tryd.prog 146 1 = some 1 from by kernel_rfl) rfl rfl) rfl rfl rfl ?_
  refine WO.val (run_load Ty.ag9 rfl ((hS3.cel_at 1 rfl 1).trans rfl)) rfl rfl rfl ?_
  refine WO.val (run_eqlS rfl rfl) rfl rfl rfl ?_
  refine WO.nil ?_
  refine NX.go ?_
  refine WP.condP rfl (fun g41 => ?_) (fun g41 => ?_)
  ·
   refine WP.seq ?_
   refine WP.region rfl ?_
   refine WO.val (run_move rfl) rfl rfl rfl ?_
   refine WO.val (run_assign rfl) rfl rfl rfl ?_
   refine WO.nil ?_
   refine NX.go ?_
   refine WP.ret ?_
   refine NX.thenRet ?_
   refine NX.done (l := [.tmp 4]) rfl rfl ?_
   have ha : applyN l c = o := by unfold applyN; rw [if_pos g41, ho]
   rw [ha]
   exact ⟨oa, oc, rfl, (hS3.permT [1, 0, 0] (L' := cel g2 [str c.fr, str c.tn, Value.int .i64 (c.fi : Int)] 146 :: own oa o.length oc 121 2 (o.flatMap fcl) :: X :: L) rfl).drop⟩
  ·
   refine WP.skip ?_
   refine NX.go ?_
   refine WP.seq ?_
   refine WP.region rfl ?_
   refine WO.val (run_assign rfl) rfl rfl rfl ?_
   refine WO.nil ?_
   refine NX.go ?_
   refine WP.seq ?_
   refine WP.meet (α := Nat) (fun x => match x with | kk => [(0, Value.slice a l.length cp), (3, Value.pointer (some ⟨g2, 0, none⟩)), (5, Value.slice oa o.length oc), (7, Value.int .i64 (kk : Int))]) (fun x w => match x with | kk => (kk ≤ o.length ∧ insN (c.tn, c.fi) o = o.take kk ++ (c.tn, c.fi) :: o.drop kk) ∧ St B (own oa o.length oc 121 2 (o.flatMap fcl) :: cel g2 [str c.fr, str c.tn, Value.int .i64 (c.fi : Int)] 146 :: X :: L) w) ?_ (fun K11 => ?_)
   ·
    rintro kk w12 ⟨⟨hk, hout⟩, hS12⟩
    clear hS3
    refine NX.go ?_
    refine WP.seq ?_
    have hoc := hS12.own_le_i 0 rfl
    refine WD.start (fun w => Rd w oa o.length 2 (o.flatMap fcl) ∧ (∀ j, World.cell? w ⟨g2, j, none⟩ = [str c.fr, str c.tn, Value.int .i64 (c.fi : Int)][j]?) ∧ Rd w a l.length 2 (l.flatMap fcl)) [] #[false, false, false, false, false, false, false, false, false, false, false, false, false, false, false, false, false] Ty.mo rfl (by kernel_rfl) hS12 (fun _ h => ⟨(h.own_rd_i 0 rfl), h.cel_at 1 rfl, (hX (h.focus 2 rfl))⟩) (fun w13 hS13 s14 => ?_)
    clear hS12
    refine WD.pure (i := 1) r4apply_spec_t12 #[false, true, false, false, false, false, false, false, false, false, false, false, false, false, false, false, false] rfl rfl rfl (by kernel_rfl) (PQ.then PQ.body) rfl (fun w => run_move rfl) ?_
    refine WD.pure (i := 2) r4apply_spec_t12 #[false, true, true, false, false, false, false, false, false, false, false, false, false, false, false, false, false] rfl rfl rfl (by kernel_rfl) (PQ.then PQ.body) rfl (fun w => run_move rfl) ?_
    refine WD.pure (i := 3) r4apply_spec_t12 #[false, true, true, true, false, false, false, false, false, false, false, false, false, false, false, false, false] rfl rfl rfl (by kernel_rfl) (PQ.then PQ.body) rfl (fun w => run_sliceTo (j := kk) Tryd.underlying68 Ty.sz121 rfl ⟨_, rfl⟩ (by omega)) ?_
    refine WD.pure (i := 5) r4apply_spec_t12 #[false, true, true, true, false, true, false, false, false, false, false, false, false, false, false, false, false] rfl rfl rfl (by kernel_rfl) (PQ.then PQ.body) rfl (fun w => run_fieldAddr (q := ⟨g2, 1, none⟩) (show fieldB Tryd.prog 146 1 = some 1 from by kernel_rfl) rfl rfl) ?_
    refine WD.take (i := 6) r4apply_spec_t12 #[false, true, true, true, false, true, true, false, false, false, false, false, false, false, false, false, false] s14 rfl rfl rfl (by kernel_rfl) (PQ.then PQ.body) rfl (fun w hs => run_load Ty.ag9 rfl ((hs.2.1 1).trans rfl)) ?_
    refine WD.pure (i := 7) r4apply_spec_t12 #[false, true, true, true, false, true, true, true, false, false, false, false, false, false, false, false, false] rfl rfl rfl (by kernel_rfl) (PQ.then PQ.body) rfl (fun w => run_fieldAddr (q := ⟨g2, 2, none⟩) (show fieldB Tryd.prog 146 2 = some 2 from by kernel_rfl) rfl rfl) ?_
    refine WD.take (i := 8) r4apply_spec_t12 #[false, true, true, true, false, true, true, true, true, false, false, false, false, false, false, false, false] s14 rfl rfl rfl (by kernel_rfl) (PQ.then PQ.body) rfl (fun w hs => run_load Ty.ag3 rfl ((hs.2.1 2).trans rfl)) ?_
    refine WD.pure (i := 9) r4apply_spec_t12 #[false, true, true, true, false, true, true, true, true, true, false, false, false, false, false, false, false] rfl rfl rfl (by kernel_rfl) (PQ.then PQ.body) rfl (fun w => run_build (v := Value.agg #[str c.tn, Value.int .i64 (c.fi : Int)]) rfl (fun w => by kernel_rfl)) ?_
    refine WD.pure (i := 12) r4apply_spec_t12 #[false, true, true, true, false, true, true, true, true, true, false, false, true, false, false, false, false] rfl rfl rfl (by kernel_rfl) (PQ.then PQ.body) rfl (fun w => run_move rfl) ?_
    refine WD.pure (i := 13) r4apply_spec_t12 #[false, true, true, true, false, true, true, true, true, true, false, false, true, true, false, false, false] rfl rfl rfl (by kernel_rfl) (PQ.then PQ.body) rfl (fun w => run_move rfl) ?_
    refine WD.pure (i := 14) r4apply_spec_t12 #[false, true, true, true, false, true, true, true, true, true, false, false, true, true, true, false, false] rfl rfl rfl (by kernel_rfl) (PQ.then PQ.body) rfl (fun w => run_sliceL (i := kk) (j := o.length) Tryd.underlying68 Ty.sz121 rfl ⟨_, rfl⟩ rfl (by omega) (by omega)) ?_
    refine WD.two (i := 0) (k := 10) r4apply_spec_t12 #[true, true, true, true, false, true, true, true, true, true, false, false, true, true, true, false, false] #[false, true, true, true, false, true, true, true, true, true, true, false, true, true, true, false, false] rfl rfl (by kernel_rfl) ?_ ?_
    ·
     refine WO.buildSlice (l := []) hS13 Tryd.underlying68 rfl (fun w => by kernel_rfl) rfl (fun g16 w15 lg16 hS15 => ?_)
     clear hS13
     have hS15 := hS15.own_of_cel (m := 0) (k := 2) rfl
     refine WO.nil ?_
     have s17 : Rd w15 oa o.length 2 (o.flatMap fcl) ∧ (∀ j, World.cell? w15 ⟨g2, j, none⟩ = [str c.fr, str c.tn, Value.int .i64 (c.fi : Int)][j]?) ∧ Rd w15 a l.length 2 (l.flatMap fcl) := ⟨(hS15.own_rd_i 1 rfl), hS15.cel_at 2 rfl, (hX (hS15.focus 3 rfl))⟩
     refine NX.held s17 ?_
     refine WD.two (i := 4) (k := 10) r4apply_spec_t12 #[true, true, true, true, true, true, true, true, true, true, false, false, true, true, true, false, false] #[true, true, true, true, false, true, true, true, true, true, true, false, true, true, true, false, false] rfl rfl (by kernel_rfl) ?_ ?_
     ·
      refine WO.append (news := ((o.flatMap fcl).take (kk * 2))) 0 rfl Tryd.underlying68 Tryd.underlying68 (fun _ h => by cases h) Ty.sz121 (by decide) Ty.by121 Ty.zr121 rfl rfl rfl rfl hS15 rfl (Rd.src (((hS15.own_rd_i 1 rfl)).take (m := kk) hk)) (all_take' (fcl_noAgg _)) (by omega) (by omega) (fun a19 c20 w18 hS18 => ?_)
      replace hS18 : St B (own a19 (0 + kk) c20 121 2 ([] ++ ((o.flatMap fcl).take (kk * 2))) :: own oa o.length oc 121 2 (o.flatMap fcl) :: cel g2 [str c.fr, str c.tn, Value.int .i64 (c.fi : Int)] 146 :: X :: L) w18 := hS18
      clear hS15
      refine WO.nil ?_
      have s21 : Rd w18 oa o.length 2 (o.flatMap fcl) ∧ (∀ j, World.cell? w18 ⟨g2, j, none⟩ = [str c.fr, str c.tn, Value.int .i64 (c.fi : Int)][j]?) ∧ Rd w18 a l.length 2 (l.flatMap fcl) := ⟨(hS18.own_rd_i 1 rfl), hS18.cel_at 2 rfl, (hX (hS18.focus 3 rfl))⟩
      refine NX.held s21 ?_
      refine WD.one (i := 10) r4apply_spec_t12 #[true, true, true, true, true, true, true, true, true, true, true, false, true, true, true, false, false] rfl (by kernel_rfl) ?_
      refine WO.buildSlice (l := [str c.tn, Value.int .i64 (c.fi : Int)]) hS18 Tryd.underlying68 rfl (fun w => by kernel_rfl) rfl (fun g23 w22 lg23 hS22 => ?_)
      clear hS18
      refine WO.nil ?_
      have s24 : Rd w22 oa o.length 2 (o.flatMap fcl) ∧ (∀ j, World.cell? w22 ⟨g2, j, none⟩ = [str c.fr, str c.tn, Value.int .i64 (c.fi : Int)][j]?) ∧ Rd w22 a l.length 2 (l.flatMap fcl) := ⟨(hS22.own_rd_i 2 rfl), hS22.cel_at 3 rfl, (hX (hS22.focus 4 rfl))⟩
      refine NX.held s24 ?_
      refine WD.one (i := 11) r4apply_spec_t12 #[true, true, true, true, true, true, true, true, true, true, true, true, true, true, true, false, false] rfl (by kernel_rfl) ?_
      refine WO.append (news := [str c.tn, Value.int .i64 (c.fi : Int)]) 1 rfl Tryd.underlying68 Tryd.underlying68 (fun _ h => by cases h) Ty.sz121 (by decide) Ty.by121 Ty.zr121 rfl rfl rfl rfl hS22 rfl ((hS22.cel_rd 0 rfl (o := 0) (m := 1) (k := 2) rfl (Nat.le_of_ble_eq_true rfl)).src) rfl (by omega) (by omega) (fun a26 c27 w25 hS25 => ?_)
      replace hS25 : St B (cel g23 [str c.tn, Value.int .i64 (c.fi : Int)] 121 :: own a26 ((0 + kk) + 1) c27 121 2 (([] ++ ((o.flatMap fcl).take (kk * 2))) ++ [str c.tn, Value.int .i64 (c.fi : Int)]) :: own oa o.length oc 121 2 (o.flatMap fcl) :: cel g2 [str c.fr, str c.tn, Value.int .i64 (c.fi : Int)] 146 :: X :: L) w25 := hS25
      clear hS22
      refine WO.nil ?_
      have s28 : Rd w25 oa o.length 2 (o.flatMap fcl) ∧ (∀ j, World.cell? w25 ⟨g2, j, none⟩ = [str c.fr, str c.tn, Value.int .i64 (c.fi : Int)][j]?) ∧ Rd w25 a l.length 2 (l.flatMap fcl) := ⟨(hS25.own_rd_i 2 rfl), hS25.cel_at 3 rfl, (hX (hS25.focus 4 rfl))⟩
      refine NX.held s28 ?_
      refine WD.one (i := 15) r4apply_spec_t12 #[true, true, true, true, true, true, true, true, true, true, true, true, true, true, true, true, false] rfl (by kernel_rfl) ?_
      refine WO.append (news := ((o.flatMap fcl).drop (kk * 2))) 1 rfl Tryd.underlying68 Tryd.underlying68 (fun _ h => by cases h) Ty.sz121 (by decide) Ty.by121 Ty.zr121 rfl rfl rfl rfl hS25 rfl (Rd.src (Rd.dropk (by decide) ((hS25.own_rd_i 2 rfl)) (i := kk) hk hoc)) (all_drop' (fcl_noAgg _)) (by omega) (by omega) (fun a30 c31 w29 hS29 => ?_)
      replace hS29 : St B (cel g23 [str c.tn, Value.int .i64 (c.fi : Int)] 121 :: own a30 (((0 + kk) + 1) + (o.length - kk)) c31 121 2 ((([] ++ ((o.flatMap fcl).take (kk * 2))) ++ [str c.tn, Value.int .i64 (c.fi : Int)]) ++ ((o.flatMap fcl).drop (kk * 2))) :: own oa o.length oc 121 2 (o.flatMap fcl) :: cel g2 [str c.fr, str c.tn, Value.int .i64 (c.fi : Int)] 146 :: X :: L) w29 := hS29
      clear hS25
      refine WO.nil ?_
      have s32 : Rd w29 oa o.length 2 (o.flatMap fcl) ∧ (∀ j, World.cell? w29 ⟨g2, j, none⟩ = [str c.fr, str c.tn, Value.int .i64 (c.fi : Int)][j]?) ∧ Rd w29 a l.length 2 (l.flatMap fcl) := ⟨(hS29.own_rd_i 2 rfl), hS29.cel_at 3 rfl, (hX (hS29.focus 4 rfl))⟩
      refine NX.held s32 ?_
      refine WD.pure (i := 16) r4apply_spec_t12 #[true, true, true, true, true, true, true, true, true, true, true, true, true, true, true, true, true] rfl rfl rfl (by kernel_rfl) (PQ.then PQ.body) rfl (fun w => run_assign rfl) ?_
      refine WD.done r4apply_spec_t12 (by kernel_rfl) ?_
      refine NX.go ?_
      refine WP.ret ?_
      refine NX.done (l := [.tmp 4]) rfl rfl ?_
      have ha : applyN l c = o.take kk ++ (c.tn, c.fi) :: o.drop kk := by unfold applyN; rw [if_neg g41, ← ho, hout]
      rw [ha]
      exact ⟨a30, c31, congrArg (fun z => Value.slice a30 z c31) (by simp; omega), own_eq ((hS29.permT [0, 1, 1, 0, 0] (L' := cel g23 [str c.tn, Value.int .i64 (c.fi : Int)] 121 :: own oa o.length oc 121 2 (o.flatMap fcl) :: cel g2 [str c.fr, str c.tn, Value.int .i64 (c.fi : Int)] 146 :: own a30 (((0 + kk) + 1) + (o.length - kk)) c31 121 2 ((([] ++ ((o.flatMap fcl).take (kk * 2))) ++ [str c.tn, Value.int .i64 (c.fi : Int)]) ++ ((o.flatMap fcl).drop (kk * 2))) :: X :: L) rfl).drop.drop.drop) (by simp; omega) (by rw [flat_take fcl_len, flat_drop fcl_len]; simp [fcl])⟩
     ·
      refine WO.buildSlice (l := [str c.tn, Value.int .i64 (c.fi : Int)]) hS15 Tryd.underlying68 rfl (fun w => by kernel_rfl) rfl (fun g34 w33 lg34 hS33 => ?_)
      clear hS15
      refine WO.nil ?_
      have s35 : Rd w33 oa o.length 2 (o.flatMap fcl) ∧ (∀ j, World.cell? w33 ⟨g2, j, none⟩ = [str c.fr, str c.tn, Value.int .i64 (c.fi : Int)][j]?) ∧ Rd w33 a l.length 2 (l.flatMap fcl) := ⟨(hS33.own_rd_i 2 rfl), hS33.cel_at 3 rfl, (hX (hS33.focus 4 rfl))⟩
      refine NX.held s35 ?_
      refine WD.one (i := 4) r4apply_spec_t12 #[true, true, true, true, true, true, true, true, true, true, true, false, true, true, true, false, false] rfl (by kernel_rfl) ?_
      refine WO.append (news := ((o.flatMap fcl).take (kk * 2))) 1 rfl Tryd.underlying68 Tryd.underlying68 (fun _ h => by cases h) Ty.sz121 (by decide) Ty.by121 Ty.zr121 rfl rfl rfl rfl hS33 rfl (Rd.src (((hS33.own_rd_i 2 rfl)).take (m := kk) hk)) (all_take' (fcl_noAgg _)) (by omega) (by omega) (fun a37 c38 w36 hS36 => ?_)
      replace hS36 : St B (cel g34 [str c.tn, Value.int .i64 (c.fi : Int)] 121 :: own a37 (0 + kk) c38 121 2 ([] ++ ((o.flatMap fcl).take (kk * 2))) :: own oa o.length oc 121 2 (o.flatMap fcl) :: cel g2 [str c.fr, str c.tn, Value.int .i64 (c.fi : Int)] 146 :: X :: L) w36 := hS36
      clear hS33
      refine WO.nil ?_
      have s39 : Rd w36 oa o.length 2 (o.flatMap fcl) ∧ (∀ j, World.cell? w36 ⟨g2, j, none⟩ = [str c.fr, str c.tn, Value.int .i64 (c.fi : Int)][j]?) ∧ Rd w36 a l.length 2 (l.flatMap fcl) := ⟨(hS36.own_rd_i 2 rfl), hS36.cel_at 3 rfl, (hX (hS36.focus 4 rfl))⟩
      refine NX.held s39 ?_
      refine WD.one (i := 11) r4apply_spec_t12 #[true, true, true, true, true, true, true, true, true, true, true, true, true, true, true, false, false] rfl (by kernel_rfl) ?_
      refine WO.append (news := [str c.tn, Value.int .i64 (c.fi : Int)]) 1 rfl Tryd.underlying68 Tryd.underlying68 (fun _ h => by cases h) Ty.sz121 (by decide) Ty.by121 Ty.zr121 rfl rfl rfl rfl hS36 rfl ((hS36.cel_rd 0 rfl (o := 0) (m := 1) (k := 2) rfl (Nat.le_of_ble_eq_true rfl)).src) rfl (by omega) (by omega) (fun a41 c42 w40 hS40 => ?_)
      replace hS40 : St B (cel g34 [str c.tn, Value.int .i64 (c.fi : Int)] 121 :: own a41 ((0 + kk) + 1) c42 121 2 (([] ++ ((o.flatMap fcl).take (kk * 2))) ++ [str c.tn, Value.int .i64 (c.fi : Int)]) :: own oa o.length oc 121 2 (o.flatMap fcl) :: cel g2 [str c.fr, str c.tn, Value.int .i64 (c.fi : Int)] 146 :: X :: L) w40 := hS40
      clear hS36
      refine WO.nil ?_
      have s43 : Rd w40 oa o.length 2 (o.flatMap fcl) ∧ (∀ j, World.cell? w40 ⟨g2, j, none⟩ = [str c.fr, str c.tn, Value.int .i64 (c.fi : Int)][j]?) ∧ Rd w40 a l.length 2 (l.flatMap fcl) := ⟨(hS40.own_rd_i 2 rfl), hS40.cel_at 3 rfl, (hX (hS40.focus 4 rfl))⟩
      refine NX.held s43 ?_
      refine WD.one (i := 15) r4apply_spec_t12 #[true, true, true, true, true, true, true, true, true, true, true, true, true, true, true, true, false] rfl (by kernel_rfl) ?_
      refine WO.append (news := ((o.flatMap fcl).drop (kk * 2))) 1 rfl Tryd.underlying68 Tryd.underlying68 (fun _ h => by cases h) Ty.sz121 (by decide) Ty.by121 Ty.zr121 rfl rfl rfl rfl hS40 rfl (Rd.src (Rd.dropk (by decide) ((hS40.own_rd_i 2 rfl)) (i := kk) hk hoc)) (all_drop' (fcl_noAgg _)) (by omega) (by omega) (fun a45 c46 w44 hS44 => ?_)
      replace hS44 : St B (cel g34 [str c.tn, Value.int .i64 (c.fi : Int)] 121 :: own a45 (((0 + kk) + 1) + (o.length - kk)) c46 121 2 ((([] ++ ((o.flatMap fcl).take (kk * 2))) ++ [str c.tn, Value.int .i64 (c.fi : Int)]) ++ ((o.flatMap fcl).drop (kk * 2))) :: own oa o.length oc 121 2 (o.flatMap fcl) :: cel g2 [str c.fr, str c.tn, Value.int .i64 (c.fi : Int)] 146 :: X :: L) w44 := hS44
      clear hS40
      refine WO.nil ?_
      have s47 : Rd w44 oa o.length 2 (o.flatMap fcl) ∧ (∀ j, World.cell? w44 ⟨g2, j, none⟩ = [str c.fr, str c.tn, Value.int .i64 (c.fi : Int)][j]?) ∧ Rd w44 a l.length 2 (l.flatMap fcl) := ⟨(hS44.own_rd_i 2 rfl), hS44.cel_at 3 rfl, (hX (hS44.focus 4 rfl))⟩
      refine NX.held s47 ?_
      refine WD.pure (i := 16) r4apply_spec_t12 #[true, true, true, true, true, true, true, true, true, true, true, true, true, true, true, true, true] rfl rfl rfl (by kernel_rfl) (PQ.then PQ.body) rfl (fun w => run_assign rfl) ?_
      refine WD.done r4apply_spec_t12 (by kernel_rfl) ?_
      refine NX.go ?_
      refine WP.ret ?_
      refine NX.done (l := [.tmp 4]) rfl rfl ?_
      have ha : applyN l c = o.take kk ++ (c.tn, c.fi) :: o.drop kk := by unfold applyN; rw [if_neg g41, ← ho, hout]
      rw [ha]
      exact ⟨a45, c46, congrArg (fun z => Value.slice a45 z c46) (by simp; omega), own_eq ((hS44.permT [0, 1, 1, 0, 0] (L' := cel g34 [str c.tn, Value.int .i64 (c.fi : Int)] 121 :: own oa o.length oc 121 2 (o.flatMap fcl) :: cel g2 [str c.fr, str c.tn, Value.int .i64 (c.fi : Int)] 146 :: own a45 (((0 + kk) + 1) + (o.length - kk)) c46 121 2 ((([] ++ ((o.flatMap fcl).take (kk * 2))) ++ [str c.tn, Value.int .i64 (c.fi : Int)]) ++ ((o.flatMap fcl).drop (kk * 2))) :: X :: L) rfl).drop.drop.drop) (by simp; omega) (by rw [flat_take fcl_len, flat_drop fcl_len]; simp [fcl])⟩
    ·
     refine WO.buildSlice (l := [str c.tn, Value.int .i64 (c.fi : Int)]) hS13 Tryd.underlying68 rfl (fun w => by kernel_rfl) rfl (fun g49 w48 lg49 hS48 => ?_)
     clear hS13
     refine WO.nil ?_
     have s50 : Rd w48 oa o.length 2 (o.flatMap fcl) ∧ (∀ j, World.cell? w48 ⟨g2, j, none⟩ = [str c.fr, str c.tn, Value.int .i64 (c.fi : Int)][j]?) ∧ Rd w48 a l.length 2 (l.flatMap fcl) := ⟨(hS48.own_rd_i 1 rfl), hS48.cel_at 2 rfl, (hX (hS48.focus 3 rfl))⟩
     refine NX.held s50 ?_
     refine WD.one (i := 0) r4apply_spec_t12 #[true, true, true, true, false, true, true, true, true, true, true, false, true, true, true, false, false] rfl (by kernel_rfl) ?_
     refine WO.buildSlice (l := []) hS48 Tryd.underlying68 rfl (fun w => by kernel_rfl) rfl (fun g52 w51 lg52 hS51 => ?_)
     clear hS48
     have hS51 := hS51.own_of_cel (m := 0) (k := 2) rfl
     refine WO.nil ?_
     have s53 : Rd w51 oa o.length 2 (o.flatMap fcl) ∧ (∀ j, World.cell? w51 ⟨g2, j, none⟩ = [str c.fr, str c.tn, Value.int .i64 (c.fi : Int)][j]?) ∧ Rd w51 a l.length 2 (l.flatMap fcl) := ⟨(hS51.own_rd_i 2 rfl), hS51.cel_at 3 rfl, (hX (hS51.focus 4 rfl))⟩
     refine NX.held s53 ?_
     refine WD.one (i := 4) r4apply_spec_t12 #[true, true, true, true, true, true, true, true, true, true, true, false, true, true, true, false, false] rfl (by kernel_rfl) ?_
     refine WO.append (news := ((o.flatMap fcl).take (kk * 2))) 0 rfl Tryd.underlying68 Tryd.underlying68 (fun _ h => by cases h) Ty.sz121 (by decide) Ty.by121 Ty.zr121 rfl rfl rfl rfl hS51 rfl (Rd.src (((hS51.own_rd_i 2 rfl)).take (m := kk) hk)) (all_take' (fcl_noAgg _)) (by omega) (by omega) (fun a55 c56 w54 hS54 => ?_)
     replace hS54 : St B (own a55 (0 + kk) c56 121 2 ([] ++ ((o.flatMap fcl).take (kk * 2))) :: cel g49 [str c.tn, Value.int .i64 (c.fi : Int)] 121 :: own oa o.length oc 121 2 (o.flatMap fcl) :: cel g2 [str c.fr, str c.tn, Value.int .i64 (c.fi : Int)] 146 :: X :: L) w54 := hS54
     clear hS51
     refine WO.nil ?_
     have s57 : Rd w54 oa o.length 2 (o.flatMap fcl) ∧ (∀ j, World.cell? w54 ⟨g2, j, none⟩ = [str c.fr, str c.tn, Value.int .i64 (c.fi : Int)][j]?) ∧ Rd w54 a l.length 2 (l.flatMap fcl) := ⟨(hS54.own_rd_i 2 rfl), hS54.cel_at 3 rfl, (hX (hS54.focus 4 rfl))⟩
     refine NX.held s57 ?_
     refine WD.one (i := 11) r4apply_spec_t12 #[true, true, true, true, true, true, true, true, true, true, true, true, true, true, true, false, false] rfl (by kernel_rfl) ?_
     refine WO.append (news := [str c.tn, Value.int .i64 (c.fi : Int)]) 0 rfl Tryd.underlying68 Tryd.underlying68 (fun _ h => by cases h) Ty.sz121 (by decide) Ty.by121 Ty.zr121 rfl rfl rfl rfl hS54 rfl ((hS54.cel_rd 1 rfl (o := 0) (m := 1) (k := 2) rfl (Nat.le_of_ble_eq_true rfl)).src) rfl (by omega) (by omega) (fun a59 c60 w58 hS58 => ?_)
     replace hS58 : St B (own a59 ((0 + kk) + 1) c60 121 2 (([] ++ ((o.flatMap fcl).take (kk * 2))) ++ [str c.tn, Value.int .i64 (c.fi : Int)]) :: cel g49 [str c.tn, Value.int .i64 (c.fi : Int)] 121 :: own oa o.length oc 121 2 (o.flatMap fcl) :: cel g2 [str c.fr, str c.tn, Value.int .i64 (c.fi : Int)] 146 :: X :: L) w58 := hS58
     clear hS54
     refine WO.nil ?_
     have s61 : Rd w58 oa o.length 2 (o.flatMap fcl) ∧ (∀ j, World.cell? w58 ⟨g2, j, none⟩ = [str c.fr, str c.tn, Value.int .i64 (c.fi : Int)][j]?) ∧ Rd w58 a l.length 2 (l.flatMap fcl) := ⟨(hS58.own_rd_i 2 rfl), hS58.cel_at 3 rfl, (hX (hS58.focus 4 rfl))⟩
     refine NX.held s61 ?_
     refine WD.one (i := 15) r4apply_spec_t12 #[true, true, true, true, true, true, true, true, true, true, true, true, true, true, true, true, false] rfl (by kernel_rfl) ?_
     refine WO.append (news := ((o.flatMap fcl).drop (kk * 2))) 0 rfl Tryd.underlying68 Tryd.underlying68 (fun _ h => by cases h) Ty.sz121 (by decide) Ty.by121 Ty.zr121 rfl rfl rfl rfl hS58 rfl (Rd.src (Rd.dropk (by decide) ((hS58.own_rd_i 2 rfl)) (i := kk) hk hoc)) (all_drop' (fcl_noAgg _)) (by omega) (by omega) (fun a63 c64 w62 hS62 => ?_)
     replace hS62 : St B (own a63 (((0 + kk) + 1) + (o.length - kk)) c64 121 2 ((([] ++ ((o.flatMap fcl).take (kk * 2))) ++ [str c.tn, Value.int .i64 (c.fi : Int)]) ++ ((o.flatMap fcl).drop (kk * 2))) :: cel g49 [str c.tn, Value.int .i64 (c.fi : Int)] 121 :: own oa o.length oc 121 2 (o.flatMap fcl) :: cel g2 [str c.fr, str c.tn, Value.int .i64 (c.fi : Int)] 146 :: X :: L) w62 := hS62
     clear hS58
     refine WO.nil ?_
     have s65 : Rd w62 oa o.length 2 (o.flatMap fcl) ∧ (∀ j, World.cell? w62 ⟨g2, j, none⟩ = [str c.fr, str c.tn, Value.int .i64 (c.fi : Int)][j]?) ∧ Rd w62 a l.length 2 (l.flatMap fcl) := ⟨(hS62.own_rd_i 2 rfl), hS62.cel_at 3 rfl, (hX (hS62.focus 4 rfl))⟩
     refine NX.held s65 ?_
     refine WD.pure (i := 16) r4apply_spec_t12 #[true, true, true, true, true, true, true, true, true, true, true, true, true, true, true, true, true] rfl rfl rfl (by kernel_rfl) (PQ.then PQ.body) rfl (fun w => run_assign rfl) ?_
     refine WD.done r4apply_spec_t12 (by kernel_rfl) ?_
     refine NX.go ?_
     refine WP.ret ?_
     refine NX.done (l := [.tmp 4]) rfl rfl ?_
     have ha : applyN l c = o.take kk ++ (c.tn, c.fi) :: o.drop kk := by unfold applyN; rw [if_neg g41, ← ho, hout]
     rw [ha]
     exact ⟨a63, c64, congrArg (fun z => Value.slice a63 z c64) (by simp; omega), own_eq ((hS62.permT [1, 1, 1, 0, 0] (L' := cel g49 [str c.tn, Value.int .i64 (c.fi : Int)] 121 :: own oa o.length oc 121 2 (o.flatMap fcl) :: cel g2 [str c.fr, str c.tn, Value.int .i64 (c.fi : Int)] 146 :: own a63 (((0 + kk) + 1) + (o.length - kk)) c64 121 2 ((([] ++ ((o.flatMap fcl).take (kk * 2))) ++ [str c.tn, Value.int .i64 (c.fi : Int)]) ++ ((o.flatMap fcl).drop (kk * 2))) :: X :: L) rfl).drop.drop.drop) (by simp; omega) (by rw [flat_take fcl_len, flat_drop fcl_len]; simp [fcl])⟩
   ·
    refine WP.block ?_
    refine WP.loop (α := Nat) (fun x => match x with | kk => [(0, Value.slice a l.length cp), (3, Value.pointer (some ⟨g2, 0, none⟩)), (5, Value.slice oa o.length oc), (7, Value.int .i64 (kk : Int))]) (fun x w => match x with | kk => (kk ≤ o.length ∧ insN (c.tn, c.fi) o = o.take kk ++ insN (c.tn, c.fi) (o.drop kk)) ∧ St B (own oa o.length oc 121 2 (o.flatMap fcl) :: cel g2 [str c.fr, str c.tn, Value.int .i64 (c.fi : Int)] 146 :: X :: L) w) (fun x => match x with | kk => o.length - kk) 0 ⟨⟨Nat.zero_le _, rfl⟩, hS3⟩ (Sub.cons rfl (Sub.cons rfl (Sub.cons rfl (Sub.consE rfl (by first | rfl | first | rfl | (congr 1; omega) | (simp; done) | (simp; omega)) (Sub.nil _))))) ?_
    rintro kk w66 ⟨⟨hk, hin⟩, hS66⟩
    clear hS3
    refine WP.seq ?_
    refine WP.seq ?_
    have hosa : kk < o.length → oa.isSome = true := fun hlt => by obtain ⟨q, hq, _⟩ := ((hS66.own_rd_i 0 rfl)).2.1 (by omega); rw [hq]; rfl
    refine WD.start (fun w => Rd w oa o.length 2 (o.flatMap fcl) ∧ (∀ j, World.cell? w ⟨g2, j, none⟩ = [str c.fr, str c.tn, Value.int .i64 (c.fi : Int)][j]?) ∧ Rd w a l.length 2 (l.flatMap fcl)) [] #[false, false, false, false, false, false, false, false, false, false, false, false, false, false] Ty.mo rfl (by kernel_rfl) hS66 (fun _ h => ⟨(h.own_rd_i 0 rfl), h.cel_at 1 rfl, (hX (h.focus 2 rfl))⟩) (fun w67 hS67 s68 => ?_)
    clear hS66
    refine WD.pure (i := 0) r4apply_spec_t10 #[true, false, false, false, false, false, false, false, false, false, false, false, false, false] rfl rfl rfl (by kernel_rfl) (PQ.then (PQ.then (PQ.then (PQ.blk (PQ.then PQ.body))))) rfl (fun w => run_move rfl) ?_
    refine WD.pure (i := 1) r4apply_spec_t10 #[true, true, false, false, false, false, false, false, false, false, false, false, false, false] rfl rfl rfl (by kernel_rfl) (PQ.then (PQ.then (PQ.then (PQ.blk (PQ.then PQ.body))))) rfl (fun w => run_move rfl) ?_
    refine WD.pure (i := 2) r4apply_spec_t10 #[true, true, true, false, false, false, false, false, false, false, false, false, false, false] rfl rfl rfl (by kernel_rfl) (PQ.then (PQ.then (PQ.then (PQ.blk (PQ.then PQ.body))))) rfl (fun w => run_len rfl Tryd.underlying68 rfl) ?_
    refine WD.pure (i := 3) r4apply_spec_t10 #[true, true, true, true, false, false, false, false, false, false, false, false, false, false] rfl rfl rfl (by kernel_rfl) (PQ.then (PQ.then (PQ.then (PQ.blk (PQ.then PQ.body))))) rfl (fun w => run_lss rfl rfl) ?_
    refine WD.pure (i := 4) r4apply_spec_t10 #[true, true, true, true, true, false, false, false, false, false, false, false, false, false] rfl rfl rfl (by kernel_rfl) (PQ.then (PQ.then (PQ.then (PQ.blk (PQ.then PQ.body))))) rfl (fun w => run_move rfl) ?_
    by_cases g47 : (kk : Int) < ((o.length : Nat) : Int)
    ·
     have hosa1 : oa.isSome = true := hosa (by omega)
     obtain ⟨y, hy⟩ : ∃ y, o[kk]? = some y := ⟨_, List.getElem?_eq_getElem (by omega)⟩
     refine WD.pureOn (i := 5) r4apply_spec_t10 #[true, true, true, true, true, true, false, false, false, false, false, false, false, false] rfl rfl rfl (decide_eq_true g47) (by kernel_rfl) (PQ.then (PQ.then (PQ.then (PQ.blk (PQ.then PQ.body))))) rfl (fun w => run_move rfl) ?_
     refine WD.pureOn (i := 6) r4apply_spec_t10 #[true, true, true, true, true, true, true, false, false, false, false, false, false, false] rfl rfl rfl (decide_eq_true g47) (by kernel_rfl) (PQ.then (PQ.then (PQ.then (PQ.blk (PQ.then PQ.body))))) rfl (fun w => run_move rfl) ?_
     refine WD.takeOn (i := 7) r4apply_spec_t10 #[true, true, true, true, true, true, true, true, false, false, false, false, false, false] s68 rfl rfl rfl (decide_eq_true g47) (by kernel_rfl) (PQ.then (PQ.then (PQ.then (PQ.blk (PQ.then PQ.body))))) rfl (fun w hs => run_indexAddr (q := adr oa (kk * 2)) Tryd.underlying68 Ty.sz121 rfl rfl (by omega) (by omega) ((hs.1).2.1 (by omega)) rfl) ?_
     refine WD.pureOn (i := 8) r4apply_spec_t10 #[true, true, true, true, true, true, true, true, true, false, false, false, false, false] rfl rfl rfl (decide_eq_true g47) (by kernel_rfl) (PQ.then (PQ.then (PQ.then (PQ.blk (PQ.then PQ.body))))) rfl (fun w => run_fieldAddr (q := (adr oa (kk * 2 + 0))) (show fieldB Tryd.prog 121 0 = some 0 from by kernel_rfl) rfl (adr_add _ (by assumption) _ _)) ?_
     refine WD.takeOn (i := 9) r4apply_spec_t10 #[true, true, true, true, true, true, true, true, true, true, false, false, false, false] s68 rfl rfl rfl (decide_eq_true g47) (by kernel_rfl) (PQ.then (PQ.then (PQ.then (PQ.blk (PQ.then PQ.body))))) rfl (fun w hs => run_load Ty.ag9 rfl ((hs.1).cell ((flat_get fcl_len hy (j := 0) (by decide)).trans rfl))) ?_
     refine WD.pureOn (i := 10) r4apply_spec_t10 #[true, true, true, true, true, true, true, true, true, true, true, false, false, false] rfl rfl rfl (decide_eq_true g47) (by kernel_rfl) (PQ.then (PQ.then (PQ.then (PQ.blk (PQ.then PQ.body))))) rfl (fun w => run_fieldAddr (q := ⟨g2, 1, none⟩) (show fieldB Tryd.prog 146 1 = some 1 from by kernel_rfl) rfl rfl) ?_
     refine WD.takeOn (i := 11) r4apply_spec_t10 #[true, true, true, true, true, true, true, true, true, true, true, true, false, false] s68 rfl rfl rfl (decide_eq_true g47) (by kernel_rfl) (PQ.then (PQ.then (PQ.then (PQ.blk (PQ.then PQ.body))))) rfl (fun w hs => run_load Ty.ag9 rfl ((hs.2.1 1).trans rfl)) ?_
     refine WD.pureOn (i := 12) r4apply_spec_t10 #[true, true, true, true, true, true, true, true, true, true, true, true, true, false] rfl rfl rfl (decide_eq_true g47) (by kernel_rfl) (PQ.then (PQ.then (PQ.then (PQ.blk (PQ.then PQ.body))))) rfl (fun w => run_lssS rfl rfl) ?_
     refine WD.pure (i := 13) r4apply_spec_t10 #[true, true, true, true, true, true, true, true, true, true, true, true, true, true] rfl rfl rfl (by kernel_rfl) (PQ.then (PQ.then (PQ.then (PQ.blk (PQ.then PQ.body))))) rfl (fun w => run_pickT rfl (decide_eq_true g47) rfl) ?_
     refine WD.done r4apply_spec_t10 (by kernel_rfl) ?_
     refine NX.go ?_
     refine WP.condB rfl (fun g56 => ?_) (fun g56 => ?_)
     ·
      refine WP.skip ?_
      refine NX.go ?_
      refine WP.block ?_
      refine WP.region rfl ?_
      refine WO.val (run_move rfl) rfl rfl rfl ?_
      refine WO.val (run_add rfl rfl (IntWalk.i64_in _ (by omega))) rfl rfl rfl ?_
      refine WO.val (run_assign rfl) rfl rfl rfl ?_
      refine WO.nil ?_
      refine NX.blk ?_
      exact NX.again (kk + 1) ⟨⟨by omega, insN_step hy g56 hin⟩, hS67⟩ (by show o.length - (kk + 1) < o.length - kk; omega) (Sub.cons rfl (Sub.cons rfl (Sub.cons rfl (Sub.consE rfl (by congr 1) (Sub.nil _)))))
     ·
      refine WP.exit ?_
      refine NX.thenExit ?_
      refine NX.thenExit ?_
      refine NX.blkExit ?_
      exact K11 kk _ _ ⟨⟨hk, insN_stop hy g56 hin⟩, hS67⟩ (Sub.cons rfl (Sub.cons rfl (Sub.cons rfl (Sub.cons rfl (Sub.nil _)))))
    ·
     refine WD.off (i := 5) r4apply_spec_t10 #[true, true, true, true, true, true, false, false, false, false, false, false, false, false] rfl rfl rfl (decide_eq_false g47) (by kernel_rfl) (PQ.then (PQ.then (PQ.then (PQ.blk (PQ.then PQ.body))))) rfl ?_
     refine WD.off (i := 6) r4apply_spec_t10 #[true, true, true, true, true, true, true, false, false, false, false, false, false, false] rfl rfl rfl (decide_eq_false g47) (by kernel_rfl) (PQ.then (PQ.then (PQ.then (PQ.blk (PQ.then PQ.body))))) rfl ?_
     refine WD.off (i := 7) r4apply_spec_t10 #[true, true, true, true, true, true, true, true, false, false, false, false, false, false] rfl rfl rfl (decide_eq_false g47) (by kernel_rfl) (PQ.then (PQ.then (PQ.then (PQ.blk (PQ.then PQ.body))))) rfl ?_
     refine WD.off (i := 8) r4apply_spec_t10 #[true, true, true, true, true, true, true, true, true, false, false, false, false, false] rfl rfl rfl (decide_eq_false g47) (by kernel_rfl) (PQ.then (PQ.then (PQ.then (PQ.blk (PQ.then PQ.body))))) rfl ?_
     refine WD.off (i := 9) r4apply_spec_t10 #[true, true, true, true, true, true, true, true, true, true, false, false, false, false] rfl rfl rfl (decide_eq_false g47) (by kernel_rfl) (PQ.then (PQ.then (PQ.then (PQ.blk (PQ.then PQ.body))))) rfl ?_
     refine WD.off (i := 10) r4apply_spec_t10 #[true, true, true, true, true, true, true, true, true, true, true, false, false, false] rfl rfl rfl (decide_eq_false g47) (by kernel_rfl) (PQ.then (PQ.then (PQ.then (PQ.blk (PQ.then PQ.body))))) rfl ?_
     refine WD.off (i := 11) r4apply_spec_t10 #[true, true, true, true, true, true, true, true, true, true, true, true, false, false] rfl rfl rfl (decide_eq_false g47) (by kernel_rfl) (PQ.then (PQ.then (PQ.then (PQ.blk (PQ.then PQ.body))))) rfl ?_
     refine WD.off (i := 12) r4apply_spec_t10 #[true, true, true, true, true, true, true, true, true, true, true, true, true, false] rfl rfl rfl (decide_eq_false g47) (by kernel_rfl) (PQ.then (PQ.then (PQ.then (PQ.blk (PQ.then PQ.body))))) rfl ?_
     refine WD.pure (i := 13) r4apply_spec_t10 #[true, true, true, true, true, true, true, true, true, true, true, true, true, true] rfl rfl rfl (by kernel_rfl) (PQ.then (PQ.then (PQ.then (PQ.blk (PQ.then PQ.body))))) rfl (fun w => run_pickF rfl (decide_eq_false g47) rfl) ?_
     refine WD.done r4apply_spec_t10 (by kernel_rfl) ?_
     refine NX.go ?_
     refine WP.condF rfl rfl ?_
     refine WP.exit ?_
     refine NX.thenExit ?_
     refine NX.thenExit ?_
     refine NX.blkExit ?_
     exact K11 kk _ _ ⟨⟨hk, insN_end (by omega) hin⟩, hS67⟩ (Sub.cons rfl (Sub.cons rfl (Sub.cons rfl (Sub.cons rfl (Sub.nil _)))))
end Go.Proofs.YtcehlnpbdffdhaaDoor.SL
