/- Labels are compared, and points. -/
import Derived.Test.YtidoidoelgfnaaaGreatDoorMgm
import Derived.Test.YtidoidoelgfnaaaGreatDoorShelf
namespace Go.Proofs.YtidoidoelgfnaaaGreatDoor.SL
open Go.RowKit Go.Proofs.YtidoidoelgfnaaaGreatDoor
open Go.Proofs.YtidoidoelgfnaaaGreatDoorW.PrintLast (rtab opsOf)
set_option linter.unusedVariables false
set_option linter.unusedSimpArgs false

def cmpS (a b : List UInt8) : Int := if strLt a b = true then -1 else if a = b then 0 else 1
theorem cmpS_eq : ∀ (a b : List UInt8), Lib.compareBytes a b = cmpS a b
  | [], [] => rfl
  | [], _ :: _ => rfl
  | _ :: _, [] => rfl
  | x :: a, y :: b => by
    have ih := cmpS_eq a b
    rw [Lib.compareBytes, ih]
    unfold cmpS
    have e : strLt (x :: a) (y :: b) = (decide (x < y) || (x == y && strLt a b)) := rfl
    rw [e]
    by_cases h1 : x < y
    · simp [h1]
    · by_cases h2 : y < x
      · have hne : x ≠ y := fun e => by rw [e] at h2; exact UInt8.lt_irrefl _ h2
        simp [h1, h2, hne]
      · have : x = y := by
          rw [UInt8.lt_iff_toNat_lt] at h1 h2
          exact UInt8.toNat_inj.1 (by omega)
        subst this
        simp [h1]
theorem cmpF_same {p q : Pr} (h : p = q) (a b : List Pr) : cmpF (p :: a) (q :: b) = cmpF a b := by subst h; rw [cmpF, if_neg (by rw [ltP_irr]; decide), if_pos rfl]
theorem cmpF_lt {p q : Pr} (h : ltP p q = true) (a b : List Pr) : cmpF (p :: a) (q :: b) = -1 := by rw [cmpF, if_pos h]
theorem cmpF_gt {p q : Pr} (h : ltP p q = false) (hne : ¬ p = q) (a b : List Pr) : cmpF (p :: a) (q :: b) = 1 := by rw [cmpF, if_neg (by rw [h]; decide), if_neg hne]
theorem cmpF_name {p q : Pr} (h : ¬ p.n = q.n) (a b : List Pr) : cmpF (p :: a) (q :: b) = cmpS p.n q.n := by
  have hne : ¬ p = q := fun e => h (by rw [e])
  have e : ltP p q = strLt p.n q.n := by simp [ltP, h]
  rw [cmpF, e, if_neg hne, cmpS, if_neg h]
theorem cmpF_value {p q : Pr} (h : p.n = q.n) (hne : ¬ p = q) (a b : List Pr) : cmpF (p :: a) (q :: b) = cmpS p.v q.v := by
  have hv : ¬ p.v = q.v := fun e => hne (by obtain ⟨x, y⟩ := p; obtain ⟨z, t⟩ := q; simp only at h e; rw [h, e])
  have e : ltP p q = strLt p.v q.v := by simp [ltP, h, sl_irr]
  rw [cmpF, e, if_neg hne, cmpS, if_neg hv]
theorem cmpF_end {l m : List Pr} {i : Nat} (h1 : l.length ≤ i) : cmpF (l.drop i) (m.drop i) = if i < m.length then -1 else 0 := by
  rw [List.drop_of_length_le h1]
  split
  · rename_i h; rw [List.drop_eq_getElem_cons h]; rfl
  · rw [List.drop_of_length_le (by omega)]; rfl
theorem cmpF_endR {l m : List Pr} {i : Nat} (h1 : m.length ≤ i) : cmpF (l.drop i) (m.drop i) = if i < l.length then 1 else 0 := by
  rw [List.drop_of_length_le h1]
  split
  · rename_i h; rw [List.drop_eq_getElem_cons h]; rfl
  · rw [List.drop_of_length_le (by omega)]; rfl

theorem eqIn_Pr (p q : Pr) (w : World) : (Op.equalIn 10000 105 (.agg #[str p.n, str p.v]) (.agg #[str q.n, str q.v])).run Tryz.prog w = .ok (decide (p = q)) w := by
  have u9 := Tryz.underlying9
  have a9 := Tryz.isAgg9
  have z9 := Tryz.sizeOf9
  have hS : Tryz.prog.underlying 105 = some (.struct (Tryz.prog.fieldsOf 105)) := by kernel_rfl
  have hp : Tryz.prog.stoodInHeld 105 = false := by kernel_rfl
  rw [show (10000 : Nat) = 9999 + 1 from rfl, run_equalIn_agg w 9999 105 _ _ hS hp]
  simp only [Program.fieldsOf, Tryz.underlying105]
  go_simp
  obtain ⟨n, v⟩ := p
  obtain ⟨n', v'⟩ := q
  by_cases h1 : n = n' <;> by_cases h2 : v = v' <;> simp [h1, h2, ByteArray.toList_eq]
theorem run_eqlPr {n : Nat} {D : List Deferred} {T : Tm} {w : World} {u : TypeId} {x y : Operand} {dst : Option Nat} {ty : TypeId} {pos : String} {aft : Array Edge} (p q : Pr) (hx : ev T x = some (.agg #[str p.n, str p.v])) (hy : ev T y = some (.agg #[str q.n, str q.v])) : Run Tryz.prog n D T w ⟨dst, .binOp .eql 105 x y u, ty, pos, aft, none⟩ (.bool (decide (p = q))) w := fun c f => by
  have hg : Tryz.prog.eqGuardType Tryz.prog.depth 105 = false := by kernel_rfl
  have h := eqIn_Pr p q w
  have h2 : (Op.equal 105 (.agg #[str p.n, str p.v]) (.agg #[str q.n, str q.v])).run Tryz.prog w = .ok (decide (p = q)) w := h
  simp [execOp, f.ev hx, f.ev hy, eqGuard, hg, binOp, h2]
theorem run_neqPr {n : Nat} {D : List Deferred} {T : Tm} {w : World} {u : TypeId} {x y : Operand} {dst : Option Nat} {ty : TypeId} {pos : String} {aft : Array Edge} (p q : Pr) (hx : ev T x = some (.agg #[str p.n, str p.v])) (hy : ev T y = some (.agg #[str q.n, str q.v])) : Run Tryz.prog n D T w ⟨dst, .binOp .neq 105 x y u, ty, pos, aft, none⟩ (.bool (decide (¬ p = q))) w := fun c f => by
  have hg : Tryz.prog.eqGuardType Tryz.prog.depth 105 = false := by kernel_rfl
  have h := eqIn_Pr p q w
  have h2 : (Op.equal 105 (.agg #[str p.n, str p.v]) (.agg #[str q.n, str q.v])).run Tryz.prog w = .ok (decide (p = q)) w := h
  simp [execOp, f.ev hx, f.ev hy, eqGuard, hg, binOp, h2]

theorem eqIn_Pt (p q : Pt) (w : World) : (Op.equalIn 10000 103 (.agg #[.int .i64 p.t, .int .u64 p.v]) (.agg #[.int .i64 q.t, .int .u64 q.v])).run Tryz.prog w = .ok (decide (p = q)) w := by
  have u2 := Tryz.underlying2
  have a2 := Tryz.isAgg2
  have z2 := Tryz.sizeOf2
  have u81 := Tryz.underlying81
  have a81 := Tryz.isAgg81
  have z81 := Tryz.sizeOf81
  have hS : Tryz.prog.underlying 103 = some (.struct (Tryz.prog.fieldsOf 103)) := by kernel_rfl
  have hp : Tryz.prog.stoodInHeld 103 = false := by kernel_rfl
  rw [show (10000 : Nat) = 9999 + 1 from rfl, run_equalIn_agg w 9999 103 _ _ hS hp]
  simp only [Program.fieldsOf, Tryz.underlying103]
  go_simp
  obtain ⟨n, v⟩ := p
  obtain ⟨n', v'⟩ := q
  by_cases h1 : n = n' <;> by_cases h2 : v = v' <;> simp [h1, h2, ByteArray.toList_eq]
theorem run_neqPt {n : Nat} {D : List Deferred} {T : Tm} {w : World} {u : TypeId} {x y : Operand} {dst : Option Nat} {ty : TypeId} {pos : String} {aft : Array Edge} (p q : Pt) (hx : ev T x = some (.agg #[.int .i64 p.t, .int .u64 p.v])) (hy : ev T y = some (.agg #[.int .i64 q.t, .int .u64 q.v])) : Run Tryz.prog n D T w ⟨dst, .binOp .neq 103 x y u, ty, pos, aft, none⟩ (.bool (decide (¬ p = q))) w := fun c f => by
  have hg : Tryz.prog.eqGuardType Tryz.prog.depth 103 = false := by kernel_rfl
  have h := eqIn_Pt p q w
  have h2 : (Op.equal 103 (.agg #[.int .i64 p.t, .int .u64 p.v]) (.agg #[.int .i64 q.t, .int .u64 q.v])).run Tryz.prog w = .ok (decide (p = q)) w := h
  simp [execOp, f.ev hx, f.ev hy, eqGuard, hg, binOp, h2]

theorem scmp_spec {B w : World} {L : List HP} (p q : List UInt8) (hS : St B L w) : Does Tryz.prog 125 [str p, str q] w (fun v w1 => v = .int .i64 (cmpS p q) ∧ St B L w1) := by
  refine (Tryz.strings_Compare (bs p) (bs q) w).mono ?_
  rintro e w' ⟨rfl, rfl⟩
  exact ⟨_, rfl, by rw [← cmpS_eq], hS⟩
theorem lcmp_spec {B w : World} {L : List HP} {X Y : HP} {a b : Option Addr} {cap cap2 : Nat} {l m : List Pr} (hX : ∀ {L : List HP} {w : World}, St B (X :: L) w → Rd w a l.length 2 (l.flatMap prc)) (hY : ∀ {L : List HP} {w : World}, St B (Y :: L) w → Rd w b m.length 2 (m.flatMap prc)) (hl : l.length ≤ 4398046511104) (hm : m.length ≤ 4398046511104) (hS : St B (X :: Y :: L) w) : Does Tryz.prog 95 [Value.slice a l.length cap, Value.slice b m.length cap2] w (fun v w1 => v = .int .i64 (cmpF l m) ∧ St B (X :: Y :: L) w1) := by
 refine enter (n := 47) Tryz.func95 rfl rfl [Value.slice a l.length cap, Value.slice b m.length cap2] rfl ?_
 refine WP.seq (WP.region rfl ?_)
 refine WO.asg rfl rfl ?_
 refine WO.nil (NX.go (WP.seq (WP.seq (WP.region rfl ?_))))
 refine WO.mv rfl rfl ?_
 refine WO.V (run_len rfl Tryz.underlying65 rfl) ?_
 refine WO.mv rfl rfl ?_
 refine WO.nil (NX.go (WP.block ?_))
 refine WP.loop (α := Nat) (fun x => match x with | i => [(0, Value.slice a l.length cap), (1, Value.slice b m.length cap2), (8, Value.slice a l.length cap), (9, Value.int .i64 ((l.length : Nat) : Int)), (10, Value.int .i64 (i : Int))]) (fun x w => match x with | i => (i ≤ l.length ∧ i ≤ m.length ∧ cmpF (l.drop i) (m.drop i) = cmpF l m) ∧ St B (X :: Y :: L) w) (fun x => match x with | i => l.length - i) 0 ⟨⟨Nat.zero_le _, Nat.zero_le _, rfl⟩, hS⟩ (Sub.cons rfl (Sub.cons rfl (Sub.cons rfl (Sub.cons rfl (Sub.consE rfl (by first | rfl | first | rfl | (congr 1; omega) | (simp; done) | (simp; omega)) (Sub.nil _)))))) ?_
 rintro i w1 ⟨⟨hi, hj, hgo⟩, hS1⟩
 clear hS
 refine WP.seq (WP.region rfl ?_)
 refine WO.V (run_lss rfl rfl) ?_
 refine WO.nil (NX.go (WP.seq ?_))
 refine WP.condP rfl (fun g11 => ?_) (fun g11 => ?_)
 ·
  refine WP.skip (NX.go (WP.seq (WP.block (WP.seq (WP.region rfl ?_)))))
  refine WO.mv rfl rfl ?_
  obtain ⟨p, hp⟩ : ∃ p, l[i]? = some p := ⟨_, List.getElem?_eq_getElem (by omega)⟩
  refine WO.V (run_indexAddr (q := adr a (i * 2)) Tryz.underlying65 Ty.sz105 rfl rfl (by omega) (by omega) ((hX (hS1.focus 0 rfl)).2.1 (by omega)) rfl) ?_
  refine WO.V (run_loadAgg (vs := [str p.n, str p.v]) Ty.ag105 Ty.sz105 rfl ((hX (hS1.focus 0 rfl)).cells (by rw [flat_len prc_len]; omega) (flat_part prc_len hp)).1 ((hX (hS1.focus 0 rfl)).cells (by rw [flat_len prc_len]; omega) (flat_part prc_len hp)).2) ?_
  refine WO.alloc (l := [str [], str []]) hS1 Ty.zr105 rfl rfl (fun g3 w2 lg3 hS2 => ?_)
  clear hS1
  refine WO.asg rfl rfl ?_
  refine WO.store (l' := [str p.n, str p.v]) 0 hS2 rfl Ty.sz105 rfl rfl rfl rfl rfl (Nat.le_of_ble_eq_true rfl) rfl (fun w4 (hS4 : St B (cel g3 [str p.n, str p.v] 105 :: X :: Y :: L) w4) => ?_)
  clear hS2
  refine WO.nil (NX.go (WP.seq (WP.seq (WP.region rfl ?_))))
  refine WO.mv rfl rfl ?_
  refine WO.mv rfl rfl ?_
  refine WO.V (run_len rfl Tryz.underlying65 rfl) ?_
  refine WO.V (run_eql rfl rfl) ?_
  refine WO.nil (NX.go ?_)
  refine WP.condP rfl (fun g18 => ?_) (fun g18 => ?_)
  ·
   refine WP.seq (WP.region rfl ?_)
   refine WO.asg rfl rfl ?_
   refine WO.nil (NX.go (WP.ret (NX.thenRet (NX.blkRet (NX.thenRet (NX.thenRet (NX.blkRet (NX.thenRet ?_))))))))
   refine NX.done (l := [.tmp 4]) rfl rfl ?_
   exact ⟨congrArg (Value.int .i64) (by rw [← hgo, drop_cons hp, List.drop_of_length_le (show m.length ≤ i by omega)]; rfl), hS4.drop⟩
  ·
   refine WP.skip (NX.go (WP.seq (WP.region rfl ?_)))
   refine WO.mv rfl rfl ?_
   refine WO.mv rfl rfl ?_
   obtain ⟨q, hq⟩ : ∃ q, m[i]? = some q := ⟨_, List.getElem?_eq_getElem (by omega)⟩
   refine WO.V (run_indexAddr (q := adr b (i * 2)) Tryz.underlying65 Ty.sz105 rfl rfl (by omega) (by omega) ((hY (hS4.focus 2 rfl)).2.1 (by omega)) rfl) ?_
   refine WO.V (run_loadAgg (vs := [str q.n, str q.v]) Ty.ag105 Ty.sz105 rfl ((hY (hS4.focus 2 rfl)).cells (by rw [flat_len prc_len]; omega) (flat_part prc_len hq)).1 ((hY (hS4.focus 2 rfl)).cells (by rw [flat_len prc_len]; omega) (flat_part prc_len hq)).2) ?_
   refine WO.alloc (l := [str [], str []]) hS4 Ty.zr105 rfl rfl (fun g6 w5 lg6 hS5 => ?_)
   clear hS4
   refine WO.store (l' := [str q.n, str q.v]) 0 hS5 rfl Ty.sz105 rfl rfl rfl rfl rfl (Nat.le_of_ble_eq_true rfl) rfl (fun w7 (hS7 : St B (cel g6 [str q.n, str q.v] 105 :: cel g3 [str p.n, str p.v] 105 :: X :: Y :: L) w7) => ?_)
   clear hS5
   refine WO.nil (NX.go (WP.seq (WP.seq (WP.region rfl ?_))))
   refine WO.V (run_loadAgg (vs := [str p.n, str p.v]) Ty.ag105 Ty.sz105 rfl rfl (cell_all (hS7.cel_at 1 rfl) 0 rfl)) ?_
   refine WO.V (run_loadAgg (vs := [str q.n, str q.v]) Ty.ag105 Ty.sz105 rfl rfl (cell_all (hS7.cel_at 0 rfl) 0 rfl)) ?_
   refine WO.V (run_eqlPr p q rfl rfl) ?_
   refine WO.nil (NX.go ?_)
   refine WP.condP rfl (fun g25 => ?_) (fun g25 => ?_)
   ·
    refine WP.exit (NX.thenExit ?_)
    refine NX.blkExit ?_
    refine NX.go (WP.region rfl ?_)
    refine WO.V (run_add rfl rfl (IntWalk.i64_in _ (by omega))) ?_
    refine WO.mv rfl rfl ?_
    refine WO.nil ?_
    exact NX.again (i + 1) ⟨⟨by omega, by omega, by rw [drop_cons hp, drop_cons hq, cmpF_same (by assumption)] at hgo; exact hgo⟩, hS7.drop.drop⟩ (by show l.length - (i + 1) < l.length - i; omega) (Sub.cons rfl (Sub.cons rfl (Sub.cons rfl (Sub.cons rfl (Sub.consE rfl (by congr 1) (Sub.nil _))))))
   ·
    refine WP.skip (NX.go (WP.seq (WP.seq (WP.region rfl ?_))))
    refine WO.V (run_fa 0 ⟨g3, 0, none⟩ rfl rfl) ?_
    refine WO.V (run_load Ty.ag9 rfl ((hS7.cel_at 1 rfl 0).trans rfl)) ?_
    refine WO.V (run_fa 0 ⟨g6, 0, none⟩ rfl rfl) ?_
    refine WO.V (run_load Ty.ag9 rfl ((hS7.cel_at 0 rfl 0).trans rfl)) ?_
    refine WO.V (run_neqS rfl rfl) ?_
    refine WO.nil (NX.go ?_)
    refine WP.condP rfl (fun g30 => ?_) (fun g30 => ?_)
    ·
     refine WP.seq (WP.region rfl ?_)
     refine WO.V (run_fa 0 ⟨g3, 0, none⟩ rfl rfl) ?_
     refine WO.V (run_load Ty.ag9 rfl ((hS7.cel_at 1 rfl 0).trans rfl)) ?_
     refine WO.V (run_fa 0 ⟨g6, 0, none⟩ rfl rfl) ?_
     refine WO.V (run_load Ty.ag9 rfl ((hS7.cel_at 0 rfl 0).trans rfl)) ?_
     refine WO.call rfl rfl Ty.hd125 rfl (scmp_spec p.n q.n hS7) (fun v9 w8 pv9 => ?_)
     obtain ⟨rfl, hS8⟩ := pv9
     clear hS7
     refine WO.asg rfl rfl ?_
     refine WO.nil (NX.go (WP.ret (NX.thenRet (NX.blkRet (NX.thenRet (NX.thenRet (NX.blkRet (NX.thenRet ?_))))))))
     refine NX.done (l := [.tmp 4]) rfl rfl ?_
     exact ⟨congrArg (Value.int .i64) (by rw [drop_cons hp, drop_cons hq] at hgo; rw [← hgo, cmpF_name g30]), hS8.drop.drop⟩
    ·
     refine WP.skip (NX.go (WP.seq (WP.region rfl ?_)))
     refine WO.V (run_fa 1 ⟨g3, 1, none⟩ rfl rfl) ?_
     refine WO.V (run_load Ty.ag9 rfl ((hS7.cel_at 1 rfl 1).trans rfl)) ?_
     refine WO.V (run_fa 1 ⟨g6, 1, none⟩ rfl rfl) ?_
     refine WO.V (run_load Ty.ag9 rfl ((hS7.cel_at 0 rfl 1).trans rfl)) ?_
     refine WO.call rfl rfl Ty.hd125 rfl (scmp_spec p.v q.v hS7) (fun v11 w10 pv11 => ?_)
     obtain ⟨rfl, hS10⟩ := pv11
     clear hS7
     refine WO.asg rfl rfl ?_
     refine WO.nil (NX.go (WP.ret (NX.blkRet (NX.thenRet (NX.thenRet (NX.blkRet (NX.thenRet ?_)))))))
     refine NX.done (l := [.tmp 4]) rfl rfl ?_
     exact ⟨congrArg (Value.int .i64) (by rw [drop_cons hp, drop_cons hq] at hgo; rw [← hgo, cmpF_value (by simpa using g30) g25]), hS10.drop.drop⟩
 ·
  refine WP.exit (NX.thenExit (NX.thenExit ?_))
  refine NX.blkExit ?_
  refine NX.go (WP.seq (WP.seq (WP.region rfl ?_)))
  refine WO.mv rfl rfl ?_
  refine WO.V (run_len rfl Tryz.underlying65 rfl) ?_
  refine WO.mv rfl rfl ?_
  refine WO.V (run_len rfl Tryz.underlying65 rfl) ?_
  refine WO.V (run_lss rfl rfl) ?_
  refine WO.nil (NX.go ?_)
  refine WP.condP rfl (fun g46 => ?_) (fun g46 => ?_)
  ·
   refine WP.seq (WP.region rfl ?_)
   refine WO.asg rfl rfl ?_
   refine WO.nil (NX.go (WP.ret (NX.thenRet ?_)))
   refine NX.done (l := [.tmp 4]) rfl rfl ?_
   exact ⟨congrArg (Value.int .i64) (by rw [← hgo, cmpF_end (by omega), if_pos (by omega)]), hS1⟩
  ·
   refine WP.skip (NX.go (WP.seq (WP.region rfl ?_)))
   refine WO.asg rfl rfl ?_
   refine WO.nil (NX.go (WP.ret ?_))
   refine NX.done (l := [.tmp 4]) rfl rfl ?_
   exact ⟨congrArg (Value.int .i64) (by rw [← hgo, cmpF_end (by omega), if_neg (by omega)]), hS1⟩
theorem t82_4 : rtab .any (opsOf Tryz.f82 4) = (true, [([], []), ([], []), ([0, 1], [0, 1]), ([2], [2]), ([3], [3]), ([], []), ([], []), ([5, 6], [5, 6]), ([7], [7]), ([8], [8]), ([4, 9], [4, 9]), ([10], [10]), ([11], [11]), ([11], [11]), ([12, 13, 11], [11, 12, 13]), ([14, 11], [11, 14]), ([15, 11], [11, 15]), ([11], [11]), ([11], [11]), ([17, 18, 11], [11, 17, 18]), ([19, 11], [11, 19]), ([20, 11], [11, 20]), ([16, 21, 11], [11, 16, 21]), ([22, 11, 11], [11, 22]), ([23], [23]), ([23], [23]), ([24, 25, 23], [23, 24, 25]), ([26, 23], [23, 26]), ([27, 23], [23, 27]), ([23], [23]), ([23], [23]), ([29, 30, 23], [23, 29, 30]), ([31, 23], [23, 31]), ([32, 23], [23, 32]), ([28, 33, 23], [23, 28, 33]), ([23, 34, 11], [11, 23, 34]), ([11, 35], [11, 35]), ([36, 23], [36])]) := by kernel_rfl
theorem t82_6 : rtab .any (opsOf Tryz.f82 6) = (true, [([], []), ([], []), ([0, 1], [0, 1]), ([2], [2]), ([], []), ([], []), ([4, 5], [4, 5]), ([6], [6]), ([3, 7], [3, 7]), ([8], [8])]) := by kernel_rfl
theorem rcmp_spec {B w : World} {L : List HP} {X Y : HP} {a b : Option Addr} {cap cap2 : Nat} {l m : List Pr} (hX : ∀ {L : List HP} {w : World}, St B (X :: L) w → Rd w a l.length 2 (l.flatMap prc)) (hY : ∀ {L : List HP} {w : World}, St B (Y :: L) w → Rd w b m.length 2 (m.flatMap prc)) (hl : l.length ≤ 4398046511104) (hm : m.length ≤ 4398046511104) (hS : St B (X :: Y :: L) w) : Does Tryz.prog 82 [Value.slice a l.length cap, Value.slice b m.length cap2] w (fun v w1 => v = .int .i64 (cmpF l m) ∧ St B (X :: Y :: L) w1) := by
 refine enter (n := 78) Tryz.func82 rfl rfl [Value.slice a l.length cap, Value.slice b m.length cap2] rfl ?_
 refine WP.seq (WP.region rfl ?_)
 refine WO.asg rfl rfl ?_
 refine WO.nil (NX.go (WP.seq (WP.seq (WP.region rfl ?_))))
 refine WO.asg rfl rfl ?_
 refine WO.nil (NX.go (WP.block ?_))
 refine WP.loop (α := Nat) (fun x => match x with | i => [(0, Value.slice a l.length cap), (1, Value.slice b m.length cap2), (5, Value.int .i64 (i : Int))]) (fun x w => match x with | i => (i ≤ l.length ∧ i ≤ m.length ∧ cmpF (l.drop i) (m.drop i) = cmpF l m) ∧ St B (X :: Y :: L) w) (fun x => match x with | i => l.length - i) 0 ⟨⟨Nat.zero_le _, Nat.zero_le _, rfl⟩, hS⟩ (Sub.cons rfl (Sub.cons rfl (Sub.consE rfl (by first | rfl | first | rfl | (congr 1; omega) | (simp; done) | (simp; omega)) (Sub.nil _)))) ?_
 rintro i w1 ⟨⟨hi, hj, hgo⟩, hS1⟩
 clear hS
 refine WP.seq (WP.seq (WP.region rfl ?_))
 refine WO.mv rfl rfl ?_
 refine WO.mv rfl rfl ?_
 refine WO.V (run_len rfl Tryz.underlying65 rfl) ?_
 refine WO.V (run_lss rfl rfl) ?_
 refine WO.mv rfl rfl ?_
 refine dcase (p := (i : Int) < ((l.length : Nat) : Int)) (fun g10 d10 => ?_) (fun g10 d10 => ?_)
 ·
  refine WO.on rfl rfl d10 ?_
  refine WO.mv rfl rfl ?_
  refine WO.on rfl rfl d10 ?_
  refine WO.mv rfl rfl ?_
  refine WO.on rfl rfl d10 ?_
  refine WO.V (run_len rfl Tryz.underlying65 rfl) ?_
  refine WO.on rfl rfl d10 ?_
  refine WO.V (run_lss rfl rfl) ?_
  refine WO.V (run_pickT rfl d10 rfl) ?_
  refine WO.nil (NX.go ?_)
  refine WP.condP rfl (fun g15 => ?_) (fun g15 => ?_)
  ·
   refine WP.skip (NX.go (WP.seq (WP.block (WP.block (WP.seq ?_)))))
   obtain ⟨p, hp⟩ : ∃ p, l[i]? = some p := ⟨_, List.getElem?_eq_getElem (by omega)⟩
   obtain ⟨q, hq⟩ : ∃ q, m[i]? = some q := ⟨_, List.getElem?_eq_getElem (by omega)⟩
   have hsa : a.isSome = true := rd_isSome (hX hS1) (by omega)
   have hsb : b.isSome = true := rd_isSome (hY (hS1.focus 1 rfl)) (by omega)
   refine WD.start (fun w => Rd w a l.length 2 (l.flatMap prc) ∧ Rd w b m.length 2 (m.flatMap prc)) [] (bt 38 0) Ty.mo rfl (by kernel_rfl) hS1 (fun _ h => ⟨(hX (h.focus 0 rfl)), (hY (h.focus 1 rfl))⟩) (fun w2 hS2 s3 => ?_)
   clear hS1
   refine DP (i := 0) t82_4 (bt 38 1) rfl rfl rfl rfl (fun w => run_move rfl) ?_
   refine DP (i := 1) t82_4 (bt 38 3) rfl rfl rfl rfl (fun w => run_move rfl) ?_
   refine DT (i := 2) t82_4 (bt 38 7) s3 rfl rfl rfl rfl (fun w hs => run_indexAddr (q := adr a (i * 2)) Tryz.underlying65 Ty.sz105 rfl rfl (by omega) (by omega) ((hs.1).2.1 (by omega)) rfl) ?_
   refine DP (i := 3) t82_4 (bt 38 15) rfl rfl rfl rfl (fun w => run_fa 0 (adr a (i * 2 + 0)) rfl (adr_add _ (by assumption) _ _)) ?_
   refine DT (i := 4) t82_4 (bt 38 31) s3 rfl rfl rfl rfl (fun w hs => run_load Ty.ag9 rfl ((hs.1).cell ((flat_get prc_len hp (j := 0) (by decide)).trans rfl))) ?_
   refine DP (i := 5) t82_4 (bt 38 63) rfl rfl rfl rfl (fun w => run_move rfl) ?_
   refine DP (i := 6) t82_4 (bt 38 127) rfl rfl rfl rfl (fun w => run_move rfl) ?_
   refine DT (i := 7) t82_4 (bt 38 255) s3 rfl rfl rfl rfl (fun w hs => run_indexAddr (q := adr b (i * 2)) Tryz.underlying65 Ty.sz105 rfl rfl (by omega) (by omega) ((hs.2).2.1 (by omega)) rfl) ?_
   refine DP (i := 8) t82_4 (bt 38 511) rfl rfl rfl rfl (fun w => run_fa 0 (adr b (i * 2 + 0)) rfl (adr_add _ (by assumption) _ _)) ?_
   refine DT (i := 9) t82_4 (bt 38 1023) s3 rfl rfl rfl rfl (fun w hs => run_load Ty.ag9 rfl ((hs.2).cell ((flat_get prc_len hq (j := 0) (by decide)).trans rfl))) ?_
   refine DP (i := 10) t82_4 (bt 38 2047) rfl rfl rfl rfl (fun w => run_lssS rfl rfl) ?_
   refine DP (i := 11) t82_4 (bt 38 4095) rfl rfl rfl rfl (fun w => run_move rfl) ?_
   rcases Bool.eq_false_or_eq_true (strLt p.n q.n) with g30 | g30
   ·
    refine DO (i := 12) t82_4 (bt 38 8191) rfl rfl rfl g30 rfl ?_
    refine DO (i := 13) t82_4 (bt 38 16383) rfl rfl rfl g30 rfl ?_
    refine DO (i := 14) t82_4 (bt 38 32767) rfl rfl rfl g30 rfl ?_
    refine DO (i := 15) t82_4 (bt 38 65535) rfl rfl rfl g30 rfl ?_
    refine DO (i := 16) t82_4 (bt 38 131071) rfl rfl rfl g30 rfl ?_
    refine DO (i := 17) t82_4 (bt 38 262143) rfl rfl rfl g30 rfl ?_
    refine DO (i := 18) t82_4 (bt 38 524287) rfl rfl rfl g30 rfl ?_
    refine DO (i := 19) t82_4 (bt 38 1048575) rfl rfl rfl g30 rfl ?_
    refine DO (i := 20) t82_4 (bt 38 2097151) rfl rfl rfl g30 rfl ?_
    refine DO (i := 21) t82_4 (bt 38 4194303) rfl rfl rfl g30 rfl ?_
    refine DO (i := 22) t82_4 (bt 38 8388607) rfl rfl rfl g30 rfl ?_
    refine DO (i := 23) t82_4 (bt 38 16777215) rfl rfl rfl g30 rfl ?_
    refine DU (i := 24) t82_4 (bt 38 33554431) rfl rfl rfl rfl ?_
    refine DU (i := 25) t82_4 (bt 38 67108863) rfl rfl rfl rfl ?_
    refine DU (i := 26) t82_4 (bt 38 134217727) rfl rfl rfl rfl ?_
    refine DU (i := 27) t82_4 (bt 38 268435455) rfl rfl rfl rfl ?_
    refine DU (i := 28) t82_4 (bt 38 536870911) rfl rfl rfl rfl ?_
    refine DU (i := 29) t82_4 (bt 38 1073741823) rfl rfl rfl rfl ?_
    refine DU (i := 30) t82_4 (bt 38 2147483647) rfl rfl rfl rfl ?_
    refine DU (i := 31) t82_4 (bt 38 4294967295) rfl rfl rfl rfl ?_
    refine DU (i := 32) t82_4 (bt 38 8589934591) rfl rfl rfl rfl ?_
    refine DU (i := 33) t82_4 (bt 38 17179869183) rfl rfl rfl rfl ?_
    refine DU (i := 34) t82_4 (bt 38 34359738367) rfl rfl rfl rfl ?_
    refine DO (i := 35) t82_4 (bt 38 68719476735) rfl rfl rfl g30 rfl ?_
    refine DP (i := 36) t82_4 (bt 38 137438953471) rfl rfl rfl rfl (fun w => run_pickT rfl g30 rfl) ?_
    refine DP (i := 37) t82_4 (bt 38 274877906943) rfl rfl rfl rfl (fun w => run_assign rfl) ?_
    refine WD.done t82_4 (by kernel_rfl) ?_
    refine NX.go ?_
    refine WP.condT rfl rfl ?_
    refine WP.seq (WP.region rfl ?_)
    refine WO.asg rfl rfl ?_
    refine WO.nil (NX.go (WP.ret (NX.blkRet (NX.blkRet (NX.thenRet (NX.thenRet (NX.blkRet (NX.thenRet ?_))))))))
    refine NX.done (l := [.tmp 4]) rfl rfl ?_
    exact ⟨congrArg (Value.int .i64) (by rw [drop_cons hp, drop_cons hq] at hgo; rw [← hgo, cmpF_lt (by simp [ltP, g30])]), hS2⟩
   ·
    refine DPn (i := 12) t82_4 (bt 38 8191) rfl rfl rfl g30 rfl (fun w => run_move rfl) ?_
    refine DPn (i := 13) t82_4 (bt 38 16383) rfl rfl rfl g30 rfl (fun w => run_move rfl) ?_
    refine DTn (i := 14) t82_4 (bt 38 32767) s3 rfl rfl rfl g30 rfl (fun w hs => run_indexAddr (q := adr a (i * 2)) Tryz.underlying65 Ty.sz105 rfl rfl (by omega) (by omega) ((hs.1).2.1 (by omega)) rfl) ?_
    refine DPn (i := 15) t82_4 (bt 38 65535) rfl rfl rfl g30 rfl (fun w => run_fa 0 (adr a (i * 2 + 0)) rfl (adr_add _ (by assumption) _ _)) ?_
    refine DTn (i := 16) t82_4 (bt 38 131071) s3 rfl rfl rfl g30 rfl (fun w hs => run_load Ty.ag9 rfl ((hs.1).cell ((flat_get prc_len hp (j := 0) (by decide)).trans rfl))) ?_
    refine DPn (i := 17) t82_4 (bt 38 262143) rfl rfl rfl g30 rfl (fun w => run_move rfl) ?_
    refine DPn (i := 18) t82_4 (bt 38 524287) rfl rfl rfl g30 rfl (fun w => run_move rfl) ?_
    refine DTn (i := 19) t82_4 (bt 38 1048575) s3 rfl rfl rfl g30 rfl (fun w hs => run_indexAddr (q := adr b (i * 2)) Tryz.underlying65 Ty.sz105 rfl rfl (by omega) (by omega) ((hs.2).2.1 (by omega)) rfl) ?_
    refine DPn (i := 20) t82_4 (bt 38 2097151) rfl rfl rfl g30 rfl (fun w => run_fa 0 (adr b (i * 2 + 0)) rfl (adr_add _ (by assumption) _ _)) ?_
    refine DTn (i := 21) t82_4 (bt 38 4194303) s3 rfl rfl rfl g30 rfl (fun w hs => run_load Ty.ag9 rfl ((hs.2).cell ((flat_get prc_len hq (j := 0) (by decide)).trans rfl))) ?_
    refine DPn (i := 22) t82_4 (bt 38 8388607) rfl rfl rfl g30 rfl (fun w => run_eqlS rfl rfl) ?_
    refine DPn (i := 23) t82_4 (bt 38 16777215) rfl rfl rfl g30 rfl (fun w => run_move rfl) ?_
    refine dcase (p := p.n = q.n) (fun g42 d42 => ?_) (fun g42 d42 => ?_)
    ·
     refine DPn (i := 24) t82_4 (bt 38 33554431) rfl rfl rfl d42 rfl (fun w => run_move rfl) ?_
     refine DPn (i := 25) t82_4 (bt 38 67108863) rfl rfl rfl d42 rfl (fun w => run_move rfl) ?_
     refine DTn (i := 26) t82_4 (bt 38 134217727) s3 rfl rfl rfl d42 rfl (fun w hs => run_indexAddr (q := adr a (i * 2)) Tryz.underlying65 Ty.sz105 rfl rfl (by omega) (by omega) ((hs.1).2.1 (by omega)) rfl) ?_
     refine DPn (i := 27) t82_4 (bt 38 268435455) rfl rfl rfl d42 rfl (fun w => run_fa 1 (adr a (i * 2 + 1)) rfl (adr_add _ (by assumption) _ _)) ?_
     refine DTn (i := 28) t82_4 (bt 38 536870911) s3 rfl rfl rfl d42 rfl (fun w hs => run_load Ty.ag9 rfl ((hs.1).cell ((flat_get prc_len hp (j := 1) (by decide)).trans rfl))) ?_
     refine DPn (i := 29) t82_4 (bt 38 1073741823) rfl rfl rfl d42 rfl (fun w => run_move rfl) ?_
     refine DPn (i := 30) t82_4 (bt 38 2147483647) rfl rfl rfl d42 rfl (fun w => run_move rfl) ?_
     refine DTn (i := 31) t82_4 (bt 38 4294967295) s3 rfl rfl rfl d42 rfl (fun w hs => run_indexAddr (q := adr b (i * 2)) Tryz.underlying65 Ty.sz105 rfl rfl (by omega) (by omega) ((hs.2).2.1 (by omega)) rfl) ?_
     refine DPn (i := 32) t82_4 (bt 38 8589934591) rfl rfl rfl d42 rfl (fun w => run_fa 1 (adr b (i * 2 + 1)) rfl (adr_add _ (by assumption) _ _)) ?_
     refine DTn (i := 33) t82_4 (bt 38 17179869183) s3 rfl rfl rfl d42 rfl (fun w hs => run_load Ty.ag9 rfl ((hs.2).cell ((flat_get prc_len hq (j := 1) (by decide)).trans rfl))) ?_
     refine DPn (i := 34) t82_4 (bt 38 34359738367) rfl rfl rfl d42 rfl (fun w => run_lssS rfl rfl) ?_
     refine DPn (i := 35) t82_4 (bt 38 68719476735) rfl rfl rfl g30 rfl (fun w => run_pickT rfl d42 rfl) ?_
     refine DP (i := 36) t82_4 (bt 38 137438953471) rfl rfl rfl rfl (fun w => run_pickF rfl g30 rfl) ?_
     refine DP (i := 37) t82_4 (bt 38 274877906943) rfl rfl rfl rfl (fun w => run_assign rfl) ?_
     refine WD.done t82_4 (by kernel_rfl) ?_
     refine NX.go ?_
     refine WP.condB rfl (fun g18 => ?_) (fun g18 => ?_)
     ·
      refine WP.seq (WP.region rfl ?_)
      refine WO.asg rfl rfl ?_
      refine WO.nil (NX.go (WP.ret (NX.blkRet (NX.blkRet (NX.thenRet (NX.thenRet (NX.blkRet (NX.thenRet ?_))))))))
      refine NX.done (l := [.tmp 4]) rfl rfl ?_
      exact ⟨congrArg (Value.int .i64) (by rw [drop_cons hp, drop_cons hq] at hgo; rw [← hgo, cmpF_lt (by simp [ltP, g42, g18])]), hS2⟩
     ·
      refine WP.seq ?_
      refine WD.start (fun w => Rd w a l.length 2 (l.flatMap prc) ∧ Rd w b m.length 2 (m.flatMap prc)) [] (bt 10 0) Ty.mo rfl (by kernel_rfl) hS2 (fun _ h => ⟨(hX (h.focus 0 rfl)), (hY (h.focus 1 rfl))⟩) (fun w4 hS4 s5 => ?_)
      clear hS2
      refine DP (i := 0) t82_6 (bt 10 1) rfl rfl rfl rfl (fun w => run_move rfl) ?_
      refine DP (i := 1) t82_6 (bt 10 3) rfl rfl rfl rfl (fun w => run_move rfl) ?_
      refine DT (i := 2) t82_6 (bt 10 7) s5 rfl rfl rfl rfl (fun w hs => run_indexAddr (q := adr a (i * 2)) Tryz.underlying65 Ty.sz105 rfl rfl (by omega) (by omega) ((hs.1).2.1 (by omega)) rfl) ?_
      refine DT (i := 3) t82_6 (bt 10 15) s5 rfl rfl rfl rfl (fun w hs => run_loadAgg (vs := [str p.n, str p.v]) Ty.ag105 Ty.sz105 rfl ((hs.1).cells (by rw [flat_len prc_len]; omega) (flat_part prc_len hp)).1 ((hs.1).cells (by rw [flat_len prc_len]; omega) (flat_part prc_len hp)).2) ?_
      refine DP (i := 4) t82_6 (bt 10 31) rfl rfl rfl rfl (fun w => run_move rfl) ?_
      refine DP (i := 5) t82_6 (bt 10 63) rfl rfl rfl rfl (fun w => run_move rfl) ?_
      refine DT (i := 6) t82_6 (bt 10 127) s5 rfl rfl rfl rfl (fun w hs => run_indexAddr (q := adr b (i * 2)) Tryz.underlying65 Ty.sz105 rfl rfl (by omega) (by omega) ((hs.2).2.1 (by omega)) rfl) ?_
      refine DT (i := 7) t82_6 (bt 10 255) s5 rfl rfl rfl rfl (fun w hs => run_loadAgg (vs := [str q.n, str q.v]) Ty.ag105 Ty.sz105 rfl ((hs.2).cells (by rw [flat_len prc_len]; omega) (flat_part prc_len hq)).1 ((hs.2).cells (by rw [flat_len prc_len]; omega) (flat_part prc_len hq)).2) ?_
      refine DP (i := 8) t82_6 (bt 10 511) rfl rfl rfl rfl (fun w => run_neqPr p q rfl rfl) ?_
      refine DP (i := 9) t82_6 (bt 10 1023) rfl rfl rfl rfl (fun w => run_assign rfl) ?_
      refine WD.done t82_6 (by kernel_rfl) ?_
      refine NX.go ?_
      refine WP.condP rfl (fun g56 => ?_) (fun g56 => ?_)
      ·
       refine WP.seq (WP.region rfl ?_)
       refine WO.asg rfl rfl ?_
       refine WO.nil (NX.go (WP.ret (NX.blkRet (NX.blkRet (NX.thenRet (NX.thenRet (NX.blkRet (NX.thenRet ?_))))))))
       refine NX.done (l := [.tmp 4]) rfl rfl ?_
       exact ⟨congrArg (Value.int .i64) (by rw [drop_cons hp, drop_cons hq] at hgo; rw [← hgo, cmpF_gt (by simp [ltP, g30, g18]) g56]), hS4⟩
      ·
       refine WP.skip (NX.blk (NX.blk (NX.go (WP.region rfl ?_))))
       refine WO.mv rfl rfl ?_
       refine WO.V (run_add rfl rfl (IntWalk.i64_in _ (by omega))) ?_
       refine WO.asg rfl rfl ?_
       refine WO.nil ?_
       exact NX.again (i + 1) ⟨⟨by omega, by omega, by rw [drop_cons hp, drop_cons hq, cmpF_same (by simpa using g56)] at hgo; exact hgo⟩, hS4⟩ (by show l.length - (i + 1) < l.length - i; omega) (Sub.cons rfl (Sub.cons rfl (Sub.consE rfl (by congr 1) (Sub.nil _))))
    ·
     refine DO (i := 24) t82_4 (bt 38 33554431) rfl rfl rfl d42 rfl ?_
     refine DO (i := 25) t82_4 (bt 38 67108863) rfl rfl rfl d42 rfl ?_
     refine DO (i := 26) t82_4 (bt 38 134217727) rfl rfl rfl d42 rfl ?_
     refine DO (i := 27) t82_4 (bt 38 268435455) rfl rfl rfl d42 rfl ?_
     refine DO (i := 28) t82_4 (bt 38 536870911) rfl rfl rfl d42 rfl ?_
     refine DO (i := 29) t82_4 (bt 38 1073741823) rfl rfl rfl d42 rfl ?_
     refine DO (i := 30) t82_4 (bt 38 2147483647) rfl rfl rfl d42 rfl ?_
     refine DO (i := 31) t82_4 (bt 38 4294967295) rfl rfl rfl d42 rfl ?_
     refine DO (i := 32) t82_4 (bt 38 8589934591) rfl rfl rfl d42 rfl ?_
     refine DO (i := 33) t82_4 (bt 38 17179869183) rfl rfl rfl d42 rfl ?_
     refine DO (i := 34) t82_4 (bt 38 34359738367) rfl rfl rfl d42 rfl ?_
     refine DPn (i := 35) t82_4 (bt 38 68719476735) rfl rfl rfl g30 rfl (fun w => run_pickF rfl d42 rfl) ?_
     refine DP (i := 36) t82_4 (bt 38 137438953471) rfl rfl rfl rfl (fun w => run_pickF rfl g30 rfl) ?_
     refine DP (i := 37) t82_4 (bt 38 274877906943) rfl rfl rfl rfl (fun w => run_assign rfl) ?_
     refine WD.done t82_4 (by kernel_rfl) ?_
     refine NX.go ?_
     refine WP.condF rfl rfl ?_
     refine WP.seq ?_
     refine WD.start (fun w => Rd w a l.length 2 (l.flatMap prc) ∧ Rd w b m.length 2 (m.flatMap prc)) [] (bt 10 0) Ty.mo rfl (by kernel_rfl) hS2 (fun _ h => ⟨(hX (h.focus 0 rfl)), (hY (h.focus 1 rfl))⟩) (fun w6 hS6 s7 => ?_)
     clear hS2
     refine DP (i := 0) t82_6 (bt 10 1) rfl rfl rfl rfl (fun w => run_move rfl) ?_
     refine DP (i := 1) t82_6 (bt 10 3) rfl rfl rfl rfl (fun w => run_move rfl) ?_
     refine DT (i := 2) t82_6 (bt 10 7) s7 rfl rfl rfl rfl (fun w hs => run_indexAddr (q := adr a (i * 2)) Tryz.underlying65 Ty.sz105 rfl rfl (by omega) (by omega) ((hs.1).2.1 (by omega)) rfl) ?_
     refine DT (i := 3) t82_6 (bt 10 15) s7 rfl rfl rfl rfl (fun w hs => run_loadAgg (vs := [str p.n, str p.v]) Ty.ag105 Ty.sz105 rfl ((hs.1).cells (by rw [flat_len prc_len]; omega) (flat_part prc_len hp)).1 ((hs.1).cells (by rw [flat_len prc_len]; omega) (flat_part prc_len hp)).2) ?_
     refine DP (i := 4) t82_6 (bt 10 31) rfl rfl rfl rfl (fun w => run_move rfl) ?_
     refine DP (i := 5) t82_6 (bt 10 63) rfl rfl rfl rfl (fun w => run_move rfl) ?_
     refine DT (i := 6) t82_6 (bt 10 127) s7 rfl rfl rfl rfl (fun w hs => run_indexAddr (q := adr b (i * 2)) Tryz.underlying65 Ty.sz105 rfl rfl (by omega) (by omega) ((hs.2).2.1 (by omega)) rfl) ?_
     refine DT (i := 7) t82_6 (bt 10 255) s7 rfl rfl rfl rfl (fun w hs => run_loadAgg (vs := [str q.n, str q.v]) Ty.ag105 Ty.sz105 rfl ((hs.2).cells (by rw [flat_len prc_len]; omega) (flat_part prc_len hq)).1 ((hs.2).cells (by rw [flat_len prc_len]; omega) (flat_part prc_len hq)).2) ?_
     refine DP (i := 8) t82_6 (bt 10 511) rfl rfl rfl rfl (fun w => run_neqPr p q rfl rfl) ?_
     refine DP (i := 9) t82_6 (bt 10 1023) rfl rfl rfl rfl (fun w => run_assign rfl) ?_
     refine WD.done t82_6 (by kernel_rfl) ?_
     refine NX.go ?_
     refine WP.condP rfl (fun g56 => ?_) (fun g56 => ?_)
     ·
      refine WP.seq (WP.region rfl ?_)
      refine WO.asg rfl rfl ?_
      refine WO.nil (NX.go (WP.ret (NX.blkRet (NX.blkRet (NX.thenRet (NX.thenRet (NX.blkRet (NX.thenRet ?_))))))))
      refine NX.done (l := [.tmp 4]) rfl rfl ?_
      exact ⟨congrArg (Value.int .i64) (by rw [drop_cons hp, drop_cons hq] at hgo; rw [← hgo, cmpF_gt (by simp [ltP, g30, g42]) g56]), hS6⟩
     ·
      refine WP.skip (NX.blk (NX.blk (NX.go (WP.region rfl ?_))))
      refine WO.mv rfl rfl ?_
      refine WO.V (run_add rfl rfl (IntWalk.i64_in _ (by omega))) ?_
      refine WO.asg rfl rfl ?_
      refine WO.nil ?_
      exact NX.again (i + 1) ⟨⟨by omega, by omega, by rw [drop_cons hp, drop_cons hq, cmpF_same (by simpa using g56)] at hgo; exact hgo⟩, hS6⟩ (by show l.length - (i + 1) < l.length - i; omega) (Sub.cons rfl (Sub.cons rfl (Sub.consE rfl (by congr 1) (Sub.nil _))))
  ·
   refine WP.exit (NX.thenExit (NX.thenExit ?_))
   refine NX.blkExit ?_
   refine NX.go (WP.seq (WP.block (WP.seq (WP.region rfl ?_))))
   refine WO.mv rfl rfl ?_
   refine WO.V (run_len rfl Tryz.underlying65 rfl) ?_
   refine WO.mv rfl rfl ?_
   refine WO.V (run_len rfl Tryz.underlying65 rfl) ?_
   refine WO.V (run_lss rfl rfl) ?_
   refine WO.asg rfl rfl ?_
   refine WO.nil (NX.go ?_)
   refine WP.condP rfl (fun g66 => ?_) (fun g66 => ?_)
   ·
    refine WP.seq (WP.region rfl ?_)
    refine WO.asg rfl rfl ?_
    refine WO.nil (NX.go (WP.ret (NX.blkRet (NX.thenRet ?_))))
    refine NX.done (l := [.tmp 4]) rfl rfl ?_
    exact ⟨congrArg (Value.int .i64) (by rw [← hgo, cmpF_end (by omega), if_pos (by omega)]), hS1⟩
   ·
    refine WP.seq (WP.region rfl ?_)
    refine WO.mv rfl rfl ?_
    refine WO.V (run_len rfl Tryz.underlying65 rfl) ?_
    refine WO.mv rfl rfl ?_
    refine WO.V (run_len rfl Tryz.underlying65 rfl) ?_
    refine WO.V (run_gtr rfl rfl) ?_
    refine WO.asg rfl rfl ?_
    refine WO.nil (NX.go ?_)
    refine WP.condP rfl (fun g72 => ?_) (fun g72 => ?_)
    ·
     refine WP.seq (WP.region rfl ?_)
     refine WO.asg rfl rfl ?_
     refine WO.nil (NX.go (WP.ret (NX.blkRet (NX.thenRet ?_))))
     refine NX.done (l := [.tmp 4]) rfl rfl ?_
     exact ⟨congrArg (Value.int .i64) (by rw [← hgo, cmpF_endR (by omega), if_pos (by omega)]), hS1⟩
    ·
     refine WP.skip (NX.blk (NX.go (WP.seq (WP.region rfl ?_))))
     refine WO.asg rfl rfl ?_
     refine WO.nil (NX.go (WP.ret ?_))
     refine NX.done (l := [.tmp 4]) rfl rfl ?_
     exact ⟨congrArg (Value.int .i64) (by rw [← hgo, cmpF_end (by omega), if_neg (by omega)]), hS1⟩
 ·
  refine WO.off rfl rfl d10 rfl ?_
  refine WO.off rfl rfl d10 rfl ?_
  refine WO.off rfl rfl d10 rfl ?_
  refine WO.off rfl rfl d10 rfl ?_
  refine WO.V (run_pickF rfl d10 rfl) ?_
  refine WO.nil (NX.go ?_)
  refine WP.condF rfl rfl ?_
  refine WP.exit (NX.thenExit (NX.thenExit ?_))
  refine NX.blkExit ?_
  refine NX.go (WP.seq (WP.block (WP.seq (WP.region rfl ?_))))
  refine WO.mv rfl rfl ?_
  refine WO.V (run_len rfl Tryz.underlying65 rfl) ?_
  refine WO.mv rfl rfl ?_
  refine WO.V (run_len rfl Tryz.underlying65 rfl) ?_
  refine WO.V (run_lss rfl rfl) ?_
  refine WO.asg rfl rfl ?_
  refine WO.nil (NX.go ?_)
  refine WP.condP rfl (fun g66 => ?_) (fun g66 => ?_)
  ·
   refine WP.seq (WP.region rfl ?_)
   refine WO.asg rfl rfl ?_
   refine WO.nil (NX.go (WP.ret (NX.blkRet (NX.thenRet ?_))))
   refine NX.done (l := [.tmp 4]) rfl rfl ?_
   exact ⟨congrArg (Value.int .i64) (by rw [← hgo, cmpF_end (by omega), if_pos (by omega)]), hS1⟩
  ·
   refine WP.seq (WP.region rfl ?_)
   refine WO.mv rfl rfl ?_
   refine WO.V (run_len rfl Tryz.underlying65 rfl) ?_
   refine WO.mv rfl rfl ?_
   refine WO.V (run_len rfl Tryz.underlying65 rfl) ?_
   refine WO.V (run_gtr rfl rfl) ?_
   refine WO.asg rfl rfl ?_
   refine WO.nil (NX.go ?_)
   refine WP.condP rfl (fun g72 => ?_) (fun g72 => ?_)
   ·
    refine WP.seq (WP.region rfl ?_)
    refine WO.asg rfl rfl ?_
    refine WO.nil (NX.go (WP.ret (NX.blkRet (NX.thenRet ?_))))
    refine NX.done (l := [.tmp 4]) rfl rfl ?_
    exact ⟨congrArg (Value.int .i64) (by rw [← hgo, cmpF_endR (by omega), if_pos (by omega)]), hS1⟩
   ·
    refine WP.skip (NX.blk (NX.go (WP.seq (WP.region rfl ?_))))
    refine WO.asg rfl rfl ?_
    refine WO.nil (NX.go (WP.ret ?_))
    refine NX.done (l := [.tmp 4]) rfl rfl ?_
    exact ⟨congrArg (Value.int .i64) (by rw [← hgo, cmpF_end (by omega), if_neg (by omega)]), hS1⟩
theorem rsame_spec {B w : World} {L : List HP} {X Y : HP} {a b : Option Addr} {cap cap2 : Nat} {l m : List Pr} (hX : ∀ {L : List HP} {w : World}, St B (X :: L) w → Rd w a l.length 2 (l.flatMap prc)) (hY : ∀ {L : List HP} {w : World}, St B (Y :: L) w → Rd w b m.length 2 (m.flatMap prc)) (hl : l.length ≤ 4398046511104) (hm : m.length ≤ 4398046511104) (hS : St B (X :: Y :: L) w) : Does Tryz.prog 45 [Value.slice a l.length cap, Value.slice b m.length cap2] w (fun v w1 => v = .bool (decide (l = m)) ∧ St B (X :: Y :: L) w1) := by
 refine enter (n := 9) Tryz.func45 rfl rfl [Value.slice a l.length cap, Value.slice b m.length cap2] rfl ?_
 refine WP.seq (WP.region rfl ?_)
 refine WO.asg rfl rfl ?_
 refine WO.nil (NX.go (WP.seq (WP.region rfl ?_)))
 refine WO.mv rfl rfl ?_
 refine WO.mv rfl rfl ?_
 refine WO.call rfl rfl Ty.hd82 rfl (rcmp_spec hX hY hl hm hS) (fun v2 w1 pv2 => ?_)
 obtain ⟨rfl, hS1⟩ := pv2
 clear hS
 refine WO.V (run_eql rfl rfl) ?_
 refine WO.asg rfl rfl ?_
 refine WO.nil (NX.go (WP.ret ?_))
 refine NX.done (l := [.tmp 4]) rfl rfl ?_
 exact ⟨congrArg Value.bool (decide_eq_decide.2 ⟨cmp_zero, fun e => by rw [e, cmp_self]⟩), hS1⟩
theorem t51_6 : rtab .any (opsOf Tryz.f51 6) = (true, [([], []), ([], []), ([0, 1], [0, 1]), ([2], [2]), ([], []), ([], []), ([4, 5], [4, 5]), ([6], [6]), ([3, 7], [3, 7])]) := by kernel_rfl
theorem rpsame_spec {B w : World} {L : List HP} {X Y : HP} {a b : Option Addr} {cap cap2 : Nat} {l m : List Pt} (hX : ∀ {L : List HP} {w : World}, St B (X :: L) w → Rd w a l.length 2 (l.flatMap ptc)) (hY : ∀ {L : List HP} {w : World}, St B (Y :: L) w → Rd w b m.length 2 (m.flatMap ptc)) (hl : l.length ≤ 4398046511104) (hm : m.length ≤ 4398046511104) (hS : St B (X :: Y :: L) w) : Does Tryz.prog 51 [Value.slice a l.length cap, Value.slice b m.length cap2] w (fun v w1 => v = .bool (decide (l = m)) ∧ St B (X :: Y :: L) w1) := by
 refine enter (n := 26) Tryz.func51 rfl rfl [Value.slice a l.length cap, Value.slice b m.length cap2] rfl ?_
 refine WP.seq (WP.region rfl ?_)
 refine WO.asg rfl rfl ?_
 refine WO.nil (NX.go (WP.seq (WP.seq (WP.region rfl ?_))))
 refine WO.mv rfl rfl ?_
 refine WO.V (run_len rfl Tryz.underlying66 rfl) ?_
 refine WO.mv rfl rfl ?_
 refine WO.V (run_len rfl Tryz.underlying66 rfl) ?_
 refine WO.V (run_neq rfl rfl) ?_
 refine WO.nil (NX.go ?_)
 refine WP.condP rfl (fun g10 => ?_) (fun g10 => ?_)
 ·
  refine WP.seq (WP.region rfl ?_)
  refine WO.asg rfl rfl ?_
  refine WO.nil (NX.go (WP.ret (NX.thenRet ?_)))
  refine NX.done (l := [.tmp 4]) rfl rfl ?_
  exact ⟨congrArg Value.bool (decide_eq_false (fun e => by rw [e] at g10; omega)).symm, hS⟩
 ·
  refine WP.skip (NX.go (WP.seq (WP.seq (WP.region rfl ?_))))
  refine WO.asg rfl rfl ?_
  refine WO.nil (NX.go (WP.block ?_))
  refine WP.loop (α := Nat) (fun x => match x with | i => [(0, Value.slice a l.length cap), (1, Value.slice b m.length cap2), (5, Value.int .i64 (i : Int))]) (fun x w => match x with | i => (i ≤ l.length ∧ (l.drop i = m.drop i ↔ l = m)) ∧ St B (X :: Y :: L) w) (fun x => match x with | i => l.length - i) 0 ⟨⟨Nat.zero_le _, Iff.rfl⟩, hS⟩ (Sub.cons rfl (Sub.cons rfl (Sub.consE rfl (by first | rfl | first | rfl | (congr 1; omega) | (simp; done) | (simp; omega)) (Sub.nil _)))) ?_
  rintro i w1 ⟨⟨hi, hgo⟩, hS1⟩
  clear hS
  refine WP.seq (WP.seq (WP.region rfl ?_))
  refine WO.mv rfl rfl ?_
  refine WO.mv rfl rfl ?_
  refine WO.V (run_len rfl Tryz.underlying66 rfl) ?_
  refine WO.V (run_lss rfl rfl) ?_
  refine WO.nil (NX.go ?_)
  refine WP.condP rfl (fun g14 => ?_) (fun g14 => ?_)
  ·
   refine WP.skip (NX.go (WP.seq (WP.block (WP.seq ?_))))
   obtain ⟨p, hp⟩ : ∃ p, l[i]? = some p := ⟨_, List.getElem?_eq_getElem (by omega)⟩
   obtain ⟨q, hq⟩ : ∃ q, m[i]? = some q := ⟨_, List.getElem?_eq_getElem (by omega)⟩
   refine WD.start (fun w => Rd w a l.length 2 (l.flatMap ptc) ∧ Rd w b m.length 2 (m.flatMap ptc)) [] (bt 9 0) Ty.mo rfl (by kernel_rfl) hS1 (fun _ h => ⟨(hX (h.focus 0 rfl)), (hY (h.focus 1 rfl))⟩) (fun w2 hS2 s3 => ?_)
   clear hS1
   refine DP (i := 0) t51_6 (bt 9 1) rfl rfl rfl rfl (fun w => run_move rfl) ?_
   refine DP (i := 1) t51_6 (bt 9 3) rfl rfl rfl rfl (fun w => run_move rfl) ?_
   refine DT (i := 2) t51_6 (bt 9 7) s3 rfl rfl rfl rfl (fun w hs => run_indexAddr (q := adr a (i * 2)) Tryz.underlying66 Ty.sz103 rfl rfl (by omega) (by omega) ((hs.1).2.1 (by omega)) rfl) ?_
   refine DT (i := 3) t51_6 (bt 9 15) s3 rfl rfl rfl rfl (fun w hs => run_loadAgg (vs := [Value.int .i64 p.t, Value.int .u64 p.v]) Ty.ag103 Ty.sz103 rfl ((hs.1).cells (by rw [flat_len ptc_len]; omega) (flat_part ptc_len hp)).1 ((hs.1).cells (by rw [flat_len ptc_len]; omega) (flat_part ptc_len hp)).2) ?_
   refine DP (i := 4) t51_6 (bt 9 31) rfl rfl rfl rfl (fun w => run_move rfl) ?_
   refine DP (i := 5) t51_6 (bt 9 63) rfl rfl rfl rfl (fun w => run_move rfl) ?_
   refine DT (i := 6) t51_6 (bt 9 127) s3 rfl rfl rfl rfl (fun w hs => run_indexAddr (q := adr b (i * 2)) Tryz.underlying66 Ty.sz103 rfl rfl (by omega) (by omega) ((hs.2).2.1 (by omega)) rfl) ?_
   refine DT (i := 7) t51_6 (bt 9 255) s3 rfl rfl rfl rfl (fun w hs => run_loadAgg (vs := [Value.int .i64 q.t, Value.int .u64 q.v]) Ty.ag103 Ty.sz103 rfl ((hs.2).cells (by rw [flat_len ptc_len]; omega) (flat_part ptc_len hq)).1 ((hs.2).cells (by rw [flat_len ptc_len]; omega) (flat_part ptc_len hq)).2) ?_
   refine DP (i := 8) t51_6 (bt 9 511) rfl rfl rfl rfl (fun w => run_neqPt p q rfl rfl) ?_
   refine WD.done t51_6 (by kernel_rfl) ?_
   refine NX.go ?_
   refine WP.condP rfl (fun g25 => ?_) (fun g25 => ?_)
   ·
    refine WP.seq (WP.region rfl ?_)
    refine WO.asg rfl rfl ?_
    refine WO.nil (NX.go (WP.ret (NX.blkRet (NX.thenRet (NX.thenRet (NX.blkRet (NX.thenRet ?_)))))))
    refine NX.done (l := [.tmp 4]) rfl rfl ?_
    exact ⟨congrArg Value.bool (decide_eq_false (fun e => by rw [← hgo, drop_cons hp, drop_cons hq] at e; exact g25 (List.cons.inj e).1)).symm, hS2⟩
   ·
    refine WP.skip (NX.blk (NX.go (WP.region rfl ?_)))
    refine WO.mv rfl rfl ?_
    refine WO.V (run_add rfl rfl (IntWalk.i64_in _ (by omega))) ?_
    refine WO.asg rfl rfl ?_
    refine WO.nil ?_
    exact NX.again (i + 1) ⟨⟨by omega, by rw [drop_cons hp, drop_cons hq] at hgo; rw [← hgo]; have : p = q := (by simpa using g25); subst this; simp⟩, hS2⟩ (by show l.length - (i + 1) < l.length - i; omega) (Sub.cons rfl (Sub.cons rfl (Sub.consE rfl (by congr 1) (Sub.nil _))))
  ·
   refine WP.exit (NX.thenExit (NX.thenExit ?_))
   refine NX.blkExit ?_
   refine NX.go (WP.seq (WP.region rfl ?_))
   refine WO.asg rfl rfl ?_
   refine WO.nil (NX.go (WP.ret ?_))
   refine NX.done (l := [.tmp 4]) rfl rfl ?_
   exact ⟨congrArg Value.bool (decide_eq_true (hgo.1 (by rw [List.drop_of_length_le (by omega), List.drop_of_length_le (by omega)]))).symm, hS1⟩
end Go.Proofs.YtidoidoelgfnaaaGreatDoor.SL
