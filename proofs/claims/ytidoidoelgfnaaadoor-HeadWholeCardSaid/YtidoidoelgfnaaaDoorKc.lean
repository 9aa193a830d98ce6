/- Labels are compared, and points. -/
import Derived.Test.YtidoidoelgfnaaaDoorMgm
import Derived.Test.YtidoidoelgfnaaaDoorShelf
namespace Go.Proofs.YtidoidoelgfnaaaDoor.SL
open Go.RowKit Go.Proofs.YtidoidoelgfnaaaDoor
open Go.Proofs.YtidoidoelgfnaaaDoorW.PrintLast (rtab opsOf)
set_option linter.unusedVariables false
set_option linter.unusedSimpArgs false

def cmpS (a b : List UInt8) : Int := if strLt a b = true then -1 else if a = b then 0 else 1
theorem cmpS_eq : ∀ (a b : List UInt8), Lib.compareBytes a b = cmpS a b
  | [], [] => rfl
  | [], _ :: _ => rfl
  | _ :: _, [] => rfl
  | x :: a, y :: b => by
    have ih := cmpS_eq a b
    rw [Lib.compareBytes, ih]
    unfold cmpS
    have e : strLt (x :: a) (y :: b) = (decide (x < y) || (x == y && strLt a b)) := rfl
    rw [e]
    by_cases h1 : x < y
    · simp [h1]
    · by_cases h2 : y < x
      · have hne : x ≠ y := fun e => by rw [e] at h2; exact UInt8.lt_irrefl _ h2
        simp [h1, h2, hne]
      · have : x = y := by
          rw [UInt8.lt_iff_toNat_lt] at h1 h2
          exact UInt8.toNat_inj.1 (by omega)
        subst this
        simp [h1]
theorem cmpF_same {p q : Pr} (h : p = q) (a b : List Pr) : cmpF (p :: a) (q :: b) = cmpF a b := by subst h; rw [cmpF, if_neg (by rw [ltP_irr]; decide), if_pos rfl]
theorem cmpF_name {p q : Pr} (h : ¬ p.n = q.n) (a b : List Pr) : cmpF (p :: a) (q :: b) = cmpS p.n q.n := by
  have hne : ¬ p = q := fun e => h (by rw [e])
  have e : ltP p q = strLt p.n q.n := by simp [ltP, h]
  rw [cmpF, e, if_neg hne, cmpS, if_neg h]
theorem cmpF_value {p q : Pr} (h : p.n = q.n) (hne : ¬ p = q) (a b : List Pr) : cmpF (p :: a) (q :: b) = cmpS p.v q.v := by
  have hv : ¬ p.v = q.v := fun e => hne (by obtain ⟨x, y⟩ := p; obtain ⟨z, t⟩ := q; simp only at h e; rw [h, e])
  have e : ltP p q = strLt p.v q.v := by simp [ltP, h, sl_irr]
  rw [cmpF, e, if_neg hne, cmpS, if_neg hv]
theorem cmpF_end {l m : List Pr} {i : Nat} (h1 : l.length ≤ i) : cmpF (l.drop i) (m.drop i) = if i < m.length then -1 else 0 := by
  rw [List.drop_of_length_le h1]
  split
  · rename_i h; rw [List.drop_eq_getElem_cons h]; rfl
  · rw [List.drop_of_length_le (by omega)]; rfl
theorem eqIn_Pr (p q : Pr) (w : World) : (Op.equalIn 10000 53 (.agg #[str p.n, str p.v]) (.agg #[str q.n, str q.v])).run Tryd.prog w = .ok (decide (p = q)) w := by
  have u9 := Tryd.underlying9
  have a9 := Tryd.isAgg9
  have z9 := Tryd.sizeOf9
  have hS : Tryd.prog.underlying 53 = some (.struct (Tryd.prog.fieldsOf 53)) := by kernel_rfl
  have hp : Tryd.prog.stoodInHeld 53 = false := by kernel_rfl
  rw [show (10000 : Nat) = 9999 + 1 from rfl, run_equalIn_agg w 9999 53 _ _ hS hp]
  simp only [Program.fieldsOf, Tryd.underlying53]
  go_simp
  obtain ⟨n, v⟩ := p
  obtain ⟨n', v'⟩ := q
  by_cases h1 : n = n' <;> by_cases h2 : v = v' <;> simp [h1, h2, ByteArray.toList_eq]
theorem run_eqlPr {n : Nat} {D : List Deferred} {T : Tm} {w : World} {u : TypeId} {x y : Operand} {dst : Option Nat} {ty : TypeId} {pos : String} {aft : Array Edge} (p q : Pr) (hx : ev T x = some (.agg #[str p.n, str p.v])) (hy : ev T y = some (.agg #[str q.n, str q.v])) : Run Tryd.prog n D T w ⟨dst, .binOp .eql 53 x y u, ty, pos, aft, none⟩ (.bool (decide (p = q))) w := fun c f => by
  have hg : Tryd.prog.eqGuardType Tryd.prog.depth 53 = false := by kernel_rfl
  have h := eqIn_Pr p q w
  have h2 : (Op.equal 53 (.agg #[str p.n, str p.v]) (.agg #[str q.n, str q.v])).run Tryd.prog w = .ok (decide (p = q)) w := h
  simp [execOp, f.ev hx, f.ev hy, eqGuard, hg, binOp, h2]
theorem eqIn_Pt (p q : Pt) (w : World) : (Op.equalIn 10000 51 (.agg #[.int .i64 p.t, .int .u64 p.v]) (.agg #[.int .i64 q.t, .int .u64 q.v])).run Tryd.prog w = .ok (decide (p = q)) w := by
  have u2 := Tryd.underlying2
  have a2 := Tryd.isAgg2
  have z2 := Tryd.sizeOf2
  have u37 := Tryd.underlying37
  have a37 := Tryd.isAgg37
  have z37 := Tryd.sizeOf37
  have hS : Tryd.prog.underlying 51 = some (.struct (Tryd.prog.fieldsOf 51)) := by kernel_rfl
  have hp : Tryd.prog.stoodInHeld 51 = false := by kernel_rfl
  rw [show (10000 : Nat) = 9999 + 1 from rfl, run_equalIn_agg w 9999 51 _ _ hS hp]
  simp only [Program.fieldsOf, Tryd.underlying51]
  go_simp
  obtain ⟨n, v⟩ := p
  obtain ⟨n', v'⟩ := q
  by_cases h1 : n = n' <;> by_cases h2 : v = v' <;> simp [h1, h2, ByteArray.toList_eq]
theorem run_eqlPt {n : Nat} {D : List Deferred} {T : Tm} {w : World} {u : TypeId} {x y : Operand} {dst : Option Nat} {ty : TypeId} {pos : String} {aft : Array Edge} (p q : Pt) (hx : ev T x = some (.agg #[.int .i64 p.t, .int .u64 p.v])) (hy : ev T y = some (.agg #[.int .i64 q.t, .int .u64 q.v])) : Run Tryd.prog n D T w ⟨dst, .binOp .eql 51 x y u, ty, pos, aft, none⟩ (.bool (decide (p = q))) w := fun c f => by
  have hg : Tryd.prog.eqGuardType Tryd.prog.depth 51 = false := by kernel_rfl
  have h := eqIn_Pt p q w
  have h2 : (Op.equal 51 (.agg #[.int .i64 p.t, .int .u64 p.v]) (.agg #[.int .i64 q.t, .int .u64 q.v])).run Tryd.prog w = .ok (decide (p = q)) w := h
  simp [execOp, f.ev hx, f.ev hy, eqGuard, hg, binOp, h2]
theorem scmp_spec {B w : World} {L : List HP} (p q : List UInt8) (hS : St B L w) : Does Tryd.prog 49 [str p, str q] w (fun v w1 => v = .int .i64 (cmpS p q) ∧ St B L w1) := by
  refine (Tryd.strings_Compare (bs p) (bs q) w).mono ?_
  rintro e w' ⟨rfl, rfl⟩
  exact ⟨_, rfl, by rw [← cmpS_eq], hS⟩
theorem lcmp_spec {B w : World} {L : List HP} {X Y : HP} {a b : Option Addr} {cap cap2 : Nat} {l m : List Pr} (hX : ∀ {L : List HP} {w : World}, St B (X :: L) w → Rd w a l.length 2 (l.flatMap prc)) (hY : ∀ {L : List HP} {w : World}, St B (Y :: L) w → Rd w b m.length 2 (m.flatMap prc)) (hl : l.length ≤ 4398046511104) (hm : m.length ≤ 4398046511104) (hS : St B (X :: Y :: L) w) : Does Tryd.prog 34 [Value.slice a l.length cap, Value.slice b m.length cap2] w (fun v w1 => v = .int .i64 (cmpF l m) ∧ St B (X :: Y :: L) w1) := by
 refine enter (n := 47) Tryd.func34 rfl rfl [Value.slice a l.length cap, Value.slice b m.length cap2] rfl ?_
 refine WP.seq (WP.region rfl ?_)
 refine WO.asg rfl rfl ?_
 refine WO.nil (NX.go (WP.seq (WP.seq (WP.region rfl ?_))))
 refine WO.mv rfl rfl ?_
 refine WO.V (run_len rfl Tryd.underlying38 rfl) ?_
 refine WO.mv rfl rfl ?_
 refine WO.nil (NX.go (WP.block ?_))
 refine WP.loop (α := Nat) (fun x => match x with | i => [(0, Value.slice a l.length cap), (1, Value.slice b m.length cap2), (8, Value.slice a l.length cap), (9, Value.int .i64 ((l.length : Nat) : Int)), (10, Value.int .i64 (i : Int))]) (fun x w => match x with | i => (i ≤ l.length ∧ i ≤ m.length ∧ cmpF (l.drop i) (m.drop i) = cmpF l m) ∧ St B (X :: Y :: L) w) (fun x => match x with | i => l.length - i) 0 ⟨⟨Nat.zero_le _, Nat.zero_le _, rfl⟩, hS⟩ (Sub.cons rfl (Sub.cons rfl (Sub.cons rfl (Sub.cons rfl (Sub.consE rfl (by first | rfl | first | rfl | (congr 1; omega) | (simp; done) | (simp; omega)) (Sub.nil _)))))) ?_
 rintro i w1 ⟨⟨hi, hj, hgo⟩, hS1⟩
 clear hS
 refine WP.seq (WP.region rfl ?_)
 refine WO.V (run_lss rfl rfl) ?_
 refine WO.nil (NX.go (WP.seq ?_))
 refine WP.condP rfl (fun g11 => ?_) (fun g11 => ?_)
 ·
  refine WP.skip (NX.go (WP.seq (WP.block (WP.seq (WP.region rfl ?_)))))
  refine WO.mv rfl rfl ?_
  obtain ⟨p, hp⟩ : ∃ p, l[i]? = some p := ⟨_, List.getElem?_eq_getElem (by omega)⟩
  refine WO.V (run_indexAddr (q := adr a (i * 2)) Tryd.underlying38 Ty.sz53 rfl rfl (by omega) (by omega) ((hX (hS1.focus 0 rfl)).2.1 (by omega)) rfl) ?_
  refine WO.V (run_loadAgg (vs := [str p.n, str p.v]) Ty.ag53 Ty.sz53 rfl ((hX (hS1.focus 0 rfl)).cells (by rw [flat_len prc_len]; omega) (flat_part prc_len hp)).1 ((hX (hS1.focus 0 rfl)).cells (by rw [flat_len prc_len]; omega) (flat_part prc_len hp)).2) ?_
  refine WO.alloc (l := [str [], str []]) hS1 Ty.zr53 rfl rfl (fun g3 w2 lg3 hS2 => ?_)
  clear hS1
  refine WO.asg rfl rfl ?_
  refine WO.store (l' := [str p.n, str p.v]) 0 hS2 rfl Ty.sz53 rfl rfl rfl rfl rfl (Nat.le_of_ble_eq_true rfl) rfl (fun w4 (hS4 : St B (cel g3 [str p.n, str p.v] 53 :: X :: Y :: L) w4) => ?_)
  clear hS2
  refine WO.nil (NX.go (WP.seq (WP.seq (WP.region rfl ?_))))
  refine WO.mv rfl rfl ?_
  refine WO.mv rfl rfl ?_
  refine WO.V (run_len rfl Tryd.underlying38 rfl) ?_
  refine WO.V (run_eql rfl rfl) ?_
  refine WO.nil (NX.go ?_)
  refine WP.condP rfl (fun g18 => ?_) (fun g18 => ?_)
  ·
   refine WP.seq (WP.region rfl ?_)
   refine WO.asg rfl rfl ?_
   refine WO.nil (NX.go (WP.ret (NX.thenRet (NX.blkRet (NX.thenRet (NX.thenRet (NX.blkRet (NX.thenRet ?_))))))))
   refine NX.done (l := [.tmp 4]) rfl rfl ?_
   exact ⟨congrArg (Value.int .i64) (by rw [← hgo, drop_cons hp, List.drop_of_length_le (show m.length ≤ i by omega)]; rfl), hS4.drop⟩
  ·
   refine WP.skip (NX.go (WP.seq (WP.region rfl ?_)))
   refine WO.mv rfl rfl ?_
   refine WO.mv rfl rfl ?_
   obtain ⟨q, hq⟩ : ∃ q, m[i]? = some q := ⟨_, List.getElem?_eq_getElem (by omega)⟩
   refine WO.V (run_indexAddr (q := adr b (i * 2)) Tryd.underlying38 Ty.sz53 rfl rfl (by omega) (by omega) ((hY (hS4.focus 2 rfl)).2.1 (by omega)) rfl) ?_
   refine WO.V (run_loadAgg (vs := [str q.n, str q.v]) Ty.ag53 Ty.sz53 rfl ((hY (hS4.focus 2 rfl)).cells (by rw [flat_len prc_len]; omega) (flat_part prc_len hq)).1 ((hY (hS4.focus 2 rfl)).cells (by rw [flat_len prc_len]; omega) (flat_part prc_len hq)).2) ?_
   refine WO.alloc (l := [str [], str []]) hS4 Ty.zr53 rfl rfl (fun g6 w5 lg6 hS5 => ?_)
   clear hS4
   refine WO.store (l' := [str q.n, str q.v]) 0 hS5 rfl Ty.sz53 rfl rfl rfl rfl rfl (Nat.le_of_ble_eq_true rfl) rfl (fun w7 (hS7 : St B (cel g6 [str q.n, str q.v] 53 :: cel g3 [str p.n, str p.v] 53 :: X :: Y :: L) w7) => ?_)
   clear hS5
   refine WO.nil (NX.go (WP.seq (WP.seq (WP.region rfl ?_))))
   refine WO.V (run_loadAgg (vs := [str p.n, str p.v]) Ty.ag53 Ty.sz53 rfl rfl (cell_all (hS7.cel_at 1 rfl) 0 rfl)) ?_
   refine WO.V (run_loadAgg (vs := [str q.n, str q.v]) Ty.ag53 Ty.sz53 rfl rfl (cell_all (hS7.cel_at 0 rfl) 0 rfl)) ?_
   refine WO.V (run_eqlPr p q rfl rfl) ?_
   refine WO.nil (NX.go ?_)
   refine WP.condP rfl (fun g25 => ?_) (fun g25 => ?_)
   ·
    refine WP.exit (NX.thenExit ?_)
    refine NX.blkExit ?_
    refine NX.go (WP.region rfl ?_)
    refine WO.V (run_add rfl rfl (IntWalk.i64_in _ (by omega))) ?_
    refine WO.mv rfl rfl ?_
    refine WO.nil ?_
    exact NX.again (i + 1) ⟨⟨by omega, by omega, by rw [drop_cons hp, drop_cons hq, cmpF_same (by assumption)] at hgo; exact hgo⟩, hS7.drop.drop⟩ (by show l.length - (i + 1) < l.length - i; omega) (Sub.cons rfl (Sub.cons rfl (Sub.cons rfl (Sub.cons rfl (Sub.consE rfl (by congr 1) (Sub.nil _))))))
   ·
    refine WP.skip (NX.go (WP.seq (WP.seq (WP.region rfl ?_))))
    refine WO.V (run_fa 0 ⟨g3, 0, none⟩ rfl rfl) ?_
    refine WO.V (run_load Ty.ag9 rfl ((hS7.cel_at 1 rfl 0).trans rfl)) ?_
    refine WO.V (run_fa 0 ⟨g6, 0, none⟩ rfl rfl) ?_
    refine WO.V (run_load Ty.ag9 rfl ((hS7.cel_at 0 rfl 0).trans rfl)) ?_
    refine WO.V (run_neqS rfl rfl) ?_
    refine WO.nil (NX.go ?_)
    refine WP.condP rfl (fun g30 => ?_) (fun g30 => ?_)
    ·
     refine WP.seq (WP.region rfl ?_)
     refine WO.V (run_fa 0 ⟨g3, 0, none⟩ rfl rfl) ?_
     refine WO.V (run_load Ty.ag9 rfl ((hS7.cel_at 1 rfl 0).trans rfl)) ?_
     refine WO.V (run_fa 0 ⟨g6, 0, none⟩ rfl rfl) ?_
     refine WO.V (run_load Ty.ag9 rfl ((hS7.cel_at 0 rfl 0).trans rfl)) ?_
     refine WO.call rfl rfl Ty.hd49 rfl (scmp_spec p.n q.n hS7) (fun v9 w8 pv9 => ?_)
     obtain ⟨rfl, hS8⟩ := pv9
     clear hS7
     refine WO.asg rfl rfl ?_
     refine WO.nil (NX.go (WP.ret (NX.thenRet (NX.blkRet (NX.thenRet (NX.thenRet (NX.blkRet (NX.thenRet ?_))))))))
     refine NX.done (l := [.tmp 4]) rfl rfl ?_
     exact ⟨congrArg (Value.int .i64) (by rw [drop_cons hp, drop_cons hq] at hgo; rw [← hgo, cmpF_name g30]), hS8.drop.drop⟩
    ·
     refine WP.skip (NX.go (WP.seq (WP.region rfl ?_)))
     refine WO.V (run_fa 1 ⟨g3, 1, none⟩ rfl rfl) ?_
     refine WO.V (run_load Ty.ag9 rfl ((hS7.cel_at 1 rfl 1).trans rfl)) ?_
     refine WO.V (run_fa 1 ⟨g6, 1, none⟩ rfl rfl) ?_
     refine WO.V (run_load Ty.ag9 rfl ((hS7.cel_at 0 rfl 1).trans rfl)) ?_
     refine WO.call rfl rfl Ty.hd49 rfl (scmp_spec p.v q.v hS7) (fun v11 w10 pv11 => ?_)
     obtain ⟨rfl, hS10⟩ := pv11
     clear hS7
     refine WO.asg rfl rfl ?_
     refine WO.nil (NX.go (WP.ret (NX.blkRet (NX.thenRet (NX.thenRet (NX.blkRet (NX.thenRet ?_)))))))
     refine NX.done (l := [.tmp 4]) rfl rfl ?_
     exact ⟨congrArg (Value.int .i64) (by rw [drop_cons hp, drop_cons hq] at hgo; rw [← hgo, cmpF_value (by simpa using g30) g25]), hS10.drop.drop⟩
 ·
  refine WP.exit (NX.thenExit (NX.thenExit ?_))
  refine NX.blkExit ?_
  refine NX.go (WP.seq (WP.seq (WP.region rfl ?_)))
  refine WO.mv rfl rfl ?_
  refine WO.V (run_len rfl Tryd.underlying38 rfl) ?_
  refine WO.mv rfl rfl ?_
  refine WO.V (run_len rfl Tryd.underlying38 rfl) ?_
  refine WO.V (run_lss rfl rfl) ?_
  refine WO.nil (NX.go ?_)
  refine WP.condP rfl (fun g46 => ?_) (fun g46 => ?_)
  ·
   refine WP.seq (WP.region rfl ?_)
   refine WO.asg rfl rfl ?_
   refine WO.nil (NX.go (WP.ret (NX.thenRet ?_)))
   refine NX.done (l := [.tmp 4]) rfl rfl ?_
   exact ⟨congrArg (Value.int .i64) (by rw [← hgo, cmpF_end (by omega), if_pos (by omega)]), hS1⟩
  ·
   refine WP.skip (NX.go (WP.seq (WP.region rfl ?_)))
   refine WO.asg rfl rfl ?_
   refine WO.nil (NX.go (WP.ret ?_))
   refine NX.done (l := [.tmp 4]) rfl rfl ?_
   exact ⟨congrArg (Value.int .i64) (by rw [← hgo, cmpF_end (by omega), if_neg (by omega)]), hS1⟩
end Go.Proofs.YtidoidoelgfnaaaDoor.SL
