/- Labels: what is wrong with them; a value. -/
import Derived.Test.YtogidmceomlkeaaGreatDoorKl
namespace Go.Proofs.YtogidmceomlkeaaGreatDoor.SL
open Go.RowKit Go.Proofs.YtogidmceomlkeaaGreatDoor
open Go.Proofs.YtogidmceomlkeaaGreatDoorW.PrintLast (rtab opsOf)
set_option linter.unusedVariables false
set_option linter.unusedSimpArgs false

/-- A pair. -/
structure Pr where
  n : List UInt8
  v : List UInt8
deriving DecidableEq
def prc (p : Pr) : List Value := [str p.n, str p.v]
theorem prc_len (p : Pr) : (prc p).length = 2 := rfl
def gtS (a b : List UInt8) : Bool := !(strLt a b || decide (a = b))
def chkGo (last : List UInt8) : List Pr → Bool
  | [] => true
  | p :: l => nameF p.n && valueF p.v && gtS p.n last && chkGo p.n l
def chk (l : List Pr) : Bool := decide (1 ≤ l.length ∧ l.length ≤ 8) && chkGo [] l
def SzP (l : List Pr) : Prop := ∀ p ∈ l, p.n.length ≤ 140737488355328 ∧ p.v.length ≤ 140737488355328
theorem drop_cons {α : Type} {l : List α} {i : Nat} {x : α} (h : l[i]? = some x) : l.drop i = x :: l.drop (i + 1) := by
  obtain ⟨hi, e⟩ := List.getElem?_eq_some_iff.1 h
  rw [← e, List.drop_eq_getElem_cons hi]
def getV (nm : List UInt8) : List Pr → List UInt8
  | [] => []
  | p :: l => if p.n = nm then p.v else getV nm l
theorem gt_nil {s : List UInt8} (h : s ≠ []) : gtS s [] = true := by
  cases s with
  | nil => exact absurd rfl h
  | cons a s => rfl
theorem nameF_ne {s : List UInt8} (h : nameF s = true) : s ≠ [] := (of_decide_eq_true h).1
theorem lcheck_spec {B w : World} {L : List HP} {X : HP} {a : Option Addr} {cap : Nat} {l : List Pr} (hX : ∀ {L : List HP} {w : World}, St B (X :: L) w → Rd w a l.length 2 (l.flatMap prc)) (hb : SzP l) (hl : l.length ≤ 4398046511104) (hS : St B (X :: L) w) : Does Tryz.prog 49 [Value.slice a l.length cap] w (fun v w1 => v = .int .i64 (if chk l = true then 0 else 16) ∧ St B (X :: L) w1) := by
 refine enter (n := 43) Tryz.func49 rfl rfl [Value.slice a l.length cap] rfl ?_
 refine WP.seq ?_
 refine WP.region rfl ?_
 refine WO.val (run_assign rfl) rfl rfl rfl ?_
 refine WO.nil ?_
 refine NX.go ?_
 refine WP.seq ?_
 refine WP.meet (α := Bool) (fun x => match x with | ok0 => [(0, Value.slice a l.length cap), (3, Value.bool ok0)]) (fun x w => match x with | ok0 => (ok0 = decide (1 ≤ l.length ∧ l.length ≤ 8)) ∧ St B (X :: L) w) ?_ (fun K1 => ?_)
 ·
  rintro ok0 w2 ⟨hok0, hS2⟩
  clear hS
  refine NX.go ?_
  refine WP.seq ?_
  refine WP.region rfl ?_
  refine WO.val (run_assign rfl) rfl rfl rfl ?_
  refine WO.nil ?_
  refine NX.go ?_
  refine WP.seq ?_
  refine WP.seq ?_
  have hc0 : (ok0 && chkGo [] (l.drop 0)) = chk l := by rw [hok0]; rfl
  refine WP.region rfl ?_
  refine WO.val (run_move rfl) rfl rfl rfl ?_
  refine WO.val (run_len rfl Tryz.underlying29 rfl) rfl rfl rfl ?_
  refine WO.val (run_move rfl) rfl rfl rfl ?_
  refine WO.nil ?_
  refine NX.go ?_
  refine WP.block ?_
  refine WP.loop (α := Nat × Bool × List UInt8) (fun x => match x with | ⟨i, ok, last⟩ => [(0, Value.slice a l.length cap), (3, Value.bool ok), (4, str last), (15, Value.slice a l.length cap), (16, Value.int .i64 ((l.length : Nat) : Int)), (17, Value.int .i64 (i : Int))]) (fun x w => match x with | ⟨i, ok, last⟩ => (i ≤ l.length ∧ (ok && chkGo last (l.drop i)) = chk l) ∧ St B (X :: L) w) (fun x => match x with | ⟨i, ok, last⟩ => l.length - i) (0, ok0, []) ⟨⟨Nat.zero_le _, hc0⟩, hS2⟩ (Sub.cons rfl (Sub.consE rfl (by first | rfl | first | rfl | (congr 1; omega) | (simp; done) | (simp; omega)) (Sub.consE rfl (by first | rfl | first | rfl | (congr 1; omega) | (simp; done) | (simp; omega)) (Sub.cons rfl (Sub.cons rfl (Sub.consE rfl (by first | rfl | first | rfl | (congr 1; omega) | (simp; done) | (simp; omega)) (Sub.nil _))))))) ?_
  rintro ⟨i, ok, last⟩ w3 ⟨⟨hi, hgo⟩, hS3⟩
  clear hS2
  refine WP.seq ?_
  refine WP.region rfl ?_
  refine WO.val (run_lss rfl rfl) rfl rfl rfl ?_
  refine WO.nil ?_
  refine NX.go ?_
  refine WP.seq ?_
  refine WP.condP rfl (fun g18 => ?_) (fun g18 => ?_)
  ·
   refine WP.skip ?_
   refine NX.go ?_
   refine WP.seq ?_
   refine WP.block ?_
   refine WP.seq ?_
   refine WP.region rfl ?_
   obtain ⟨p, hp⟩ : ∃ p, l[i]? = some p := ⟨_, List.getElem?_eq_getElem (by omega)⟩
   refine WO.val (run_indexAddr (q := adr a (i * 2)) Tryz.underlying29 Ty.sz35 rfl rfl (by omega) (by omega) ((hX (hS3.focus 0 rfl)).2.1 (by omega)) rfl) rfl rfl rfl ?_
   refine WO.val (run_loadAgg (vs := [str p.n, str p.v]) Ty.ag35 Ty.sz35 rfl ((hX (hS3.focus 0 rfl)).cells (by rw [flat_len prc_len]; omega) (flat_part prc_len hp)).1 ((hX (hS3.focus 0 rfl)).cells (by rw [flat_len prc_len]; omega) (flat_part prc_len hp)).2) rfl rfl rfl ?_
   refine WO.alloc (l := [str [], str []]) hS3 Ty.zr35 rfl rfl (fun g5 w4 lg5 hS4 => ?_)
   clear hS3
   refine WO.store (l' := [str p.n, str p.v]) 0 hS4 rfl Ty.sz35 rfl rfl rfl rfl rfl (Nat.le_of_ble_eq_true rfl) rfl (fun w6 (hS6 : St B (cel g5 [str p.n, str p.v] 35 :: X :: L) w6) => ?_)
   clear hS4
   refine WO.nil ?_
   refine NX.go ?_
   refine WP.seq ?_
   refine WP.meet (α := Bool) (fun x => match x with | ok2 => [(0, Value.slice a l.length cap), (3, Value.bool ok2), (4, str last), (6, Value.pointer (some ⟨g5, 0, none⟩)), (15, Value.slice a l.length cap), (16, Value.int .i64 ((l.length : Nat) : Int)), (17, Value.int .i64 (i : Int))]) (fun x w => match x with | ok2 => (ok2 = (ok && (nameF p.n && (valueF p.v && gtS p.n last)))) ∧ St B (cel g5 [str p.n, str p.v] 35 :: X :: L) w) ?_ (fun K7 => ?_)
   ·
    rintro ok2 w8 ⟨hok2, hS8⟩
    clear hS6
    refine NX.go ?_
    refine WP.region rfl ?_
    refine WO.val (run_fieldAddr (q := ⟨g5, 0, none⟩) (show fieldB Tryz.prog 35 0 = some 0 from by kernel_rfl) rfl rfl) rfl rfl rfl ?_
    refine WO.val (run_load Ty.ag9 rfl ((hS8.cel_at 0 rfl 0).trans rfl)) rfl rfl rfl ?_
    refine WO.val (run_assign rfl) rfl rfl rfl ?_
    refine WO.nil ?_
    refine NX.blk ?_
    refine NX.go ?_
    refine WP.region rfl ?_
    refine WO.val (run_add rfl rfl (IntWalk.i64_in _ (by omega))) rfl rfl rfl ?_
    refine WO.val (run_move rfl) rfl rfl rfl ?_
    refine WO.nil ?_
    exact NX.again (i + 1, ok2, p.n) ⟨⟨by omega, by rw [drop_cons hp] at hgo; rw [← hgo, hok2, chkGo]; simp only [Bool.and_assoc]⟩, hS8.drop⟩ (by show l.length - (i + 1) < l.length - i; omega) (Sub.cons rfl (Sub.consE rfl (by first | rfl | (congr 1; omega) | (simp; done) | (simp; omega)) (Sub.consE rfl rfl (Sub.cons rfl (Sub.cons rfl (Sub.consE rfl (by congr 1) (Sub.nil _)))))))
   ·
    refine WP.region rfl ?_
    refine WO.val (run_move rfl) rfl rfl rfl ?_
    refine WO.val (run_move rfl) rfl rfl rfl ?_
    rcases Bool.eq_false_or_eq_true ok with g22 | g22
    ·
     refine WO.on rfl rfl g22 ?_
     refine WO.val (run_fieldAddr (q := ⟨g5, 0, none⟩) (show fieldB Tryz.prog 35 0 = some 0 from by kernel_rfl) rfl rfl) rfl rfl rfl ?_
     refine WO.on rfl rfl g22 ?_
     refine WO.val (run_load Ty.ag9 rfl ((hS6.cel_at 0 rfl 0).trans rfl)) rfl rfl rfl ?_
     refine WO.on rfl rfl g22 ?_
     refine WO.call rfl rfl Ty.hd68 rfl (lname_spec p.n (by have := hb p (List.mem_of_getElem? hp); omega) hS6) (fun v10 w9 pv10 => ?_)
     obtain ⟨rfl, hS9⟩ := pv10
     clear hS6
     refine WO.val (run_pickT rfl g22 rfl) rfl rfl rfl ?_
     refine WO.val (run_move rfl) rfl rfl rfl ?_
     rcases Bool.eq_false_or_eq_true (nameF p.n) with g27 | g27
     ·
      refine WO.on rfl rfl g27 ?_
      refine WO.val (run_fieldAddr (q := ⟨g5, 1, none⟩) (show fieldB Tryz.prog 35 1 = some 1 from by kernel_rfl) rfl rfl) rfl rfl rfl ?_
      refine WO.on rfl rfl g27 ?_
      refine WO.val (run_load Ty.ag9 rfl ((hS9.cel_at 0 rfl 1).trans rfl)) rfl rfl rfl ?_
      refine WO.on rfl rfl g27 ?_
      refine WO.call rfl rfl Ty.hd69 rfl (lvalue_spec p.v (by have := hb p (List.mem_of_getElem? hp); omega) hS9) (fun v12 w11 pv12 => ?_)
      obtain ⟨rfl, hS11⟩ := pv12
      clear hS9
      refine WO.val (run_pickT rfl g27 rfl) rfl rfl rfl ?_
      refine WO.val (run_move rfl) rfl rfl rfl ?_
      rcases Bool.eq_false_or_eq_true (valueF p.v) with g32 | g32
      ·
       refine WO.on rfl rfl g32 ?_
       refine WO.val (run_fieldAddr (q := ⟨g5, 0, none⟩) (show fieldB Tryz.prog 35 0 = some 0 from by kernel_rfl) rfl rfl) rfl rfl rfl ?_
       refine WO.on rfl rfl g32 ?_
       refine WO.val (run_load Ty.ag9 rfl ((hS11.cel_at 0 rfl 0).trans rfl)) rfl rfl rfl ?_
       refine WO.on rfl rfl g32 ?_
       refine WO.val (run_move rfl) rfl rfl rfl ?_
       refine WO.on rfl rfl g32 ?_
       refine WO.val (run_gtrS rfl rfl) rfl rfl rfl ?_
       refine WO.val (run_pickT rfl g32 rfl) rfl rfl rfl ?_
       refine WO.val (run_assign rfl) rfl rfl rfl ?_
       refine WO.nil ?_
       exact K7 (!(strLt p.n last || decide (p.n = last))) _ _ ⟨by simp [g18, g22, g27, g32, gtS], hS11⟩ (Sub.cons rfl (Sub.consE rfl (by first | rfl | first | rfl | (congr 1; omega) | (simp; done) | (simp; omega)) (Sub.cons rfl (Sub.cons rfl (Sub.cons rfl (Sub.cons rfl (Sub.cons rfl (Sub.nil _))))))))
      ·
       refine WO.off rfl rfl g32 rfl ?_
       refine WO.off rfl rfl g32 rfl ?_
       refine WO.off rfl rfl g32 rfl ?_
       refine WO.off rfl rfl g32 rfl ?_
       refine WO.val (run_pickF rfl g32 rfl) rfl rfl rfl ?_
       refine WO.val (run_assign rfl) rfl rfl rfl ?_
       refine WO.nil ?_
       exact K7 false _ _ ⟨by simp [g18, g22, g27, g32, gtS], hS11⟩ (Sub.cons rfl (Sub.consE rfl (by first | rfl | first | rfl | (congr 1; omega) | (simp; done) | (simp; omega)) (Sub.cons rfl (Sub.cons rfl (Sub.cons rfl (Sub.cons rfl (Sub.cons rfl (Sub.nil _))))))))
     ·
      refine WO.off rfl rfl g27 rfl ?_
      refine WO.off rfl rfl g27 rfl ?_
      refine WO.off rfl rfl g27 rfl ?_
      refine WO.val (run_pickF rfl g27 rfl) rfl rfl rfl ?_
      refine WO.val (run_move rfl) rfl rfl rfl ?_
      refine WO.off rfl rfl rfl rfl ?_
      refine WO.off rfl rfl rfl rfl ?_
      refine WO.off rfl rfl rfl rfl ?_
      refine WO.off rfl rfl rfl rfl ?_
      refine WO.val (run_pickF rfl rfl rfl) rfl rfl rfl ?_
      refine WO.val (run_assign rfl) rfl rfl rfl ?_
      refine WO.nil ?_
      exact K7 false _ _ ⟨by simp [g18, g22, g27, gtS], hS9⟩ (Sub.cons rfl (Sub.consE rfl (by first | rfl | first | rfl | (congr 1; omega) | (simp; done) | (simp; omega)) (Sub.cons rfl (Sub.cons rfl (Sub.cons rfl (Sub.cons rfl (Sub.cons rfl (Sub.nil _))))))))
    ·
     refine WO.off rfl rfl g22 rfl ?_
     refine WO.off rfl rfl g22 rfl ?_
     refine WO.off rfl rfl g22 rfl ?_
     refine WO.val (run_pickF rfl g22 rfl) rfl rfl rfl ?_
     refine WO.val (run_move rfl) rfl rfl rfl ?_
     refine WO.off rfl rfl rfl rfl ?_
     refine WO.off rfl rfl rfl rfl ?_
     refine WO.off rfl rfl rfl rfl ?_
     refine WO.val (run_pickF rfl rfl rfl) rfl rfl rfl ?_
     refine WO.val (run_move rfl) rfl rfl rfl ?_
     refine WO.off rfl rfl rfl rfl ?_
     refine WO.off rfl rfl rfl rfl ?_
     refine WO.off rfl rfl rfl rfl ?_
     refine WO.off rfl rfl rfl rfl ?_
     refine WO.val (run_pickF rfl rfl rfl) rfl rfl rfl ?_
     refine WO.val (run_assign rfl) rfl rfl rfl ?_
     refine WO.nil ?_
     exact K7 false _ _ ⟨by simp [g18, g22, gtS], hS6⟩ (Sub.cons rfl (Sub.consE rfl (by first | rfl | first | rfl | (congr 1; omega) | (simp; done) | (simp; omega)) (Sub.cons rfl (Sub.cons rfl (Sub.cons rfl (Sub.cons rfl (Sub.cons rfl (Sub.nil _))))))))
  ·
   refine WP.exit ?_
   refine NX.thenExit ?_
   refine NX.thenExit ?_
   refine NX.blkExit ?_
   refine NX.go ?_
   refine WP.seq ?_
   refine WP.seq ?_
   refine WP.region rfl ?_
   refine WO.val (run_move rfl) rfl rfl rfl ?_
   refine WO.val (run_not rfl rfl) rfl rfl rfl ?_
   refine WO.nil ?_
   refine NX.go ?_
   refine WP.condB rfl (fun g42 => ?_) (fun g42 => ?_)
   ·
    refine WP.seq ?_
    refine WP.region rfl ?_
    refine WO.val (run_assign rfl) rfl rfl rfl ?_
    refine WO.nil ?_
    refine NX.go ?_
    refine WP.ret ?_
    refine NX.thenRet ?_
    refine NX.done (l := [.tmp 2]) rfl rfl ?_
    have hfin : ok = chk l := by rw [← hgo, List.drop_of_length_le (by omega)]; simp [chkGo]
    exact ⟨congrArg (Value.int .i64) (by rw [← hfin]; simp at g42; rw [g42]; rfl), hS3⟩
   ·
    refine WP.skip ?_
    refine NX.go ?_
    refine WP.seq ?_
    refine WP.region rfl ?_
    refine WO.val (run_assign rfl) rfl rfl rfl ?_
    refine WO.nil ?_
    refine NX.go ?_
    refine WP.ret ?_
    refine NX.done (l := [.tmp 2]) rfl rfl ?_
    have hfin : ok = chk l := by rw [← hgo, List.drop_of_length_le (by omega)]; simp [chkGo]
    exact ⟨congrArg (Value.int .i64) (by rw [← hfin]; simp at g42; rw [g42]; rfl), hS3⟩
 ·
  refine WP.region rfl ?_
  refine WO.val (run_move rfl) rfl rfl rfl ?_
  refine WO.val (run_len rfl Tryz.underlying29 rfl) rfl rfl rfl ?_
  refine WO.val (run_geq rfl rfl) rfl rfl rfl ?_
  refine WO.val (run_move rfl) rfl rfl rfl ?_
  by_cases g10 : 1 ≤ ((l.length : Nat) : Int)
  ·
   refine WO.on rfl rfl (decide_eq_true g10) ?_
   refine WO.val (run_move rfl) rfl rfl rfl ?_
   refine WO.on rfl rfl (decide_eq_true g10) ?_
   refine WO.val (run_len rfl Tryz.underlying29 rfl) rfl rfl rfl ?_
   refine WO.on rfl rfl (decide_eq_true g10) ?_
   refine WO.val (run_leq rfl rfl) rfl rfl rfl ?_
   refine WO.val (run_pickT rfl (decide_eq_true g10) rfl) rfl rfl rfl ?_
   refine WO.val (run_assign rfl) rfl rfl rfl ?_
   refine WO.nil ?_
   exact K1 (decide (((l.length : Nat) : Int) ≤ 8)) _ _ ⟨decide_eq_decide.2 (by omega), hS⟩ (Sub.cons rfl (Sub.consE rfl (by first | rfl | first | rfl | (congr 1; omega) | (simp; done) | (simp; omega)) (Sub.nil _)))
  ·
   refine WO.off rfl rfl (decide_eq_false g10) rfl ?_
   refine WO.off rfl rfl (decide_eq_false g10) rfl ?_
   refine WO.off rfl rfl (decide_eq_false g10) rfl ?_
   refine WO.val (run_pickF rfl (decide_eq_false g10) rfl) rfl rfl rfl ?_
   refine WO.val (run_assign rfl) rfl rfl rfl ?_
   refine WO.nil ?_
   exact K1 false _ _ ⟨(decide_eq_false (by omega)).symm, hS⟩ (Sub.cons rfl (Sub.consE rfl (by first | rfl | first | rfl | (congr 1; omega) | (simp; done) | (simp; omega)) (Sub.nil _)))
theorem lget_spec {B w : World} {L : List HP} {X : HP} {a : Option Addr} {cap : Nat} {l : List Pr} (hX : ∀ {L : List HP} {w : World}, St B (X :: L) w → Rd w a l.length 2 (l.flatMap prc)) (hl : l.length ≤ 4398046511104) (nm : List UInt8) (hS : St B (X :: L) w) : Does Tryz.prog 28 [Value.slice a l.length cap, str nm] w (fun v w1 => v = str (getV nm l) ∧ St B (X :: L) w1) := by
 refine enter (n := 20) Tryz.func28 rfl rfl [Value.slice a l.length cap, str nm] rfl ?_
 refine WP.seq ?_
 refine WP.region rfl ?_
 refine WO.val (run_assign rfl) rfl rfl rfl ?_
 refine WO.nil ?_
 refine NX.go ?_
 refine WP.seq ?_
 refine WP.seq ?_
 refine WP.region rfl ?_
 refine WO.val (run_move rfl) rfl rfl rfl ?_
 refine WO.val (run_len rfl Tryz.underlying29 rfl) rfl rfl rfl ?_
 refine WO.val (run_move rfl) rfl rfl rfl ?_
 refine WO.nil ?_
 refine NX.go ?_
 refine WP.block ?_
 refine WP.loop (α := Nat) (fun x => match x with | i => [(0, Value.slice a l.length cap), (1, str nm), (7, Value.slice a l.length cap), (8, Value.int .i64 ((l.length : Nat) : Int)), (9, Value.int .i64 (i : Int))]) (fun x w => match x with | i => (i ≤ l.length ∧ getV nm (l.drop i) = getV nm l) ∧ St B (X :: L) w) (fun x => match x with | i => l.length - i) 0 ⟨⟨Nat.zero_le _, rfl⟩, hS⟩ (Sub.cons rfl (Sub.cons rfl (Sub.cons rfl (Sub.cons rfl (Sub.consE rfl (by first | rfl | first | rfl | (congr 1; omega) | (simp; done) | (simp; omega)) (Sub.nil _)))))) ?_
 rintro i w1 ⟨⟨hi, hgo⟩, hS1⟩
 clear hS
 refine WP.seq ?_
 refine WP.region rfl ?_
 refine WO.val (run_lss rfl rfl) rfl rfl rfl ?_
 refine WO.nil ?_
 refine NX.go ?_
 refine WP.seq ?_
 refine WP.condP rfl (fun g10 => ?_) (fun g10 => ?_)
 ·
  refine WP.skip ?_
  refine NX.go ?_
  refine WP.seq ?_
  refine WP.block ?_
  refine WP.seq ?_
  refine WP.region rfl ?_
  obtain ⟨p, hp⟩ : ∃ p, l[i]? = some p := ⟨_, List.getElem?_eq_getElem (by omega)⟩
  refine WO.val (run_indexAddr (q := adr a (i * 2)) Tryz.underlying29 Ty.sz35 rfl rfl (by omega) (by omega) ((hX (hS1.focus 0 rfl)).2.1 (by omega)) rfl) rfl rfl rfl ?_
  refine WO.val (run_loadAgg (vs := [str p.n, str p.v]) Ty.ag35 Ty.sz35 rfl ((hX (hS1.focus 0 rfl)).cells (by rw [flat_len prc_len]; omega) (flat_part prc_len hp)).1 ((hX (hS1.focus 0 rfl)).cells (by rw [flat_len prc_len]; omega) (flat_part prc_len hp)).2) rfl rfl rfl ?_
  refine WO.alloc (l := [str [], str []]) hS1 Ty.zr35 rfl rfl (fun g3 w2 lg3 hS2 => ?_)
  clear hS1
  refine WO.store (l' := [str p.n, str p.v]) 0 hS2 rfl Ty.sz35 rfl rfl rfl rfl rfl (Nat.le_of_ble_eq_true rfl) rfl (fun w4 (hS4 : St B (cel g3 [str p.n, str p.v] 35 :: X :: L) w4) => ?_)
  clear hS2
  refine WO.nil ?_
  refine NX.go ?_
  refine WP.seq ?_
  refine WP.region rfl ?_
  refine WO.val (run_fieldAddr (q := ⟨g3, 0, none⟩) (show fieldB Tryz.prog 35 0 = some 0 from by kernel_rfl) rfl rfl) rfl rfl rfl ?_
  refine WO.val (run_load Ty.ag9 rfl ((hS4.cel_at 0 rfl 0).trans rfl)) rfl rfl rfl ?_
  refine WO.val (run_move rfl) rfl rfl rfl ?_
  refine WO.val (run_eqlS rfl rfl) rfl rfl rfl ?_
  refine WO.nil ?_
  refine NX.go ?_
  refine WP.condP rfl (fun g16 => ?_) (fun g16 => ?_)
  ·
   refine WP.seq ?_
   refine WP.region rfl ?_
   refine WO.val (run_fieldAddr (q := ⟨g3, 1, none⟩) (show fieldB Tryz.prog 35 1 = some 1 from by kernel_rfl) rfl rfl) rfl rfl rfl ?_
   refine WO.val (run_load Ty.ag9 rfl ((hS4.cel_at 0 rfl 1).trans rfl)) rfl rfl rfl ?_
   refine WO.val (run_assign rfl) rfl rfl rfl ?_
   refine WO.nil ?_
   refine NX.go ?_
   refine WP.ret ?_
   refine NX.blkRet ?_
   refine NX.thenRet ?_
   refine NX.thenRet ?_
   refine NX.blkRet ?_
   refine NX.thenRet ?_
   refine NX.done (l := [.tmp 4]) rfl rfl ?_
   refine ⟨congrArg str ?_, hS4.drop⟩
   rw [drop_cons hp] at hgo
   rw [← hgo, getV, if_pos (by assumption)]
  ·
   refine WP.skip ?_
   refine NX.blk ?_
   refine NX.go ?_
   refine WP.region rfl ?_
   refine WO.val (run_add rfl rfl (IntWalk.i64_in _ (by omega))) rfl rfl rfl ?_
   refine WO.val (run_move rfl) rfl rfl rfl ?_
   refine WO.nil ?_
   exact NX.again (i + 1) ⟨⟨by omega, by rw [drop_cons hp] at hgo; rw [← hgo, getV, if_neg (by assumption)]⟩, hS4.drop⟩ (by show l.length - (i + 1) < l.length - i; omega) (Sub.cons rfl (Sub.cons rfl (Sub.cons rfl (Sub.cons rfl (Sub.consE rfl (by congr 1) (Sub.nil _))))))
 ·
  refine WP.exit ?_
  refine NX.thenExit ?_
  refine NX.thenExit ?_
  refine NX.blkExit ?_
  refine NX.go ?_
  refine WP.seq ?_
  refine WP.region rfl ?_
  refine WO.val (run_assign rfl) rfl rfl rfl ?_
  refine WO.nil ?_
  refine NX.go ?_
  refine WP.ret ?_
  refine NX.done (l := [.tmp 4]) rfl rfl ?_
  exact ⟨congrArg str (by rw [← hgo, List.drop_of_length_le (by omega)]; rfl), hS1⟩
end Go.Proofs.YtogidmceomlkeaaGreatDoor.SL
