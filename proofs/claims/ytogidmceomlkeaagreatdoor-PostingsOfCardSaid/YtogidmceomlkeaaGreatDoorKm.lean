/- Matchers. -/
import Derived.Test.YtogidmceomlkeaaGreatDoorKl2
namespace Go.Proofs.YtogidmceomlkeaaGreatDoor.SL
open Go.RowKit Go.Proofs.YtogidmceomlkeaaGreatDoor
open Go.Proofs.YtogidmceomlkeaaGreatDoorW.PrintLast (rtab opsOf)
set_option linter.unusedVariables false
set_option linter.unusedSimpArgs false

/-- A matcher. -/
structure Mt where
  k : Int
  n : List UInt8
  v : List UInt8
def mtc (m : Mt) : List Value := [.int .i64 m.k, str m.n, str m.v]
theorem mtc_len (m : Mt) : (mtc m).length = 3 := rfl
def rightF (m : Mt) : Int := if m.k < 1 ∨ 4 < m.k then 5 else if nameF m.n = false ∨ (¬ m.v = [] ∧ valueF m.v = false) ∨ (m.k = 4 ∧ ¬ m.v = []) then 3 else 0
def mgo : List Mt → Int
  | [] => 0
  | m :: l => if ¬ rightF m = 0 then rightF m else mgo l
def mchk (l : List Mt) : Int := if 8 < l.length then 8 else mgo l
def hold (m : Mt) (v : List UInt8) : Bool := if m.k = 1 then decide (v = m.v) else if m.k = 2 then decide (¬ v = m.v) else if m.k = 3 then decide (m.v.length ≤ v.length ∧ v.take m.v.length = m.v) else decide (¬ v = [])
def isF (l : List Mt) (ps : List Pr) : Bool := decide (mchk l = 0) && l.all fun m => hold m (getV m.n ps)
def SzM (l : List Mt) : Prop := ∀ m ∈ l, m.n.length ≤ 140737488355328 ∧ m.v.length ≤ 140737488355328
theorem pre_iff (p s : List UInt8) : p.isPrefixOf s = decide (p.length ≤ s.length ∧ s.take p.length = p) := by
  apply Bool.eq_iff_iff.2
  rw [List.isPrefixOf_iff_prefix, decide_eq_true_iff]
  constructor
  · rintro ⟨t, rfl⟩; simp
  · rintro ⟨h1, h2⟩; exact ⟨s.drop p.length, by rw [← h2, List.length_take, Nat.min_eq_left h1, List.take_append_drop]⟩
theorem right_5 {m : Mt} (h : m.k < 1 ∨ 4 < m.k) : rightF m = 5 := by unfold rightF; rw [if_pos h]
theorem right_3 {m : Mt} (h : ¬ (m.k < 1 ∨ 4 < m.k)) (h2 : nameF m.n = false ∨ (¬ m.v = [] ∧ valueF m.v = false) ∨ (m.k = 4 ∧ ¬ m.v = [])) : rightF m = 3 := by unfold rightF; rw [if_neg h, if_pos h2]
theorem right_0 {m : Mt} (h : ¬ (m.k < 1 ∨ 4 < m.k)) (h2 : ¬ (nameF m.n = false ∨ (¬ m.v = [] ∧ valueF m.v = false) ∨ (m.k = 4 ∧ ¬ m.v = []))) : rightF m = 0 := by unfold rightF; rw [if_neg h, if_neg h2]

theorem rd_isSome {w : World} {a : Option Addr} {n k : Nat} {l : List Value} (h : Rd w a n k l) (hn : 0 < n) : a.isSome = true := by obtain ⟨p, e, _⟩ := h.2.1 hn; rw [e]; rfl
theorem rget_spec {B w : World} {L : List HP} {X : HP} {a : Option Addr} {cap : Nat} {l : List Pr} (hX : ∀ {L : List HP} {w : World}, St B (X :: L) w → Rd w a l.length 2 (l.flatMap prc)) (hl : l.length ≤ 4398046511104) (nm : List UInt8) (hS : St B (X :: L) w) : Does Tryz.prog 42 [Value.slice a l.length cap, str nm] w (fun v w1 => v = str (getV nm l) ∧ St B (X :: L) w1) := by
 refine enter (n := 24) Tryz.func42 rfl rfl [Value.slice a l.length cap, str nm] rfl ?_
 refine WP.seq ?_
 refine WP.region rfl ?_
 refine WO.val (run_assign rfl) rfl rfl rfl ?_
 refine WO.nil ?_
 refine NX.go ?_
 refine WP.seq ?_
 refine WP.seq ?_
 refine WP.region rfl ?_
 refine WO.val (run_assign rfl) rfl rfl rfl ?_
 refine WO.nil ?_
 refine NX.go ?_
 refine WP.block ?_
 refine WP.loop (α := Nat) (fun x => match x with | i => [(0, Value.slice a l.length cap), (1, str nm), (5, Value.int .i64 (i : Int))]) (fun x w => match x with | i => (i ≤ l.length ∧ getV nm (l.drop i) = getV nm l) ∧ St B (X :: L) w) (fun x => match x with | i => l.length - i) 0 ⟨⟨Nat.zero_le _, rfl⟩, hS⟩ (Sub.cons rfl (Sub.cons rfl (Sub.consE rfl (by first | rfl | first | rfl | (congr 1; omega) | (simp; done) | (simp; omega)) (Sub.nil _)))) ?_
 rintro i w1 ⟨⟨hi, hgo⟩, hS1⟩
 clear hS
 refine WP.seq ?_
 refine WP.seq ?_
 refine WP.region rfl ?_
 refine WO.val (run_move rfl) rfl rfl rfl ?_
 refine WO.val (run_move rfl) rfl rfl rfl ?_
 refine WO.val (run_len rfl Tryz.underlying29 rfl) rfl rfl rfl ?_
 refine WO.val (run_lss rfl rfl) rfl rfl rfl ?_
 refine WO.nil ?_
 refine NX.go ?_
 refine WP.condP rfl (fun g9 => ?_) (fun g9 => ?_)
 ·
  refine WP.skip ?_
  refine NX.go ?_
  refine WP.seq ?_
  refine WP.block ?_
  refine WP.seq ?_
  refine WP.region rfl ?_
  refine WO.val (run_move rfl) rfl rfl rfl ?_
  refine WO.val (run_move rfl) rfl rfl rfl ?_
  obtain ⟨p, hp⟩ : ∃ p, l[i]? = some p := ⟨_, List.getElem?_eq_getElem (by omega)⟩
  have hsa : a.isSome = true := rd_isSome (hX hS1) (by omega)
  refine WO.val (run_indexAddr (q := adr a (i * 2)) Tryz.underlying29 Ty.sz35 rfl rfl (by omega) (by omega) ((hX (hS1.focus 0 rfl)).2.1 (by omega)) rfl) rfl rfl rfl ?_
  refine WO.val (run_fieldAddr (q := (adr a (i * 2 + 0))) (show fieldB Tryz.prog 35 0 = some 0 from by kernel_rfl) rfl (adr_add _ (by assumption) _ _)) rfl rfl rfl ?_
  refine WO.val (run_load Ty.ag9 rfl ((hX (hS1.focus 0 rfl)).cell ((flat_get prc_len hp (j := 0) (by decide)).trans rfl))) rfl rfl rfl ?_
  refine WO.val (run_move rfl) rfl rfl rfl ?_
  refine WO.val (run_eqlS rfl rfl) rfl rfl rfl ?_
  refine WO.nil ?_
  refine NX.go ?_
  refine WP.condP rfl (fun g18 => ?_) (fun g18 => ?_)
  ·
   refine WP.seq ?_
   refine WP.region rfl ?_
   refine WO.val (run_move rfl) rfl rfl rfl ?_
   refine WO.val (run_move rfl) rfl rfl rfl ?_
   refine WO.val (run_indexAddr (q := adr a (i * 2)) Tryz.underlying29 Ty.sz35 rfl rfl (by omega) (by omega) ((hX (hS1.focus 0 rfl)).2.1 (by omega)) rfl) rfl rfl rfl ?_
   refine WO.val (run_fieldAddr (q := (adr a (i * 2 + 1))) (show fieldB Tryz.prog 35 1 = some 1 from by kernel_rfl) rfl (adr_add _ (by assumption) _ _)) rfl rfl rfl ?_
   refine WO.val (run_load Ty.ag9 rfl ((hX (hS1.focus 0 rfl)).cell ((flat_get prc_len hp (j := 1) (by decide)).trans rfl))) rfl rfl rfl ?_
   refine WO.val (run_assign rfl) rfl rfl rfl ?_
   refine WO.nil ?_
   refine NX.go ?_
   refine WP.ret ?_
   refine NX.blkRet ?_
   refine NX.thenRet ?_
   refine NX.thenRet ?_
   refine NX.blkRet ?_
   refine NX.thenRet ?_
   refine NX.done (l := [.tmp 4]) rfl rfl ?_
   refine ⟨congrArg str ?_, hS1⟩
   rw [drop_cons hp] at hgo
   rw [← hgo, getV, if_pos (by assumption)]
  ·
   refine WP.skip ?_
   refine NX.blk ?_
   refine NX.go ?_
   refine WP.region rfl ?_
   refine WO.val (run_move rfl) rfl rfl rfl ?_
   refine WO.val (run_add rfl rfl (IntWalk.i64_in _ (by omega))) rfl rfl rfl ?_
   refine WO.val (run_assign rfl) rfl rfl rfl ?_
   refine WO.nil ?_
   exact NX.again (i + 1) ⟨⟨by omega, by rw [drop_cons hp] at hgo; rw [← hgo, getV, if_neg (by assumption)]⟩, hS1⟩ (by show l.length - (i + 1) < l.length - i; omega) (Sub.cons rfl (Sub.cons rfl (Sub.consE rfl (by congr 1) (Sub.nil _))))
 ·
  refine WP.exit ?_
  refine NX.thenExit ?_
  refine NX.thenExit ?_
  refine NX.blkExit ?_
  refine NX.go ?_
  refine WP.seq ?_
  refine WP.region rfl ?_
  refine WO.val (run_assign rfl) rfl rfl rfl ?_
  refine WO.nil ?_
  refine NX.go ?_
  refine WP.ret ?_
  refine NX.done (l := [.tmp 4]) rfl rfl ?_
  exact ⟨congrArg str (by rw [← hgo, List.drop_of_length_le (by omega)]; rfl), hS1⟩
theorem rright_spec {B w : World} {L : List HP} (m : Mt) (h1 : m.n.length ≤ 140737488355328 ∧ m.v.length ≤ 140737488355328) (hS : St B L w) : Does Tryz.prog 41 [Value.agg #[Value.int .i64 m.k, str m.n, str m.v]] w (fun v w1 => v = .int .i64 (rightF m) ∧ St B L w1) := by
 refine enter (n := 36) Tryz.func41 rfl rfl [Value.agg #[Value.int .i64 m.k, str m.n, str m.v]] rfl ?_
 refine WP.seq ?_
 refine WP.region rfl ?_
 refine WO.box (l := [Value.int .i64 m.k, str m.n, str m.v]) hS rfl rfl rfl (fun g2 w1 lg2 hS1 => ?_)
 clear hS
 refine WO.val (run_assign rfl) rfl rfl rfl ?_
 refine WO.nil ?_
 refine NX.go ?_
 refine WP.seq ?_
 refine WP.seq ?_
 refine WP.region rfl ?_
 refine WO.val (run_fieldAddr (q := ⟨g2, 0, none⟩) (show fieldB Tryz.prog 37 0 = some 0 from by kernel_rfl) rfl rfl) rfl rfl rfl ?_
 refine WO.val (run_load Ty.ag3 rfl ((hS1.cel_at 0 rfl 0).trans rfl)) rfl rfl rfl ?_
 refine WO.val (run_lss rfl rfl) rfl rfl rfl ?_
 refine WO.val (run_move rfl) rfl rfl rfl ?_
 by_cases g6 : m.k < 1
 ·
  refine WO.off rfl rfl (decide_eq_true g6) rfl ?_
  refine WO.off rfl rfl (decide_eq_true g6) rfl ?_
  refine WO.off rfl rfl (decide_eq_true g6) rfl ?_
  refine WO.val (run_pickT rfl (decide_eq_true g6) rfl) rfl rfl rfl ?_
  refine WO.nil ?_
  refine NX.go ?_
  refine WP.condT rfl rfl ?_
  refine WP.seq ?_
  refine WP.region rfl ?_
  refine WO.val (run_assign rfl) rfl rfl rfl ?_
  refine WO.nil ?_
  refine NX.go ?_
  refine WP.ret ?_
  refine NX.thenRet ?_
  refine NX.done (l := [.tmp 2]) rfl rfl ?_
  exact ⟨congrArg (Value.int .i64) (right_5 (by omega)).symm, hS1.drop⟩
 ·
  refine WO.on rfl rfl (decide_eq_false g6) ?_
  refine WO.val (run_fieldAddr (q := ⟨g2, 0, none⟩) (show fieldB Tryz.prog 37 0 = some 0 from by kernel_rfl) rfl rfl) rfl rfl rfl ?_
  refine WO.on rfl rfl (decide_eq_false g6) ?_
  refine WO.val (run_load Ty.ag3 rfl ((hS1.cel_at 0 rfl 0).trans rfl)) rfl rfl rfl ?_
  refine WO.on rfl rfl (decide_eq_false g6) ?_
  refine WO.val (run_gtr rfl rfl) rfl rfl rfl ?_
  refine WO.val (run_pickF rfl (decide_eq_false g6) rfl) rfl rfl rfl ?_
  refine WO.nil ?_
  refine NX.go ?_
  refine WP.condP rfl (fun g10 => ?_) (fun g10 => ?_)
  ·
   refine WP.seq ?_
   refine WP.region rfl ?_
   refine WO.val (run_assign rfl) rfl rfl rfl ?_
   refine WO.nil ?_
   refine NX.go ?_
   refine WP.ret ?_
   refine NX.thenRet ?_
   refine NX.done (l := [.tmp 2]) rfl rfl ?_
   exact ⟨congrArg (Value.int .i64) (right_5 (by omega)).symm, hS1.drop⟩
  ·
   refine WP.skip ?_
   refine NX.go ?_
   refine WP.seq ?_
   refine WP.seq ?_
   refine WP.region rfl ?_
   refine WO.val (run_fieldAddr (q := ⟨g2, 1, none⟩) (show fieldB Tryz.prog 37 1 = some 1 from by kernel_rfl) rfl rfl) rfl rfl rfl ?_
   refine WO.val (run_load Ty.ag9 rfl ((hS1.cel_at 0 rfl 1).trans rfl)) rfl rfl rfl ?_
   refine WO.call rfl rfl Ty.hd51 rfl (rname_spec m.n (by omega) hS1) (fun v4 w3 pv4 => ?_)
   obtain ⟨rfl, hS3⟩ := pv4
   clear hS1
   refine WO.val (run_not rfl rfl) rfl rfl rfl ?_
   refine WO.val (run_move rfl) rfl rfl rfl ?_
   rcases Bool.eq_false_or_eq_true (!(nameF m.n)) with g15 | g15
   ·
    refine WO.off rfl rfl g15 rfl ?_
    refine WO.off rfl rfl g15 rfl ?_
    refine WO.off rfl rfl g15 rfl ?_
    refine WO.off rfl rfl g15 rfl ?_
    refine WO.offU rfl rfl rfl ?_
    refine WO.offU rfl rfl rfl ?_
    refine WO.offU rfl rfl rfl ?_
    refine WO.offU rfl rfl rfl ?_
    refine WO.off rfl rfl g15 rfl ?_
    refine WO.val (run_pickT rfl g15 rfl) rfl rfl rfl ?_
    refine WO.val (run_move rfl) rfl rfl rfl ?_
    refine WO.off rfl rfl rfl rfl ?_
    refine WO.off rfl rfl rfl rfl ?_
    refine WO.off rfl rfl rfl rfl ?_
    refine WO.off rfl rfl rfl rfl ?_
    refine WO.offU rfl rfl rfl ?_
    refine WO.offU rfl rfl rfl ?_
    refine WO.offU rfl rfl rfl ?_
    refine WO.off rfl rfl rfl rfl ?_
    refine WO.val (run_pickT rfl rfl rfl) rfl rfl rfl ?_
    refine WO.nil ?_
    refine NX.go ?_
    refine WP.condT rfl rfl ?_
    refine WP.seq ?_
    refine WP.region rfl ?_
    refine WO.val (run_assign rfl) rfl rfl rfl ?_
    refine WO.nil ?_
    refine NX.go ?_
    refine WP.ret ?_
    refine NX.thenRet ?_
    refine NX.done (l := [.tmp 2]) rfl rfl ?_
    exact ⟨congrArg (Value.int .i64) (right_3 (by omega) (by clear hS3; simp_all)).symm, hS3.drop⟩
   ·
    refine WO.on rfl rfl g15 ?_
    refine WO.val (run_fieldAddr (q := ⟨g2, 2, none⟩) (show fieldB Tryz.prog 37 2 = some 2 from by kernel_rfl) rfl rfl) rfl rfl rfl ?_
    refine WO.on rfl rfl g15 ?_
    refine WO.val (run_load Ty.ag9 rfl ((hS3.cel_at 0 rfl 2).trans rfl)) rfl rfl rfl ?_
    refine WO.on rfl rfl g15 ?_
    refine WO.val (run_neqS rfl rfl) rfl rfl rfl ?_
    refine WO.on rfl rfl g15 ?_
    refine WO.val (run_move rfl) rfl rfl rfl ?_
    by_cases g19 : ¬ m.v = []
    ·
     refine WO.on rfl rfl (decide_eq_true g19) ?_
     refine WO.val (run_fieldAddr (q := ⟨g2, 2, none⟩) (show fieldB Tryz.prog 37 2 = some 2 from by kernel_rfl) rfl rfl) rfl rfl rfl ?_
     refine WO.on rfl rfl (decide_eq_true g19) ?_
     refine WO.val (run_load Ty.ag9 rfl ((hS3.cel_at 0 rfl 2).trans rfl)) rfl rfl rfl ?_
     refine WO.on rfl rfl (decide_eq_true g19) ?_
     refine WO.call rfl rfl Ty.hd52 rfl (rvalue_spec m.v (by omega) hS3) (fun v6 w5 pv6 => ?_)
     obtain ⟨rfl, hS5⟩ := pv6
     clear hS3
     refine WO.on rfl rfl (decide_eq_true g19) ?_
     refine WO.val (run_not rfl rfl) rfl rfl rfl ?_
     refine WO.on rfl rfl g15 ?_
     refine WO.val (run_pickT rfl (decide_eq_true g19) rfl) rfl rfl rfl ?_
     refine WO.val (run_pickF rfl g15 rfl) rfl rfl rfl ?_
     refine WO.val (run_move rfl) rfl rfl rfl ?_
     rcases Bool.eq_false_or_eq_true (!(valueF m.v)) with g26 | g26
     ·
      refine WO.off rfl rfl g26 rfl ?_
      refine WO.off rfl rfl g26 rfl ?_
      refine WO.off rfl rfl g26 rfl ?_
      refine WO.off rfl rfl g26 rfl ?_
      refine WO.offU rfl rfl rfl ?_
      refine WO.offU rfl rfl rfl ?_
      refine WO.offU rfl rfl rfl ?_
      refine WO.off rfl rfl g26 rfl ?_
      refine WO.val (run_pickT rfl g26 rfl) rfl rfl rfl ?_
      refine WO.nil ?_
      refine NX.go ?_
      refine WP.condT rfl rfl ?_
      refine WP.seq ?_
      refine WP.region rfl ?_
      refine WO.val (run_assign rfl) rfl rfl rfl ?_
      refine WO.nil ?_
      refine NX.go ?_
      refine WP.ret ?_
      refine NX.thenRet ?_
      refine NX.done (l := [.tmp 2]) rfl rfl ?_
      exact ⟨congrArg (Value.int .i64) (right_3 (by omega) (by clear hS5; simp_all)).symm, hS5.drop⟩
     ·
      refine WO.on rfl rfl g26 ?_
      refine WO.val (run_fieldAddr (q := ⟨g2, 0, none⟩) (show fieldB Tryz.prog 37 0 = some 0 from by kernel_rfl) rfl rfl) rfl rfl rfl ?_
      refine WO.on rfl rfl g26 ?_
      refine WO.val (run_load Ty.ag3 rfl ((hS5.cel_at 0 rfl 0).trans rfl)) rfl rfl rfl ?_
      refine WO.on rfl rfl g26 ?_
      refine WO.val (run_eql rfl rfl) rfl rfl rfl ?_
      refine WO.on rfl rfl g26 ?_
      refine WO.val (run_move rfl) rfl rfl rfl ?_
      by_cases g30 : m.k = 4
      ·
       refine WO.on rfl rfl (decide_eq_true g30) ?_
       refine WO.val (run_fieldAddr (q := ⟨g2, 2, none⟩) (show fieldB Tryz.prog 37 2 = some 2 from by kernel_rfl) rfl rfl) rfl rfl rfl ?_
       refine WO.on rfl rfl (decide_eq_true g30) ?_
       refine WO.val (run_load Ty.ag9 rfl ((hS5.cel_at 0 rfl 2).trans rfl)) rfl rfl rfl ?_
       refine WO.on rfl rfl (decide_eq_true g30) ?_
       refine WO.val (run_neqS rfl rfl) rfl rfl rfl ?_
       refine WO.on rfl rfl g26 ?_
       refine WO.val (run_pickT rfl (decide_eq_true g30) rfl) rfl rfl rfl ?_
       refine WO.val (run_pickF rfl g26 rfl) rfl rfl rfl ?_
       refine WO.nil ?_
       refine NX.go ?_
       refine WP.condP rfl (fun g35 => ?_) (fun g35 => ?_)
       ·
        refine WP.seq ?_
        refine WP.region rfl ?_
        refine WO.val (run_assign rfl) rfl rfl rfl ?_
        refine WO.nil ?_
        refine NX.go ?_
        refine WP.ret ?_
        refine NX.thenRet ?_
        refine NX.done (l := [.tmp 2]) rfl rfl ?_
        exact ⟨congrArg (Value.int .i64) (right_3 (by omega) (by clear hS5; simp_all)).symm, hS5.drop⟩
       ·
        refine WP.skip ?_
        refine NX.go ?_
        refine WP.seq ?_
        refine WP.region rfl ?_
        refine WO.val (run_assign rfl) rfl rfl rfl ?_
        refine WO.nil ?_
        refine NX.go ?_
        refine WP.ret ?_
        refine NX.done (l := [.tmp 2]) rfl rfl ?_
        exact ⟨congrArg (Value.int .i64) (right_0 (by omega) (by clear hS5; simp_all)).symm, hS5.drop⟩
      ·
       refine WO.off rfl rfl (decide_eq_false g30) rfl ?_
       refine WO.off rfl rfl (decide_eq_false g30) rfl ?_
       refine WO.off rfl rfl (decide_eq_false g30) rfl ?_
       refine WO.on rfl rfl g26 ?_
       refine WO.val (run_pickF rfl (decide_eq_false g30) rfl) rfl rfl rfl ?_
       refine WO.val (run_pickF rfl g26 rfl) rfl rfl rfl ?_
       refine WO.nil ?_
       refine NX.go ?_
       refine WP.condF rfl rfl ?_
       refine WP.skip ?_
       refine NX.go ?_
       refine WP.seq ?_
       refine WP.region rfl ?_
       refine WO.val (run_assign rfl) rfl rfl rfl ?_
       refine WO.nil ?_
       refine NX.go ?_
       refine WP.ret ?_
       refine NX.done (l := [.tmp 2]) rfl rfl ?_
       exact ⟨congrArg (Value.int .i64) (right_0 (by omega) (by clear hS5; simp_all)).symm, hS5.drop⟩
    ·
     refine WO.off rfl rfl (decide_eq_false g19) rfl ?_
     refine WO.off rfl rfl (decide_eq_false g19) rfl ?_
     refine WO.off rfl rfl (decide_eq_false g19) rfl ?_
     refine WO.off rfl rfl (decide_eq_false g19) rfl ?_
     refine WO.on rfl rfl g15 ?_
     refine WO.val (run_pickF rfl (decide_eq_false g19) rfl) rfl rfl rfl ?_
     refine WO.val (run_pickF rfl g15 rfl) rfl rfl rfl ?_
     refine WO.val (run_move rfl) rfl rfl rfl ?_
     refine WO.on rfl rfl rfl ?_
     refine WO.val (run_fieldAddr (q := ⟨g2, 0, none⟩) (show fieldB Tryz.prog 37 0 = some 0 from by kernel_rfl) rfl rfl) rfl rfl rfl ?_
     refine WO.on rfl rfl rfl ?_
     refine WO.val (run_load Ty.ag3 rfl ((hS3.cel_at 0 rfl 0).trans rfl)) rfl rfl rfl ?_
     refine WO.on rfl rfl rfl ?_
     refine WO.val (run_eql rfl rfl) rfl rfl rfl ?_
     refine WO.on rfl rfl rfl ?_
     refine WO.val (run_move rfl) rfl rfl rfl ?_
     by_cases g30 : m.k = 4
     ·
      refine WO.on rfl rfl (decide_eq_true g30) ?_
      refine WO.val (run_fieldAddr (q := ⟨g2, 2, none⟩) (show fieldB Tryz.prog 37 2 = some 2 from by kernel_rfl) rfl rfl) rfl rfl rfl ?_
      refine WO.on rfl rfl (decide_eq_true g30) ?_
      refine WO.val (run_load Ty.ag9 rfl ((hS3.cel_at 0 rfl 2).trans rfl)) rfl rfl rfl ?_
      refine WO.on rfl rfl (decide_eq_true g30) ?_
      refine WO.val (run_neqS rfl rfl) rfl rfl rfl ?_
      refine WO.on rfl rfl rfl ?_
      refine WO.val (run_pickT rfl (decide_eq_true g30) rfl) rfl rfl rfl ?_
      refine WO.val (run_pickF rfl rfl rfl) rfl rfl rfl ?_
      refine WO.nil ?_
      refine NX.go ?_
      refine WP.condP rfl (fun g35 => ?_) (fun g35 => ?_)
      ·
       refine WP.seq ?_
       refine WP.region rfl ?_
       refine WO.val (run_assign rfl) rfl rfl rfl ?_
       refine WO.nil ?_
       refine NX.go ?_
       refine WP.ret ?_
       refine NX.thenRet ?_
       refine NX.done (l := [.tmp 2]) rfl rfl ?_
       exact ⟨congrArg (Value.int .i64) (right_3 (by omega) (by clear hS3; simp_all)).symm, hS3.drop⟩
      ·
       refine WP.skip ?_
       refine NX.go ?_
       refine WP.seq ?_
       refine WP.region rfl ?_
       refine WO.val (run_assign rfl) rfl rfl rfl ?_
       refine WO.nil ?_
       refine NX.go ?_
       refine WP.ret ?_
       refine NX.done (l := [.tmp 2]) rfl rfl ?_
       exact ⟨congrArg (Value.int .i64) (right_0 (by omega) (by clear hS3; simp_all)).symm, hS3.drop⟩
     ·
      refine WO.off rfl rfl (decide_eq_false g30) rfl ?_
      refine WO.off rfl rfl (decide_eq_false g30) rfl ?_
      refine WO.off rfl rfl (decide_eq_false g30) rfl ?_
      refine WO.on rfl rfl rfl ?_
      refine WO.val (run_pickF rfl (decide_eq_false g30) rfl) rfl rfl rfl ?_
      refine WO.val (run_pickF rfl rfl rfl) rfl rfl rfl ?_
      refine WO.nil ?_
      refine NX.go ?_
      refine WP.condF rfl rfl ?_
      refine WP.skip ?_
      refine NX.go ?_
      refine WP.seq ?_
      refine WP.region rfl ?_
      refine WO.val (run_assign rfl) rfl rfl rfl ?_
      refine WO.nil ?_
      refine NX.go ?_
      refine WP.ret ?_
      refine NX.done (l := [.tmp 2]) rfl rfl ?_
      exact ⟨congrArg (Value.int .i64) (right_0 (by omega) (by clear hS3; simp_all)).symm, hS3.drop⟩
end Go.Proofs.YtogidmceomlkeaaGreatDoor.SL
