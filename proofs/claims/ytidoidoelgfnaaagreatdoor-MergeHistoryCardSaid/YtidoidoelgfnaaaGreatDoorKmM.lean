import Derived.Test.YtidoidoelgfnaaaGreatDoorKlM
/- Matchers. -/
namespace Go.Proofs.YtidoidoelgfnaaaGreatDoor.SL
open Go.RowKit Go.Proofs.YtidoidoelgfnaaaGreatDoor
open Go.Proofs.YtidoidoelgfnaaaGreatDoorW.PrintLast (rtab opsOf)
set_option linter.unusedVariables false
set_option linter.unusedSimpArgs false

/-- A matcher. -/
structure Mt where
  k : Int
  n : List UInt8
  v : List UInt8
def mtc (m : Mt) : List Value := [.int .i64 m.k, str m.n, str m.v]
theorem mtc_len (m : Mt) : (mtc m).length = 3 := rfl
def rightF (m : Mt) : Int := if m.k < 1 ∨ 4 < m.k then 5 else if nameF m.n = false ∨ (¬ m.v = [] ∧ valueF m.v = false) ∨ (m.k = 4 ∧ ¬ m.v = []) then 3 else 0
def mgo : List Mt → Int
  | [] => 0
  | m :: l => if ¬ rightF m = 0 then rightF m else mgo l
def mchk (l : List Mt) : Int := if 8 < l.length then 8 else mgo l
def hold (m : Mt) (v : List UInt8) : Bool := if m.k = 1 then decide (v = m.v) else if m.k = 2 then decide (¬ v = m.v) else if m.k = 3 then decide (m.v.length ≤ v.length ∧ v.take m.v.length = m.v) else decide (¬ v = [])
def isF (l : List Mt) (ps : List Pr) : Bool := decide (mchk l = 0) && l.all fun m => hold m (getV m.n ps)
def SzM (l : List Mt) : Prop := ∀ m ∈ l, m.n.length ≤ 140737488355328 ∧ m.v.length ≤ 140737488355328
theorem pre_iff (p s : List UInt8) : p.isPrefixOf s = decide (p.length ≤ s.length ∧ s.take p.length = p) := by
  apply Bool.eq_iff_iff.2
  rw [List.isPrefixOf_iff_prefix, decide_eq_true_iff]
  constructor
  · rintro ⟨t, rfl⟩; simp
  · rintro ⟨h1, h2⟩; exact ⟨s.drop p.length, by rw [← h2, List.length_take, Nat.min_eq_left h1, List.take_append_drop]⟩
theorem right_5 {m : Mt} (h : m.k < 1 ∨ 4 < m.k) : rightF m = 5 := by unfold rightF; rw [if_pos h]
theorem right_3 {m : Mt} (h : ¬ (m.k < 1 ∨ 4 < m.k)) (h2 : nameF m.n = false ∨ (¬ m.v = [] ∧ valueF m.v = false) ∨ (m.k = 4 ∧ ¬ m.v = [])) : rightF m = 3 := by unfold rightF; rw [if_neg h, if_pos h2]
theorem right_0 {m : Mt} (h : ¬ (m.k < 1 ∨ 4 < m.k)) (h2 : ¬ (nameF m.n = false ∨ (¬ m.v = [] ∧ valueF m.v = false) ∨ (m.k = 4 ∧ ¬ m.v = []))) : rightF m = 0 := by unfold rightF; rw [if_neg h, if_neg h2]

theorem rd_isSome {w : World} {a : Option Addr} {n k : Nat} {l : List Value} (h : Rd w a n k l) (hn : 0 < n) : a.isSome = true := by obtain ⟨p, e, _⟩ := h.2.1 hn; rw [e]; rfl
theorem rget_spec {B w : World} {L : List HP} {X : HP} {a : Option Addr} {cap : Nat} {l : List Pr} (hX : ∀ {L : List HP} {w : World}, St B (X :: L) w → Rd w a l.length 2 (l.flatMap prc)) (hl : l.length ≤ 4398046511104) (nm : List UInt8) (hS : St B (X :: L) w) : Does Tryz.prog 122 [Value.slice a l.length cap, str nm] w (fun v w1 => v = str (getV nm l) ∧ St B (X :: L) w1) := by
 refine enter (n := 24) Tryz.func122 rfl rfl [Value.slice a l.length cap, str nm] rfl ?_
 refine WP.seq (WP.region rfl ?_)
 refine WO.asg rfl rfl ?_
 refine WO.nil (NX.go (WP.seq (WP.seq (WP.region rfl ?_))))
 refine WO.asg rfl rfl ?_
 refine WO.nil (NX.go (WP.block ?_))
 refine WP.loop (α := Nat) (fun x => match x with | i => [(0, Value.slice a l.length cap), (1, str nm), (5, Value.int .i64 (i : Int))]) (fun x w => match x with | i => (i ≤ l.length ∧ getV nm (l.drop i) = getV nm l) ∧ St B (X :: L) w) (fun x => match x with | i => l.length - i) 0 ⟨⟨Nat.zero_le _, rfl⟩, hS⟩ (Sub.cons rfl (Sub.cons rfl (Sub.consE rfl (by first | rfl | first | rfl | (congr 1; omega) | (simp; done) | (simp; omega)) (Sub.nil _)))) ?_
 rintro i w1 ⟨⟨hi, hgo⟩, hS1⟩
 clear hS
 refine WP.seq (WP.seq (WP.region rfl ?_))
 refine WO.mv rfl rfl ?_
 refine WO.mv rfl rfl ?_
 refine WO.V (run_len rfl Tryz.underlying65 rfl) ?_
 refine WO.V (run_lss rfl rfl) ?_
 refine WO.nil (NX.go ?_)
 refine WP.condP rfl (fun g9 => ?_) (fun g9 => ?_)
 ·
  refine WP.skip (NX.go (WP.seq (WP.block (WP.seq (WP.region rfl ?_)))))
  refine WO.mv rfl rfl ?_
  refine WO.mv rfl rfl ?_
  obtain ⟨p, hp⟩ : ∃ p, l[i]? = some p := ⟨_, List.getElem?_eq_getElem (by omega)⟩
  have hsa : a.isSome = true := rd_isSome (hX hS1) (by omega)
  refine WO.V (run_indexAddr (q := adr a (i * 2)) Tryz.underlying65 Ty.sz105 rfl rfl (by omega) (by omega) ((hX (hS1.focus 0 rfl)).2.1 (by omega)) rfl) ?_
  refine WO.V (run_fa 0 (adr a (i * 2 + 0)) rfl (adr_add _ (by assumption) _ _)) ?_
  refine WO.V (run_load Ty.ag9 rfl ((hX (hS1.focus 0 rfl)).cell ((flat_get prc_len hp (j := 0) (by decide)).trans rfl))) ?_
  refine WO.mv rfl rfl ?_
  refine WO.V (run_eqlS rfl rfl) ?_
  refine WO.nil (NX.go ?_)
  refine WP.condP rfl (fun g18 => ?_) (fun g18 => ?_)
  ·
   refine WP.seq (WP.region rfl ?_)
   refine WO.mv rfl rfl ?_
   refine WO.mv rfl rfl ?_
   refine WO.V (run_indexAddr (q := adr a (i * 2)) Tryz.underlying65 Ty.sz105 rfl rfl (by omega) (by omega) ((hX (hS1.focus 0 rfl)).2.1 (by omega)) rfl) ?_
   refine WO.V (run_fa 1 (adr a (i * 2 + 1)) rfl (adr_add _ (by assumption) _ _)) ?_
   refine WO.V (run_load Ty.ag9 rfl ((hX (hS1.focus 0 rfl)).cell ((flat_get prc_len hp (j := 1) (by decide)).trans rfl))) ?_
   refine WO.asg rfl rfl ?_
   refine WO.nil (NX.go (WP.ret (NX.blkRet (NX.thenRet (NX.thenRet (NX.blkRet (NX.thenRet ?_)))))))
   refine NX.done (l := [.tmp 4]) rfl rfl ?_
   refine ⟨congrArg str ?_, hS1⟩
   rw [drop_cons hp] at hgo
   rw [← hgo, getV, if_pos (by assumption)]
  ·
   refine WP.skip (NX.blk (NX.go (WP.region rfl ?_)))
   refine WO.mv rfl rfl ?_
   refine WO.V (run_add rfl rfl (IntWalk.i64_in _ (by omega))) ?_
   refine WO.asg rfl rfl ?_
   refine WO.nil ?_
   exact NX.again (i + 1) ⟨⟨by omega, by rw [drop_cons hp] at hgo; rw [← hgo, getV, if_neg (by assumption)]⟩, hS1⟩ (by show l.length - (i + 1) < l.length - i; omega) (Sub.cons rfl (Sub.cons rfl (Sub.consE rfl (by congr 1) (Sub.nil _))))
 ·
  refine WP.exit (NX.thenExit (NX.thenExit ?_))
  refine NX.blkExit ?_
  refine NX.go (WP.seq (WP.region rfl ?_))
  refine WO.asg rfl rfl ?_
  refine WO.nil (NX.go (WP.ret ?_))
  refine NX.done (l := [.tmp 4]) rfl rfl ?_
  exact ⟨congrArg str (by rw [← hgo, List.drop_of_length_le (by omega)]; rfl), hS1⟩
theorem rright_spec {B w : World} {L : List HP} (m : Mt) (h1 : m.n.length ≤ 140737488355328 ∧ m.v.length ≤ 140737488355328) (hS : St B L w) : Does Tryz.prog 85 [Value.agg #[Value.int .i64 m.k, str m.n, str m.v]] w (fun v w1 => v = .int .i64 (rightF m) ∧ St B L w1) := by
 refine enter (n := 36) Tryz.func85 rfl rfl [Value.agg #[Value.int .i64 m.k, str m.n, str m.v]] rfl ?_
 refine WP.seq (WP.region rfl ?_)
 refine WO.box (l := [Value.int .i64 m.k, str m.n, str m.v]) hS rfl rfl rfl (fun g2 w1 lg2 hS1 => ?_)
 clear hS
 refine WO.asg rfl rfl ?_
 refine WO.nil (NX.go (WP.seq (WP.seq (WP.region rfl ?_))))
 refine WO.V (run_fa 0 ⟨g2, 0, none⟩ rfl rfl) ?_
 refine WO.V (run_load Ty.ag3 rfl ((hS1.cel_at 0 rfl 0).trans rfl)) ?_
 refine WO.V (run_lss rfl rfl) ?_
 refine WO.mv rfl rfl ?_
 refine dcase (p := m.k < 1) (fun g6 d6 => ?_) (fun g6 d6 => ?_)
 ·
  refine WO.off rfl rfl d6 rfl ?_
  refine WO.off rfl rfl d6 rfl ?_
  refine WO.off rfl rfl d6 rfl ?_
  refine WO.V (run_pickT rfl d6 rfl) ?_
  refine WO.nil (NX.go ?_)
  refine WP.condT rfl rfl ?_
  refine WP.seq (WP.region rfl ?_)
  refine WO.asg rfl rfl ?_
  refine WO.nil (NX.go (WP.ret (NX.thenRet ?_)))
  refine NX.done (l := [.tmp 2]) rfl rfl ?_
  exact ⟨congrArg (Value.int .i64) (right_5 (by omega)).symm, hS1.drop⟩
 ·
  refine WO.on rfl rfl d6 ?_
  refine WO.V (run_fa 0 ⟨g2, 0, none⟩ rfl rfl) ?_
  refine WO.on rfl rfl d6 ?_
  refine WO.V (run_load Ty.ag3 rfl ((hS1.cel_at 0 rfl 0).trans rfl)) ?_
  refine WO.on rfl rfl d6 ?_
  refine WO.V (run_gtr rfl rfl) ?_
  refine WO.V (run_pickF rfl d6 rfl) ?_
  refine WO.nil (NX.go ?_)
  refine WP.condP rfl (fun g10 => ?_) (fun g10 => ?_)
  ·
   refine WP.seq (WP.region rfl ?_)
   refine WO.asg rfl rfl ?_
   refine WO.nil (NX.go (WP.ret (NX.thenRet ?_)))
   refine NX.done (l := [.tmp 2]) rfl rfl ?_
   exact ⟨congrArg (Value.int .i64) (right_5 (by omega)).symm, hS1.drop⟩
  ·
   refine WP.skip (NX.go (WP.seq (WP.seq (WP.region rfl ?_))))
   refine WO.V (run_fa 1 ⟨g2, 1, none⟩ rfl rfl) ?_
   refine WO.V (run_load Ty.ag9 rfl ((hS1.cel_at 0 rfl 1).trans rfl)) ?_
   refine WO.call rfl rfl Ty.hd83 rfl (rname_spec m.n (by omega) hS1) (fun v4 w3 pv4 => ?_)
   obtain ⟨rfl, hS3⟩ := pv4
   clear hS1
   refine WO.V (run_not rfl rfl) ?_
   refine WO.mv rfl rfl ?_
   rcases Bool.eq_false_or_eq_true (!(nameF m.n)) with g15 | g15
   ·
    refine WO.off rfl rfl g15 rfl ?_
    refine WO.off rfl rfl g15 rfl ?_
    refine WO.off rfl rfl g15 rfl ?_
    refine WO.off rfl rfl g15 rfl ?_
    refine WO.offU rfl rfl rfl ?_
    refine WO.offU rfl rfl rfl ?_
    refine WO.offU rfl rfl rfl ?_
    refine WO.offU rfl rfl rfl ?_
    refine WO.off rfl rfl g15 rfl ?_
    refine WO.V (run_pickT rfl g15 rfl) ?_
    refine WO.mv rfl rfl ?_
    refine WO.off rfl rfl rfl rfl ?_
    refine WO.off rfl rfl rfl rfl ?_
    refine WO.off rfl rfl rfl rfl ?_
    refine WO.off rfl rfl rfl rfl ?_
    refine WO.offU rfl rfl rfl ?_
    refine WO.offU rfl rfl rfl ?_
    refine WO.offU rfl rfl rfl ?_
    refine WO.off rfl rfl rfl rfl ?_
    refine WO.V (run_pickT rfl rfl rfl) ?_
    refine WO.nil (NX.go ?_)
    refine WP.condT rfl rfl ?_
    refine WP.seq (WP.region rfl ?_)
    refine WO.asg rfl rfl ?_
    refine WO.nil (NX.go (WP.ret (NX.thenRet ?_)))
    refine NX.done (l := [.tmp 2]) rfl rfl ?_
    exact ⟨congrArg (Value.int .i64) (right_3 (by omega) (by clear hS3; simp_all)).symm, hS3.drop⟩
   ·
    refine WO.on rfl rfl g15 ?_
    refine WO.V (run_fa 2 ⟨g2, 2, none⟩ rfl rfl) ?_
    refine WO.on rfl rfl g15 ?_
    refine WO.V (run_load Ty.ag9 rfl ((hS3.cel_at 0 rfl 2).trans rfl)) ?_
    refine WO.on rfl rfl g15 ?_
    refine WO.V (run_neqS rfl rfl) ?_
    refine WO.on rfl rfl g15 ?_
    refine WO.mv rfl rfl ?_
    refine dcase (p := ¬ m.v = []) (fun g19 d19 => ?_) (fun g19 d19 => ?_)
    ·
     refine WO.on rfl rfl d19 ?_
     refine WO.V (run_fa 2 ⟨g2, 2, none⟩ rfl rfl) ?_
     refine WO.on rfl rfl d19 ?_
     refine WO.V (run_load Ty.ag9 rfl ((hS3.cel_at 0 rfl 2).trans rfl)) ?_
     refine WO.on rfl rfl d19 ?_
     refine WO.call rfl rfl Ty.hd84 rfl (rvalue_spec m.v (by omega) hS3) (fun v6 w5 pv6 => ?_)
     obtain ⟨rfl, hS5⟩ := pv6
     clear hS3
     refine WO.on rfl rfl d19 ?_
     refine WO.V (run_not rfl rfl) ?_
     refine WO.on rfl rfl g15 ?_
     refine WO.V (run_pickT rfl d19 rfl) ?_
     refine WO.V (run_pickF rfl g15 rfl) ?_
     refine WO.mv rfl rfl ?_
     rcases Bool.eq_false_or_eq_true (!(valueF m.v)) with g26 | g26
     ·
      refine WO.off rfl rfl g26 rfl ?_
      refine WO.off rfl rfl g26 rfl ?_
      refine WO.off rfl rfl g26 rfl ?_
      refine WO.off rfl rfl g26 rfl ?_
      refine WO.offU rfl rfl rfl ?_
      refine WO.offU rfl rfl rfl ?_
      refine WO.offU rfl rfl rfl ?_
      refine WO.off rfl rfl g26 rfl ?_
      refine WO.V (run_pickT rfl g26 rfl) ?_
      refine WO.nil (NX.go ?_)
      refine WP.condT rfl rfl ?_
      refine WP.seq (WP.region rfl ?_)
      refine WO.asg rfl rfl ?_
      refine WO.nil (NX.go (WP.ret (NX.thenRet ?_)))
      refine NX.done (l := [.tmp 2]) rfl rfl ?_
      exact ⟨congrArg (Value.int .i64) (right_3 (by omega) (by clear hS5; simp_all)).symm, hS5.drop⟩
     ·
      refine WO.on rfl rfl g26 ?_
      refine WO.V (run_fa 0 ⟨g2, 0, none⟩ rfl rfl) ?_
      refine WO.on rfl rfl g26 ?_
      refine WO.V (run_load Ty.ag3 rfl ((hS5.cel_at 0 rfl 0).trans rfl)) ?_
      refine WO.on rfl rfl g26 ?_
      refine WO.V (run_eql rfl rfl) ?_
      refine WO.on rfl rfl g26 ?_
      refine WO.mv rfl rfl ?_
      refine dcase (p := m.k = 4) (fun g30 d30 => ?_) (fun g30 d30 => ?_)
      ·
       refine WO.on rfl rfl d30 ?_
       refine WO.V (run_fa 2 ⟨g2, 2, none⟩ rfl rfl) ?_
       refine WO.on rfl rfl d30 ?_
       refine WO.V (run_load Ty.ag9 rfl ((hS5.cel_at 0 rfl 2).trans rfl)) ?_
       refine WO.on rfl rfl d30 ?_
       refine WO.V (run_neqS rfl rfl) ?_
       refine WO.on rfl rfl g26 ?_
       refine WO.V (run_pickT rfl d30 rfl) ?_
       refine WO.V (run_pickF rfl g26 rfl) ?_
       refine WO.nil (NX.go ?_)
       refine WP.condP rfl (fun g35 => ?_) (fun g35 => ?_)
       ·
        refine WP.seq (WP.region rfl ?_)
        refine WO.asg rfl rfl ?_
        refine WO.nil (NX.go (WP.ret (NX.thenRet ?_)))
        refine NX.done (l := [.tmp 2]) rfl rfl ?_
        exact ⟨congrArg (Value.int .i64) (right_3 (by omega) (by clear hS5; simp_all)).symm, hS5.drop⟩
       ·
        refine WP.skip (NX.go (WP.seq (WP.region rfl ?_)))
        refine WO.asg rfl rfl ?_
        refine WO.nil (NX.go (WP.ret ?_))
        refine NX.done (l := [.tmp 2]) rfl rfl ?_
        exact ⟨congrArg (Value.int .i64) (right_0 (by omega) (by clear hS5; simp_all)).symm, hS5.drop⟩
      ·
       refine WO.off rfl rfl d30 rfl ?_
       refine WO.off rfl rfl d30 rfl ?_
       refine WO.off rfl rfl d30 rfl ?_
       refine WO.on rfl rfl g26 ?_
       refine WO.V (run_pickF rfl d30 rfl) ?_
       refine WO.V (run_pickF rfl g26 rfl) ?_
       refine WO.nil (NX.go ?_)
       refine WP.condF rfl rfl ?_
       refine WP.skip (NX.go (WP.seq (WP.region rfl ?_)))
       refine WO.asg rfl rfl ?_
       refine WO.nil (NX.go (WP.ret ?_))
       refine NX.done (l := [.tmp 2]) rfl rfl ?_
       exact ⟨congrArg (Value.int .i64) (right_0 (by omega) (by clear hS5; simp_all)).symm, hS5.drop⟩
    ·
     refine WO.off rfl rfl d19 rfl ?_
     refine WO.off rfl rfl d19 rfl ?_
     refine WO.off rfl rfl d19 rfl ?_
     refine WO.off rfl rfl d19 rfl ?_
     refine WO.on rfl rfl g15 ?_
     refine WO.V (run_pickF rfl d19 rfl) ?_
     refine WO.V (run_pickF rfl g15 rfl) ?_
     refine WO.mv rfl rfl ?_
     refine WO.on rfl rfl rfl ?_
     refine WO.V (run_fa 0 ⟨g2, 0, none⟩ rfl rfl) ?_
     refine WO.on rfl rfl rfl ?_
     refine WO.V (run_load Ty.ag3 rfl ((hS3.cel_at 0 rfl 0).trans rfl)) ?_
     refine WO.on rfl rfl rfl ?_
     refine WO.V (run_eql rfl rfl) ?_
     refine WO.on rfl rfl rfl ?_
     refine WO.mv rfl rfl ?_
     refine dcase (p := m.k = 4) (fun g30 d30 => ?_) (fun g30 d30 => ?_)
     ·
      refine WO.on rfl rfl d30 ?_
      refine WO.V (run_fa 2 ⟨g2, 2, none⟩ rfl rfl) ?_
      refine WO.on rfl rfl d30 ?_
      refine WO.V (run_load Ty.ag9 rfl ((hS3.cel_at 0 rfl 2).trans rfl)) ?_
      refine WO.on rfl rfl d30 ?_
      refine WO.V (run_neqS rfl rfl) ?_
      refine WO.on rfl rfl rfl ?_
      refine WO.V (run_pickT rfl d30 rfl) ?_
      refine WO.V (run_pickF rfl rfl rfl) ?_
      refine WO.nil (NX.go ?_)
      refine WP.condP rfl (fun g35 => ?_) (fun g35 => ?_)
      ·
       refine WP.seq (WP.region rfl ?_)
       refine WO.asg rfl rfl ?_
       refine WO.nil (NX.go (WP.ret (NX.thenRet ?_)))
       refine NX.done (l := [.tmp 2]) rfl rfl ?_
       exact ⟨congrArg (Value.int .i64) (right_3 (by omega) (by clear hS3; simp_all)).symm, hS3.drop⟩
      ·
       refine WP.skip (NX.go (WP.seq (WP.region rfl ?_)))
       refine WO.asg rfl rfl ?_
       refine WO.nil (NX.go (WP.ret ?_))
       refine NX.done (l := [.tmp 2]) rfl rfl ?_
       exact ⟨congrArg (Value.int .i64) (right_0 (by omega) (by clear hS3; simp_all)).symm, hS3.drop⟩
     ·
      refine WO.off rfl rfl d30 rfl ?_
      refine WO.off rfl rfl d30 rfl ?_
      refine WO.off rfl rfl d30 rfl ?_
      refine WO.on rfl rfl rfl ?_
      refine WO.V (run_pickF rfl d30 rfl) ?_
      refine WO.V (run_pickF rfl rfl rfl) ?_
      refine WO.nil (NX.go ?_)
      refine WP.condF rfl rfl ?_
      refine WP.skip (NX.go (WP.seq (WP.region rfl ?_)))
      refine WO.asg rfl rfl ?_
      refine WO.nil (NX.go (WP.ret ?_))
      refine NX.done (l := [.tmp 2]) rfl rfl ?_
      exact ⟨congrArg (Value.int .i64) (right_0 (by omega) (by clear hS3; simp_all)).symm, hS3.drop⟩
end Go.Proofs.YtidoidoelgfnaaaGreatDoor.SL

/- Matchers: the reference. -/
namespace Go.Proofs.YtidoidoelgfnaaaGreatDoor.SL
open Go.RowKit Go.Proofs.YtidoidoelgfnaaaGreatDoor
open Go.Proofs.YtidoidoelgfnaaaGreatDoorW.PrintLast (rtab opsOf)
set_option linter.unusedVariables false
set_option linter.unusedSimpArgs false
theorem rcheckm_spec {B w : World} {L : List HP} {X : HP} {a : Option Addr} {cap : Nat} {l : List Mt} (hX : ∀ {L : List HP} {w : World}, St B (X :: L) w → Rd w a l.length 3 (l.flatMap mtc)) (hb : SzM l) (hl : l.length ≤ 4398046511104) (hS : St B (X :: L) w) : Does Tryz.prog 50 [Value.slice a l.length cap] w (fun v w1 => v = .int .i64 (mchk l) ∧ St B (X :: L) w1) := by
 refine enter (n := 22) Tryz.func50 rfl rfl [Value.slice a l.length cap] rfl ?_
 refine WP.seq (WP.region rfl ?_)
 refine WO.asg rfl rfl ?_
 refine WO.nil (NX.go (WP.seq (WP.seq (WP.region rfl ?_))))
 refine WO.mv rfl rfl ?_
 refine WO.V (run_len rfl Tryz.underlying24 rfl) ?_
 refine WO.V (run_gtr rfl rfl) ?_
 refine WO.nil (NX.go ?_)
 refine WP.condP rfl (fun g7 => ?_) (fun g7 => ?_)
 ·
  refine WP.seq (WP.region rfl ?_)
  refine WO.asg rfl rfl ?_
  refine WO.nil (NX.go (WP.ret (NX.thenRet ?_)))
  refine NX.done (l := [.tmp 2]) rfl rfl ?_
  exact ⟨congrArg (Value.int .i64) (if_pos (by omega)).symm, hS⟩
 ·
  refine WP.skip (NX.go (WP.seq (WP.seq (WP.region rfl ?_))))
  refine WO.asg rfl rfl ?_
  refine WO.nil (NX.go (WP.block ?_))
  refine WP.loop (α := Nat) (fun x => match x with | i => [(0, Value.slice a l.length cap), (3, Value.int .i64 (i : Int))]) (fun x w => match x with | i => (i ≤ l.length ∧ mgo (l.drop i) = mgo l) ∧ St B (X :: L) w) (fun x => match x with | i => l.length - i) 0 ⟨⟨Nat.zero_le _, rfl⟩, hS⟩ (Sub.cons rfl (Sub.consE rfl (by first | rfl | first | rfl | (congr 1; omega) | (simp; done) | (simp; omega)) (Sub.nil _))) ?_
  rintro i w1 ⟨⟨hi, hgo⟩, hS1⟩
  clear hS
  refine WP.seq (WP.seq (WP.region rfl ?_))
  refine WO.mv rfl rfl ?_
  refine WO.mv rfl rfl ?_
  refine WO.V (run_len rfl Tryz.underlying24 rfl) ?_
  refine WO.V (run_lss rfl rfl) ?_
  refine WO.nil (NX.go ?_)
  refine WP.condP rfl (fun g11 => ?_) (fun g11 => ?_)
  ·
   refine WP.skip (NX.go (WP.seq (WP.block (WP.seq (WP.region rfl ?_)))))
   refine WO.mv rfl rfl ?_
   refine WO.mv rfl rfl ?_
   obtain ⟨m, hm⟩ : ∃ m, l[i]? = some m := ⟨_, List.getElem?_eq_getElem (by omega)⟩
   refine WO.V (run_indexAddr (q := adr a (i * 3)) Tryz.underlying24 Ty.sz151 rfl rfl (by omega) (by omega) ((hX (hS1.focus 0 rfl)).2.1 (by omega)) rfl) ?_
   refine WO.V (run_loadAgg (vs := [Value.int .i64 m.k, str m.n, str m.v]) Ty.ag151 Ty.sz151 rfl ((hX (hS1.focus 0 rfl)).cells (by rw [flat_len mtc_len]; omega) (flat_part mtc_len hm)).1 ((hX (hS1.focus 0 rfl)).cells (by rw [flat_len mtc_len]; omega) (flat_part mtc_len hm)).2) ?_
   refine WO.call rfl rfl Ty.hd85 rfl (rright_spec m (by have := hb m (List.mem_of_getElem? hm); omega) hS1) (fun v3 w2 pv3 => ?_)
   obtain ⟨rfl, hS2⟩ := pv3
   clear hS1
   refine WO.asg rfl rfl ?_
   refine WO.nil (NX.go (WP.seq (WP.region rfl ?_)))
   refine WO.mv rfl rfl ?_
   refine WO.V (run_neq rfl rfl) ?_
   refine WO.nil (NX.go ?_)
   refine WP.condP rfl (fun g20 => ?_) (fun g20 => ?_)
   ·
    refine WP.seq (WP.region rfl ?_)
    refine WO.mv rfl rfl ?_
    refine WO.asg rfl rfl ?_
    refine WO.nil (NX.go (WP.ret (NX.blkRet (NX.thenRet (NX.thenRet (NX.blkRet (NX.thenRet ?_)))))))
    refine NX.done (l := [.tmp 2]) rfl rfl ?_
    refine ⟨congrArg (Value.int .i64) ?_, hS2⟩
    rw [drop_cons hm] at hgo
    rw [mchk, if_neg (by omega), ← hgo, mgo, if_pos (by assumption)]
   ·
    refine WP.skip (NX.blk (NX.go (WP.region rfl ?_)))
    refine WO.mv rfl rfl ?_
    refine WO.V (run_add rfl rfl (IntWalk.i64_in _ (by omega))) ?_
    refine WO.asg rfl rfl ?_
    refine WO.nil ?_
    exact NX.again (i + 1) ⟨⟨by omega, by rw [drop_cons hm] at hgo; rw [← hgo, mgo, if_neg (by assumption)]⟩, hS2⟩ (by show l.length - (i + 1) < l.length - i; omega) (Sub.cons rfl (Sub.consE rfl (by congr 1) (Sub.nil _)))
  ·
   refine WP.exit (NX.thenExit (NX.thenExit ?_))
   refine NX.blkExit ?_
   refine NX.go (WP.seq (WP.region rfl ?_))
   refine WO.asg rfl rfl ?_
   refine WO.nil (NX.go (WP.ret ?_))
   refine NX.done (l := [.tmp 2]) rfl rfl ?_
   exact ⟨congrArg (Value.int .i64) (by rw [mchk, if_neg (by omega), ← hgo, List.drop_of_length_le (by omega)]; rfl), hS1⟩
theorem t93_8 : rtab .any (opsOf Tryz.f93 8) = (true, [([], []), ([0], [0]), ([], []), ([2], [2]), ([3], [3]), ([1, 4], [1, 4]), ([5], [5]), ([6], [6]), ([6], [6]), ([8, 6], [6, 8]), ([9, 6], [6, 9]), ([7, 10, 6], [6, 7, 10]), ([6], [6]), ([12, 6], [6, 12]), ([11, 13, 6], [6, 11, 13]), ([6, 14], [6, 14]), ([15, 6, 0, 1, 2, 3, 4, 5, 6, 7, 8, 9, 10, 11, 12, 13, 14, 15], [15])]) := by kernel_rfl
theorem rholds_spec {B w : World} {L : List HP} {Y : HP} {b : Option Addr} {cap2 : Nat} {ps : List Pr} (hY : ∀ {L : List HP} {w : World}, St B (Y :: L) w → Rd w b ps.length 2 (ps.flatMap prc)) (hl2 : ps.length ≤ 4398046511104) (m : Mt) (hS : St B (Y :: L) w) : Does Tryz.prog 93 [Value.agg #[Value.int .i64 m.k, str m.n, str m.v], Value.slice b ps.length cap2] w (fun v w1 => v = .bool (hold m (getV m.n ps)) ∧ St B (Y :: L) w1) := by
 refine enter (n := 44) Tryz.func93 rfl rfl [Value.agg #[Value.int .i64 m.k, str m.n, str m.v], Value.slice b ps.length cap2] rfl ?_
 refine WP.seq (WP.region rfl ?_)
 refine WO.box (l := [Value.int .i64 m.k, str m.n, str m.v]) hS rfl rfl rfl (fun g2 w1 lg2 hS1 => ?_)
 clear hS
 refine WO.asg rfl rfl ?_
 refine WO.nil (NX.go (WP.seq (WP.region rfl ?_)))
 refine WO.mv rfl rfl ?_
 refine WO.V (run_fa 1 ⟨g2, 1, none⟩ rfl rfl) ?_
 refine WO.V (run_load Ty.ag9 rfl ((hS1.cel_at 0 rfl 1).trans rfl)) ?_
 have hS3 := hS1.permT [1] (L' := Y :: cel g2 [Value.int .i64 m.k, str m.n, str m.v] 151 :: L) rfl
 clear hS1
 refine WO.call rfl rfl Ty.hd122 rfl (rget_spec hY hl2 m.n hS3) (fun v5 w4 pv5 => ?_)
 obtain ⟨rfl, hS4⟩ := pv5
 clear hS3
 refine WO.asg rfl rfl ?_
 refine WO.nil (NX.go (WP.seq (WP.seq (WP.region rfl ?_))))
 refine WO.V (run_fa 0 ⟨g2, 0, none⟩ rfl rfl) ?_
 refine WO.V (run_load Ty.ag3 rfl ((hS4.cel_at 1 rfl 0).trans rfl)) ?_
 refine WO.nil (NX.go (WP.block (WP.seq (WP.region rfl ?_))))
 refine WO.V (run_eql rfl rfl) ?_
 refine WO.asg rfl rfl ?_
 refine WO.nil (NX.go ?_)
 refine WP.condP rfl (fun g12 => ?_) (fun g12 => ?_)
 ·
  refine WP.seq (WP.region rfl ?_)
  refine WO.mv rfl rfl ?_
  refine WO.V (run_fa 2 ⟨g2, 2, none⟩ rfl rfl) ?_
  refine WO.V (run_load Ty.ag9 rfl ((hS4.cel_at 1 rfl 2).trans rfl)) ?_
  refine WO.V (run_eqlS rfl rfl) ?_
  refine WO.asg rfl rfl ?_
  refine WO.nil (NX.go (WP.ret (NX.blkRet (NX.thenRet ?_))))
  refine NX.done (l := [.tmp 4]) rfl rfl ?_
  exact ⟨congrArg Value.bool (by simp [hold, g12] <;> intros <;> omega), (hS4.mask [true, false] (L' := Y :: L) rfl)⟩
 ·
  refine WP.seq (WP.region rfl ?_)
  refine WO.V (run_eql rfl rfl) ?_
  refine WO.asg rfl rfl ?_
  refine WO.nil (NX.go ?_)
  refine WP.condP rfl (fun g18 => ?_) (fun g18 => ?_)
  ·
   refine WP.seq (WP.region rfl ?_)
   refine WO.mv rfl rfl ?_
   refine WO.V (run_fa 2 ⟨g2, 2, none⟩ rfl rfl) ?_
   refine WO.V (run_load Ty.ag9 rfl ((hS4.cel_at 1 rfl 2).trans rfl)) ?_
   refine WO.V (run_neqS rfl rfl) ?_
   refine WO.asg rfl rfl ?_
   refine WO.nil (NX.go (WP.ret (NX.blkRet (NX.thenRet ?_))))
   refine NX.done (l := [.tmp 4]) rfl rfl ?_
   exact ⟨congrArg Value.bool (by simp [hold, g12, g18] <;> intros <;> omega), (hS4.mask [true, false] (L' := Y :: L) rfl)⟩
  ·
   refine WP.seq (WP.region rfl ?_)
   refine WO.V (run_eql rfl rfl) ?_
   refine WO.asg rfl rfl ?_
   refine WO.nil (NX.go ?_)
   refine WP.condP rfl (fun g24 => ?_) (fun g24 => ?_)
   ·
    refine WP.seq ?_
    refine WD.start (fun w => Rd w b ps.length 2 (ps.flatMap prc) ∧ (∀ jz, World.cell? w ⟨g2, jz, none⟩ = [Value.int .i64 m.k, str m.n, str m.v][jz]?)) [] (bt 17 0) Ty.mo rfl (by kernel_rfl) hS4 (fun _ h => ⟨(hY (h.focus 0 rfl)), h.cel_at 1 rfl⟩) (fun w6 hS6 s7 => ?_)
    clear hS4
    refine DP (i := 0) t93_8 (bt 17 1) rfl rfl rfl rfl (fun w => run_move rfl) ?_
    refine DP (i := 1) t93_8 (bt 17 3) rfl rfl rfl rfl (fun w => run_lenS rfl Tryz.underlying9 rfl) ?_
    refine DP (i := 2) t93_8 (bt 17 7) rfl rfl rfl rfl (fun w => run_fa 2 ⟨g2, 2, none⟩ rfl rfl) ?_
    refine DT (i := 3) t93_8 (bt 17 15) s7 rfl rfl rfl rfl (fun w hs => run_load Ty.ag9 rfl ((hs.2 2).trans rfl)) ?_
    refine DP (i := 4) t93_8 (bt 17 31) rfl rfl rfl rfl (fun w => run_lenS rfl Tryz.underlying9 rfl) ?_
    refine DP (i := 5) t93_8 (bt 17 63) rfl rfl rfl rfl (fun w => run_geq rfl rfl) ?_
    refine DP (i := 6) t93_8 (bt 17 127) rfl rfl rfl rfl (fun w => run_move rfl) ?_
    refine dcase (p := (m.v.length : Int) ≤ ((getV m.n ps).length : Int)) (fun g32 d32 => ?_) (fun g32 d32 => ?_)
    ·
     refine DPn (i := 7) t93_8 (bt 17 255) rfl rfl rfl d32 rfl (fun w => run_move rfl) ?_
     refine DPn (i := 8) t93_8 (bt 17 511) rfl rfl rfl d32 rfl (fun w => run_fa 2 ⟨g2, 2, none⟩ rfl rfl) ?_
     refine DTn (i := 9) t93_8 (bt 17 1023) s7 rfl rfl rfl d32 rfl (fun w hs => run_load Ty.ag9 rfl ((hs.2 2).trans rfl)) ?_
     refine DPn (i := 10) t93_8 (bt 17 2047) rfl rfl rfl d32 rfl (fun w => run_lenS rfl Tryz.underlying9 rfl) ?_
     refine DPn (i := 11) t93_8 (bt 17 4095) rfl rfl rfl d32 rfl (fun w => run_sliceS (i := 0) (j := m.v.length) Tryz.underlying9 rfl rfl ⟨_, rfl⟩ (Nat.zero_le _) (by omega) (List.drop_zero)) ?_
     refine DPn (i := 12) t93_8 (bt 17 8191) rfl rfl rfl d32 rfl (fun w => run_fa 2 ⟨g2, 2, none⟩ rfl rfl) ?_
     refine DTn (i := 13) t93_8 (bt 17 16383) s7 rfl rfl rfl d32 rfl (fun w hs => run_load Ty.ag9 rfl ((hs.2 2).trans rfl)) ?_
     refine DPn (i := 14) t93_8 (bt 17 32767) rfl rfl rfl d32 rfl (fun w => run_eqlS rfl rfl) ?_
     refine DP (i := 15) t93_8 (bt 17 65535) rfl rfl rfl rfl (fun w => run_pickT rfl d32 rfl) ?_
     refine DP (i := 16) t93_8 (bt 17 131071) rfl rfl rfl rfl (fun w => run_assign rfl) ?_
     refine WD.done t93_8 (by kernel_rfl) ?_
     refine NX.go (WP.ret (NX.blkRet (NX.thenRet ?_)))
     refine NX.done (l := [.tmp 4]) rfl rfl ?_
     exact ⟨congrArg Value.bool (by simp [hold, g12, g18, g24, g32] <;> intros <;> omega), (hS6.mask [true, false] (L' := Y :: L) rfl)⟩
    ·
     refine DO (i := 7) t93_8 (bt 17 255) rfl rfl rfl d32 rfl ?_
     refine DO (i := 8) t93_8 (bt 17 511) rfl rfl rfl d32 rfl ?_
     refine DO (i := 9) t93_8 (bt 17 1023) rfl rfl rfl d32 rfl ?_
     refine DO (i := 10) t93_8 (bt 17 2047) rfl rfl rfl d32 rfl ?_
     refine DO (i := 11) t93_8 (bt 17 4095) rfl rfl rfl d32 rfl ?_
     refine DO (i := 12) t93_8 (bt 17 8191) rfl rfl rfl d32 rfl ?_
     refine DO (i := 13) t93_8 (bt 17 16383) rfl rfl rfl d32 rfl ?_
     refine DO (i := 14) t93_8 (bt 17 32767) rfl rfl rfl d32 rfl ?_
     refine DP (i := 15) t93_8 (bt 17 65535) rfl rfl rfl rfl (fun w => run_pickF rfl d32 rfl) ?_
     refine DP (i := 16) t93_8 (bt 17 131071) rfl rfl rfl rfl (fun w => run_assign rfl) ?_
     refine WD.done t93_8 (by kernel_rfl) ?_
     refine NX.go (WP.ret (NX.blkRet (NX.thenRet ?_)))
     refine NX.done (l := [.tmp 4]) rfl rfl ?_
     exact ⟨congrArg Value.bool (by simp [hold, g12, g18, g24, g32] <;> intros <;> omega), (hS6.mask [true, false] (L' := Y :: L) rfl)⟩
   ·
    refine WP.skip (NX.blk (NX.go (WP.seq (WP.region rfl ?_))))
    refine WO.mv rfl rfl ?_
    refine WO.V (run_neqS rfl rfl) ?_
    refine WO.asg rfl rfl ?_
    refine WO.nil (NX.go (WP.ret ?_))
    refine NX.done (l := [.tmp 4]) rfl rfl ?_
    exact ⟨congrArg Value.bool (by simp [hold, g12, g18, g24] <;> intros <;> omega), (hS4.mask [true, false] (L' := Y :: L) rfl)⟩
theorem ris_spec {B w : World} {L : List HP} {X Y : HP} {a b : Option Addr} {cap cap2 : Nat} {l : List Mt} {ps : List Pr} (hX : ∀ {L : List HP} {w : World}, St B (X :: L) w → Rd w a l.length 3 (l.flatMap mtc)) (hY : ∀ {L : List HP} {w : World}, St B (Y :: L) w → Rd w b ps.length 2 (ps.flatMap prc)) (hb : SzM l) (hl : l.length ≤ 4398046511104) (hl2 : ps.length ≤ 4398046511104) (hS : St B (X :: Y :: L) w) : Does Tryz.prog 57 [Value.slice a l.length cap, Value.slice b ps.length cap2] w (fun v w1 => v = .bool (isF l ps) ∧ St B (X :: Y :: L) w1) := by
 refine enter (n := 26) Tryz.func57 rfl rfl [Value.slice a l.length cap, Value.slice b ps.length cap2] rfl ?_
 refine WP.seq (WP.region rfl ?_)
 refine WO.asg rfl rfl ?_
 refine WO.nil (NX.go (WP.seq (WP.region rfl ?_)))
 refine WO.mv rfl rfl ?_
 refine WO.call rfl rfl Ty.hd50 rfl (rcheckm_spec hX hb hl hS) (fun v2 w1 pv2 => ?_)
 obtain ⟨rfl, hS1⟩ := pv2
 clear hS
 refine WO.V (run_eql rfl rfl) ?_
 refine WO.asg rfl rfl ?_
 refine WO.nil (NX.go (WP.seq (WP.seq (WP.region rfl ?_))))
 refine WO.asg rfl rfl ?_
 refine WO.nil (NX.go (WP.block ?_))
 refine WP.loop (α := Nat × Bool) (fun x => match x with | ⟨i, ok⟩ => [(0, Value.slice a l.length cap), (1, Value.slice b ps.length cap2), (5, Value.bool ok), (6, Value.int .i64 (i : Int))]) (fun x w => match x with | ⟨i, ok⟩ => (i ≤ l.length ∧ (ok && (l.drop i).all fun m => hold m (getV m.n ps)) = isF l ps) ∧ St B (X :: Y :: L) w) (fun x => match x with | ⟨i, ok⟩ => l.length - i) (0, decide (mchk l = 0)) ⟨⟨Nat.zero_le _, rfl⟩, hS1⟩ (Sub.cons rfl (Sub.cons rfl (Sub.consE rfl (by first | rfl | first | rfl | (congr 1; omega) | (simp; done) | (simp; omega)) (Sub.consE rfl (by first | rfl | first | rfl | (congr 1; omega) | (simp; done) | (simp; omega)) (Sub.nil _))))) ?_
 rintro ⟨i, ok⟩ w3 ⟨⟨hi, hgo⟩, hS3⟩
 clear hS1
 refine WP.seq (WP.seq (WP.region rfl ?_))
 refine WO.mv rfl rfl ?_
 refine WO.mv rfl rfl ?_
 refine WO.V (run_len rfl Tryz.underlying24 rfl) ?_
 refine WO.V (run_lss rfl rfl) ?_
 refine WO.mv rfl rfl ?_
 refine dcase (p := (i : Int) < ((l.length : Nat) : Int)) (fun g14 d14 => ?_) (fun g14 d14 => ?_)
 ·
  refine WO.on rfl rfl d14 ?_
  refine WO.mv rfl rfl ?_
  refine WO.V (run_pickT rfl d14 rfl) ?_
  refine WO.nil (NX.go ?_)
  refine WP.condB rfl (fun g16 => ?_) (fun g16 => ?_)
  ·
   refine WP.skip (NX.go (WP.seq (WP.block (WP.region rfl ?_))))
   refine WO.mv rfl rfl ?_
   refine WO.mv rfl rfl ?_
   obtain ⟨m, hm⟩ : ∃ m, l[i]? = some m := ⟨_, List.getElem?_eq_getElem (by omega)⟩
   refine WO.V (run_indexAddr (q := adr a (i * 3)) Tryz.underlying24 Ty.sz151 rfl rfl (by omega) (by omega) ((hX (hS3.focus 0 rfl)).2.1 (by omega)) rfl) ?_
   refine WO.V (run_loadAgg (vs := [Value.int .i64 m.k, str m.n, str m.v]) Ty.ag151 Ty.sz151 rfl ((hX (hS3.focus 0 rfl)).cells (by rw [flat_len mtc_len]; omega) (flat_part mtc_len hm)).1 ((hX (hS3.focus 0 rfl)).cells (by rw [flat_len mtc_len]; omega) (flat_part mtc_len hm)).2) ?_
   refine WO.mv rfl rfl ?_
   have hS4 := hS3.permT [1] (L' := Y :: X :: L) rfl
   clear hS3
   refine WO.call rfl rfl Ty.hd93 rfl (rholds_spec hY hl2 m hS4) (fun v6 w5 pv6 => ?_)
   obtain ⟨rfl, hS5⟩ := pv6
   clear hS4
   refine WO.asg rfl rfl ?_
   refine WO.nil (NX.blk (NX.go (WP.region rfl ?_)))
   refine WO.mv rfl rfl ?_
   refine WO.V (run_add rfl rfl (IntWalk.i64_in _ (by omega))) ?_
   refine WO.asg rfl rfl ?_
   refine WO.nil ?_
   exact NX.again (i + 1, hold m (getV m.n ps)) ⟨⟨by omega, by rw [drop_cons hm, g16] at hgo; rw [← hgo]; simp⟩, (hS5.permT [1] (L' := X :: Y :: L) rfl)⟩ (by show l.length - (i + 1) < l.length - i; omega) (Sub.cons rfl (Sub.cons rfl (Sub.consE rfl rfl (Sub.consE rfl (by congr 1) (Sub.nil _)))))
  ·
   refine WP.exit (NX.thenExit (NX.thenExit ?_))
   refine NX.blkExit ?_
   refine NX.go (WP.seq (WP.region rfl ?_))
   refine WO.mv rfl rfl ?_
   refine WO.asg rfl rfl ?_
   refine WO.nil (NX.go (WP.ret ?_))
   refine NX.done (l := [.tmp 4]) rfl rfl ?_
   exact ⟨congrArg Value.bool (by rw [← hgo, g16]; rfl), hS3⟩
 ·
  refine WO.off rfl rfl d14 rfl ?_
  refine WO.V (run_pickF rfl d14 rfl) ?_
  refine WO.nil (NX.go ?_)
  refine WP.condF rfl rfl ?_
  refine WP.exit (NX.thenExit (NX.thenExit ?_))
  refine NX.blkExit ?_
  refine NX.go (WP.seq (WP.region rfl ?_))
  refine WO.mv rfl rfl ?_
  refine WO.asg rfl rfl ?_
  refine WO.nil (NX.go (WP.ret ?_))
  refine NX.done (l := [.tmp 4]) rfl rfl ?_
  exact ⟨congrArg Value.bool (by rw [← hgo, List.drop_of_length_le (by omega)]; simp), hS3⟩
end Go.Proofs.YtidoidoelgfnaaaGreatDoor.SL

/- Matchers: what is wrong with one. -/
namespace Go.Proofs.YtidoidoelgfnaaaGreatDoor.SL
open Go.RowKit Go.Proofs.YtidoidoelgfnaaaGreatDoor
open Go.Proofs.YtidoidoelgfnaaaGreatDoorW.PrintLast (rtab opsOf)
set_option linter.unusedVariables false
set_option linter.unusedSimpArgs false

theorem chk_one (n v : List UInt8) : chk [⟨n, v⟩] = (nameF n && valueF v) := by
  simp only [chk, chkGo, List.length_singleton]
  cases h : nameF n with
  | false => simp
  | true => simp [gt_nil (nameF_ne h)]
def orDash (v : List UInt8) : List UInt8 := if v = [] then [45] else v
theorem value_dash : valueF [45] = true := by decide
theorem chk_dash (n v : List UInt8) : (chk [⟨n, orDash v⟩] = true) ↔ ¬ (nameF n = false ∨ (¬ v = [] ∧ valueF v = false)) := by
  rw [chk_one]; unfold orDash
  by_cases h : v = []
  · simp [h, value_dash]
  · simp [h]
theorem lright_spec {B w : World} {L : List HP} (m : Mt) (h1 : m.n.length ≤ 140737488355328 ∧ m.v.length ≤ 140737488355328) (hS : St B L w) : Does Tryz.prog 116 [Value.agg #[Value.int .i64 m.k, str m.n, str m.v]] w (fun v w1 => v = .int .i64 (rightF m) ∧ St B L w1) := by
 refine enter (n := 33) Tryz.func116 rfl rfl [Value.agg #[Value.int .i64 m.k, str m.n, str m.v]] rfl ?_
 refine WP.seq (WP.region rfl ?_)
 refine WO.box (l := [Value.int .i64 m.k, str m.n, str m.v]) hS rfl rfl rfl (fun g2 w1 lg2 hS1 => ?_)
 clear hS
 refine WO.asg rfl rfl ?_
 refine WO.nil (NX.go (WP.seq (WP.seq (WP.region rfl ?_))))
 refine WO.V (run_fa 0 ⟨g2, 0, none⟩ rfl rfl) ?_
 refine WO.V (run_load Ty.ag3 rfl ((hS1.cel_at 0 rfl 0).trans rfl)) ?_
 refine WO.V (run_lss rfl rfl) ?_
 refine WO.mv rfl rfl ?_
 refine dcase (p := m.k < 1) (fun g7 d7 => ?_) (fun g7 d7 => ?_)
 ·
  refine WO.off rfl rfl d7 rfl ?_
  refine WO.off rfl rfl d7 rfl ?_
  refine WO.off rfl rfl d7 rfl ?_
  refine WO.V (run_pickT rfl d7 rfl) ?_
  refine WO.nil (NX.go ?_)
  refine WP.condT rfl rfl ?_
  refine WP.seq (WP.region rfl ?_)
  refine WO.asg rfl rfl ?_
  refine WO.nil (NX.go (WP.ret (NX.thenRet ?_)))
  refine NX.done (l := [.tmp 2]) rfl rfl ?_
  exact ⟨congrArg (Value.int .i64) (right_5 (by omega)).symm, hS1.drop⟩
 ·
  refine WO.on rfl rfl d7 ?_
  refine WO.V (run_fa 0 ⟨g2, 0, none⟩ rfl rfl) ?_
  refine WO.on rfl rfl d7 ?_
  refine WO.V (run_load Ty.ag3 rfl ((hS1.cel_at 0 rfl 0).trans rfl)) ?_
  refine WO.on rfl rfl d7 ?_
  refine WO.V (run_gtr rfl rfl) ?_
  refine WO.V (run_pickF rfl d7 rfl) ?_
  refine WO.nil (NX.go ?_)
  refine WP.condP rfl (fun g11 => ?_) (fun g11 => ?_)
  ·
   refine WP.seq (WP.region rfl ?_)
   refine WO.asg rfl rfl ?_
   refine WO.nil (NX.go (WP.ret (NX.thenRet ?_)))
   refine NX.done (l := [.tmp 2]) rfl rfl ?_
   exact ⟨congrArg (Value.int .i64) (right_5 (by omega)).symm, hS1.drop⟩
  ·
   refine WP.skip (NX.go (WP.seq (WP.region rfl ?_)))
   refine WO.V (run_fa 2 ⟨g2, 2, none⟩ rfl rfl) ?_
   refine WO.V (run_load Ty.ag9 rfl ((hS1.cel_at 0 rfl 2).trans rfl)) ?_
   refine WO.asg rfl rfl ?_
   refine WO.nil (NX.go (WP.seq (WP.seq (WP.region rfl ?_))))
   refine WO.mv rfl rfl ?_
   refine WO.V (run_eqlS rfl rfl) ?_
   refine WO.nil (NX.go ?_)
   refine WP.meet (α := Unit) (fun x => match x with | _ => [(1, Value.pointer (some ⟨g2, 0, none⟩)), (3, str (orDash m.v))]) (fun x w => match x with | _ => St B (cel g2 [Value.int .i64 m.k, str m.n, str m.v] 151 :: L) w) ?_ (fun K3 => ?_)
   ·
    rintro _ w4 hS4
    clear hS1
    refine NX.go (WP.seq (WP.seq (WP.region rfl ?_)))
    refine WO.V (run_fa 1 ⟨g2, 1, none⟩ rfl rfl) ?_
    refine WO.V (run_load Ty.ag9 rfl ((hS4.cel_at 0 rfl 1).trans rfl)) ?_
    refine WO.mv rfl rfl ?_
    refine WO.V (run_build (v := Value.agg #[str m.n, str (orDash m.v)]) rfl (fun w => by kernel_rfl)) ?_
    refine WO.buildSlice (l := [str m.n, str (orDash m.v)]) hS4 Tryz.underlying65 rfl (fun w => by kernel_rfl) rfl (fun g6 w5 lg6 hS5 => ?_)
    clear hS4
    have hS5 := hS5.own_of_cel (m := 1) (k := 2) rfl
    refine WO.call rfl rfl Ty.hd94 rfl (lcheck_spec (a := some ⟨g6, 0, none⟩) (cap := 1) (l := [⟨m.n, orDash m.v⟩]) (fun h => h.own_rd.1) (by intro p hp; simp only [List.mem_singleton] at hp; subst hp; exact ⟨h1.1, by show (orDash m.v).length ≤ _; unfold orDash; split; (· simp); exact h1.2⟩) (by simp) hS5) (fun v8 w7 pv8 => ?_)
    obtain ⟨rfl, hS7⟩ := pv8
    clear hS5
    refine WO.V (run_neq rfl rfl) ?_
    refine WO.mv rfl rfl ?_
    refine dcase (p := ¬ (if chk [⟨m.n, orDash m.v⟩] = true then (0 : Int) else 16) = 0) (fun g23 d23 => ?_) (fun g23 d23 => ?_)
    ·
     refine WO.off rfl rfl d23 rfl ?_
     refine WO.off rfl rfl d23 rfl ?_
     refine WO.off rfl rfl d23 rfl ?_
     refine WO.off rfl rfl d23 rfl ?_
     refine WO.offU rfl rfl rfl ?_
     refine WO.offU rfl rfl rfl ?_
     refine WO.offU rfl rfl rfl ?_
     refine WO.off rfl rfl d23 rfl ?_
     refine WO.V (run_pickT rfl d23 rfl) ?_
     refine WO.nil (NX.go ?_)
     refine WP.condT rfl rfl ?_
     refine WP.seq (WP.region rfl ?_)
     refine WO.asg rfl rfl ?_
     refine WO.nil (NX.go (WP.ret (NX.thenRet ?_)))
     refine NX.done (l := [.tmp 2]) rfl rfl ?_
     have hck := chk_dash m.n m.v
     exact ⟨congrArg (Value.int .i64) (right_3 (by omega) (by clear hS7; by_cases hcc : chk [⟨m.n, orDash m.v⟩] = true <;> cases hnn : nameF m.n <;> simp_all)).symm, hS7.drop.drop⟩
    ·
     refine WO.on rfl rfl d23 ?_
     refine WO.V (run_fa 0 ⟨g2, 0, none⟩ rfl rfl) ?_
     refine WO.on rfl rfl d23 ?_
     refine WO.V (run_load Ty.ag3 rfl ((hS7.cel_at 1 rfl 0).trans rfl)) ?_
     refine WO.on rfl rfl d23 ?_
     refine WO.V (run_eql rfl rfl) ?_
     refine WO.on rfl rfl d23 ?_
     refine WO.mv rfl rfl ?_
     refine dcase (p := m.k = 4) (fun g27 d27 => ?_) (fun g27 d27 => ?_)
     ·
      refine WO.on rfl rfl d27 ?_
      refine WO.V (run_fa 2 ⟨g2, 2, none⟩ rfl rfl) ?_
      refine WO.on rfl rfl d27 ?_
      refine WO.V (run_load Ty.ag9 rfl ((hS7.cel_at 1 rfl 2).trans rfl)) ?_
      refine WO.on rfl rfl d27 ?_
      refine WO.V (run_neqS rfl rfl) ?_
      refine WO.on rfl rfl d23 ?_
      refine WO.V (run_pickT rfl d27 rfl) ?_
      refine WO.V (run_pickF rfl d23 rfl) ?_
      refine WO.nil (NX.go ?_)
      refine WP.condP rfl (fun g32 => ?_) (fun g32 => ?_)
      ·
       refine WP.seq (WP.region rfl ?_)
       refine WO.asg rfl rfl ?_
       refine WO.nil (NX.go (WP.ret (NX.thenRet ?_)))
       refine NX.done (l := [.tmp 2]) rfl rfl ?_
       have hck := chk_dash m.n m.v
       exact ⟨congrArg (Value.int .i64) (right_3 (by omega) (by clear hS7; by_cases hcc : chk [⟨m.n, orDash m.v⟩] = true <;> cases hnn : nameF m.n <;> simp_all)).symm, hS7.drop.drop⟩
      ·
       refine WP.skip (NX.go (WP.seq (WP.region rfl ?_)))
       refine WO.asg rfl rfl ?_
       refine WO.nil (NX.go (WP.ret ?_))
       refine NX.done (l := [.tmp 2]) rfl rfl ?_
       have hck := chk_dash m.n m.v
       exact ⟨congrArg (Value.int .i64) (right_0 (by omega) (by clear hS7; by_cases hcc : chk [⟨m.n, orDash m.v⟩] = true <;> cases hnn : nameF m.n <;> simp_all)).symm, hS7.drop.drop⟩
     ·
      refine WO.off rfl rfl d27 rfl ?_
      refine WO.off rfl rfl d27 rfl ?_
      refine WO.off rfl rfl d27 rfl ?_
      refine WO.on rfl rfl d23 ?_
      refine WO.V (run_pickF rfl d27 rfl) ?_
      refine WO.V (run_pickF rfl d23 rfl) ?_
      refine WO.nil (NX.go ?_)
      refine WP.condF rfl rfl ?_
      refine WP.skip (NX.go (WP.seq (WP.region rfl ?_)))
      refine WO.asg rfl rfl ?_
      refine WO.nil (NX.go (WP.ret ?_))
      refine NX.done (l := [.tmp 2]) rfl rfl ?_
      have hck := chk_dash m.n m.v
      exact ⟨congrArg (Value.int .i64) (right_0 (by omega) (by clear hS7; by_cases hcc : chk [⟨m.n, orDash m.v⟩] = true <;> cases hnn : nameF m.n <;> simp_all)).symm, hS7.drop.drop⟩
   ·
    refine WP.condP rfl (fun g15 => ?_) (fun g15 => ?_)
    ·
     refine WP.region rfl ?_
     refine WO.asg rfl rfl ?_
     refine WO.nil ?_
     exact K3 () _ _ hS1 (Sub.cons rfl (Sub.consE rfl (by unfold orDash; rw [if_pos g15]) (Sub.nil _)))
    ·
     refine WP.skip ?_
     exact K3 () _ _ hS1 (Sub.cons rfl (Sub.consE rfl (by unfold orDash; rw [if_neg g15]) (Sub.nil _)))
end Go.Proofs.YtidoidoelgfnaaaGreatDoor.SL

/- Matchers: which labels are asked for. -/
namespace Go.Proofs.YtidoidoelgfnaaaGreatDoor.SL
open Go.RowKit Go.Proofs.YtidoidoelgfnaaaGreatDoor
open Go.Proofs.YtidoidoelgfnaaaGreatDoorW.PrintLast (rtab opsOf)
set_option linter.unusedVariables false
set_option linter.unusedSimpArgs false
theorem lcheckm_spec {B w : World} {L : List HP} {X : HP} {a : Option Addr} {cap : Nat} {l : List Mt} (hX : ∀ {L : List HP} {w : World}, St B (X :: L) w → Rd w a l.length 3 (l.flatMap mtc)) (hb : SzM l) (hl : l.length ≤ 4398046511104) (hS : St B (X :: L) w) : Does Tryz.prog 89 [Value.slice a l.length cap] w (fun v w1 => v = .int .i64 (mchk l) ∧ St B (X :: L) w1) := by
 refine enter (n := 21) Tryz.func89 rfl rfl [Value.slice a l.length cap] rfl ?_
 refine WP.seq (WP.region rfl ?_)
 refine WO.asg rfl rfl ?_
 refine WO.nil (NX.go (WP.seq (WP.seq (WP.region rfl ?_))))
 refine WO.mv rfl rfl ?_
 refine WO.V (run_len rfl Tryz.underlying24 rfl) ?_
 refine WO.V (run_gtr rfl rfl) ?_
 refine WO.nil (NX.go ?_)
 refine WP.condP rfl (fun g8 => ?_) (fun g8 => ?_)
 ·
  refine WP.seq (WP.region rfl ?_)
  refine WO.asg rfl rfl ?_
  refine WO.nil (NX.go (WP.ret (NX.thenRet ?_)))
  refine NX.done (l := [.tmp 2]) rfl rfl ?_
  exact ⟨congrArg (Value.int .i64) (if_pos (by omega)).symm, hS⟩
 ·
  refine WP.skip (NX.go (WP.seq (WP.seq (WP.region rfl ?_))))
  refine WO.mv rfl rfl ?_
  refine WO.V (run_len rfl Tryz.underlying24 rfl) ?_
  refine WO.mv rfl rfl ?_
  refine WO.nil (NX.go (WP.block ?_))
  refine WP.loop (α := Nat) (fun x => match x with | i => [(0, Value.slice a l.length cap), (9, Value.slice a l.length cap), (10, Value.int .i64 ((l.length : Nat) : Int)), (11, Value.int .i64 (i : Int))]) (fun x w => match x with | i => (i ≤ l.length ∧ mgo (l.drop i) = mgo l) ∧ St B (X :: L) w) (fun x => match x with | i => l.length - i) 0 ⟨⟨Nat.zero_le _, rfl⟩, hS⟩ (Sub.cons rfl (Sub.cons rfl (Sub.cons rfl (Sub.consE rfl (by first | rfl | first | rfl | (congr 1; omega) | (simp; done) | (simp; omega)) (Sub.nil _))))) ?_
  rintro i w1 ⟨⟨hi, hgo⟩, hS1⟩
  clear hS
  refine WP.seq (WP.region rfl ?_)
  refine WO.V (run_lss rfl rfl) ?_
  refine WO.nil (NX.go (WP.seq ?_))
  refine WP.condP rfl (fun g12 => ?_) (fun g12 => ?_)
  ·
   refine WP.skip (NX.go (WP.seq (WP.block (WP.seq (WP.region rfl ?_)))))
   obtain ⟨m, hm⟩ : ∃ m, l[i]? = some m := ⟨_, List.getElem?_eq_getElem (by omega)⟩
   refine WO.V (run_indexAddr (q := adr a (i * 3)) Tryz.underlying24 Ty.sz151 rfl rfl (by omega) (by omega) ((hX (hS1.focus 0 rfl)).2.1 (by omega)) rfl) ?_
   refine WO.V (run_loadAgg (vs := [Value.int .i64 m.k, str m.n, str m.v]) Ty.ag151 Ty.sz151 rfl ((hX (hS1.focus 0 rfl)).cells (by rw [flat_len mtc_len]; omega) (flat_part mtc_len hm)).1 ((hX (hS1.focus 0 rfl)).cells (by rw [flat_len mtc_len]; omega) (flat_part mtc_len hm)).2) ?_
   refine WO.alloc (l := [Value.int .i64 0, str [], str []]) hS1 Ty.zr151 rfl rfl (fun g3 w2 lg3 hS2 => ?_)
   clear hS1
   refine WO.store (l' := [Value.int .i64 m.k, str m.n, str m.v]) 0 hS2 rfl Ty.sz151 rfl rfl rfl rfl rfl (Nat.le_of_ble_eq_true rfl) rfl (fun w4 (hS4 : St B (cel g3 [Value.int .i64 m.k, str m.n, str m.v] 151 :: _::L) w4) => ?_)
   clear hS2
   refine WO.nil (NX.go (WP.seq (WP.region rfl ?_)))
   refine WO.V (run_loadAgg (vs := [Value.int .i64 m.k, str m.n, str m.v]) Ty.ag151 Ty.sz151 rfl rfl (cell_all (hS4.cel_at 0 rfl) 0 rfl)) ?_
   refine WO.call rfl rfl Ty.hd116 rfl (lright_spec m (by have := hb m (List.mem_of_getElem? hm); omega) hS4) (fun v6 w5 pv6 => ?_)
   obtain ⟨rfl, hS5⟩ := pv6
   clear hS4
   refine WO.asg rfl rfl ?_
   refine WO.nil (NX.go (WP.seq (WP.region rfl ?_)))
   refine WO.mv rfl rfl ?_
   refine WO.V (run_neq rfl rfl) ?_
   refine WO.nil (NX.go ?_)
   refine WP.condP rfl (fun g18 => ?_) (fun g18 => ?_)
   ·
    refine WP.seq (WP.region rfl ?_)
    refine WO.mv rfl rfl ?_
    refine WO.asg rfl rfl ?_
    refine WO.nil (NX.go (WP.ret (NX.blkRet (NX.thenRet (NX.thenRet (NX.blkRet (NX.thenRet ?_)))))))
    refine NX.done (l := [.tmp 2]) rfl rfl ?_
    refine ⟨congrArg (Value.int .i64) ?_, hS5.drop⟩
    rw [drop_cons hm] at hgo
    rw [mchk, if_neg (by omega), ← hgo, mgo, if_pos (by assumption)]
   ·
    refine WP.skip (NX.blk (NX.go (WP.region rfl ?_)))
    refine WO.V (run_add rfl rfl (IntWalk.i64_in _ (by omega))) ?_
    refine WO.mv rfl rfl ?_
    refine WO.nil ?_
    exact NX.again (i + 1) ⟨⟨by omega, by rw [drop_cons hm] at hgo; rw [← hgo, mgo, if_neg (by assumption)]⟩, hS5.drop⟩ (by show l.length - (i + 1) < l.length - i; omega) (Sub.cons rfl (Sub.cons rfl (Sub.cons rfl (Sub.consE rfl (by congr 1) (Sub.nil _)))))
  ·
   refine WP.exit (NX.thenExit (NX.thenExit ?_))
   refine NX.blkExit ?_
   refine NX.go (WP.seq (WP.region rfl ?_))
   refine WO.asg rfl rfl ?_
   refine WO.nil (NX.go (WP.ret ?_))
   refine NX.done (l := [.tmp 2]) rfl rfl ?_
   exact ⟨congrArg (Value.int .i64) (by rw [mchk, if_neg (by omega), ← hgo, List.drop_of_length_le (by omega)]; rfl), hS1⟩

theorem hasPre_spec {B w : World} {L : List HP} (s p : List UInt8) (hS : St B L w) : Does Tryz.prog 120 [str s, str p] w (fun v w1 => v = .bool (decide (p.length ≤ s.length ∧ s.take p.length = p)) ∧ St B L w1) := by
  refine (Tryz.strings_HasPrefix (bs s) (bs p) w).mono ?_
  rintro e w' ⟨rfl, rfl⟩
  exact ⟨_, rfl, congrArg Value.bool (pre_iff p s), hS⟩
theorem ask1_spec {B w : World} {L : List HP} {g : Nat} (m : Mt) (s : List UInt8) (hS : St B (cel g (mtc m) 151 :: L) w) : Does Tryz.prog 117 [str s, Value.pointer (some ⟨g, 0, none⟩)] w (fun v w1 => v = .bool (decide (s = m.v)) ∧ St B (cel g (mtc m) 151 :: L) w1) := by
 refine enter (n := 8) Tryz.func117 rfl rfl [str s, Value.pointer (some ⟨g, 0, none⟩)] rfl ?_
 refine WP.seq (WP.region rfl ?_)
 refine WO.asg rfl rfl ?_
 refine WO.nil (NX.go (WP.seq (WP.region rfl ?_)))
 refine WO.mv rfl rfl ?_
 refine WO.V (run_fa 2 ⟨g, 2, none⟩ rfl rfl) ?_
 refine WO.V (run_load Ty.ag9 rfl ((hS.cel_at 0 rfl 2).trans rfl)) ?_
 refine WO.V (run_eqlS rfl rfl) ?_
 refine WO.asg rfl rfl ?_
 refine WO.nil (NX.go (WP.ret ?_))
 refine NX.done (l := [.tmp 3]) rfl rfl ?_
 exact ⟨rfl, hS⟩
theorem ask2_spec {B w : World} {L : List HP} {g : Nat} (m : Mt) (s : List UInt8) (hS : St B (cel g (mtc m) 151 :: L) w) : Does Tryz.prog 118 [str s, Value.pointer (some ⟨g, 0, none⟩)] w (fun v w1 => v = .bool (decide (¬ s = m.v)) ∧ St B (cel g (mtc m) 151 :: L) w1) := by
 refine enter (n := 8) Tryz.func118 rfl rfl [str s, Value.pointer (some ⟨g, 0, none⟩)] rfl ?_
 refine WP.seq (WP.region rfl ?_)
 refine WO.asg rfl rfl ?_
 refine WO.nil (NX.go (WP.seq (WP.region rfl ?_)))
 refine WO.mv rfl rfl ?_
 refine WO.V (run_fa 2 ⟨g, 2, none⟩ rfl rfl) ?_
 refine WO.V (run_load Ty.ag9 rfl ((hS.cel_at 0 rfl 2).trans rfl)) ?_
 refine WO.V (run_neqS rfl rfl) ?_
 refine WO.asg rfl rfl ?_
 refine WO.nil (NX.go (WP.ret ?_))
 refine NX.done (l := [.tmp 3]) rfl rfl ?_
 exact ⟨rfl, hS⟩
theorem ask3_spec {B w : World} {L : List HP} {g : Nat} (m : Mt) (s : List UInt8) (hS : St B (cel g (mtc m) 151 :: L) w) : Does Tryz.prog 119 [str s, Value.pointer (some ⟨g, 0, none⟩)] w (fun v w1 => v = .bool (decide (m.v.length ≤ s.length ∧ s.take m.v.length = m.v)) ∧ St B (cel g (mtc m) 151 :: L) w1) := by
 refine enter (n := 8) Tryz.func119 rfl rfl [str s, Value.pointer (some ⟨g, 0, none⟩)] rfl ?_
 refine WP.seq (WP.region rfl ?_)
 refine WO.asg rfl rfl ?_
 refine WO.nil (NX.go (WP.seq (WP.region rfl ?_)))
 refine WO.mv rfl rfl ?_
 refine WO.V (run_fa 2 ⟨g, 2, none⟩ rfl rfl) ?_
 refine WO.V (run_load Ty.ag9 rfl ((hS.cel_at 0 rfl 2).trans rfl)) ?_
 refine WO.call rfl rfl Ty.hd120 rfl (hasPre_spec s m.v hS) (fun v2 w1 pv2 => ?_)
 obtain ⟨rfl, hS1⟩ := pv2
 clear hS
 refine WO.asg rfl rfl ?_
 refine WO.nil (NX.go (WP.ret ?_))
 refine NX.done (l := [.tmp 3]) rfl rfl ?_
 exact ⟨rfl, hS1⟩
theorem ask4_spec {B w : World} {L : List HP} (s : List UInt8) (hS : St B L w) : Does Tryz.prog 121 [str s] w (fun v w1 => v = .bool (decide (¬ s = [])) ∧ St B L w1) := by
 refine enter (n := 5) Tryz.func121 rfl rfl [str s] rfl ?_
 refine WP.seq (WP.region rfl ?_)
 refine WO.asg rfl rfl ?_
 refine WO.nil (NX.go (WP.seq (WP.region rfl ?_)))
 refine WO.mv rfl rfl ?_
 refine WO.V (run_neqS rfl rfl) ?_
 refine WO.asg rfl rfl ?_
 refine WO.nil (NX.go (WP.ret ?_))
 refine NX.done (l := [.tmp 2]) rfl rfl ?_
 exact ⟨rfl, hS⟩

/-- What a function value answers. -/
def Asks (B : World) (g : Nat) (m : Mt) (k : Nat) (cs : List Value) : Prop := ∀ (s : List UInt8) {L : List HP} {w : World}, St B ((cel g (mtc m) 151) :: L) w → Does Tryz.prog k ([] ++ [str s] ++ cs) w (fun v w1 => v = .bool (hold m s) ∧ St B ((cel g (mtc m) 151) :: L) w1)
theorem asks_1 {B : World} {g : Nat} {m : Mt} (h : m.k = 1) : Asks B g m 117 [.pointer (some ⟨g, 0, none⟩)] := fun s _ _ hS => (ask1_spec m s hS).mono fun v w1 ⟨e, h1⟩ => ⟨by rw [e]; simp [hold, h], h1⟩
theorem asks_2 {B : World} {g : Nat} {m : Mt} (h : m.k = 2) : Asks B g m 118 [.pointer (some ⟨g, 0, none⟩)] := fun s _ _ hS => (ask2_spec m s hS).mono fun v w1 ⟨e, h1⟩ => ⟨by rw [e]; simp [hold, h], h1⟩
theorem asks_3 {B : World} {g : Nat} {m : Mt} (h : m.k = 3) : Asks B g m 119 [.pointer (some ⟨g, 0, none⟩)] := fun s _ _ hS => (ask3_spec m s hS).mono fun v w1 ⟨e, h1⟩ => ⟨by rw [e]; simp [hold, h], h1⟩
theorem asks_4 {B : World} {g : Nat} {m : Mt} (h1 : ¬ m.k = 1) (h2 : ¬ m.k = 2) (h3 : ¬ m.k = 3) : Asks B g m 121 [] := fun s _ _ hS => (ask4_spec s hS).mono fun v w1 ⟨e, h⟩ => ⟨by rw [e]; simp [hold, h1, h2, h3], h⟩
theorem asks_spec {B w : World} {L : List HP} (m : Mt) (hS : St B L w) : Does Tryz.prog 90 [Value.agg #[Value.int .i64 m.k, str m.n, str m.v]] w (fun v w1 => ∃ k cs g, v = .func (.func k) #[] cs.toArray ∧ Has Tryz.prog k ∧ Asks B g m k cs ∧ St B ((cel g (mtc m) 151) :: L) w1) := by
 refine enter (n := 14) Tryz.func90 rfl rfl [Value.agg #[Value.int .i64 m.k, str m.n, str m.v]] rfl ?_
 refine WP.seq (WP.region rfl ?_)
 refine WO.box (l := [Value.int .i64 m.k, str m.n, str m.v]) hS rfl rfl rfl (fun g2 w1 lg2 hS1 => ?_)
 clear hS
 refine WO.asg rfl rfl ?_
 refine WO.nil (NX.go (WP.seq (WP.seq (WP.region rfl ?_))))
 refine WO.V (run_fa 0 ⟨g2, 0, none⟩ rfl rfl) ?_
 refine WO.V (run_load Ty.ag3 rfl ((hS1.cel_at 0 rfl 0).trans rfl)) ?_
 refine WO.nil (NX.go (WP.block (WP.seq (WP.region rfl ?_))))
 refine WO.V (run_eql rfl rfl) ?_
 refine WO.asg rfl rfl ?_
 refine WO.nil (NX.go ?_)
 refine WP.condP rfl (fun g5 => ?_) (fun g5 => ?_)
 ·
  refine WP.seq (WP.region rfl ?_)
  refine WO.V (run_makeFunc rfl rfl) ?_
  refine WO.asg rfl rfl ?_
  refine WO.nil (NX.go (WP.ret (NX.blkRet (NX.thenRet ?_))))
  refine NX.done (l := [.tmp 2]) rfl rfl ?_
  exact ⟨117, [.pointer (some ⟨g2, 0, none⟩)], g2, rfl, Ty.hd117, asks_1 g5, hS1⟩
 ·
  refine WP.seq (WP.region rfl ?_)
  refine WO.V (run_eql rfl rfl) ?_
  refine WO.asg rfl rfl ?_
  refine WO.nil (NX.go ?_)
  refine WP.condP rfl (fun g8 => ?_) (fun g8 => ?_)
  ·
   refine WP.seq (WP.region rfl ?_)
   refine WO.V (run_makeFunc rfl rfl) ?_
   refine WO.asg rfl rfl ?_
   refine WO.nil (NX.go (WP.ret (NX.blkRet (NX.thenRet ?_))))
   refine NX.done (l := [.tmp 2]) rfl rfl ?_
   exact ⟨118, [.pointer (some ⟨g2, 0, none⟩)], g2, rfl, Ty.hd118, asks_2 g8, hS1⟩
  ·
   refine WP.seq (WP.region rfl ?_)
   refine WO.V (run_eql rfl rfl) ?_
   refine WO.asg rfl rfl ?_
   refine WO.nil (NX.go ?_)
   refine WP.condP rfl (fun g11 => ?_) (fun g11 => ?_)
   ·
    refine WP.seq (WP.region rfl ?_)
    refine WO.V (run_makeFunc rfl rfl) ?_
    refine WO.asg rfl rfl ?_
    refine WO.nil (NX.go (WP.ret (NX.blkRet (NX.thenRet ?_))))
    refine NX.done (l := [.tmp 2]) rfl rfl ?_
    exact ⟨119, [.pointer (some ⟨g2, 0, none⟩)], g2, rfl, Ty.hd119, asks_3 g11, hS1⟩
   ·
    refine WP.skip (NX.blk (NX.go (WP.seq (WP.region rfl ?_))))
    refine WO.asg rfl rfl ?_
    refine WO.nil (NX.go (WP.ret ?_))
    refine NX.done (l := [.tmp 2]) rfl rfl ?_
    exact ⟨121, [], g2, rfl, Ty.hd121, asks_4 g5 g8 g11, hS1⟩
theorem t53_6 : rtab .any (opsOf Tryz.f53 6) = (true, [([], []), ([0], [0]), ([], []), ([], []), ([3], [3]), ([2, 4, 1], [2, 4]), ([1, 5, 5], [1, 5]), ([6], [6])]) := by kernel_rfl
theorem lis_spec {B w : World} {L : List HP} {X Y : HP} {a b : Option Addr} {cap cap2 : Nat} {l : List Mt} {ps : List Pr} (hX : ∀ {L : List HP} {w : World}, St B (X :: L) w → Rd w a l.length 3 (l.flatMap mtc)) (hY : ∀ {L : List HP} {w : World}, St B (Y :: L) w → Rd w b ps.length 2 (ps.flatMap prc)) (hb : SzM l) (hl : l.length ≤ 4398046511104) (hl2 : ps.length ≤ 4398046511104) (hS : St B (X :: Y :: L) w) : Does Tryz.prog 53 [Value.slice a l.length cap, Value.slice b ps.length cap2] w (fun v w1 => v = .bool (isF l ps) ∧ St B (X :: Y :: L) w1) := by
 refine enter (n := 25) Tryz.func53 rfl rfl [Value.slice a l.length cap, Value.slice b ps.length cap2] rfl ?_
 refine WP.seq (WP.region rfl ?_)
 refine WO.asg rfl rfl ?_
 refine WO.nil (NX.go (WP.seq (WP.seq (WP.region rfl ?_))))
 refine WO.mv rfl rfl ?_
 refine WO.call rfl rfl Ty.hd89 rfl (lcheckm_spec hX hb hl hS) (fun v2 w1 pv2 => ?_)
 obtain ⟨rfl, hS1⟩ := pv2
 clear hS
 refine WO.V (run_neq rfl rfl) ?_
 refine WO.nil (NX.go ?_)
 refine WP.condP rfl (fun g9 => ?_) (fun g9 => ?_)
 ·
  refine WP.seq (WP.region rfl ?_)
  refine WO.asg rfl rfl ?_
  refine WO.nil (NX.go (WP.ret (NX.thenRet ?_)))
  refine NX.done (l := [.tmp 4]) rfl rfl ?_
  exact ⟨congrArg Value.bool (by unfold isF; rw [decide_eq_false g9]; rfl), hS1⟩
 ·
  refine WP.skip (NX.go (WP.seq (WP.seq (WP.region rfl ?_))))
  refine WO.mv rfl rfl ?_
  refine WO.V (run_len rfl Tryz.underlying24 rfl) ?_
  refine WO.mv rfl rfl ?_
  refine WO.nil (NX.go (WP.block ?_))
  refine WP.loop (α := Nat) (fun x => match x with | i => [(0, Value.slice a l.length cap), (1, Value.slice b ps.length cap2), (10, Value.slice a l.length cap), (11, Value.int .i64 ((l.length : Nat) : Int)), (12, Value.int .i64 (i : Int))]) (fun x w => match x with | i => (i ≤ l.length ∧ ((l.drop i).all fun m => hold m (getV m.n ps)) = isF l ps) ∧ St B (X :: Y :: L) w) (fun x => match x with | i => l.length - i) 0 ⟨⟨Nat.zero_le _, by unfold isF; rw [decide_eq_true (Decidable.of_not_not g9)]; rfl⟩, hS1⟩ (Sub.cons rfl (Sub.cons rfl (Sub.cons rfl (Sub.cons rfl (Sub.consE rfl (by first | rfl | first | rfl | (congr 1; omega) | (simp; done) | (simp; omega)) (Sub.nil _)))))) ?_
  rintro i w3 ⟨⟨hi, hgo⟩, hS3⟩
  clear hS1
  refine WP.seq (WP.region rfl ?_)
  refine WO.V (run_lss rfl rfl) ?_
  refine WO.nil (NX.go (WP.seq ?_))
  refine WP.condP rfl (fun g13 => ?_) (fun g13 => ?_)
  ·
   refine WP.skip (NX.go (WP.seq (WP.block (WP.seq (WP.region rfl ?_)))))
   obtain ⟨m, hm⟩ : ∃ m, l[i]? = some m := ⟨_, List.getElem?_eq_getElem (by omega)⟩
   refine WO.V (run_indexAddr (q := adr a (i * 3)) Tryz.underlying24 Ty.sz151 rfl rfl (by omega) (by omega) ((hX (hS3.focus 0 rfl)).2.1 (by omega)) rfl) ?_
   refine WO.V (run_loadAgg (vs := [Value.int .i64 m.k, str m.n, str m.v]) Ty.ag151 Ty.sz151 rfl ((hX (hS3.focus 0 rfl)).cells (by rw [flat_len mtc_len]; omega) (flat_part mtc_len hm)).1 ((hX (hS3.focus 0 rfl)).cells (by rw [flat_len mtc_len]; omega) (flat_part mtc_len hm)).2) ?_
   refine WO.alloc (l := [Value.int .i64 0, str [], str []]) hS3 Ty.zr151 rfl rfl (fun g5 w4 lg5 hS4 => ?_)
   clear hS3
   refine WO.store (l' := [Value.int .i64 m.k, str m.n, str m.v]) 0 hS4 rfl Ty.sz151 rfl rfl rfl rfl rfl (Nat.le_of_ble_eq_true rfl) rfl (fun w6 (hS6 : St B (cel g5 [Value.int .i64 m.k, str m.n, str m.v] 151 :: _::_::L) w6) => ?_)
   clear hS4
   refine WO.nil (NX.go (WP.seq ?_))
   refine WD.start (fun w => (∀ jz, World.cell? w ⟨g5, jz, none⟩ = [Value.int .i64 m.k, str m.n, str m.v][jz]?) ∧ Rd w a l.length 3 (l.flatMap mtc) ∧ Rd w b ps.length 2 (ps.flatMap prc)) [] (bt 8 0) Ty.mo rfl (by kernel_rfl) hS6 (fun _ h => ⟨h.cel_at 0 rfl, (hX (h.focus 1 rfl)), (hY (h.focus 2 rfl))⟩) (fun w7 hS7 s8 => ?_)
   clear hS6
   refine DT (i := 0) t53_6 (bt 8 1) s8 rfl rfl rfl rfl (fun w hs => run_loadAgg (vs := [Value.int .i64 m.k, str m.n, str m.v]) Ty.ag151 Ty.sz151 rfl rfl (cell_all (hs.1) 0 rfl)) ?_
   refine DP (i := 2) t53_6 (bt 8 5) rfl rfl rfl rfl (fun w => run_move rfl) ?_
   refine DP (i := 3) t53_6 (bt 8 13) rfl rfl rfl rfl (fun w => run_fa 1 ⟨g5, 1, none⟩ rfl rfl) ?_
   refine DT (i := 4) t53_6 (bt 8 29) s8 rfl rfl rfl rfl (fun w hs => run_load Ty.ag9 rfl ((hs.1 1).trans rfl)) ?_
   refine WD.one (i := 1) t53_6 (bt 8 31) rfl (by kernel_rfl) ?_
   refine WO.call rfl rfl Ty.hd90 rfl (asks_spec m hS7) (fun v10 w9 pv10 => ?_)
   obtain ⟨kk, cs, gm, rfl, hk, hask, hS9⟩ := pv10
   clear hS7
   refine WO.nil ?_
   have s11 : (∀ jz, World.cell? w9 ⟨g5, jz, none⟩ = [Value.int .i64 m.k, str m.n, str m.v][jz]?) ∧ Rd w9 a l.length 3 (l.flatMap mtc) ∧ Rd w9 b ps.length 2 (ps.flatMap prc) := ⟨hS9.cel_at 1 rfl, (hX (hS9.focus 2 rfl)), (hY (hS9.focus 3 rfl))⟩
   refine NX.held s11 ?_
   refine WD.one (i := 5) t53_6 (bt 8 63) rfl (by kernel_rfl) ?_
   have hS12 := hS9.permT [3] (L' := _::_::_::_::L) rfl
   clear hS9
   refine WO.call rfl rfl Ty.hd91 rfl (lget_spec hY hl2 m.n hS12) (fun v14 w13 pv14 => ?_)
   obtain ⟨rfl, hS13⟩ := pv14
   clear hS12
   refine WO.nil ?_
   have s15 : (∀ jz, World.cell? w13 ⟨g5, jz, none⟩ = [Value.int .i64 m.k, str m.n, str m.v][jz]?) ∧ Rd w13 a l.length 3 (l.flatMap mtc) ∧ Rd w13 b ps.length 2 (ps.flatMap prc) := ⟨hS13.cel_at 2 rfl, (hX (hS13.focus 3 rfl)), (hY (hS13.focus 0 rfl))⟩
   refine NX.held s15 ?_
   refine WD.one (i := 6) t53_6 (bt 8 127) rfl (by kernel_rfl) ?_
   refine WO.callV (us := []) (cs := cs) rfl rfl hk rfl (hask _ (show St B ((cel gm (mtc m) 151) :: Y :: cel g5 [Value.int .i64 m.k, str m.n, str m.v] 151 :: X :: L) w13 from hS13.permT [1] rfl)) (fun v17 w16 pv17 => ?_)
   obtain ⟨rfl, hS16⟩ := pv17
   clear hS13
   replace hS16 : St B (_::_::_::_::L) w16 := hS16
   refine WO.nil ?_
   have s18 : (∀ jz, World.cell? w16 ⟨g5, jz, none⟩ = [Value.int .i64 m.k, str m.n, str m.v][jz]?) ∧ Rd w16 a l.length 3 (l.flatMap mtc) ∧ Rd w16 b ps.length 2 (ps.flatMap prc) := ⟨hS16.cel_at 2 rfl, (hX (hS16.focus 3 rfl)), (hY (hS16.focus 1 rfl))⟩
   refine NX.held s18 ?_
   refine DP (i := 7) t53_6 (bt 8 255) rfl rfl rfl rfl (fun w => run_not rfl rfl) ?_
   refine WD.done t53_6 (by kernel_rfl) ?_
   refine NX.go ?_
   refine WP.condB rfl (fun g23 => ?_) (fun g23 => ?_)
   ·
    refine WP.seq (WP.region rfl ?_)
    refine WO.asg rfl rfl ?_
    refine WO.nil (NX.go (WP.ret (NX.blkRet (NX.thenRet (NX.thenRet (NX.blkRet (NX.thenRet ?_)))))))
    refine NX.done (l := [.tmp 4]) rfl rfl ?_
    exact ⟨congrArg Value.bool (by rw [← hgo, drop_cons hm, List.all_cons]; simp at g23; rw [g23]; rfl), ((hS16.mask [false, true, false] (L' := _::_::L) rfl).permT [1] (L' := _::_::L) rfl)⟩
   ·
    refine WP.skip (NX.blk (NX.go (WP.region rfl ?_)))
    refine WO.V (run_add rfl rfl (IntWalk.i64_in _ (by omega))) ?_
    refine WO.mv rfl rfl ?_
    refine WO.nil ?_
    exact NX.again (i + 1) ⟨⟨by omega, by rw [drop_cons hm, List.all_cons] at hgo; rw [← hgo]; simp at g23; rw [g23]; rfl⟩, ((hS16.mask [false, true, false] (L' := _::_::L) rfl).permT [1] (L' := _::_::L) rfl)⟩ (by show l.length - (i + 1) < l.length - i; omega) (Sub.cons rfl (Sub.cons rfl (Sub.cons rfl (Sub.cons rfl (Sub.consE rfl (by congr 1) (Sub.nil _))))))
  ·
   refine WP.exit (NX.thenExit (NX.thenExit ?_))
   refine NX.blkExit ?_
   refine NX.go (WP.seq (WP.region rfl ?_))
   refine WO.asg rfl rfl ?_
   refine WO.nil (NX.go (WP.ret ?_))
   refine NX.done (l := [.tmp 4]) rfl rfl ?_
   exact ⟨congrArg Value.bool (by rw [← hgo, List.drop_of_length_le (by omega)]; rfl), hS3⟩
end Go.Proofs.YtidoidoelgfnaaaGreatDoor.SL
