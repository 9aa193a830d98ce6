import Derived.Test.YtidoidoelgfnaaaGreatDoorHk1M
import Derived.Test.YtidoidoelgfnaaaGreatDoorKg1M
import Derived.Test.YtidoidoelgfnaaaGreatDoorHv1M
import Derived.Test.YtidoidoelgfnaaaGreatDoorKc
/- The laws of the head: what they stand on. -/
namespace Go.Proofs.YtidoidoelgfnaaaGreatDoor.SL
open Go.RowKit Go.Proofs.YtidoidoelgfnaaaGreatDoor
open Go.Proofs.YtidoidoelgfnaaaGreatDoorW.PrintLast (rtab opsOf)
set_option linter.unusedVariables false
set_option linter.unusedSimpArgs false

def laP : List Pr := [(⟨[97], [49]⟩ : Pr)]
def rOne (t v : Int) : RcP := ⟨1, [(laP, t, v)], [], 0, 0⟩
def rDel : RcP := ⟨2, [], [], 0, 9⟩
theorem happlyP_spec {B w : World} {L : List HP} {g M : Nat} {A : List RowP} (hA : WfH A M) (hM : M + 32 ≤ 4398046511104) (hAn : A.length ≤ 1000000) (r : Rcd) (hz : SzR r) (hS : St B (hdA 126 131 103 g A :: recA r :: L) w) :
    Does Tryz.prog 32 [.pointer (some ⟨g, 0, none⟩), .agg (rcc r).toArray] w (fun v w1 => v = .int .i64 (tryP A r.p) ∧ St B (hdA 126 131 103 g (applyP A r.p) :: recA r :: L) w1) := by
  have h := happly_spec hA hM hAn r hz hS
  rw [rcheckP_eq] at h
  exact h
theorem szR_one {r : Rcd} {t v : Int} (h : r.p = rOne t v) : SzR r := SzR.of_p (r := (⟨1, ⟨none, [⟨⟨none, laP, 0⟩, t, v⟩], 0⟩, ⟨none, [], 0⟩, 0, 0⟩ : Rcd)) h ⟨by show 1 ≤ _; omega, Nat.zero_le _, (fun p hp => by cases hp), fun s hs => by simp at hs; subst hs; exact ⟨by show 1 ≤ _; omega, fun p hp => by simp [laP] at hp; subst hp; exact ⟨by decide, by decide⟩⟩⟩
theorem szR_del {r : Rcd} {fr to : Int} (h : r.p = ⟨2, [], [], fr, to⟩) : SzR r := SzR.of_p (r := (⟨2, ⟨none, [], 0⟩, ⟨none, [], 0⟩, fr, to⟩ : Rcd)) h ⟨Nat.zero_le _, Nat.zero_le _, (fun p hp => by cases hp), fun s hs => by cases hs⟩
theorem recA_nil {B w : World} {L : List HP} (k fr to : Int) {ms : SlV Mt} (h : St B (rdH ms.a ms.l.length 3 (ms.l.flatMap mtc) :: L) w) : St B (recA ⟨k, ⟨none, [], 0⟩, ms, fr, to⟩ :: L) w := by
  have h1 : St B (smsA [] :: _::L) w := h.addPure trivial
  have h2 := (h1.permT [1] (L' := _::_::L) rfl).join
  have h3 : St B (rdH none 0 3 [] :: .sep (rdH ms.a ms.l.length 3 (ms.l.flatMap mtc)) (smsA []) :: L) w := rdH_zero rfl h2
  exact h3.join
theorem g13_spec {B w : World} {L : List HP} {X : HP} {a : Option Addr} {cap : Nat} {rs : List Rcd} (hX : ∀ {L : List HP} {w : World}, St B (X :: L) w → Rd w a rs.length 5 (rs.flatMap rcc)) (hz : ∀ r ∈ rs, SzR r) (hn : rs.length ≤ 2814749767106) (hS : St B (X :: allA recA rs :: L) w) : Does Tryz.prog 30 [Value.slice a rs.length cap] w (fun v w1 => (∃ q, v = .bool q ∧ (q = false → rs.length ≤ 200)) ∧ St B (X :: allA recA rs :: L) w1) := by
 refine enter (n := 18) Tryz.func30 rfl rfl [Value.slice a rs.length cap] rfl ?_
 refine WP.seq (WP.region rfl ?_)
 refine WO.asg rfl rfl ?_
 refine WO.nil (NX.go (WP.seq (WP.seq (WP.region rfl ?_))))
 refine WO.asg rfl rfl ?_
 refine WO.nil (NX.go (WP.block ?_))
 refine WP.loop (α := Nat) (fun x => match x with | i => [(0, Value.slice a rs.length cap), (3, Value.int .i64 (i : Int))]) (fun x w => match x with | i => (i ≤ rs.length) ∧ St B (X :: allA recA rs :: L) w) (fun x => match x with | i => rs.length - i) 0 ⟨Nat.zero_le _, hS⟩ (Sub.cons rfl (Sub.consE rfl (by first | rfl | first | rfl | (congr 1; omega) | (simp; done) | (simp; omega)) (Sub.nil _))) ?_
 rintro i w1 ⟨hi, hS1⟩
 clear hS
 refine WP.seq (WP.seq (WP.region rfl ?_))
 refine WO.mv rfl rfl ?_
 refine WO.mv rfl rfl ?_
 refine WO.V (run_len rfl Tryz.underlying23 rfl) ?_
 refine WO.V (run_lss rfl rfl) ?_
 refine WO.nil (NX.go ?_)
 refine WP.condP rfl (fun g7 => ?_) (fun g7 => ?_)
 ·
  refine WP.skip (NX.go (WP.seq (WP.block (WP.seq ?_))))
  obtain ⟨d1, hd1⟩ : ∃ qq, rs[i]? = some qq := ⟨_, List.getElem?_eq_getElem (by omega)⟩
  refine WP.region rfl ?_
  refine WO.mv rfl rfl ?_
  refine WO.mv rfl rfl ?_
  refine WO.V (run_indexAddr (q := adr a (i * 5)) Tryz.underlying23 Ty.sz33 rfl rfl (by omega) (by omega) ((hX (hS1.focus 0 rfl)).2.1 (by omega)) rfl) ?_
  refine WO.V (run_loadAgg (vs := (rcc d1)) Ty.ag33 Ty.sz33 rfl ((hX (hS1.focus 0 rfl)).cells (by rw [flat_len rcc_len]; omega) (flat_part rcc_len hd1)).1 ((hX (hS1.focus 0 rfl)).cells (by rw [flat_len rcc_len]; omega) (flat_part rcc_len hd1)).2) ?_
  have hS2 := allA_get recA_pers (List.mem_of_getElem? hd1) (hS1.permT [1] (L' := _::_::L) rfl)
  clear hS1
  refine WO.call rfl rfl Ty.hd14 rfl (g12_spec d1 (hz d1 (List.mem_of_getElem? hd1)) hS2) (fun v4 w3 pv4 => ?_)
  obtain ⟨⟨q, rfl⟩, hS3⟩ := pv4
  clear hS2
  refine WO.nil (NX.go ?_)
  refine WP.condB rfl (fun g14 => ?_) (fun g14 => ?_)
  ·
   refine WP.seq (WP.region rfl ?_)
   refine WO.asg rfl rfl ?_
   refine WO.nil (NX.go (WP.ret (NX.blkRet (NX.thenRet (NX.thenRet (NX.blkRet (NX.thenRet ?_)))))))
   refine NX.done (l := [.tmp 2]) rfl rfl ?_
   exact ⟨⟨_, rfl, fun h => by cases h⟩, (hS3.permT [0, 1] (L' := _::_::_::L) rfl).drop⟩
  ·
   refine WP.skip (NX.blk (NX.go (WP.region rfl ?_)))
   refine WO.mv rfl rfl ?_
   refine WO.V (run_add rfl rfl (IntWalk.i64_in _ (by omega))) ?_
   refine WO.asg rfl rfl ?_
   refine WO.nil ?_
   exact NX.again (i + 1) ⟨by omega, (hS3.permT [0, 1] (L' := _::_::_::L) rfl).drop⟩ (by show rs.length - (i + 1) < rs.length - i; omega) (Sub.cons rfl (Sub.consE rfl (by congr 1) (Sub.nil _)))
 ·
  refine WP.exit (NX.thenExit (NX.thenExit ?_))
  refine NX.blkExit ?_
  refine NX.go (WP.seq (WP.region rfl ?_))
  refine WO.mv rfl rfl ?_
  refine WO.V (run_len rfl Tryz.underlying23 rfl) ?_
  refine WO.V (run_gtr rfl rfl) ?_
  refine WO.asg rfl rfl ?_
  refine WO.nil (NX.go (WP.ret ?_))
  refine NX.done (l := [.tmp 2]) rfl rfl ?_
  exact ⟨⟨_, rfl, fun h => by have h2 := of_decide_eq_false h; omega⟩, hS1⟩
end Go.Proofs.YtidoidoelgfnaaaGreatDoor.SL

/- The head works. -/
namespace Go.Proofs.YtidoidoelgfnaaaGreatDoor.SL
open Go.RowKit Go.Proofs.YtidoidoelgfnaaaGreatDoor
open Go.Proofs.YtidoidoelgfnaaaGreatDoorW.PrintLast (rtab opsOf)
set_option linter.unusedVariables false
set_option linter.unusedSimpArgs false

theorem ser_one {o : List MSer} {lb : List Pr} {ps : List Pt} (h : o.map MSer.p = [⟨lb, ps⟩]) : ∃ la lc pa pc, o = [(⟨⟨la, lb, lc⟩, ⟨pa, ps, pc⟩⟩ : MSer)] := by
  match o, h with
  | [⟨⟨la, l1, lc⟩, ⟨pa, p1, pc⟩⟩], h =>
    simp only [List.map_cons, List.map_nil, List.cons.injEq, and_true] at h
    have e1 : l1 = lb := congrArg SerP.lb h
    have e2 : p1 = ps := congrArg SerP.pts h
    subst e1; subst e2
    exact ⟨la, lc, pa, pc, rfl⟩
end Go.Proofs.YtidoidoelgfnaaaGreatDoor.SL
