import Derived.Test.YtidoidoelgfnaaaDoorHk1M
import Derived.Test.YtidoidoelgfnaaaDoorKg1M
import Derived.Test.YtidoidoelgfnaaaDoorHv1M
import Derived.Test.YtidoidoelgfnaaaDoorKc
/- The laws of the head: what they stand on. -/
namespace Go.Proofs.YtidoidoelgfnaaaDoor.SL
open Go.RowKit Go.Proofs.YtidoidoelgfnaaaDoor
open Go.Proofs.YtidoidoelgfnaaaDoorW.PrintLast (rtab opsOf)
set_option linter.unusedVariables false
set_option linter.unusedSimpArgs false

def laP : List Pr := [(⟨[97], [49]⟩ : Pr)]
def rOne (t v : Int) : RcP := ⟨1, [(laP, t, v)], [], 0, 0⟩
def rDel : RcP := ⟨2, [], [], 0, 9⟩
theorem happlyP_spec {B w : World} {L : List HP} {g M : Nat} {A : List RowP} (hA : WfH A M) (hM : M + 32 ≤ 4398046511104) (hAn : A.length ≤ 1000000) (r : Rcd) (hz : SzR r) (hS : St B (hdA 56 61 51 g A :: recA r :: L) w) :
    Does Tryd.prog 9 [.pointer (some ⟨g, 0, none⟩), .agg (rcc r).toArray] w (fun v w1 => v = .int .i64 (tryP A r.p) ∧ St B (hdA 56 61 51 g (applyP A r.p) :: recA r :: L) w1) := by
  have h := happly_spec hA hM hAn r hz hS
  rw [rcheckP_eq] at h
  exact h
theorem htryP_spec {B w : World} {L : List HP} {g M : Nat} {A : List RowP} (hA : WfH A M) (hM : M ≤ 4398046511104) (hAn : A.length ≤ 1000000) (r : Rcd) (hz : SzR r) (hS : St B (hdA 56 61 51 g A :: recA r :: L) w) :
    Does Tryd.prog 12 [.pointer (some ⟨g, 0, none⟩), .agg (rcc r).toArray] w (fun v w1 => v = .int .i64 (tryP A r.p) ∧ St B (hdA 56 61 51 g A :: recA r :: L) w1) := by
  have h := htry_spec hA hM hAn r hz hS
  rw [rcheckP_eq] at h
  exact h
theorem szR_one {r : Rcd} {t v : Int} (h : r.p = rOne t v) : SzR r := SzR.of_p (r := (⟨1, ⟨none, [⟨⟨none, laP, 0⟩, t, v⟩], 0⟩, ⟨none, [], 0⟩, 0, 0⟩ : Rcd)) h ⟨by show 1 ≤ _; omega, Nat.zero_le _, (fun p hp => by cases hp), fun s hs => by simp at hs; subst hs; exact ⟨by show 1 ≤ _; omega, fun p hp => by simp [laP] at hp; subst hp; exact ⟨by decide, by decide⟩⟩⟩
theorem szR_del {r : Rcd} {fr to : Int} (h : r.p = ⟨2, [], [], fr, to⟩) : SzR r := SzR.of_p (r := (⟨2, ⟨none, [], 0⟩, ⟨none, [], 0⟩, fr, to⟩ : Rcd)) h ⟨Nat.zero_le _, Nat.zero_le _, (fun p hp => by cases hp), fun s hs => by cases hs⟩
theorem recA_nil {B w : World} {L : List HP} (k fr to : Int) {ms : SlV Mt} (h : St B (rdH ms.a ms.l.length 3 (ms.l.flatMap mtc) :: L) w) : St B (recA ⟨k, ⟨none, [], 0⟩, ms, fr, to⟩ :: L) w := by
  have h1 : St B (smsA [] :: rdH ms.a ms.l.length 3 (ms.l.flatMap mtc) :: L) w := h.addPure trivial
  have h2 := (h1.permT [1] (L' := rdH ms.a ms.l.length 3 (ms.l.flatMap mtc) :: smsA [] :: L) rfl).join
  have h3 : St B (rdH none 0 3 [] :: .sep (rdH ms.a ms.l.length 3 (ms.l.flatMap mtc)) (smsA []) :: L) w := rdH_zero rfl h2
  exact h3.join
theorem one_spec {B w : World} {L : List HP} (t v : Int) (hS : St B L w) : Does Tryd.prog 14 [Value.int .i64 t, Value.int .u64 v] w (fun q w1 => ∃ r : Rcd, q = .agg (rcc r).toArray ∧ r.p = rOne t v ∧ St B (recA r :: L) w1) := by
 refine enter (n := 12) Tryd.func14 rfl rfl [Value.int .i64 t, Value.int .u64 v] rfl ?_
 refine WP.seq (WP.region rfl ?_)
 refine WO.alloc (l := [Value.int .i64 0, Value.slice none 0 0, Value.slice none 0 0, Value.int .i64 0, Value.int .i64 0]) hS Ty.zr26 rfl rfl (fun g2 w1 lg2 hS1 => ?_)
 clear hS
 refine WO.nil (NX.go (WP.seq (WP.region rfl ?_)))
 refine WO.V (run_build (v := Value.agg #[str [97], str [49]]) rfl (fun w => by kernel_rfl)) ?_
 refine WO.buildSlice (l := [str [97], str [49]]) hS1 Tryd.underlying38 rfl (fun w => by kernel_rfl) rfl (fun g4 w3 lg4 hS3 => ?_)
 clear hS1
 have hS3 := hS3.own_of_cel (m := 1) (k := 2) rfl
 refine WO.mv rfl rfl ?_
 refine WO.mv rfl rfl ?_
 refine WO.V (run_build (v := Value.agg #[Value.slice (some ⟨g4, 0, none⟩) 1 1, Value.int .i64 t, Value.int .u64 v]) rfl (fun w => by kernel_rfl)) ?_
 refine WO.buildSlice (l := [Value.slice (some ⟨g4, 0, none⟩) 1 1, Value.int .i64 t, Value.int .u64 v]) hS3 Tryd.underlying23 rfl (fun w => by kernel_rfl) rfl (fun g6 w5 lg6 hS5 => ?_)
 clear hS3
 have hS5 := hS5.own_of_cel (m := 1) (k := 3) rfl
 refine WO.V (run_build (v := Value.agg #[Value.int .i64 1, Value.slice (some ⟨g6, 0, none⟩) 1 1, Value.slice none 0 0, Value.int .i64 0, Value.int .i64 0]) rfl (fun w => by kernel_rfl)) ?_
 refine WO.store (l' := [Value.int .i64 1, Value.slice (some ⟨g6, 0, none⟩) 1 1, Value.slice none 0 0, Value.int .i64 0, Value.int .i64 0]) 2 hS5 rfl Ty.sz26 rfl rfl rfl rfl rfl (Nat.le_of_ble_eq_true rfl) rfl (fun w7 (hS7 : St B (own (some ⟨g6, 0, none⟩) 1 1 40 3 [Value.slice (some ⟨g4, 0, none⟩) 1 1, Value.int .i64 t, Value.int .u64 v] :: own (some ⟨g4, 0, none⟩) 1 1 53 2 [str [97], str [49]] :: cel g2 [Value.int .i64 1, Value.slice (some ⟨g6, 0, none⟩) 1 1, Value.slice none 0 0, Value.int .i64 0, Value.int .i64 0] 26 :: L) w7) => ?_)
 clear hS5
 refine WO.nil (NX.go (WP.ret ?_))
 refine NX.doneC (l := [.cell 4 26]) rfl (.cons (.cell rfl (loadVar_agg (vs := [Value.int .i64 1, Value.slice (some ⟨g6, 0, none⟩) 1 1, Value.slice none 0 0, Value.int .i64 0, Value.int .i64 0]) Ty.ag26 Ty.sz26 rfl (cell_all (hS7.cel_at 2 rfl) 0 rfl))) .nil) ?_
 have hq1 : St B (labA (⟨⟨some ⟨g4, 0, none⟩, laP, 1⟩, t, v⟩ : Smp).lb :: own (some ⟨g6, 0, none⟩) 1 1 40 3 [Value.slice (some ⟨g4, 0, none⟩) 1 1, Value.int .i64 t, Value.int .u64 v] :: cel g2 [Value.int .i64 1, Value.slice (some ⟨g6, 0, none⟩) 1 1, Value.slice none 0 0, Value.int .i64 0, Value.int .i64 0] 26 :: L) w7 := rdH_own (hS7.permT [1] (L' := own (some ⟨g4, 0, none⟩) 1 1 53 2 [str [97], str [49]] :: own (some ⟨g6, 0, none⟩) 1 1 40 3 [Value.slice (some ⟨g4, 0, none⟩) 1 1, Value.int .i64 t, Value.int .u64 v] :: cel g2 [Value.int .i64 1, Value.slice (some ⟨g6, 0, none⟩) 1 1, Value.slice none 0 0, Value.int .i64 0, Value.int .i64 0] 26 :: L) rfl)
 have hq2 : St B (rdH (⟨1, ⟨some ⟨g6, 0, none⟩, [⟨⟨some ⟨g4, 0, none⟩, laP, 1⟩, t, v⟩], 1⟩, ⟨none, [], 0⟩, 0, 0⟩ : Rcd).ss.a (⟨1, ⟨some ⟨g6, 0, none⟩, [⟨⟨some ⟨g4, 0, none⟩, laP, 1⟩, t, v⟩], 1⟩, ⟨none, [], 0⟩, 0, 0⟩ : Rcd).ss.l.length 3 ((⟨1, ⟨some ⟨g6, 0, none⟩, [⟨⟨some ⟨g4, 0, none⟩, laP, 1⟩, t, v⟩], 1⟩, ⟨none, [], 0⟩, 0, 0⟩ : Rcd).ss.l.flatMap smc) :: labA (⟨⟨some ⟨g4, 0, none⟩, laP, 1⟩, t, v⟩ : Smp).lb :: cel g2 [Value.int .i64 1, Value.slice (some ⟨g6, 0, none⟩) 1 1, Value.slice none 0 0, Value.int .i64 0, Value.int .i64 0] 26 :: L) w7 := rdH_own (hq1.permT [1] (L' := own (some ⟨g6, 0, none⟩) 1 1 40 3 [Value.slice (some ⟨g4, 0, none⟩) 1 1, Value.int .i64 t, Value.int .u64 v] :: labA (⟨⟨some ⟨g4, 0, none⟩, laP, 1⟩, t, v⟩ : Smp).lb :: cel g2 [Value.int .i64 1, Value.slice (some ⟨g6, 0, none⟩) 1 1, Value.slice none 0 0, Value.int .i64 0, Value.int .i64 0] 26 :: L) rfl)
 have hq3 : St B (.pure True :: labA (⟨⟨some ⟨g4, 0, none⟩, laP, 1⟩, t, v⟩ : Smp).lb :: rdH (⟨1, ⟨some ⟨g6, 0, none⟩, [⟨⟨some ⟨g4, 0, none⟩, laP, 1⟩, t, v⟩], 1⟩, ⟨none, [], 0⟩, 0, 0⟩ : Rcd).ss.a (⟨1, ⟨some ⟨g6, 0, none⟩, [⟨⟨some ⟨g4, 0, none⟩, laP, 1⟩, t, v⟩], 1⟩, ⟨none, [], 0⟩, 0, 0⟩ : Rcd).ss.l.length 3 ((⟨1, ⟨some ⟨g6, 0, none⟩, [⟨⟨some ⟨g4, 0, none⟩, laP, 1⟩, t, v⟩], 1⟩, ⟨none, [], 0⟩, 0, 0⟩ : Rcd).ss.l.flatMap smc) :: L) w7 := (((hq2.mask [true, true, false] (L' := rdH (⟨1, ⟨some ⟨g6, 0, none⟩, [⟨⟨some ⟨g4, 0, none⟩, laP, 1⟩, t, v⟩], 1⟩, ⟨none, [], 0⟩, 0, 0⟩ : Rcd).ss.a (⟨1, ⟨some ⟨g6, 0, none⟩, [⟨⟨some ⟨g4, 0, none⟩, laP, 1⟩, t, v⟩], 1⟩, ⟨none, [], 0⟩, 0, 0⟩ : Rcd).ss.l.length 3 ((⟨1, ⟨some ⟨g6, 0, none⟩, [⟨⟨some ⟨g4, 0, none⟩, laP, 1⟩, t, v⟩], 1⟩, ⟨none, [], 0⟩, 0, 0⟩ : Rcd).ss.l.flatMap smc) :: labA (⟨⟨some ⟨g4, 0, none⟩, laP, 1⟩, t, v⟩ : Smp).lb :: L) rfl).permT [1] (L' := labA (⟨⟨some ⟨g4, 0, none⟩, laP, 1⟩, t, v⟩ : Smp).lb :: rdH (⟨1, ⟨some ⟨g6, 0, none⟩, [⟨⟨some ⟨g4, 0, none⟩, laP, 1⟩, t, v⟩], 1⟩, ⟨none, [], 0⟩, 0, 0⟩ : Rcd).ss.a (⟨1, ⟨some ⟨g6, 0, none⟩, [⟨⟨some ⟨g4, 0, none⟩, laP, 1⟩, t, v⟩], 1⟩, ⟨none, [], 0⟩, 0, 0⟩ : Rcd).ss.l.length 3 ((⟨1, ⟨some ⟨g6, 0, none⟩, [⟨⟨some ⟨g4, 0, none⟩, laP, 1⟩, t, v⟩], 1⟩, ⟨none, [], 0⟩, 0, 0⟩ : Rcd).ss.l.flatMap smc) :: L) rfl)).addPure trivial
 have hq4 : St B (smsA [(⟨⟨some ⟨g4, 0, none⟩, laP, 1⟩, t, v⟩ : Smp)] :: rdH (⟨1, ⟨some ⟨g6, 0, none⟩, [⟨⟨some ⟨g4, 0, none⟩, laP, 1⟩, t, v⟩], 1⟩, ⟨none, [], 0⟩, 0, 0⟩ : Rcd).ss.a (⟨1, ⟨some ⟨g6, 0, none⟩, [⟨⟨some ⟨g4, 0, none⟩, laP, 1⟩, t, v⟩], 1⟩, ⟨none, [], 0⟩, 0, 0⟩ : Rcd).ss.l.length 3 ((⟨1, ⟨some ⟨g6, 0, none⟩, [⟨⟨some ⟨g4, 0, none⟩, laP, 1⟩, t, v⟩], 1⟩, ⟨none, [], 0⟩, 0, 0⟩ : Rcd).ss.l.flatMap smc) :: L) w7 := (hq3.permT [1] (L' := labA (⟨⟨some ⟨g4, 0, none⟩, laP, 1⟩, t, v⟩ : Smp).lb :: .pure True :: rdH (⟨1, ⟨some ⟨g6, 0, none⟩, [⟨⟨some ⟨g4, 0, none⟩, laP, 1⟩, t, v⟩], 1⟩, ⟨none, [], 0⟩, 0, 0⟩ : Rcd).ss.a (⟨1, ⟨some ⟨g6, 0, none⟩, [⟨⟨some ⟨g4, 0, none⟩, laP, 1⟩, t, v⟩], 1⟩, ⟨none, [], 0⟩, 0, 0⟩ : Rcd).ss.l.length 3 ((⟨1, ⟨some ⟨g6, 0, none⟩, [⟨⟨some ⟨g4, 0, none⟩, laP, 1⟩, t, v⟩], 1⟩, ⟨none, [], 0⟩, 0, 0⟩ : Rcd).ss.l.flatMap smc) :: L) rfl).join
 have hq5 : St B (rdH none 0 3 [] :: smsA [(⟨⟨some ⟨g4, 0, none⟩, laP, 1⟩, t, v⟩ : Smp)] :: rdH (⟨1, ⟨some ⟨g6, 0, none⟩, [⟨⟨some ⟨g4, 0, none⟩, laP, 1⟩, t, v⟩], 1⟩, ⟨none, [], 0⟩, 0, 0⟩ : Rcd).ss.a (⟨1, ⟨some ⟨g6, 0, none⟩, [⟨⟨some ⟨g4, 0, none⟩, laP, 1⟩, t, v⟩], 1⟩, ⟨none, [], 0⟩, 0, 0⟩ : Rcd).ss.l.length 3 ((⟨1, ⟨some ⟨g6, 0, none⟩, [⟨⟨some ⟨g4, 0, none⟩, laP, 1⟩, t, v⟩], 1⟩, ⟨none, [], 0⟩, 0, 0⟩ : Rcd).ss.l.flatMap smc) :: L) w7 := rdH_zero rfl hq4
 have hq6 := hq5.join
 exact ⟨(⟨1, ⟨some ⟨g6, 0, none⟩, [⟨⟨some ⟨g4, 0, none⟩, laP, 1⟩, t, v⟩], 1⟩, ⟨none, [], 0⟩, 0, 0⟩ : Rcd), rfl, rfl, (hq6.permT [1] (L' := rdH (⟨1, ⟨some ⟨g6, 0, none⟩, [⟨⟨some ⟨g4, 0, none⟩, laP, 1⟩, t, v⟩], 1⟩, ⟨none, [], 0⟩, 0, 0⟩ : Rcd).ss.a (⟨1, ⟨some ⟨g6, 0, none⟩, [⟨⟨some ⟨g4, 0, none⟩, laP, 1⟩, t, v⟩], 1⟩, ⟨none, [], 0⟩, 0, 0⟩ : Rcd).ss.l.length 3 ((⟨1, ⟨some ⟨g6, 0, none⟩, [⟨⟨some ⟨g4, 0, none⟩, laP, 1⟩, t, v⟩], 1⟩, ⟨none, [], 0⟩, 0, 0⟩ : Rcd).ss.l.flatMap smc) :: .sep (rdH none 0 3 []) (smsA [(⟨⟨some ⟨g4, 0, none⟩, laP, 1⟩, t, v⟩ : Smp)]) :: L) rfl).join⟩
theorem g13_spec {B w : World} {L : List HP} {X : HP} {a : Option Addr} {cap : Nat} {rs : List Rcd} (hX : ∀ {L : List HP} {w : World}, St B (X :: L) w → Rd w a rs.length 5 (rs.flatMap rcc)) (hz : ∀ r ∈ rs, SzR r) (hn : rs.length ≤ 2814749767106) (hS : St B (X :: allA recA rs :: L) w) : Does Tryd.prog 6 [Value.slice a rs.length cap] w (fun v w1 => (∃ q, v = .bool q ∧ (q = false → rs.length ≤ 200)) ∧ St B (X :: allA recA rs :: L) w1) := by
 refine enter (n := 18) Tryd.func6 rfl rfl [Value.slice a rs.length cap] rfl ?_
 refine WP.seq (WP.region rfl ?_)
 refine WO.asg rfl rfl ?_
 refine WO.nil (NX.go (WP.seq (WP.seq (WP.region rfl ?_))))
 refine WO.asg rfl rfl ?_
 refine WO.nil (NX.go (WP.block ?_))
 refine WP.loop (α := Nat) (fun x => match x with | i => [(0, Value.slice a rs.length cap), (3, Value.int .i64 (i : Int))]) (fun x w => match x with | i => (i ≤ rs.length) ∧ St B (X :: allA recA rs :: L) w) (fun x => match x with | i => rs.length - i) 0 ⟨Nat.zero_le _, hS⟩ (Sub.cons rfl (Sub.consE rfl (by first | rfl | first | rfl | (congr 1; omega) | (simp; done) | (simp; omega)) (Sub.nil _))) ?_
 rintro i w1 ⟨hi, hS1⟩
 clear hS
 refine WP.seq (WP.seq (WP.region rfl ?_))
 refine WO.mv rfl rfl ?_
 refine WO.mv rfl rfl ?_
 refine WO.V (run_len rfl Tryd.underlying22 rfl) ?_
 refine WO.V (run_lss rfl rfl) ?_
 refine WO.nil (NX.go ?_)
 refine WP.condP rfl (fun g7 => ?_) (fun g7 => ?_)
 ·
  refine WP.skip (NX.go (WP.seq (WP.block (WP.seq ?_))))
  obtain ⟨d1, hd1⟩ : ∃ qq, rs[i]? = some qq := ⟨_, List.getElem?_eq_getElem (by omega)⟩
  refine WP.region rfl ?_
  refine WO.mv rfl rfl ?_
  refine WO.mv rfl rfl ?_
  refine WO.V (run_indexAddr (q := adr a (i * 5)) Tryd.underlying22 Ty.sz26 rfl rfl (by omega) (by omega) ((hX (hS1.focus 0 rfl)).2.1 (by omega)) rfl) ?_
  refine WO.V (run_loadAgg (vs := (rcc d1)) Ty.ag26 Ty.sz26 rfl ((hX (hS1.focus 0 rfl)).cells (by rw [flat_len rcc_len]; omega) (flat_part rcc_len hd1)).1 ((hX (hS1.focus 0 rfl)).cells (by rw [flat_len rcc_len]; omega) (flat_part rcc_len hd1)).2) ?_
  have hS2 := allA_get recA_pers (List.mem_of_getElem? hd1) (hS1.permT [1] (L' := allA recA rs :: X :: L) rfl)
  clear hS1
  refine WO.call rfl rfl Ty.hd7 rfl (g12_spec d1 (hz d1 (List.mem_of_getElem? hd1)) hS2) (fun v4 w3 pv4 => ?_)
  obtain ⟨⟨q, rfl⟩, hS3⟩ := pv4
  clear hS2
  refine WO.nil (NX.go ?_)
  refine WP.condB rfl (fun g14 => ?_) (fun g14 => ?_)
  ·
   refine WP.seq (WP.region rfl ?_)
   refine WO.asg rfl rfl ?_
   refine WO.nil (NX.go (WP.ret (NX.blkRet (NX.thenRet (NX.thenRet (NX.blkRet (NX.thenRet ?_)))))))
   refine NX.done (l := [.tmp 2]) rfl rfl ?_
   exact ⟨⟨_, rfl, fun h => by cases h⟩, (hS3.permT [0, 1] (L' := recA d1 :: X :: allA recA rs :: L) rfl).drop⟩
  ·
   refine WP.skip (NX.blk (NX.go (WP.region rfl ?_)))
   refine WO.mv rfl rfl ?_
   refine WO.V (run_add rfl rfl (IntWalk.i64_in _ (by omega))) ?_
   refine WO.asg rfl rfl ?_
   refine WO.nil ?_
   exact NX.again (i + 1) ⟨by omega, (hS3.permT [0, 1] (L' := recA d1 :: X :: allA recA rs :: L) rfl).drop⟩ (by show rs.length - (i + 1) < rs.length - i; omega) (Sub.cons rfl (Sub.consE rfl (by congr 1) (Sub.nil _)))
 ·
  refine WP.exit (NX.thenExit (NX.thenExit ?_))
  refine NX.blkExit ?_
  refine NX.go (WP.seq (WP.region rfl ?_))
  refine WO.mv rfl rfl ?_
  refine WO.V (run_len rfl Tryd.underlying22 rfl) ?_
  refine WO.V (run_gtr rfl rfl) ?_
  refine WO.asg rfl rfl ?_
  refine WO.nil (NX.go (WP.ret ?_))
  refine NX.done (l := [.tmp 2]) rfl rfl ?_
  exact ⟨⟨_, rfl, fun h => by have h2 := of_decide_eq_false h; omega⟩, hS1⟩
end Go.Proofs.YtidoidoelgfnaaaDoor.SL

/- The head works. -/
namespace Go.Proofs.YtidoidoelgfnaaaDoor.SL
open Go.RowKit Go.Proofs.YtidoidoelgfnaaaDoor
open Go.Proofs.YtidoidoelgfnaaaDoorW.PrintLast (rtab opsOf)
set_option linter.unusedVariables false
set_option linter.unusedSimpArgs false

def hA1 : List RowP := [⟨laP, 5, [⟨5, 7⟩]⟩]
def hA2 : List RowP := [⟨laP, 5, []⟩]
theorem w_e1 : tryP [] (rOne 5 7) = 0 := by kernel_rfl
theorem w_e2 : applyP [] (rOne 5 7) = hA1 := by kernel_rfl
theorem w_e3 : tryP hA1 (rOne 5 7) = 14 := by kernel_rfl
theorem w_e4 : applyP hA1 (rOne 5 7) = hA1 := by kernel_rfl
theorem w_e5 : tryP hA1 rDel = 0 := by kernel_rfl
theorem w_e6 : applyP hA1 rDel = hA2 := by kernel_rfl
theorem w_e7 : tryP hA2 (rOne 5 1) = 14 := by kernel_rfl
theorem w_e8 : applyP hA2 (rOne 5 1) = hA2 := by kernel_rfl
theorem w_e9 : tryP hA2 (rOne 6 1) = 0 := by kernel_rfl
theorem w_q1 : qryR [] 0 9 hA1 = [⟨laP, [⟨5, 7⟩]⟩] := by kernel_rfl
theorem w_q2 : qryR [] 0 9 hA2 = [] := by kernel_rfl
theorem w_f1 : WfH hA1 32 := w_e2 ▸ wf_applyP (wf_nil 0)
theorem w_f2 : WfH hA2 64 := w_e6 ▸ wf_applyP w_f1
theorem rd_nilH {w : World} (k : Nat) : Rd w none 0 k [] := ⟨by simp, fun h => by omega, fun j hj => by omega⟩
theorem ser_one {o : List MSer} {lb : List Pr} {ps : List Pt} (h : o.map MSer.p = [⟨lb, ps⟩]) : ∃ la lc pa pc, o = [(⟨⟨la, lb, lc⟩, ⟨pa, ps, pc⟩⟩ : MSer)] := by
  match o, h with
  | [⟨⟨la, l1, lc⟩, ⟨pa, p1, pc⟩⟩], h =>
    simp only [List.map_cons, List.map_nil, List.cons.injEq, and_true] at h
    have e1 : l1 = lb := congrArg SerP.lb h
    have e2 : p1 = ps := congrArg SerP.pts h
    subst e1; subst e2
    exact ⟨la, lc, pa, pc, rfl⟩
theorem hworks_spec {B w : World} {L : List HP} (hS : St B L w) : Does Tryd.prog 5 [] w (fun v w1 => v = .bool true ∧ St B L w1) := by
 refine enter (n := 73) Tryd.func5 rfl rfl [] rfl ?_
 refine WP.seq (WP.region rfl ?_)
 refine WO.asg rfl rfl ?_
 refine WO.nil (NX.go (WP.seq (WP.region rfl ?_)))
 refine WO.call rfl rfl Ty.hd8 rfl (new_spec hS) (fun v2 w1 pv2 => ?_)
 obtain ⟨g, rfl, hS1⟩ := pv2
 clear hS
 refine WO.asg rfl rfl ?_
 refine WO.nil (NX.go (WP.seq (WP.seq (WP.region rfl ?_))))
 refine WO.mv rfl rfl ?_
 refine WO.V (run_eqlNilP Tryd.underlying30 rfl rfl) ?_
 refine WO.nil (NX.go ?_)
 refine WP.condF rfl rfl ?_
 refine WP.skip (NX.go (WP.seq (WP.region rfl ?_)))
 refine WO.mv rfl rfl ?_
 refine WO.call rfl rfl Ty.hd14 rfl (one_spec 5 7 hS1) (fun v4 w3 pv4 => ?_)
 obtain ⟨r1, rfl, hr1, hS3⟩ := pv4
 clear hS1
 have hS5 := hS3.permT [1] (L' := hdA 56 61 51 g [] :: recA r1 :: L) rfl
 clear hS3
 refine WO.call rfl rfl Ty.hd9 rfl (happlyP_spec (wf_nil 0) (by decide) (by decide) r1 (szR_one hr1) hS5) (fun v7 w6 pv7 => ?_)
 obtain ⟨hv, hS6⟩ := pv7
 clear hS5
 replace hv : v7 = Value.int .i64 0 := (hv.trans (congrArg (Value.int .i64) (by rw [hr1]; exact w_e1)))
 subst hv
 replace hS6 : St B (hdA 56 61 51 g hA1 :: recA r1 :: L) w6 := (by have z := hS6; rw [hr1, w_e2] at z; exact z)
 refine WO.mv rfl rfl ?_
 refine WO.call rfl rfl Ty.hd14 rfl (one_spec 5 7 hS6) (fun v9 w8 pv9 => ?_)
 obtain ⟨r2, rfl, hr2, hS8⟩ := pv9
 clear hS6
 have hS10 := hS8.permT [1] (L' := hdA 56 61 51 g hA1 :: recA r2 :: recA r1 :: L) rfl
 clear hS8
 refine WO.call rfl rfl Ty.hd9 rfl (happlyP_spec w_f1 (by decide) (by decide) r2 (szR_one hr2) hS10) (fun v12 w11 pv12 => ?_)
 obtain ⟨hv, hS11⟩ := pv12
 clear hS10
 replace hv : v12 = Value.int .i64 14 := (hv.trans (congrArg (Value.int .i64) (by rw [hr2]; exact w_e3)))
 subst hv
 replace hS11 : St B (hdA 56 61 51 g hA1 :: recA r2 :: recA r1 :: L) w11 := (by have z := hS11; rw [hr2, w_e4] at z; exact z)
 refine WO.asg rfl rfl ?_
 refine WO.asg rfl rfl ?_
 refine WO.nil (NX.go (WP.seq (WP.region rfl ?_)))
 refine WO.mv rfl rfl ?_
 have hS13 : St B (.pure True :: hdA 56 61 51 g hA1 :: recA r2 :: recA r1 :: L) w11 := hS11.addPure trivial
 clear hS11
 have hS14 := hS13.permT [1] (L' := hdA 56 61 51 g hA1 :: .pure True :: recA r2 :: recA r1 :: L) rfl
 clear hS13
 refine WO.call rfl rfl Ty.hd15 rfl (hquery_spec (M := .pure True) (m := none) (cap := 0) (ask := []) (fun _ => rd_nilH 3) w_f1 (by decide) (by decide) (fun p hp => by cases hp) (by decide) 0 9 hS14) (fun v16 w15 pv16 => ?_)
 obtain ⟨a1, c1, o1, rfl, ho1, hn1, hz1, hS15⟩ := pv16
 clear hS14
 obtain ⟨la9, lc9, pa9, pc9, rfl⟩ := ser_one (ho1.trans w_q1)
 have hS17 := serA_get (x := (⟨⟨la9, laP, lc9⟩, ⟨pa9, [⟨5, 7⟩], pc9⟩⟩ : MSer)) (List.mem_singleton_self _) (hS15.permT [1] (L' := allA serA [(⟨⟨la9, laP, lc9⟩, ⟨pa9, [⟨5, 7⟩], pc9⟩⟩ : MSer)] :: own a1 [(⟨⟨la9, laP, lc9⟩, ⟨pa9, [⟨5, 7⟩], pc9⟩⟩ : MSer)].length c1 49 2 ([(⟨⟨la9, laP, lc9⟩, ⟨pa9, [⟨5, 7⟩], pc9⟩⟩ : MSer)].flatMap msc) :: hdA 56 61 51 g hA1 :: .pure True :: recA r2 :: recA r1 :: L) rfl)
 replace hS17 : St B (labA ⟨la9, laP, lc9⟩ :: (rdH pa9 1 2 [Value.int .i64 5, Value.int .u64 7]) :: allA serA [(⟨⟨la9, laP, lc9⟩, ⟨pa9, [⟨5, 7⟩], pc9⟩⟩ : MSer)] :: own a1 1 c1 49 2 [Value.slice la9 1 lc9, Value.slice pa9 1 pc9] :: hdA 56 61 51 g hA1 :: .pure True :: recA r2 :: recA r1 :: L) w15 := hS17
 clear hS15
 refine WO.asg rfl rfl ?_
 refine WO.nil (NX.go (WP.seq (WP.region rfl ?_)))
 refine WO.mv rfl rfl ?_
 refine WO.V (run_build (v := Value.agg #[Value.int .i64 2, Value.slice none 0 0, Value.slice none 0 0, Value.int .i64 0, Value.int .i64 9]) rfl (fun w => by kernel_rfl)) ?_
 have hS18 : St B (recA ⟨2, ⟨none, [], 0⟩, ⟨none, [], 0⟩, 0, 9⟩ :: labA ⟨la9, laP, lc9⟩ :: (rdH pa9 1 2 [Value.int .i64 5, Value.int .u64 7]) :: allA serA [(⟨⟨la9, laP, lc9⟩, ⟨pa9, [⟨5, 7⟩], pc9⟩⟩ : MSer)] :: own a1 1 c1 49 2 [Value.slice la9 1 lc9, Value.slice pa9 1 pc9] :: hdA 56 61 51 g hA1 :: .pure True :: recA r2 :: recA r1 :: L) w15 := recA_nil 2 0 9 (ms := ⟨none, [], 0⟩) (rdH_zero rfl hS17)
 clear hS17
 have hS19 := hS18.permT [5] (L' := hdA 56 61 51 g hA1 :: recA ⟨2, ⟨none, [], 0⟩, ⟨none, [], 0⟩, 0, 9⟩ :: labA ⟨la9, laP, lc9⟩ :: (rdH pa9 1 2 [Value.int .i64 5, Value.int .u64 7]) :: allA serA [(⟨⟨la9, laP, lc9⟩, ⟨pa9, [⟨5, 7⟩], pc9⟩⟩ : MSer)] :: own a1 1 c1 49 2 [Value.slice la9 1 lc9, Value.slice pa9 1 pc9] :: .pure True :: recA r2 :: recA r1 :: L) rfl
 clear hS18
 refine WO.call rfl rfl Ty.hd9 rfl (happlyP_spec w_f1 (by decide) (by decide) ⟨2, ⟨none, [], 0⟩, ⟨none, [], 0⟩, 0, 9⟩ (szR_del rfl) hS19) (fun v21 w20 pv21 => ?_)
 obtain ⟨hv, hS20⟩ := pv21
 clear hS19
 replace hv : v21 = Value.int .i64 0 := (hv.trans (congrArg (Value.int .i64) (show tryP hA1 rDel = 0 from w_e5)))
 subst hv
 replace hS20 : St B (hdA 56 61 51 g hA2 :: recA ⟨2, ⟨none, [], 0⟩, ⟨none, [], 0⟩, 0, 9⟩ :: labA ⟨la9, laP, lc9⟩ :: (rdH pa9 1 2 [Value.int .i64 5, Value.int .u64 7]) :: allA serA [(⟨⟨la9, laP, lc9⟩, ⟨pa9, [⟨5, 7⟩], pc9⟩⟩ : MSer)] :: own a1 1 c1 49 2 [Value.slice la9 1 lc9, Value.slice pa9 1 pc9] :: .pure True :: recA r2 :: recA r1 :: L) w20 := (by have z := hS20; rw [show applyP hA1 (Rcd.p ⟨2, ⟨none, [], 0⟩, ⟨none, [], 0⟩, 0, 9⟩) = hA2 from w_e6] at z; exact z)
 refine WO.asg rfl rfl ?_
 refine WO.nil (NX.go (WP.seq (WP.region rfl ?_)))
 refine WO.mv rfl rfl ?_
 have hS23 := hS20.permT [0, 5] (L' := hdA 56 61 51 g hA2 :: .pure True :: recA ⟨2, ⟨none, [], 0⟩, ⟨none, [], 0⟩, 0, 9⟩ :: labA ⟨la9, laP, lc9⟩ :: (rdH pa9 1 2 [Value.int .i64 5, Value.int .u64 7]) :: allA serA [(⟨⟨la9, laP, lc9⟩, ⟨pa9, [⟨5, 7⟩], pc9⟩⟩ : MSer)] :: own a1 1 c1 49 2 [Value.slice la9 1 lc9, Value.slice pa9 1 pc9] :: recA r2 :: recA r1 :: L) rfl
 clear hS20
 refine WO.call rfl rfl Ty.hd15 rfl (hquery_spec (M := .pure True) (m := none) (cap := 0) (ask := []) (fun _ => rd_nilH 3) w_f2 (by decide) (by decide) (fun p hp => by cases hp) (by decide) 0 9 hS23) (fun v25 w24 pv25 => ?_)
 obtain ⟨a2, c2, o2, rfl, ho2, hn2, hz2, hS24⟩ := pv25
 clear hS23
 obtain rfl : o2 = [] := List.map_eq_nil_iff.1 (ho2.trans w_q2)
 have hS26 : St B (hdA 56 61 51 g hA2 :: .pure True :: recA ⟨2, ⟨none, [], 0⟩, ⟨none, [], 0⟩, 0, 9⟩ :: labA ⟨la9, laP, lc9⟩ :: (rdH pa9 1 2 [Value.int .i64 5, Value.int .u64 7]) :: allA serA [(⟨⟨la9, laP, lc9⟩, ⟨pa9, [⟨5, 7⟩], pc9⟩⟩ : MSer)] :: own a1 1 c1 49 2 [Value.slice la9 1 lc9, Value.slice pa9 1 pc9] :: recA r2 :: recA r1 :: L) w24 := hS24.drop.drop
 clear hS24
 refine WO.asg rfl rfl ?_
 refine WO.nil (NX.go (WP.seq ?_))
 have hS27 : St B (hdA 56 61 51 g hA2 :: .pure True :: (rdH pa9 1 2 [Value.int .i64 5, Value.int .u64 7]) :: own a1 1 c1 49 2 [Value.slice la9 1 lc9, Value.slice pa9 1 pc9] :: L) w24 := (hS26.mask [true, true, false, false, true, false, true, false, false] (L' := hdA 56 61 51 g hA2 :: .pure True :: (rdH pa9 1 2 [Value.int .i64 5, Value.int .u64 7]) :: own a1 1 c1 49 2 [Value.slice la9 1 lc9, Value.slice pa9 1 pc9] :: L) rfl)
 clear hS26
 have hp9 : pa9.isSome = true := rd_isSome ((rdH_rd (hS27.focus 2 rfl))) (by omega)
 have ha9 : a1.isSome = true := rd_isSome ((hS27.own_rd_i 3 rfl)) (by omega)
 refine WP.region rfl ?_
 refine WO.mv rfl rfl ?_
 refine WO.V (run_eql rfl rfl) ?_
 refine WO.mv rfl rfl ?_
 refine WO.on rfl rfl (by decide) ?_
 refine WO.mv rfl rfl ?_
 refine WO.on rfl rfl (by decide) ?_
 refine WO.V (run_eql rfl rfl) ?_
 refine WO.V (run_pickT rfl (by decide) rfl) ?_
 refine WO.mv rfl rfl ?_
 refine WO.on rfl rfl (by decide) ?_
 refine WO.mv rfl rfl ?_
 refine WO.on rfl rfl (by decide) ?_
 refine WO.V (run_len rfl Tryd.underlying45 rfl) ?_
 refine WO.on rfl rfl (by decide) ?_
 refine WO.V (run_eql rfl rfl) ?_
 refine WO.V (run_pickT rfl (by decide) rfl) ?_
 refine WO.mv rfl rfl ?_
 refine dcase (p := (1 : Int) = 1) (fun g34 d34 => ?_) (fun g34 d34 => ?_)
 ·
  refine WO.on rfl rfl d34 ?_
  refine WO.mv rfl rfl ?_
  refine WO.on rfl rfl d34 ?_
  refine WO.V (run_indexAddr (q := adr a1 (0 * 2)) Tryd.underlying45 Ty.sz49 rfl rfl (by omega) (Int.ofNat_lt.2 (Nat.zero_lt_succ 0)) ((hS27.own_rd_i 3 rfl).2.1 (by omega)) rfl) ?_
  refine WO.on rfl rfl d34 ?_
  refine WO.V (run_fa 1 (adr a1 (0 * 2 + 1)) rfl (adr_add _ (by assumption) _ _)) ?_
  refine WO.on rfl rfl d34 ?_
  refine WO.V (run_load Ty.ag47 rfl ((hS27.own_rd_i 3 rfl).cell rfl)) ?_
  refine WO.on rfl rfl d34 ?_
  refine WO.V (run_len rfl Tryd.underlying47 rfl) ?_
  refine WO.on rfl rfl d34 ?_
  refine WO.V (run_eql rfl rfl) ?_
  refine WO.V (run_pickT rfl d34 rfl) ?_
  refine WO.mv rfl rfl ?_
  refine dcase (p := (1 : Int) = 1) (fun g42 d42 => ?_) (fun g42 d42 => ?_)
  ·
   refine WO.on rfl rfl d42 ?_
   refine WO.mv rfl rfl ?_
   refine WO.on rfl rfl d42 ?_
   refine WO.V (run_indexAddr (q := adr a1 (0 * 2)) Tryd.underlying45 Ty.sz49 rfl rfl (by omega) (Int.ofNat_lt.2 (Nat.zero_lt_succ 0)) ((hS27.own_rd_i 3 rfl).2.1 (by omega)) rfl) ?_
   refine WO.on rfl rfl d42 ?_
   refine WO.V (run_fa 1 (adr a1 (0 * 2 + 1)) rfl (adr_add _ (by assumption) _ _)) ?_
   refine WO.on rfl rfl d42 ?_
   refine WO.V (run_load Ty.ag47 rfl ((hS27.own_rd_i 3 rfl).cell rfl)) ?_
   refine WO.on rfl rfl d42 ?_
   refine WO.V (run_indexAddr (q := adr pa9 (0 * 2)) Tryd.underlying47 Ty.sz51 rfl rfl (by omega) (by omega) ((rdH_rd (hS27.focus 2 rfl)).2.1 (by omega)) rfl) ?_
   refine WO.on rfl rfl d42 ?_
   refine WO.V (run_loadAgg (vs := [Value.int .i64 5, Value.int .u64 7]) Ty.ag51 Ty.sz51 rfl ((rdH_rd (hS27.focus 2 rfl)).cells (by decide) (show (([Value.int .i64 5, Value.int .u64 7] : List Value).drop (0 * 2)).take 2 = [Value.int .i64 5, Value.int .u64 7] from rfl)).1 ((rdH_rd (hS27.focus 2 rfl)).cells (by decide) (show (([Value.int .i64 5, Value.int .u64 7] : List Value).drop (0 * 2)).take 2 = [Value.int .i64 5, Value.int .u64 7] from rfl)).2) ?_
   refine WO.on rfl rfl d42 ?_
   refine WO.V (run_build (v := Value.agg #[Value.int .i64 5, Value.int .u64 7]) rfl (fun w => by kernel_rfl)) ?_
   refine WO.on rfl rfl d42 ?_
   refine WO.V (run_eqlPt ⟨5, 7⟩ ⟨5, 7⟩ rfl rfl) ?_
   refine WO.V (run_pickT rfl d42 rfl) ?_
   refine WO.mv rfl rfl ?_
   refine WO.on rfl rfl (decide_eq_true rfl) ?_
   refine WO.mv rfl rfl ?_
   refine WO.on rfl rfl (decide_eq_true rfl) ?_
   refine WO.V (run_eql rfl rfl) ?_
   refine WO.V (run_pickT rfl (decide_eq_true rfl) rfl) ?_
   refine WO.mv rfl rfl ?_
   refine WO.on rfl rfl (by decide) ?_
   refine WO.mv rfl rfl ?_
   refine WO.on rfl rfl (by decide) ?_
   refine WO.V (run_len rfl Tryd.underlying45 rfl) ?_
   refine WO.on rfl rfl (by decide) ?_
   refine WO.V (run_eql rfl rfl) ?_
   refine WO.V (run_pickT rfl (by decide) rfl) ?_
   refine WO.mv rfl rfl ?_
   refine dcase (p := (0 : Int) = 0) (fun g61 d61 => ?_) (fun g61 d61 => ?_)
   ·
    refine WO.on rfl rfl d61 ?_
    refine WO.mv rfl rfl ?_
    refine WO.on rfl rfl d61 ?_
    refine WO.call rfl rfl Ty.hd14 rfl (one_spec 5 1 hS27) (fun v29 w28 pv29 => ?_)
    obtain ⟨r4, rfl, hr4, hS28⟩ := pv29
    clear hS27
    refine WO.on rfl rfl d61 ?_
    have hS30 := hS28.permT [1] (L' := hdA 56 61 51 g hA2 :: recA r4 :: .pure True :: (rdH pa9 1 2 [Value.int .i64 5, Value.int .u64 7]) :: own a1 1 c1 49 2 [Value.slice la9 1 lc9, Value.slice pa9 1 pc9] :: L) rfl
    clear hS28
    refine WO.call rfl rfl Ty.hd9 rfl (happlyP_spec w_f2 (by decide) (by decide) r4 (szR_one hr4) hS30) (fun v32 w31 pv32 => ?_)
    obtain ⟨hv, hS31⟩ := pv32
    clear hS30
    replace hv : v32 = Value.int .i64 14 := (hv.trans (congrArg (Value.int .i64) (by rw [hr4]; exact w_e7)))
    subst hv
    replace hS31 : St B (hdA 56 61 51 g hA2 :: recA r4 :: .pure True :: (rdH pa9 1 2 [Value.int .i64 5, Value.int .u64 7]) :: own a1 1 c1 49 2 [Value.slice la9 1 lc9, Value.slice pa9 1 pc9] :: L) w31 := (by have z := hS31; rw [hr4, w_e8] at z; exact z)
    refine WO.on rfl rfl d61 ?_
    refine WO.V (run_eql rfl rfl) ?_
    refine WO.V (run_pickT rfl d61 rfl) ?_
    refine WO.mv rfl rfl ?_
    refine WO.on rfl rfl (by decide) ?_
    refine WO.mv rfl rfl ?_
    refine WO.on rfl rfl (by decide) ?_
    refine WO.call rfl rfl Ty.hd14 rfl (one_spec 6 1 hS31) (fun v34 w33 pv34 => ?_)
    obtain ⟨r5, rfl, hr5, hS33⟩ := pv34
    clear hS31
    refine WO.on rfl rfl (by decide) ?_
    have hS35 := hS33.permT [1] (L' := hdA 56 61 51 g hA2 :: recA r5 :: recA r4 :: .pure True :: (rdH pa9 1 2 [Value.int .i64 5, Value.int .u64 7]) :: own a1 1 c1 49 2 [Value.slice la9 1 lc9, Value.slice pa9 1 pc9] :: L) rfl
    clear hS33
    refine WO.call rfl rfl Ty.hd9 rfl (happlyP_spec w_f2 (by decide) (by decide) r5 (szR_one hr5) hS35) (fun v37 w36 pv37 => ?_)
    obtain ⟨hv, hS36⟩ := pv37
    clear hS35
    replace hv : v37 = Value.int .i64 0 := (hv.trans (congrArg (Value.int .i64) (by rw [hr5]; exact w_e9)))
    subst hv
    replace hS36 : St B (hdA 56 61 51 g (applyP hA2 r5.p) :: recA r5 :: recA r4 :: .pure True :: (rdH pa9 1 2 [Value.int .i64 5, Value.int .u64 7]) :: own a1 1 c1 49 2 [Value.slice la9 1 lc9, Value.slice pa9 1 pc9] :: L) w36 := hS36
    refine WO.on rfl rfl (by decide) ?_
    refine WO.V (run_eql rfl rfl) ?_
    refine WO.V (run_pickT rfl (by decide) rfl) ?_
    refine WO.asg rfl rfl ?_
    refine WO.nil (NX.go (WP.ret ?_))
    refine NX.done (l := [.tmp 0]) rfl rfl ?_
    exact ⟨rfl, hS36.drop.drop.drop.drop.drop.drop⟩
   ·
    exact absurd rfl g61
  ·
   exact absurd rfl g42
 ·
  exact absurd rfl g34
end Go.Proofs.YtidoidoelgfnaaaDoor.SL

/- What the laws of the head share. -/
namespace Go.Proofs.YtidoidoelgfnaaaDoor.SL
open Go.RowKit Go.Proofs.YtidoidoelgfnaaaDoor
open Go.Proofs.YtidoidoelgfnaaaDoorW.PrintLast (rtab opsOf)
set_option linter.unusedVariables false
set_option linter.unusedSimpArgs false

theorem allA_base {α : Type} {f : α → HP} {B : World} : ∀ {l : List α}, (∀ x ∈ l, ∀ {L : List HP} {w : World}, St B L w → St B (f x :: L) w) → ∀ {L : List HP} {w : World}, St B L w → St B (allA f l :: L) w
  | [], _, _, _, h => h.addPure trivial
  | x :: l, hf, L, w, h => St.join (hf x (by simp) (allA_base (fun y hy => hf y (by simp [hy])) h))
end Go.Proofs.YtidoidoelgfnaaaDoor.SL
