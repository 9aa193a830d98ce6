import Derived.Test.YtegcibphlpanfaaGreatDoorKg1M
import Derived.Test.YtegcibphlpanfaaGreatDoorKc
import Derived.Test.YtegcibphlpanfaaGreatDoorKmM
/- Records, compared. -/
namespace Go.Proofs.YtegcibphlpanfaaGreatDoor.SL
open Go.RowKit Go.Proofs.YtegcibphlpanfaaGreatDoor
open Go.Proofs.YtegcibphlpanfaaGreatDoorW.PrintLast (rtab opsOf)
set_option linter.unusedVariables false
set_option linter.unusedSimpArgs false

instance decMt : DecidableEq Mt := fun p q => decidable_of_iff (p.k = q.k ∧ p.n = q.n ∧ p.v = q.v) (by cases p; cases q; simp)
theorem eqIn_Mt (p q : Mt) (w : World) : (Op.equalIn 10000 120 (.agg #[.int .i64 p.k, str p.n, str p.v]) (.agg #[.int .i64 q.k, str q.n, str q.v])).run Tryz.prog w = .ok (decide (p = q)) w := by
  have u3 := Tryz.underlying3
  have a3 := Tryz.isAgg3
  have z3 := Tryz.sizeOf3
  have u9 := Tryz.underlying9
  have a9 := Tryz.isAgg9
  have z9 := Tryz.sizeOf9
  have hS : Tryz.prog.underlying 120 = some (.struct (Tryz.prog.fieldsOf 120)) := by kernel_rfl
  have hp : Tryz.prog.stoodInHeld 120 = false := by kernel_rfl
  rw [show (10000 : Nat) = 9999 + 1 from rfl, run_equalIn_agg w 9999 120 _ _ hS hp]
  simp only [Program.fieldsOf, Tryz.underlying120]
  go_simp
  obtain ⟨k, n, v⟩ := p
  obtain ⟨k', n', v'⟩ := q
  by_cases h0 : k = k' <;> by_cases h1 : n = n' <;> by_cases h2 : v = v' <;> simp [h0, h1, h2, ByteArray.toList_eq]
theorem run_neqMt {n : Nat} {D : List Deferred} {T : Tm} {w : World} {u : TypeId} {x y : Operand} {dst : Option Nat} {ty : TypeId} {pos : String} {aft : Array Edge} (p q : Mt) (hx : ev T x = some (.agg #[.int .i64 p.k, str p.n, str p.v])) (hy : ev T y = some (.agg #[.int .i64 q.k, str q.n, str q.v])) : Run Tryz.prog n D T w ⟨dst, .binOp .neq 120 x y u, ty, pos, aft, none⟩ (.bool (decide (¬ p = q))) w := fun c f => by
  have hg : Tryz.prog.eqGuardType Tryz.prog.depth 120 = false := by kernel_rfl
  have h := eqIn_Mt p q w
  have h2 : (Op.equal 120 (.agg #[.int .i64 p.k, str p.n, str p.v]) (.agg #[.int .i64 q.k, str q.n, str q.v])).run Tryz.prog w = .ok (decide (p = q)) w := h
  simp [execOp, f.ev hx, f.ev hy, eqGuard, hg, binOp, h2]
theorem t31_6 : rtab .any (opsOf Tryz.f31 6) = (true, [([], []), ([], []), ([0, 1], [0, 1]), ([2], [2]), ([], []), ([], []), ([4, 5], [4, 5]), ([6], [6]), ([3, 7], [3, 7])]) := by kernel_rfl
theorem rmsame_spec {B w : World} {L : List HP} {X Y : HP} {a b : Option Addr} {cap cap2 : Nat} {l m : List Mt} (hX : ∀ {L : List HP} {w : World}, St B (X :: L) w → Rd w a l.length 3 (l.flatMap mtc)) (hY : ∀ {L : List HP} {w : World}, St B (Y :: L) w → Rd w b m.length 3 (m.flatMap mtc)) (hl : l.length ≤ 4398046511104) (hm : m.length ≤ 4398046511104) (hS : St B (X :: Y :: L) w) : Does Tryz.prog 31 [Value.slice a l.length cap, Value.slice b m.length cap2] w (fun v w1 => v = .bool (decide (l = m)) ∧ St B (X :: Y :: L) w1) := by
 refine enter (n := 26) Tryz.func31 rfl rfl [Value.slice a l.length cap, Value.slice b m.length cap2] rfl ?_
 refine WP.seq (WP.region rfl ?_)
 refine WO.asg rfl rfl ?_
 refine WO.nil (NX.go (WP.seq (WP.seq (WP.region rfl ?_))))
 refine WO.mv rfl rfl ?_
 refine WO.V (run_len rfl Tryz.underlying25 rfl) ?_
 refine WO.mv rfl rfl ?_
 refine WO.V (run_len rfl Tryz.underlying25 rfl) ?_
 refine WO.V (run_neq rfl rfl) ?_
 refine WO.nil (NX.go ?_)
 refine WP.condP rfl (fun g10 => ?_) (fun g10 => ?_)
 ·
  refine WP.seq (WP.region rfl ?_)
  refine WO.asg rfl rfl ?_
  refine WO.nil (NX.go (WP.ret (NX.thenRet ?_)))
  refine NX.done (l := [.tmp 4]) rfl rfl ?_
  exact ⟨congrArg Value.bool (decide_eq_false (fun e => by rw [e] at g10; exact g10 rfl)).symm, hS⟩
 ·
  refine WP.skip (NX.go (WP.seq (WP.seq (WP.region rfl ?_))))
  refine WO.asg rfl rfl ?_
  refine WO.nil (NX.go (WP.block ?_))
  refine WP.loop (α := Nat) (fun x => match x with | i => [(0, Value.slice a l.length cap), (1, Value.slice b m.length cap2), (5, Value.int .i64 (i : Int))]) (fun x w => match x with | i => (i ≤ l.length ∧ (l.drop i = m.drop i ↔ l = m)) ∧ St B (X :: Y :: L) w) (fun x => match x with | i => l.length - i) 0 ⟨⟨Nat.zero_le _, Iff.rfl⟩, hS⟩ (Sub.cons rfl (Sub.cons rfl (Sub.consE rfl (by first | rfl | first | rfl | (congr 1; omega) | (simp; done) | (simp; omega)) (Sub.nil _)))) ?_
  rintro i w1 ⟨⟨hi, hgo⟩, hS1⟩
  clear hS
  refine WP.seq (WP.seq (WP.region rfl ?_))
  refine WO.mv rfl rfl ?_
  refine WO.mv rfl rfl ?_
  refine WO.V (run_len rfl Tryz.underlying25 rfl) ?_
  refine WO.V (run_lss rfl rfl) ?_
  refine WO.nil (NX.go ?_)
  refine WP.condP rfl (fun g14 => ?_) (fun g14 => ?_)
  ·
   refine WP.skip (NX.go (WP.seq (WP.block (WP.seq ?_))))
   obtain ⟨p, hp⟩ : ∃ p, l[i]? = some p := ⟨_, List.getElem?_eq_getElem (by omega)⟩
   obtain ⟨q, hq⟩ : ∃ q, m[i]? = some q := ⟨_, List.getElem?_eq_getElem (by omega)⟩
   have hsa : a.isSome = true := rd_isSome ((hX (hS1.focus 0 rfl))) (by omega)
   have hsb : b.isSome = true := rd_isSome ((hY (hS1.focus 1 rfl))) (by omega)
   refine WD.start (fun w => Rd w a l.length 3 (l.flatMap mtc) ∧ Rd w b m.length 3 (m.flatMap mtc)) [] (bt 9 0) Ty.mo rfl (by kernel_rfl) hS1 (fun _ h => ⟨(hX (h.focus 0 rfl)), (hY (h.focus 1 rfl))⟩) (fun w2 hS2 s3 => ?_)
   clear hS1
   refine DP (i := 0) t31_6 (bt 9 1) rfl rfl rfl rfl (fun w => run_move rfl) ?_
   refine DP (i := 1) t31_6 (bt 9 3) rfl rfl rfl rfl (fun w => run_move rfl) ?_
   refine DT (i := 2) t31_6 (bt 9 7) s3 rfl rfl rfl rfl (fun w hs => run_indexAddr (q := adr a (i * 3)) Tryz.underlying25 Ty.sz120 rfl rfl (by omega) (by omega) ((hs.1).2.1 (by omega)) rfl) ?_
   refine DT (i := 3) t31_6 (bt 9 15) s3 rfl rfl rfl rfl (fun w hs => run_loadAgg (vs := [Value.int .i64 p.k, str p.n, str p.v]) Ty.ag120 Ty.sz120 rfl ((hs.1).cells (by rw [flat_len mtc_len]; omega) (flat_part mtc_len hp)).1 ((hs.1).cells (by rw [flat_len mtc_len]; omega) (flat_part mtc_len hp)).2) ?_
   refine DP (i := 4) t31_6 (bt 9 31) rfl rfl rfl rfl (fun w => run_move rfl) ?_
   refine DP (i := 5) t31_6 (bt 9 63) rfl rfl rfl rfl (fun w => run_move rfl) ?_
   refine DT (i := 6) t31_6 (bt 9 127) s3 rfl rfl rfl rfl (fun w hs => run_indexAddr (q := adr b (i * 3)) Tryz.underlying25 Ty.sz120 rfl rfl (by omega) (by omega) ((hs.2).2.1 (by omega)) rfl) ?_
   refine DT (i := 7) t31_6 (bt 9 255) s3 rfl rfl rfl rfl (fun w hs => run_loadAgg (vs := [Value.int .i64 q.k, str q.n, str q.v]) Ty.ag120 Ty.sz120 rfl ((hs.2).cells (by rw [flat_len mtc_len]; omega) (flat_part mtc_len hq)).1 ((hs.2).cells (by rw [flat_len mtc_len]; omega) (flat_part mtc_len hq)).2) ?_
   refine DP (i := 8) t31_6 (bt 9 511) rfl rfl rfl rfl (fun w => run_neqMt p q rfl rfl) ?_
   refine WD.done t31_6 (by kernel_rfl) ?_
   refine NX.go ?_
   refine WP.condP rfl (fun g25 => ?_) (fun g25 => ?_)
   ·
    refine WP.seq (WP.region rfl ?_)
    refine WO.asg rfl rfl ?_
    refine WO.nil (NX.go (WP.ret (NX.blkRet (NX.thenRet (NX.thenRet (NX.blkRet (NX.thenRet ?_)))))))
    refine NX.done (l := [.tmp 4]) rfl rfl ?_
    exact ⟨congrArg Value.bool (decide_eq_false (fun e => by rw [← hgo, drop_cons hp, drop_cons hq] at e; exact g25 (List.cons.inj e).1)).symm, hS2⟩
   ·
    refine WP.skip (NX.blk (NX.go (WP.region rfl ?_)))
    refine WO.mv rfl rfl ?_
    refine WO.V (run_add rfl rfl (IntWalk.i64_in _ (by omega))) ?_
    refine WO.asg rfl rfl ?_
    refine WO.nil ?_
    exact NX.again (i + 1) ⟨⟨by omega, by rw [drop_cons hp, drop_cons hq] at hgo; rw [← hgo]; have : p = q := (by simpa using g25); subst this; simp⟩, hS2⟩ (by show l.length - (i + 1) < l.length - i; omega) (Sub.cons rfl (Sub.cons rfl (Sub.consE rfl (by congr 1) (Sub.nil _))))
  ·
   refine WP.exit (NX.thenExit (NX.thenExit ?_))
   refine NX.blkExit ?_
   refine NX.go (WP.seq (WP.region rfl ?_))
   refine WO.asg rfl rfl ?_
   refine WO.nil (NX.go (WP.ret ?_))
   refine NX.done (l := [.tmp 4]) rfl rfl ?_
   exact ⟨congrArg Value.bool (decide_eq_true (hgo.1 (by rw [List.drop_of_length_le (by omega), List.drop_of_length_le (by omega)]))).symm, hS1⟩
theorem t17_6 : rtab .any (opsOf Tryz.f17 6) = (true, [([], []), ([0], [0]), ([], []), ([1, 2], [1, 2]), ([3], [3]), ([], []), ([5], [5]), ([], []), ([6, 7], [6, 7]), ([8], [8]), ([], []), ([], []), ([10, 4, 0, 1, 2, 3, 4, 10, 11], [4, 10]), ([11, 9, 12, 0, 1, 2, 3, 4, 5, 6, 7, 8, 9, 10, 11, 12], [9, 11])]) := by kernel_rfl
theorem r12same_spec {B w : World} {L : List HP} (ra rb : Rcd) (hza : SzR ra) (hzb : SzR rb) (hS : St B (recA ra :: recA rb :: L) w) : Does Tryz.prog 17 [Value.agg #[Value.int .i64 ra.k, Value.slice ra.ss.a ra.ss.l.length ra.ss.cap, Value.slice ra.ms.a ra.ms.l.length ra.ms.cap, Value.int .i64 ra.fr, Value.int .i64 ra.to], Value.agg #[Value.int .i64 rb.k, Value.slice rb.ss.a rb.ss.l.length rb.ss.cap, Value.slice rb.ms.a rb.ms.l.length rb.ms.cap, Value.int .i64 rb.fr, Value.int .i64 rb.to]] w (fun v w1 => ∃ qb, v = .bool qb ∧ (qb = true ↔ ra.p = rb.p) ∧ St B (recA ra :: recA rb :: L) w1) := by
 replace hS := (recA_open ((recA_open hS).permT [4, 0, 0, 0, 0] rfl)).permT [4, 4, 4, 4, 0, 0, 0, 0] (L' := (rdH ra.ss.a ra.ss.l.length 3 (ra.ss.l.flatMap smc)) :: (rdH ra.ms.a ra.ms.l.length 3 (ra.ms.l.flatMap mtc)) :: smsA ra.ss.l :: recA ra :: (rdH rb.ss.a rb.ss.l.length 3 (rb.ss.l.flatMap smc)) :: (rdH rb.ms.a rb.ms.l.length 3 (rb.ms.l.flatMap mtc)) :: smsA rb.ss.l :: recA rb :: L) rfl
 have h1 := hza.ns
 have h2 := hza.nm2
 have h3 := hzb.ns
 have h4 := hzb.nm2
 refine enter (n := 81) Tryz.func17 rfl rfl [Value.agg #[Value.int .i64 ra.k, Value.slice ra.ss.a ra.ss.l.length ra.ss.cap, Value.slice ra.ms.a ra.ms.l.length ra.ms.cap, Value.int .i64 ra.fr, Value.int .i64 ra.to], Value.agg #[Value.int .i64 rb.k, Value.slice rb.ss.a rb.ss.l.length rb.ss.cap, Value.slice rb.ms.a rb.ms.l.length rb.ms.cap, Value.int .i64 rb.fr, Value.int .i64 rb.to]] rfl ?_
 refine WP.seq (WP.region rfl ?_)
 refine WO.box (l := (rcc ra)) hS rfl rfl rfl (fun g2 w1 lg2 hS1 => ?_)
 clear hS
 refine WO.box (l := (rcc rb)) hS1 rfl rfl rfl (fun g4 w3 lg4 hS3 => ?_)
 clear hS1
 refine WO.asg rfl rfl ?_
 refine WO.nil (NX.go (WP.seq (WP.seq (WP.region rfl ?_))))
 refine WO.V (run_fa 0 ⟨g2, 0, none⟩ rfl rfl) ?_
 refine WO.V (run_load Ty.ag3 rfl ((hS3.cel_at 1 rfl 0).trans rfl)) ?_
 refine WO.V (run_fa 0 ⟨g4, 0, none⟩ rfl rfl) ?_
 refine WO.V (run_load Ty.ag3 rfl ((hS3.cel_at 0 rfl 0).trans rfl)) ?_
 refine WO.V (run_neq rfl rfl) ?_
 refine WO.mv rfl rfl ?_
 refine dcase (p := ¬ ra.k = rb.k) (fun g13 d13 => ?_) (fun g13 d13 => ?_)
 ·
  refine WO.off rfl rfl d13 rfl ?_
  refine WO.off rfl rfl d13 rfl ?_
  refine WO.off rfl rfl d13 rfl ?_
  refine WO.off rfl rfl d13 rfl ?_
  refine WO.off rfl rfl d13 rfl ?_
  refine WO.V (run_pickT rfl d13 rfl) ?_
  refine WO.mv rfl rfl ?_
  refine WO.off rfl rfl rfl rfl ?_
  refine WO.off rfl rfl rfl rfl ?_
  refine WO.off rfl rfl rfl rfl ?_
  refine WO.off rfl rfl rfl rfl ?_
  refine WO.off rfl rfl rfl rfl ?_
  refine WO.V (run_pickT rfl rfl rfl) ?_
  refine WO.mv rfl rfl ?_
  refine WO.off rfl rfl rfl rfl ?_
  refine WO.off rfl rfl rfl rfl ?_
  refine WO.off rfl rfl rfl rfl ?_
  refine WO.off rfl rfl rfl rfl ?_
  refine WO.off rfl rfl rfl rfl ?_
  refine WO.off rfl rfl rfl rfl ?_
  refine WO.V (run_pickT rfl rfl rfl) ?_
  refine WO.mv rfl rfl ?_
  refine WO.off rfl rfl rfl rfl ?_
  refine WO.off rfl rfl rfl rfl ?_
  refine WO.off rfl rfl rfl rfl ?_
  refine WO.off rfl rfl rfl rfl ?_
  refine WO.off rfl rfl rfl rfl ?_
  refine WO.off rfl rfl rfl rfl ?_
  refine WO.off rfl rfl rfl rfl ?_
  refine WO.V (run_pickT rfl rfl rfl) ?_
  refine WO.nil (NX.go ?_)
  refine WP.condT rfl rfl ?_
  refine WP.seq (WP.region rfl ?_)
  refine WO.asg rfl rfl ?_
  refine WO.nil (NX.go (WP.ret (NX.thenRet ?_)))
  refine NX.done (l := [.tmp 4]) rfl rfl ?_
  exact ⟨false, rfl, ⟨(fun h => by cases h), (fun (e : ra.p = rb.p) => absurd (congrArg RcP.k e) g13)⟩, (hS3.mask [false, false, false, false, false, true, false, false, false] (L' := recA ra :: recA rb :: L) rfl)⟩
 ·
  refine WO.on rfl rfl d13 ?_
  refine WO.V (run_fa 3 ⟨g2, 3, none⟩ rfl rfl) ?_
  refine WO.on rfl rfl d13 ?_
  refine WO.V (run_load Ty.ag2 rfl ((hS3.cel_at 1 rfl 3).trans rfl)) ?_
  refine WO.on rfl rfl d13 ?_
  refine WO.V (run_fa 3 ⟨g4, 3, none⟩ rfl rfl) ?_
  refine WO.on rfl rfl d13 ?_
  refine WO.V (run_load Ty.ag2 rfl ((hS3.cel_at 0 rfl 3).trans rfl)) ?_
  refine WO.on rfl rfl d13 ?_
  refine WO.V (run_neq rfl rfl) ?_
  refine WO.V (run_pickF rfl d13 rfl) ?_
  refine WO.mv rfl rfl ?_
  refine dcase (p := ¬ ra.fr = rb.fr) (fun g20 d20 => ?_) (fun g20 d20 => ?_)
  ·
   refine WO.off rfl rfl d20 rfl ?_
   refine WO.off rfl rfl d20 rfl ?_
   refine WO.off rfl rfl d20 rfl ?_
   refine WO.off rfl rfl d20 rfl ?_
   refine WO.off rfl rfl d20 rfl ?_
   refine WO.V (run_pickT rfl d20 rfl) ?_
   refine WO.mv rfl rfl ?_
   refine WO.off rfl rfl rfl rfl ?_
   refine WO.off rfl rfl rfl rfl ?_
   refine WO.off rfl rfl rfl rfl ?_
   refine WO.off rfl rfl rfl rfl ?_
   refine WO.off rfl rfl rfl rfl ?_
   refine WO.off rfl rfl rfl rfl ?_
   refine WO.V (run_pickT rfl rfl rfl) ?_
   refine WO.mv rfl rfl ?_
   refine WO.off rfl rfl rfl rfl ?_
   refine WO.off rfl rfl rfl rfl ?_
   refine WO.off rfl rfl rfl rfl ?_
   refine WO.off rfl rfl rfl rfl ?_
   refine WO.off rfl rfl rfl rfl ?_
   refine WO.off rfl rfl rfl rfl ?_
   refine WO.off rfl rfl rfl rfl ?_
   refine WO.V (run_pickT rfl rfl rfl) ?_
   refine WO.nil (NX.go ?_)
   refine WP.condT rfl rfl ?_
   refine WP.seq (WP.region rfl ?_)
   refine WO.asg rfl rfl ?_
   refine WO.nil (NX.go (WP.ret (NX.thenRet ?_)))
   refine NX.done (l := [.tmp 4]) rfl rfl ?_
   exact ⟨false, rfl, ⟨(fun h => by cases h), (fun (e : ra.p = rb.p) => absurd (congrArg RcP.fr e) g20)⟩, (hS3.mask [false, false, false, false, false, true, false, false, false] (L' := recA ra :: recA rb :: L) rfl)⟩
  ·
   refine WO.on rfl rfl d20 ?_
   refine WO.V (run_fa 4 ⟨g2, 4, none⟩ rfl rfl) ?_
   refine WO.on rfl rfl d20 ?_
   refine WO.V (run_load Ty.ag2 rfl ((hS3.cel_at 1 rfl 4).trans rfl)) ?_
   refine WO.on rfl rfl d20 ?_
   refine WO.V (run_fa 4 ⟨g4, 4, none⟩ rfl rfl) ?_
   refine WO.on rfl rfl d20 ?_
   refine WO.V (run_load Ty.ag2 rfl ((hS3.cel_at 0 rfl 4).trans rfl)) ?_
   refine WO.on rfl rfl d20 ?_
   refine WO.V (run_neq rfl rfl) ?_
   refine WO.V (run_pickF rfl d20 rfl) ?_
   refine WO.mv rfl rfl ?_
   refine dcase (p := ¬ ra.to = rb.to) (fun g27 d27 => ?_) (fun g27 d27 => ?_)
   ·
    refine WO.off rfl rfl d27 rfl ?_
    refine WO.off rfl rfl d27 rfl ?_
    refine WO.off rfl rfl d27 rfl ?_
    refine WO.off rfl rfl d27 rfl ?_
    refine WO.off rfl rfl d27 rfl ?_
    refine WO.off rfl rfl d27 rfl ?_
    refine WO.V (run_pickT rfl d27 rfl) ?_
    refine WO.mv rfl rfl ?_
    refine WO.off rfl rfl rfl rfl ?_
    refine WO.off rfl rfl rfl rfl ?_
    refine WO.off rfl rfl rfl rfl ?_
    refine WO.off rfl rfl rfl rfl ?_
    refine WO.off rfl rfl rfl rfl ?_
    refine WO.off rfl rfl rfl rfl ?_
    refine WO.off rfl rfl rfl rfl ?_
    refine WO.V (run_pickT rfl rfl rfl) ?_
    refine WO.nil (NX.go ?_)
    refine WP.condT rfl rfl ?_
    refine WP.seq (WP.region rfl ?_)
    refine WO.asg rfl rfl ?_
    refine WO.nil (NX.go (WP.ret (NX.thenRet ?_)))
    refine NX.done (l := [.tmp 4]) rfl rfl ?_
    exact ⟨false, rfl, ⟨(fun h => by cases h), (fun (e : ra.p = rb.p) => absurd (congrArg RcP.to e) g27)⟩, (hS3.mask [false, false, false, false, false, true, false, false, false] (L' := recA ra :: recA rb :: L) rfl)⟩
   ·
    refine WO.on rfl rfl d27 ?_
    refine WO.V (run_fa 2 ⟨g2, 2, none⟩ rfl rfl) ?_
    refine WO.on rfl rfl d27 ?_
    refine WO.V (run_load Ty.ag25 rfl ((hS3.cel_at 1 rfl 2).trans rfl)) ?_
    refine WO.on rfl rfl d27 ?_
    refine WO.V (run_fa 2 ⟨g4, 2, none⟩ rfl rfl) ?_
    refine WO.on rfl rfl d27 ?_
    refine WO.V (run_load Ty.ag25 rfl ((hS3.cel_at 0 rfl 2).trans rfl)) ?_
    refine WO.on rfl rfl d27 ?_
    have hS5 := hS3.permT [3, 6] (L' := (rdH ra.ms.a ra.ms.l.length 3 (ra.ms.l.flatMap mtc)) :: (rdH rb.ms.a rb.ms.l.length 3 (rb.ms.l.flatMap mtc)) :: cel g4 (rcc rb) 27 :: cel g2 (rcc ra) 27 :: (rdH ra.ss.a ra.ss.l.length 3 (ra.ss.l.flatMap smc)) :: smsA ra.ss.l :: recA ra :: (rdH rb.ss.a rb.ss.l.length 3 (rb.ss.l.flatMap smc)) :: smsA rb.ss.l :: recA rb :: L) rfl
    clear hS3
    refine WO.call rfl rfl Ty.hd31 rfl (rmsame_spec rdH_rd rdH_rd h2 h4 hS5) (fun v7 w6 pv7 => ?_)
    obtain ⟨rfl, hS6⟩ := pv7
    clear hS5
    refine WO.on rfl rfl d27 ?_
    refine WO.V (run_notP rfl) ?_
    refine WO.V (run_pickF rfl d27 rfl) ?_
    refine WO.mv rfl rfl ?_
    refine dcase (p := ¬ (ra.ms.l = rb.ms.l)) (fun g35 d35 => ?_) (fun g35 d35 => ?_)
    ·
     refine WO.off rfl rfl d35 rfl ?_
     refine WO.off rfl rfl d35 rfl ?_
     refine WO.off rfl rfl d35 rfl ?_
     refine WO.off rfl rfl d35 rfl ?_
     refine WO.off rfl rfl d35 rfl ?_
     refine WO.off rfl rfl d35 rfl ?_
     refine WO.off rfl rfl d35 rfl ?_
     refine WO.V (run_pickT rfl d35 rfl) ?_
     refine WO.nil (NX.go ?_)
     refine WP.condT rfl rfl ?_
     refine WP.seq (WP.region rfl ?_)
     refine WO.asg rfl rfl ?_
     refine WO.nil (NX.go (WP.ret (NX.thenRet ?_)))
     refine NX.done (l := [.tmp 4]) rfl rfl ?_
     exact ⟨false, rfl, ⟨(fun h => by cases h), (fun (e : ra.p = rb.p) => absurd (congrArg RcP.ms e) g35)⟩, (hS6.mask [false, false, false, false, false, false, true, false, false] (L' := recA ra :: recA rb :: L) rfl)⟩
    ·
     refine WO.on rfl rfl d35 ?_
     refine WO.V (run_fa 1 ⟨g2, 1, none⟩ rfl rfl) ?_
     refine WO.on rfl rfl d35 ?_
     refine WO.V (run_load Ty.ag24 rfl ((hS6.cel_at 3 rfl 1).trans rfl)) ?_
     refine WO.on rfl rfl d35 ?_
     refine WO.V (run_len rfl Tryz.underlying24 rfl) ?_
     refine WO.on rfl rfl d35 ?_
     refine WO.V (run_fa 1 ⟨g4, 1, none⟩ rfl rfl) ?_
     refine WO.on rfl rfl d35 ?_
     refine WO.V (run_load Ty.ag24 rfl ((hS6.cel_at 2 rfl 1).trans rfl)) ?_
     refine WO.on rfl rfl d35 ?_
     refine WO.V (run_len rfl Tryz.underlying24 rfl) ?_
     refine WO.on rfl rfl d35 ?_
     refine WO.V (run_neq rfl rfl) ?_
     refine WO.V (run_pickF rfl d35 rfl) ?_
     refine WO.nil (NX.go ?_)
     refine WP.condP rfl (fun g43 => ?_) (fun g43 => ?_)
     ·
      refine WP.seq (WP.region rfl ?_)
      refine WO.asg rfl rfl ?_
      refine WO.nil (NX.go (WP.ret (NX.thenRet ?_)))
      refine NX.done (l := [.tmp 4]) rfl rfl ?_
      exact ⟨false, rfl, ⟨(fun h => by cases h), (fun (e : ra.p = rb.p) => by have h9 := congrArg List.length (congrArg RcP.ss e); simp [Rcd.p] at h9; omega)⟩, (hS6.mask [false, false, false, false, false, false, true, false, false] (L' := recA ra :: recA rb :: L) rfl)⟩
     ·
      refine WP.skip (NX.go (WP.seq (WP.seq (WP.region rfl ?_))))
      refine WO.asg rfl rfl ?_
      refine WO.nil (NX.go (WP.block ?_))
      have hS8 : St B (cel g4 (rcc rb) 27 :: cel g2 (rcc ra) 27 :: (rdH ra.ss.a ra.ss.l.length 3 (ra.ss.l.flatMap smc)) :: smsA ra.ss.l :: (rdH rb.ss.a rb.ss.l.length 3 (rb.ss.l.flatMap smc)) :: smsA rb.ss.l :: (rdH ra.ms.a ra.ms.l.length 3 (ra.ms.l.flatMap mtc)) :: (rdH rb.ms.a rb.ms.l.length 3 (rb.ms.l.flatMap mtc)) :: recA ra :: recA rb :: L) w6 := (hS6.permT [2, 2, 2, 2, 3, 3] (L' := cel g4 (rcc rb) 27 :: cel g2 (rcc ra) 27 :: (rdH ra.ss.a ra.ss.l.length 3 (ra.ss.l.flatMap smc)) :: smsA ra.ss.l :: (rdH rb.ss.a rb.ss.l.length 3 (rb.ss.l.flatMap smc)) :: smsA rb.ss.l :: (rdH ra.ms.a ra.ms.l.length 3 (ra.ms.l.flatMap mtc)) :: (rdH rb.ms.a rb.ms.l.length 3 (rb.ms.l.flatMap mtc)) :: recA ra :: recA rb :: L) rfl)
      clear hS6
      have hlen : ra.ss.l.length = rb.ss.l.length := by omega
      refine WP.loop (α := Nat) (fun x => match x with | i => [(2, Value.pointer (some ⟨g2, 0, none⟩)), (3, Value.pointer (some ⟨g4, 0, none⟩)), (5, Value.int .i64 (i : Int))]) (fun x w => match x with | i => (i ≤ ra.ss.l.length ∧ ((ra.ss.l.drop i).map Smp.p = (rb.ss.l.drop i).map Smp.p ↔ ra.ss.l.map Smp.p = rb.ss.l.map Smp.p)) ∧ St B (cel g4 (rcc rb) 27 :: cel g2 (rcc ra) 27 :: (rdH ra.ss.a ra.ss.l.length 3 (ra.ss.l.flatMap smc)) :: smsA ra.ss.l :: (rdH rb.ss.a rb.ss.l.length 3 (rb.ss.l.flatMap smc)) :: smsA rb.ss.l :: (rdH ra.ms.a ra.ms.l.length 3 (ra.ms.l.flatMap mtc)) :: (rdH rb.ms.a rb.ms.l.length 3 (rb.ms.l.flatMap mtc)) :: recA ra :: recA rb :: L) w) (fun x => match x with | i => ra.ss.l.length - i) 0 ⟨⟨Nat.zero_le _, Iff.rfl⟩, hS8⟩ (Sub.cons rfl (Sub.cons rfl (Sub.consE rfl (by first | rfl | first | rfl | (congr 1; omega) | (simp; done) | (simp; omega)) (Sub.nil _)))) ?_
      rintro i w9 ⟨⟨hi, hgo⟩, hS9⟩
      clear hS8
      refine WP.seq (WP.seq (WP.region rfl ?_))
      refine WO.mv rfl rfl ?_
      refine WO.V (run_fa 1 ⟨g2, 1, none⟩ rfl rfl) ?_
      refine WO.V (run_load Ty.ag24 rfl ((hS9.cel_at 1 rfl 1).trans rfl)) ?_
      refine WO.V (run_len rfl Tryz.underlying24 rfl) ?_
      refine WO.V (run_lss rfl rfl) ?_
      refine WO.nil (NX.go ?_)
      refine WP.condP rfl (fun g48 => ?_) (fun g48 => ?_)
      ·
       refine WP.skip (NX.go (WP.seq (WP.block (WP.seq ?_))))
       obtain ⟨p, hp⟩ : ∃ p, ra.ss.l[i]? = some p := ⟨_, List.getElem?_eq_getElem (by omega)⟩
       obtain ⟨q, hq⟩ : ∃ q, rb.ss.l[i]? = some q := ⟨_, List.getElem?_eq_getElem (by omega)⟩
       have hS10 := smsA_get hp (hS9.permT [3] (L' := smsA ra.ss.l :: cel g4 (rcc rb) 27 :: cel g2 (rcc ra) 27 :: (rdH ra.ss.a ra.ss.l.length 3 (ra.ss.l.flatMap smc)) :: (rdH rb.ss.a rb.ss.l.length 3 (rb.ss.l.flatMap smc)) :: smsA rb.ss.l :: (rdH ra.ms.a ra.ms.l.length 3 (ra.ms.l.flatMap mtc)) :: (rdH rb.ms.a rb.ms.l.length 3 (rb.ms.l.flatMap mtc)) :: recA ra :: recA rb :: L) rfl)
       clear hS9
       have hS11 := smsA_get hq (hS10.permT [6] (L' := smsA rb.ss.l :: (labA p.lb) :: smsA ra.ss.l :: cel g4 (rcc rb) 27 :: cel g2 (rcc ra) 27 :: (rdH ra.ss.a ra.ss.l.length 3 (ra.ss.l.flatMap smc)) :: (rdH rb.ss.a rb.ss.l.length 3 (rb.ss.l.flatMap smc)) :: (rdH ra.ms.a ra.ms.l.length 3 (ra.ms.l.flatMap mtc)) :: (rdH rb.ms.a rb.ms.l.length 3 (rb.ms.l.flatMap mtc)) :: recA ra :: recA rb :: L) rfl)
       clear hS10
       refine WD.start (fun w => Rd w q.lb.a q.lb.l.length 2 (q.lb.l.flatMap prc) ∧ Rd w p.lb.a p.lb.l.length 2 (p.lb.l.flatMap prc) ∧ (∀ jz, World.cell? w ⟨g4, jz, none⟩ = (rcc rb)[jz]?) ∧ (∀ jz, World.cell? w ⟨g2, jz, none⟩ = (rcc ra)[jz]?) ∧ Rd w ra.ss.a ra.ss.l.length 3 (ra.ss.l.flatMap smc) ∧ Rd w rb.ss.a rb.ss.l.length 3 (rb.ss.l.flatMap smc)) [] (bt 14 0) Ty.mo rfl (by kernel_rfl) hS11 (fun _ h => ⟨(rdH_rd (h.focus 0 rfl)), (rdH_rd (h.focus 2 rfl)), h.cel_at 4 rfl, h.cel_at 5 rfl, (rdH_rd (h.focus 6 rfl)), (rdH_rd (h.focus 7 rfl))⟩) (fun w12 hS12 s13 => ?_)
       clear hS11
       refine DP (i := 0) t17_6 (bt 14 1) rfl rfl rfl rfl (fun w => run_fa 1 ⟨g2, 1, none⟩ rfl rfl) ?_
       refine DT (i := 1) t17_6 (bt 14 3) s13 rfl rfl rfl rfl (fun w hs => run_load Ty.ag24 rfl ((hs.2.2.2.1 1).trans rfl)) ?_
       refine DP (i := 2) t17_6 (bt 14 7) rfl rfl rfl rfl (fun w => run_move rfl) ?_
       refine DT (i := 3) t17_6 (bt 14 15) s13 rfl rfl rfl rfl (fun w hs => run_indexAddr (q := adr ra.ss.a (i * 3)) Tryz.underlying24 Ty.sz47 rfl rfl (by omega) (by omega) ((hs.2.2.2.2.1).2.1 (by omega)) rfl) ?_
       refine DT (i := 4) t17_6 (bt 14 31) s13 rfl rfl rfl rfl (fun w hs => run_loadAgg (vs := (smc p)) Ty.ag47 Ty.sz47 rfl ((hs.2.2.2.2.1).cells (by rw [flat_len smc_len]; omega) (flat_part smc_len hp)).1 ((hs.2.2.2.2.1).cells (by rw [flat_len smc_len]; omega) (flat_part smc_len hp)).2) ?_
       refine DP (i := 5) t17_6 (bt 14 63) rfl rfl rfl rfl (fun w => run_fa 1 ⟨g4, 1, none⟩ rfl rfl) ?_
       refine DT (i := 6) t17_6 (bt 14 127) s13 rfl rfl rfl rfl (fun w hs => run_load Ty.ag24 rfl ((hs.2.2.1 1).trans rfl)) ?_
       refine DP (i := 7) t17_6 (bt 14 255) rfl rfl rfl rfl (fun w => run_move rfl) ?_
       refine DT (i := 8) t17_6 (bt 14 511) s13 rfl rfl rfl rfl (fun w hs => run_indexAddr (q := adr rb.ss.a (i * 3)) Tryz.underlying24 Ty.sz47 rfl rfl (by omega) (by omega) ((hs.2.2.2.2.2).2.1 (by omega)) rfl) ?_
       refine DT (i := 9) t17_6 (bt 14 1023) s13 rfl rfl rfl rfl (fun w hs => run_loadAgg (vs := (smc q)) Ty.ag47 Ty.sz47 rfl ((hs.2.2.2.2.2).cells (by rw [flat_len smc_len]; omega) (flat_part smc_len hq)).1 ((hs.2.2.2.2.2).cells (by rw [flat_len smc_len]; omega) (flat_part smc_len hq)).2) ?_
       refine WD.two (i := 10) (k := 11) t17_6 (bt 14 2047) (bt 14 3071) rfl rfl (by kernel_rfl) ?_ ?_
       ·
        refine WO.alloc (l := [Value.slice none 0 0, Value.int .i64 0, Value.int .u64 0]) hS12 Ty.zr47 rfl rfl (fun g15 w14 lg15 hS14 => ?_)
        clear hS12
        refine WO.nil ?_
        have s16 : Rd w14 q.lb.a q.lb.l.length 2 (q.lb.l.flatMap prc) ∧ Rd w14 p.lb.a p.lb.l.length 2 (p.lb.l.flatMap prc) ∧ (∀ jz, World.cell? w14 ⟨g4, jz, none⟩ = (rcc rb)[jz]?) ∧ (∀ jz, World.cell? w14 ⟨g2, jz, none⟩ = (rcc ra)[jz]?) ∧ Rd w14 ra.ss.a ra.ss.l.length 3 (ra.ss.l.flatMap smc) ∧ Rd w14 rb.ss.a rb.ss.l.length 3 (rb.ss.l.flatMap smc) := ⟨(rdH_rd (hS14.focus 1 rfl)), (rdH_rd (hS14.focus 3 rfl)), hS14.cel_at 5 rfl, hS14.cel_at 6 rfl, (rdH_rd (hS14.focus 7 rfl)), (rdH_rd (hS14.focus 8 rfl))⟩
        refine NX.held s16 ?_
        refine WD.one (i := 11) t17_6 (bt 14 4095) rfl (by kernel_rfl) ?_
        refine WO.alloc (l := [Value.slice none 0 0, Value.int .i64 0, Value.int .u64 0]) hS14 Ty.zr47 rfl rfl (fun g18 w17 lg18 hS17 => ?_)
        clear hS14
        refine WO.nil ?_
        have s19 : Rd w17 q.lb.a q.lb.l.length 2 (q.lb.l.flatMap prc) ∧ Rd w17 p.lb.a p.lb.l.length 2 (p.lb.l.flatMap prc) ∧ (∀ jz, World.cell? w17 ⟨g4, jz, none⟩ = (rcc rb)[jz]?) ∧ (∀ jz, World.cell? w17 ⟨g2, jz, none⟩ = (rcc ra)[jz]?) ∧ Rd w17 ra.ss.a ra.ss.l.length 3 (ra.ss.l.flatMap smc) ∧ Rd w17 rb.ss.a rb.ss.l.length 3 (rb.ss.l.flatMap smc) := ⟨(rdH_rd (hS17.focus 2 rfl)), (rdH_rd (hS17.focus 4 rfl)), hS17.cel_at 6 rfl, hS17.cel_at 7 rfl, (rdH_rd (hS17.focus 8 rfl)), (rdH_rd (hS17.focus 9 rfl))⟩
        refine NX.held s19 ?_
        refine WD.one (i := 12) t17_6 (bt 14 8191) rfl (by kernel_rfl) ?_
        refine WO.store (l' := (smc p)) 1 hS17 rfl Ty.sz47 rfl rfl rfl rfl rfl (Nat.le_of_ble_eq_true rfl) rfl (fun w20 (hS20 : St B (cel g18 [Value.slice none 0 0, Value.int .i64 0, Value.int .u64 0] 47 :: cel g15 (smc p) 47 :: (labA q.lb) :: smsA rb.ss.l :: (labA p.lb) :: smsA ra.ss.l :: cel g4 (rcc rb) 27 :: cel g2 (rcc ra) 27 :: (rdH ra.ss.a ra.ss.l.length 3 (ra.ss.l.flatMap smc)) :: (rdH rb.ss.a rb.ss.l.length 3 (rb.ss.l.flatMap smc)) :: (rdH ra.ms.a ra.ms.l.length 3 (ra.ms.l.flatMap mtc)) :: (rdH rb.ms.a rb.ms.l.length 3 (rb.ms.l.flatMap mtc)) :: recA ra :: recA rb :: L) w20) => ?_)
        clear hS17
        refine WO.nil ?_
        have s21 : Rd w20 q.lb.a q.lb.l.length 2 (q.lb.l.flatMap prc) ∧ Rd w20 p.lb.a p.lb.l.length 2 (p.lb.l.flatMap prc) ∧ (∀ jz, World.cell? w20 ⟨g4, jz, none⟩ = (rcc rb)[jz]?) ∧ (∀ jz, World.cell? w20 ⟨g2, jz, none⟩ = (rcc ra)[jz]?) ∧ Rd w20 ra.ss.a ra.ss.l.length 3 (ra.ss.l.flatMap smc) ∧ Rd w20 rb.ss.a rb.ss.l.length 3 (rb.ss.l.flatMap smc) := ⟨(rdH_rd (hS20.focus 2 rfl)), (rdH_rd (hS20.focus 4 rfl)), hS20.cel_at 6 rfl, hS20.cel_at 7 rfl, (rdH_rd (hS20.focus 8 rfl)), (rdH_rd (hS20.focus 9 rfl))⟩
        refine NX.held s21 ?_
        refine WD.one (i := 13) t17_6 (bt 14 16383) rfl (by kernel_rfl) ?_
        refine WO.store (l' := (smc q)) 0 hS20 rfl Ty.sz47 rfl rfl rfl rfl rfl (Nat.le_of_ble_eq_true rfl) rfl (fun w22 (hS22 : St B (cel g18 (smc q) 47 :: cel g15 (smc p) 47 :: (labA q.lb) :: smsA rb.ss.l :: (labA p.lb) :: smsA ra.ss.l :: cel g4 (rcc rb) 27 :: cel g2 (rcc ra) 27 :: (rdH ra.ss.a ra.ss.l.length 3 (ra.ss.l.flatMap smc)) :: (rdH rb.ss.a rb.ss.l.length 3 (rb.ss.l.flatMap smc)) :: (rdH ra.ms.a ra.ms.l.length 3 (ra.ms.l.flatMap mtc)) :: (rdH rb.ms.a rb.ms.l.length 3 (rb.ms.l.flatMap mtc)) :: recA ra :: recA rb :: L) w22) => ?_)
        clear hS20
        refine WO.nil ?_
        have s23 : Rd w22 q.lb.a q.lb.l.length 2 (q.lb.l.flatMap prc) ∧ Rd w22 p.lb.a p.lb.l.length 2 (p.lb.l.flatMap prc) ∧ (∀ jz, World.cell? w22 ⟨g4, jz, none⟩ = (rcc rb)[jz]?) ∧ (∀ jz, World.cell? w22 ⟨g2, jz, none⟩ = (rcc ra)[jz]?) ∧ Rd w22 ra.ss.a ra.ss.l.length 3 (ra.ss.l.flatMap smc) ∧ Rd w22 rb.ss.a rb.ss.l.length 3 (rb.ss.l.flatMap smc) := ⟨(rdH_rd (hS22.focus 2 rfl)), (rdH_rd (hS22.focus 4 rfl)), hS22.cel_at 6 rfl, hS22.cel_at 7 rfl, (rdH_rd (hS22.focus 8 rfl)), (rdH_rd (hS22.focus 9 rfl))⟩
        refine NX.held s23 ?_
        refine WD.done t17_6 (by kernel_rfl) ?_
        refine NX.go (WP.seq (WP.region rfl ?_))
        refine WO.V (run_fa 1 ⟨g15, 1, none⟩ rfl rfl) ?_
        refine WO.V (run_load Ty.ag2 rfl ((hS22.cel_at 1 rfl 1).trans rfl)) ?_
        refine WO.V (run_fa 1 ⟨g18, 1, none⟩ rfl rfl) ?_
        refine WO.V (run_load Ty.ag2 rfl ((hS22.cel_at 0 rfl 1).trans rfl)) ?_
        refine WO.V (run_neq rfl rfl) ?_
        refine WO.mv rfl rfl ?_
        refine dcase (p := ¬ p.t = q.t) (fun g66 d66 => ?_) (fun g66 d66 => ?_)
        ·
         refine WO.off rfl rfl d66 rfl ?_
         refine WO.off rfl rfl d66 rfl ?_
         refine WO.off rfl rfl d66 rfl ?_
         refine WO.off rfl rfl d66 rfl ?_
         refine WO.off rfl rfl d66 rfl ?_
         refine WO.V (run_pickT rfl d66 rfl) ?_
         refine WO.mv rfl rfl ?_
         refine WO.off rfl rfl rfl rfl ?_
         refine WO.off rfl rfl rfl rfl ?_
         refine WO.off rfl rfl rfl rfl ?_
         refine WO.off rfl rfl rfl rfl ?_
         refine WO.off rfl rfl rfl rfl ?_
         refine WO.off rfl rfl rfl rfl ?_
         refine WO.V (run_pickT rfl rfl rfl) ?_
         refine WO.nil (NX.go ?_)
         refine WP.condT rfl rfl ?_
         refine WP.seq (WP.region rfl ?_)
         refine WO.asg rfl rfl ?_
         refine WO.nil (NX.go (WP.ret (NX.blkRet (NX.thenRet (NX.thenRet (NX.blkRet (NX.thenRet ?_)))))))
         refine NX.done (l := [.tmp 4]) rfl rfl ?_
         exact ⟨false, rfl, ⟨(fun h => by cases h), (fun (e : ra.p = rb.p) => by have h9 := hgo.2 (congrArg RcP.ss e); rw [drop_cons hp, drop_cons hq] at h9; have h8 := (List.cons.inj h9).1; exact absurd (congrArg (fun z => z.2.1) h8) g66)⟩, hS22.drop.drop.drop.drop.drop.drop.drop.drop.drop.drop.drop.drop⟩
        ·
         refine WO.on rfl rfl d66 ?_
         refine WO.V (run_fa 2 ⟨g15, 2, none⟩ rfl rfl) ?_
         refine WO.on rfl rfl d66 ?_
         refine WO.V (run_load Ty.ag45 rfl ((hS22.cel_at 1 rfl 2).trans rfl)) ?_
         refine WO.on rfl rfl d66 ?_
         refine WO.V (run_fa 2 ⟨g18, 2, none⟩ rfl rfl) ?_
         refine WO.on rfl rfl d66 ?_
         refine WO.V (run_load Ty.ag45 rfl ((hS22.cel_at 0 rfl 2).trans rfl)) ?_
         refine WO.on rfl rfl d66 ?_
         refine WO.V (run_neq rfl rfl) ?_
         refine WO.V (run_pickF rfl d66 rfl) ?_
         refine WO.mv rfl rfl ?_
         refine dcase (p := ¬ p.v = q.v) (fun g73 d73 => ?_) (fun g73 d73 => ?_)
         ·
          refine WO.off rfl rfl d73 rfl ?_
          refine WO.off rfl rfl d73 rfl ?_
          refine WO.off rfl rfl d73 rfl ?_
          refine WO.off rfl rfl d73 rfl ?_
          refine WO.off rfl rfl d73 rfl ?_
          refine WO.off rfl rfl d73 rfl ?_
          refine WO.V (run_pickT rfl d73 rfl) ?_
          refine WO.nil (NX.go ?_)
          refine WP.condT rfl rfl ?_
          refine WP.seq (WP.region rfl ?_)
          refine WO.asg rfl rfl ?_
          refine WO.nil (NX.go (WP.ret (NX.blkRet (NX.thenRet (NX.thenRet (NX.blkRet (NX.thenRet ?_)))))))
          refine NX.done (l := [.tmp 4]) rfl rfl ?_
          exact ⟨false, rfl, ⟨(fun h => by cases h), (fun (e : ra.p = rb.p) => by have h9 := hgo.2 (congrArg RcP.ss e); rw [drop_cons hp, drop_cons hq] at h9; have h8 := (List.cons.inj h9).1; exact absurd (congrArg (fun z => z.2.2) h8) g73)⟩, hS22.drop.drop.drop.drop.drop.drop.drop.drop.drop.drop.drop.drop⟩
         ·
          refine WO.on rfl rfl d73 ?_
          refine WO.V (run_fa 0 ⟨g15, 0, none⟩ rfl rfl) ?_
          refine WO.on rfl rfl d73 ?_
          refine WO.V (run_load Ty.ag44 rfl ((hS22.cel_at 1 rfl 0).trans rfl)) ?_
          refine WO.on rfl rfl d73 ?_
          refine WO.V (run_fa 0 ⟨g18, 0, none⟩ rfl rfl) ?_
          refine WO.on rfl rfl d73 ?_
          refine WO.V (run_load Ty.ag44 rfl ((hS22.cel_at 0 rfl 0).trans rfl)) ?_
          refine WO.on rfl rfl d73 ?_
          have hS24 := hS22.permT [4, 2] (L' := (labA p.lb) :: (labA q.lb) :: cel g18 (smc q) 47 :: cel g15 (smc p) 47 :: smsA rb.ss.l :: smsA ra.ss.l :: cel g4 (rcc rb) 27 :: cel g2 (rcc ra) 27 :: (rdH ra.ss.a ra.ss.l.length 3 (ra.ss.l.flatMap smc)) :: (rdH rb.ss.a rb.ss.l.length 3 (rb.ss.l.flatMap smc)) :: (rdH ra.ms.a ra.ms.l.length 3 (ra.ms.l.flatMap mtc)) :: (rdH rb.ms.a rb.ms.l.length 3 (rb.ms.l.flatMap mtc)) :: recA ra :: recA rb :: L) rfl
          clear hS22
          refine WO.call rfl rfl Ty.hd15 rfl (rsame_spec rdH_rd rdH_rd (hza.s p (List.mem_of_getElem? hp)).1 (hzb.s q (List.mem_of_getElem? hq)).1 hS24) (fun v26 w25 pv26 => ?_)
          obtain ⟨rfl, hS25⟩ := pv26
          clear hS24
          refine WO.on rfl rfl d73 ?_
          refine WO.V (run_notP rfl) ?_
          refine WO.V (run_pickF rfl d73 rfl) ?_
          refine WO.nil (NX.go ?_)
          refine WP.condP rfl (fun g80 => ?_) (fun g80 => ?_)
          ·
           refine WP.seq (WP.region rfl ?_)
           refine WO.asg rfl rfl ?_
           refine WO.nil (NX.go (WP.ret (NX.blkRet (NX.thenRet (NX.thenRet (NX.blkRet (NX.thenRet ?_)))))))
           refine NX.done (l := [.tmp 4]) rfl rfl ?_
           exact ⟨false, rfl, ⟨(fun h => by cases h), (fun (e : ra.p = rb.p) => by have h9 := hgo.2 (congrArg RcP.ss e); rw [drop_cons hp, drop_cons hq] at h9; have h8 := (List.cons.inj h9).1; exact absurd (congrArg (fun z => z.1) h8) g80)⟩, hS25.drop.drop.drop.drop.drop.drop.drop.drop.drop.drop.drop.drop⟩
          ·
           refine WP.skip (NX.blk (NX.go (WP.region rfl ?_)))
           refine WO.mv rfl rfl ?_
           refine WO.V (run_add rfl rfl (IntWalk.i64_in _ (by omega))) ?_
           refine WO.asg rfl rfl ?_
           refine WO.nil ?_
           exact NX.again (i + 1) ⟨⟨by omega, by rw [drop_cons hp, drop_cons hq, List.map_cons, List.map_cons] at hgo; rw [← hgo]; have e1 : p.t = q.t := (by simpa using g66); have e2 : p.v = q.v := (by simpa using g73); have e3 : p.lb.l = q.lb.l := (by simpa using g80); simp [Smp.p, e1, e2, e3]⟩, (hS25.permT [0, 0, 0, 0, 2, 2, 2, 1, 1] (L' := (labA p.lb) :: (labA q.lb) :: cel g18 (smc q) 47 :: cel g15 (smc p) 47 :: cel g4 (rcc rb) 27 :: cel g2 (rcc ra) 27 :: (rdH ra.ss.a ra.ss.l.length 3 (ra.ss.l.flatMap smc)) :: smsA ra.ss.l :: (rdH rb.ss.a rb.ss.l.length 3 (rb.ss.l.flatMap smc)) :: smsA rb.ss.l :: (rdH ra.ms.a ra.ms.l.length 3 (ra.ms.l.flatMap mtc)) :: (rdH rb.ms.a rb.ms.l.length 3 (rb.ms.l.flatMap mtc)) :: recA ra :: recA rb :: L) rfl).drop.drop.drop.drop⟩ (by show ra.ss.l.length - (i + 1) < ra.ss.l.length - i; omega) (Sub.cons rfl (Sub.cons rfl (Sub.consE rfl (by congr 1) (Sub.nil _))))
       ·
        refine WO.alloc (l := [Value.slice none 0 0, Value.int .i64 0, Value.int .u64 0]) hS12 Ty.zr47 rfl rfl (fun g28 w27 lg28 hS27 => ?_)
        clear hS12
        refine WO.nil ?_
        have s29 : Rd w27 q.lb.a q.lb.l.length 2 (q.lb.l.flatMap prc) ∧ Rd w27 p.lb.a p.lb.l.length 2 (p.lb.l.flatMap prc) ∧ (∀ jz, World.cell? w27 ⟨g4, jz, none⟩ = (rcc rb)[jz]?) ∧ (∀ jz, World.cell? w27 ⟨g2, jz, none⟩ = (rcc ra)[jz]?) ∧ Rd w27 ra.ss.a ra.ss.l.length 3 (ra.ss.l.flatMap smc) ∧ Rd w27 rb.ss.a rb.ss.l.length 3 (rb.ss.l.flatMap smc) := ⟨(rdH_rd (hS27.focus 1 rfl)), (rdH_rd (hS27.focus 3 rfl)), hS27.cel_at 5 rfl, hS27.cel_at 6 rfl, (rdH_rd (hS27.focus 7 rfl)), (rdH_rd (hS27.focus 8 rfl))⟩
        refine NX.held s29 ?_
        refine WD.one (i := 10) t17_6 (bt 14 4095) rfl (by kernel_rfl) ?_
        refine WO.alloc (l := [Value.slice none 0 0, Value.int .i64 0, Value.int .u64 0]) hS27 Ty.zr47 rfl rfl (fun g31 w30 lg31 hS30 => ?_)
        clear hS27
        refine WO.nil ?_
        have s32 : Rd w30 q.lb.a q.lb.l.length 2 (q.lb.l.flatMap prc) ∧ Rd w30 p.lb.a p.lb.l.length 2 (p.lb.l.flatMap prc) ∧ (∀ jz, World.cell? w30 ⟨g4, jz, none⟩ = (rcc rb)[jz]?) ∧ (∀ jz, World.cell? w30 ⟨g2, jz, none⟩ = (rcc ra)[jz]?) ∧ Rd w30 ra.ss.a ra.ss.l.length 3 (ra.ss.l.flatMap smc) ∧ Rd w30 rb.ss.a rb.ss.l.length 3 (rb.ss.l.flatMap smc) := ⟨(rdH_rd (hS30.focus 2 rfl)), (rdH_rd (hS30.focus 4 rfl)), hS30.cel_at 6 rfl, hS30.cel_at 7 rfl, (rdH_rd (hS30.focus 8 rfl)), (rdH_rd (hS30.focus 9 rfl))⟩
        refine NX.held s32 ?_
        refine WD.one (i := 12) t17_6 (bt 14 8191) rfl (by kernel_rfl) ?_
        refine WO.store (l' := (smc p)) 0 hS30 rfl Ty.sz47 rfl rfl rfl rfl rfl (Nat.le_of_ble_eq_true rfl) rfl (fun w33 (hS33 : St B (cel g31 (smc p) 47 :: cel g28 [Value.slice none 0 0, Value.int .i64 0, Value.int .u64 0] 47 :: (labA q.lb) :: smsA rb.ss.l :: (labA p.lb) :: smsA ra.ss.l :: cel g4 (rcc rb) 27 :: cel g2 (rcc ra) 27 :: (rdH ra.ss.a ra.ss.l.length 3 (ra.ss.l.flatMap smc)) :: (rdH rb.ss.a rb.ss.l.length 3 (rb.ss.l.flatMap smc)) :: (rdH ra.ms.a ra.ms.l.length 3 (ra.ms.l.flatMap mtc)) :: (rdH rb.ms.a rb.ms.l.length 3 (rb.ms.l.flatMap mtc)) :: recA ra :: recA rb :: L) w33) => ?_)
        clear hS30
        refine WO.nil ?_
        have s34 : Rd w33 q.lb.a q.lb.l.length 2 (q.lb.l.flatMap prc) ∧ Rd w33 p.lb.a p.lb.l.length 2 (p.lb.l.flatMap prc) ∧ (∀ jz, World.cell? w33 ⟨g4, jz, none⟩ = (rcc rb)[jz]?) ∧ (∀ jz, World.cell? w33 ⟨g2, jz, none⟩ = (rcc ra)[jz]?) ∧ Rd w33 ra.ss.a ra.ss.l.length 3 (ra.ss.l.flatMap smc) ∧ Rd w33 rb.ss.a rb.ss.l.length 3 (rb.ss.l.flatMap smc) := ⟨(rdH_rd (hS33.focus 2 rfl)), (rdH_rd (hS33.focus 4 rfl)), hS33.cel_at 6 rfl, hS33.cel_at 7 rfl, (rdH_rd (hS33.focus 8 rfl)), (rdH_rd (hS33.focus 9 rfl))⟩
        refine NX.held s34 ?_
        refine WD.one (i := 13) t17_6 (bt 14 16383) rfl (by kernel_rfl) ?_
        refine WO.store (l' := (smc q)) 1 hS33 rfl Ty.sz47 rfl rfl rfl rfl rfl (Nat.le_of_ble_eq_true rfl) rfl (fun w35 (hS35 : St B (cel g31 (smc p) 47 :: cel g28 (smc q) 47 :: (labA q.lb) :: smsA rb.ss.l :: (labA p.lb) :: smsA ra.ss.l :: cel g4 (rcc rb) 27 :: cel g2 (rcc ra) 27 :: (rdH ra.ss.a ra.ss.l.length 3 (ra.ss.l.flatMap smc)) :: (rdH rb.ss.a rb.ss.l.length 3 (rb.ss.l.flatMap smc)) :: (rdH ra.ms.a ra.ms.l.length 3 (ra.ms.l.flatMap mtc)) :: (rdH rb.ms.a rb.ms.l.length 3 (rb.ms.l.flatMap mtc)) :: recA ra :: recA rb :: L) w35) => ?_)
        clear hS33
        refine WO.nil ?_
        have s36 : Rd w35 q.lb.a q.lb.l.length 2 (q.lb.l.flatMap prc) ∧ Rd w35 p.lb.a p.lb.l.length 2 (p.lb.l.flatMap prc) ∧ (∀ jz, World.cell? w35 ⟨g4, jz, none⟩ = (rcc rb)[jz]?) ∧ (∀ jz, World.cell? w35 ⟨g2, jz, none⟩ = (rcc ra)[jz]?) ∧ Rd w35 ra.ss.a ra.ss.l.length 3 (ra.ss.l.flatMap smc) ∧ Rd w35 rb.ss.a rb.ss.l.length 3 (rb.ss.l.flatMap smc) := ⟨(rdH_rd (hS35.focus 2 rfl)), (rdH_rd (hS35.focus 4 rfl)), hS35.cel_at 6 rfl, hS35.cel_at 7 rfl, (rdH_rd (hS35.focus 8 rfl)), (rdH_rd (hS35.focus 9 rfl))⟩
        refine NX.held s36 ?_
        refine WD.done t17_6 (by kernel_rfl) ?_
        refine NX.go (WP.seq (WP.region rfl ?_))
        refine WO.V (run_fa 1 ⟨g31, 1, none⟩ rfl rfl) ?_
        refine WO.V (run_load Ty.ag2 rfl ((hS35.cel_at 0 rfl 1).trans rfl)) ?_
        refine WO.V (run_fa 1 ⟨g28, 1, none⟩ rfl rfl) ?_
        refine WO.V (run_load Ty.ag2 rfl ((hS35.cel_at 1 rfl 1).trans rfl)) ?_
        refine WO.V (run_neq rfl rfl) ?_
        refine WO.mv rfl rfl ?_
        refine dcase (p := ¬ p.t = q.t) (fun g66 d66 => ?_) (fun g66 d66 => ?_)
        ·
         refine WO.off rfl rfl d66 rfl ?_
         refine WO.off rfl rfl d66 rfl ?_
         refine WO.off rfl rfl d66 rfl ?_
         refine WO.off rfl rfl d66 rfl ?_
         refine WO.off rfl rfl d66 rfl ?_
         refine WO.V (run_pickT rfl d66 rfl) ?_
         refine WO.mv rfl rfl ?_
         refine WO.off rfl rfl rfl rfl ?_
         refine WO.off rfl rfl rfl rfl ?_
         refine WO.off rfl rfl rfl rfl ?_
         refine WO.off rfl rfl rfl rfl ?_
         refine WO.off rfl rfl rfl rfl ?_
         refine WO.off rfl rfl rfl rfl ?_
         refine WO.V (run_pickT rfl rfl rfl) ?_
         refine WO.nil (NX.go ?_)
         refine WP.condT rfl rfl ?_
         refine WP.seq (WP.region rfl ?_)
         refine WO.asg rfl rfl ?_
         refine WO.nil (NX.go (WP.ret (NX.blkRet (NX.thenRet (NX.thenRet (NX.blkRet (NX.thenRet ?_)))))))
         refine NX.done (l := [.tmp 4]) rfl rfl ?_
         exact ⟨false, rfl, ⟨(fun h => by cases h), (fun (e : ra.p = rb.p) => by have h9 := hgo.2 (congrArg RcP.ss e); rw [drop_cons hp, drop_cons hq] at h9; have h8 := (List.cons.inj h9).1; exact absurd (congrArg (fun z => z.2.1) h8) g66)⟩, hS35.drop.drop.drop.drop.drop.drop.drop.drop.drop.drop.drop.drop⟩
        ·
         refine WO.on rfl rfl d66 ?_
         refine WO.V (run_fa 2 ⟨g31, 2, none⟩ rfl rfl) ?_
         refine WO.on rfl rfl d66 ?_
         refine WO.V (run_load Ty.ag45 rfl ((hS35.cel_at 0 rfl 2).trans rfl)) ?_
         refine WO.on rfl rfl d66 ?_
         refine WO.V (run_fa 2 ⟨g28, 2, none⟩ rfl rfl) ?_
         refine WO.on rfl rfl d66 ?_
         refine WO.V (run_load Ty.ag45 rfl ((hS35.cel_at 1 rfl 2).trans rfl)) ?_
         refine WO.on rfl rfl d66 ?_
         refine WO.V (run_neq rfl rfl) ?_
         refine WO.V (run_pickF rfl d66 rfl) ?_
         refine WO.mv rfl rfl ?_
         refine dcase (p := ¬ p.v = q.v) (fun g73 d73 => ?_) (fun g73 d73 => ?_)
         ·
          refine WO.off rfl rfl d73 rfl ?_
          refine WO.off rfl rfl d73 rfl ?_
          refine WO.off rfl rfl d73 rfl ?_
          refine WO.off rfl rfl d73 rfl ?_
          refine WO.off rfl rfl d73 rfl ?_
          refine WO.off rfl rfl d73 rfl ?_
          refine WO.V (run_pickT rfl d73 rfl) ?_
          refine WO.nil (NX.go ?_)
          refine WP.condT rfl rfl ?_
          refine WP.seq (WP.region rfl ?_)
          refine WO.asg rfl rfl ?_
          refine WO.nil (NX.go (WP.ret (NX.blkRet (NX.thenRet (NX.thenRet (NX.blkRet (NX.thenRet ?_)))))))
          refine NX.done (l := [.tmp 4]) rfl rfl ?_
          exact ⟨false, rfl, ⟨(fun h => by cases h), (fun (e : ra.p = rb.p) => by have h9 := hgo.2 (congrArg RcP.ss e); rw [drop_cons hp, drop_cons hq] at h9; have h8 := (List.cons.inj h9).1; exact absurd (congrArg (fun z => z.2.2) h8) g73)⟩, hS35.drop.drop.drop.drop.drop.drop.drop.drop.drop.drop.drop.drop⟩
         ·
          refine WO.on rfl rfl d73 ?_
          refine WO.V (run_fa 0 ⟨g31, 0, none⟩ rfl rfl) ?_
          refine WO.on rfl rfl d73 ?_
          refine WO.V (run_load Ty.ag44 rfl ((hS35.cel_at 0 rfl 0).trans rfl)) ?_
          refine WO.on rfl rfl d73 ?_
          refine WO.V (run_fa 0 ⟨g28, 0, none⟩ rfl rfl) ?_
          refine WO.on rfl rfl d73 ?_
          refine WO.V (run_load Ty.ag44 rfl ((hS35.cel_at 1 rfl 0).trans rfl)) ?_
          refine WO.on rfl rfl d73 ?_
          have hS37 := hS35.permT [4, 2] (L' := (labA p.lb) :: (labA q.lb) :: cel g31 (smc p) 47 :: cel g28 (smc q) 47 :: smsA rb.ss.l :: smsA ra.ss.l :: cel g4 (rcc rb) 27 :: cel g2 (rcc ra) 27 :: (rdH ra.ss.a ra.ss.l.length 3 (ra.ss.l.flatMap smc)) :: (rdH rb.ss.a rb.ss.l.length 3 (rb.ss.l.flatMap smc)) :: (rdH ra.ms.a ra.ms.l.length 3 (ra.ms.l.flatMap mtc)) :: (rdH rb.ms.a rb.ms.l.length 3 (rb.ms.l.flatMap mtc)) :: recA ra :: recA rb :: L) rfl
          clear hS35
          refine WO.call rfl rfl Ty.hd15 rfl (rsame_spec rdH_rd rdH_rd (hza.s p (List.mem_of_getElem? hp)).1 (hzb.s q (List.mem_of_getElem? hq)).1 hS37) (fun v39 w38 pv39 => ?_)
          obtain ⟨rfl, hS38⟩ := pv39
          clear hS37
          refine WO.on rfl rfl d73 ?_
          refine WO.V (run_notP rfl) ?_
          refine WO.V (run_pickF rfl d73 rfl) ?_
          refine WO.nil (NX.go ?_)
          refine WP.condP rfl (fun g80 => ?_) (fun g80 => ?_)
          ·
           refine WP.seq (WP.region rfl ?_)
           refine WO.asg rfl rfl ?_
           refine WO.nil (NX.go (WP.ret (NX.blkRet (NX.thenRet (NX.thenRet (NX.blkRet (NX.thenRet ?_)))))))
           refine NX.done (l := [.tmp 4]) rfl rfl ?_
           exact ⟨false, rfl, ⟨(fun h => by cases h), (fun (e : ra.p = rb.p) => by have h9 := hgo.2 (congrArg RcP.ss e); rw [drop_cons hp, drop_cons hq] at h9; have h8 := (List.cons.inj h9).1; exact absurd (congrArg (fun z => z.1) h8) g80)⟩, hS38.drop.drop.drop.drop.drop.drop.drop.drop.drop.drop.drop.drop⟩
          ·
           refine WP.skip (NX.blk (NX.go (WP.region rfl ?_)))
           refine WO.mv rfl rfl ?_
           refine WO.V (run_add rfl rfl (IntWalk.i64_in _ (by omega))) ?_
           refine WO.asg rfl rfl ?_
           refine WO.nil ?_
           exact NX.again (i + 1) ⟨⟨by omega, by rw [drop_cons hp, drop_cons hq, List.map_cons, List.map_cons] at hgo; rw [← hgo]; have e1 : p.t = q.t := (by simpa using g66); have e2 : p.v = q.v := (by simpa using g73); have e3 : p.lb.l = q.lb.l := (by simpa using g80); simp [Smp.p, e1, e2, e3]⟩, (hS38.permT [0, 0, 0, 0, 2, 2, 2, 1, 1] (L' := (labA p.lb) :: (labA q.lb) :: cel g31 (smc p) 47 :: cel g28 (smc q) 47 :: cel g4 (rcc rb) 27 :: cel g2 (rcc ra) 27 :: (rdH ra.ss.a ra.ss.l.length 3 (ra.ss.l.flatMap smc)) :: smsA ra.ss.l :: (rdH rb.ss.a rb.ss.l.length 3 (rb.ss.l.flatMap smc)) :: smsA rb.ss.l :: (rdH ra.ms.a ra.ms.l.length 3 (ra.ms.l.flatMap mtc)) :: (rdH rb.ms.a rb.ms.l.length 3 (rb.ms.l.flatMap mtc)) :: recA ra :: recA rb :: L) rfl).drop.drop.drop.drop⟩ (by show ra.ss.l.length - (i + 1) < ra.ss.l.length - i; omega) (Sub.cons rfl (Sub.cons rfl (Sub.consE rfl (by congr 1) (Sub.nil _))))
      ·
       refine WP.exit (NX.thenExit (NX.thenExit ?_))
       refine NX.blkExit ?_
       refine NX.go (WP.seq (WP.region rfl ?_))
       refine WO.asg rfl rfl ?_
       refine WO.nil (NX.go (WP.ret ?_))
       refine NX.done (l := [.tmp 4]) rfl rfl ?_
       have hss := hgo.1 (by rw [List.drop_of_length_le (by omega), List.drop_of_length_le (by omega)])
       exact ⟨true, rfl, ⟨fun _ => by show RcP.mk _ _ _ _ _ = RcP.mk _ _ _ _ _; rw [show ra.k = rb.k by simpa using g13, show ra.fr = rb.fr by simpa using g20, show ra.to = rb.to by simpa using g27, show ra.ms.l = rb.ms.l by simpa using g35, hss], fun _ => rfl⟩, hS9.drop.drop.drop.drop.drop.drop.drop.drop⟩
end Go.Proofs.YtegcibphlpanfaaGreatDoor.SL

/- Blocks, compared. -/
namespace Go.Proofs.YtegcibphlpanfaaGreatDoor.SL
open Go.RowKit Go.Proofs.YtegcibphlpanfaaGreatDoor
open Go.Proofs.YtegcibphlpanfaaGreatDoorW.PrintLast (rtab opsOf)
set_option linter.unusedVariables false
set_option linter.unusedSimpArgs false

structure SzS (b : BlkV) : Prop where
  nr : b.rs.l.length ≤ 2513169434916
  nd : b.ds.l.length ≤ 1954687338268
  r : ∀ r ∈ b.rs.l, r.lb.l.length ≤ 4398046511104 ∧ r.pt.l.length ≤ 4398046511104
  d : ∀ d ∈ b.ds.l, SzR d
theorem t8_6 : rtab .any (opsOf Tryz.f8 6) = (true, [([], []), ([0], [0]), ([], []), ([1, 2], [1, 2]), ([3], [3]), ([], []), ([5], [5]), ([], []), ([6, 7], [6, 7]), ([8], [8]), ([], []), ([], []), ([10, 4, 0, 1, 2, 3, 4, 10, 11], [4, 10]), ([11, 9, 12, 0, 1, 2, 3, 4, 5, 6, 7, 8, 9, 10, 11, 12], [9, 11])]) := by kernel_rfl
theorem t8_12 : rtab .any (opsOf Tryz.f8 12) = (true, [([], []), ([0], [0]), ([], []), ([1, 2], [1, 2]), ([3], [3]), ([], []), ([5], [5]), ([], []), ([6, 7], [6, 7]), ([8], [8]), ([4, 9], [4, 9]), ([10], [10])]) := by kernel_rfl
set_option maxHeartbeats 400000 in
theorem r15same_spec {B w : World} {L : List HP} (ba bb : BlkV) (hza : SzS ba) (hzb : SzS bb) (hS : St B (blA ba :: blA bb :: L) w) : Does Tryz.prog 8 [Value.agg #[Value.int .i64 ba.first, Value.int .i64 ba.to, Value.slice ba.rs.a ba.rs.l.length ba.rs.cap, Value.slice ba.ds.a ba.ds.l.length ba.ds.cap], Value.agg #[Value.int .i64 bb.first, Value.int .i64 bb.to, Value.slice bb.rs.a bb.rs.l.length bb.rs.cap, Value.slice bb.ds.a bb.ds.l.length bb.ds.cap]] w (fun v w1 => ∃ qb, v = .bool qb ∧ (qb = true ↔ ba.p = bb.p) ∧ St B (blA ba :: blA bb :: L) w1) := by
 replace hS := (blA_open ((blA_open hS).permT [5, 0, 0, 0, 0, 0] rfl)).permT [5, 5, 5, 5, 5, 0, 0, 0, 0, 0] (L' := (rsA ba.rs) :: allA mrA ba.rs.l :: (dsA ba.ds) :: allA recA ba.ds.l :: blA ba :: (rsA bb.rs) :: allA mrA bb.rs.l :: (dsA bb.ds) :: allA recA bb.ds.l :: blA bb :: L) rfl
 have h1 := hza.nr
 have h2 := hza.nd
 have h3 := hzb.nr
 have h4 := hzb.nd
 refine enter (n := 96) Tryz.func8 rfl rfl [Value.agg #[Value.int .i64 ba.first, Value.int .i64 ba.to, Value.slice ba.rs.a ba.rs.l.length ba.rs.cap, Value.slice ba.ds.a ba.ds.l.length ba.ds.cap], Value.agg #[Value.int .i64 bb.first, Value.int .i64 bb.to, Value.slice bb.rs.a bb.rs.l.length bb.rs.cap, Value.slice bb.ds.a bb.ds.l.length bb.ds.cap]] rfl ?_
 refine WP.seq (WP.region rfl ?_)
 refine WO.box (l := (blc ba)) hS rfl rfl rfl (fun g2 w1 lg2 hS1 => ?_)
 clear hS
 refine WO.box (l := (blc bb)) hS1 rfl rfl rfl (fun g4 w3 lg4 hS3 => ?_)
 clear hS1
 refine WO.asg rfl rfl ?_
 refine WO.nil (NX.go (WP.seq (WP.seq (WP.region rfl ?_))))
 refine WO.V (run_fa 0 ⟨g2, 0, none⟩ rfl rfl) ?_
 refine WO.V (run_load Ty.ag3 rfl ((hS3.cel_at 1 rfl 0).trans rfl)) ?_
 refine WO.V (run_fa 0 ⟨g4, 0, none⟩ rfl rfl) ?_
 refine WO.V (run_load Ty.ag3 rfl ((hS3.cel_at 0 rfl 0).trans rfl)) ?_
 refine WO.V (run_neq rfl rfl) ?_
 refine WO.mv rfl rfl ?_
 refine dcase (p := ¬ ba.first = bb.first) (fun g14 d14 => ?_) (fun g14 d14 => ?_)
 ·
  refine WO.off rfl rfl d14 rfl ?_
  refine WO.off rfl rfl d14 rfl ?_
  refine WO.off rfl rfl d14 rfl ?_
  refine WO.off rfl rfl d14 rfl ?_
  refine WO.off rfl rfl d14 rfl ?_
  refine WO.V (run_pickT rfl d14 rfl) ?_
  refine WO.mv rfl rfl ?_
  refine WO.off rfl rfl rfl rfl ?_
  refine WO.off rfl rfl rfl rfl ?_
  refine WO.off rfl rfl rfl rfl ?_
  refine WO.off rfl rfl rfl rfl ?_
  refine WO.off rfl rfl rfl rfl ?_
  refine WO.off rfl rfl rfl rfl ?_
  refine WO.off rfl rfl rfl rfl ?_
  refine WO.V (run_pickT rfl rfl rfl) ?_
  refine WO.mv rfl rfl ?_
  refine WO.off rfl rfl rfl rfl ?_
  refine WO.off rfl rfl rfl rfl ?_
  refine WO.off rfl rfl rfl rfl ?_
  refine WO.off rfl rfl rfl rfl ?_
  refine WO.off rfl rfl rfl rfl ?_
  refine WO.off rfl rfl rfl rfl ?_
  refine WO.off rfl rfl rfl rfl ?_
  refine WO.V (run_pickT rfl rfl rfl) ?_
  refine WO.nil (NX.go ?_)
  refine WP.condT rfl rfl ?_
  refine WP.seq (WP.region rfl ?_)
  refine WO.asg rfl rfl ?_
  refine WO.nil (NX.go (WP.ret (NX.thenRet ?_)))
  refine NX.done (l := [.tmp 4]) rfl rfl ?_
  exact ⟨false, rfl, ⟨(fun h => by cases h), (fun (e : ba.p = bb.p) => by exact absurd (congrArg BlkP.first e) g14)⟩, (hS3.mask [false, false, false, false, false, false, true, false, false, false, false] (L' := blA ba :: blA bb :: L) rfl)⟩
 ·
  refine WO.on rfl rfl d14 ?_
  refine WO.V (run_fa 1 ⟨g2, 1, none⟩ rfl rfl) ?_
  refine WO.on rfl rfl d14 ?_
  refine WO.V (run_load Ty.ag3 rfl ((hS3.cel_at 1 rfl 1).trans rfl)) ?_
  refine WO.on rfl rfl d14 ?_
  refine WO.V (run_fa 1 ⟨g4, 1, none⟩ rfl rfl) ?_
  refine WO.on rfl rfl d14 ?_
  refine WO.V (run_load Ty.ag3 rfl ((hS3.cel_at 0 rfl 1).trans rfl)) ?_
  refine WO.on rfl rfl d14 ?_
  refine WO.V (run_neq rfl rfl) ?_
  refine WO.V (run_pickF rfl d14 rfl) ?_
  refine WO.mv rfl rfl ?_
  refine dcase (p := ¬ ba.to = bb.to) (fun g21 d21 => ?_) (fun g21 d21 => ?_)
  ·
   refine WO.off rfl rfl d21 rfl ?_
   refine WO.off rfl rfl d21 rfl ?_
   refine WO.off rfl rfl d21 rfl ?_
   refine WO.off rfl rfl d21 rfl ?_
   refine WO.off rfl rfl d21 rfl ?_
   refine WO.off rfl rfl d21 rfl ?_
   refine WO.off rfl rfl d21 rfl ?_
   refine WO.V (run_pickT rfl d21 rfl) ?_
   refine WO.mv rfl rfl ?_
   refine WO.off rfl rfl rfl rfl ?_
   refine WO.off rfl rfl rfl rfl ?_
   refine WO.off rfl rfl rfl rfl ?_
   refine WO.off rfl rfl rfl rfl ?_
   refine WO.off rfl rfl rfl rfl ?_
   refine WO.off rfl rfl rfl rfl ?_
   refine WO.off rfl rfl rfl rfl ?_
   refine WO.V (run_pickT rfl rfl rfl) ?_
   refine WO.nil (NX.go ?_)
   refine WP.condT rfl rfl ?_
   refine WP.seq (WP.region rfl ?_)
   refine WO.asg rfl rfl ?_
   refine WO.nil (NX.go (WP.ret (NX.thenRet ?_)))
   refine NX.done (l := [.tmp 4]) rfl rfl ?_
   exact ⟨false, rfl, ⟨(fun h => by cases h), (fun (e : ba.p = bb.p) => by exact absurd (congrArg BlkP.to e) g21)⟩, (hS3.mask [false, false, false, false, false, false, true, false, false, false, false] (L' := blA ba :: blA bb :: L) rfl)⟩
  ·
   refine WO.on rfl rfl d21 ?_
   refine WO.V (run_fa 2 ⟨g2, 2, none⟩ rfl rfl) ?_
   refine WO.on rfl rfl d21 ?_
   refine WO.V (run_load Ty.ag35 rfl ((hS3.cel_at 1 rfl 2).trans rfl)) ?_
   refine WO.on rfl rfl d21 ?_
   refine WO.V (run_len rfl Tryz.underlying35 rfl) ?_
   refine WO.on rfl rfl d21 ?_
   refine WO.V (run_fa 2 ⟨g4, 2, none⟩ rfl rfl) ?_
   refine WO.on rfl rfl d21 ?_
   refine WO.V (run_load Ty.ag35 rfl ((hS3.cel_at 0 rfl 2).trans rfl)) ?_
   refine WO.on rfl rfl d21 ?_
   refine WO.V (run_len rfl Tryz.underlying35 rfl) ?_
   refine WO.on rfl rfl d21 ?_
   refine WO.V (run_neq rfl rfl) ?_
   refine WO.V (run_pickF rfl d21 rfl) ?_
   refine WO.mv rfl rfl ?_
   refine dcase (p := ¬ ((ba.rs.l.length : Nat) : Int) = ((bb.rs.l.length : Nat) : Int)) (fun g30 d30 => ?_) (fun g30 d30 => ?_)
   ·
    refine WO.off rfl rfl d30 rfl ?_
    refine WO.off rfl rfl d30 rfl ?_
    refine WO.off rfl rfl d30 rfl ?_
    refine WO.off rfl rfl d30 rfl ?_
    refine WO.off rfl rfl d30 rfl ?_
    refine WO.off rfl rfl d30 rfl ?_
    refine WO.off rfl rfl d30 rfl ?_
    refine WO.V (run_pickT rfl d30 rfl) ?_
    refine WO.nil (NX.go ?_)
    refine WP.condT rfl rfl ?_
    refine WP.seq (WP.region rfl ?_)
    refine WO.asg rfl rfl ?_
    refine WO.nil (NX.go (WP.ret (NX.thenRet ?_)))
    refine NX.done (l := [.tmp 4]) rfl rfl ?_
    exact ⟨false, rfl, ⟨(fun h => by cases h), (fun (e : ba.p = bb.p) => by have h9 := congrArg List.length (congrArg BlkP.rows e); simp [BlkV.p] at h9; omega)⟩, (hS3.mask [false, false, false, false, false, false, true, false, false, false, false] (L' := blA ba :: blA bb :: L) rfl)⟩
   ·
    refine WO.on rfl rfl d30 ?_
    refine WO.V (run_fa 3 ⟨g2, 3, none⟩ rfl rfl) ?_
    refine WO.on rfl rfl d30 ?_
    refine WO.V (run_load Ty.ag22 rfl ((hS3.cel_at 1 rfl 3).trans rfl)) ?_
    refine WO.on rfl rfl d30 ?_
    refine WO.V (run_len rfl Tryz.underlying22 rfl) ?_
    refine WO.on rfl rfl d30 ?_
    refine WO.V (run_fa 3 ⟨g4, 3, none⟩ rfl rfl) ?_
    refine WO.on rfl rfl d30 ?_
    refine WO.V (run_load Ty.ag22 rfl ((hS3.cel_at 0 rfl 3).trans rfl)) ?_
    refine WO.on rfl rfl d30 ?_
    refine WO.V (run_len rfl Tryz.underlying22 rfl) ?_
    refine WO.on rfl rfl d30 ?_
    refine WO.V (run_neq rfl rfl) ?_
    refine WO.V (run_pickF rfl d30 rfl) ?_
    refine WO.nil (NX.go ?_)
    refine WP.condP rfl (fun g38 => ?_) (fun g38 => ?_)
    ·
     refine WP.seq (WP.region rfl ?_)
     refine WO.asg rfl rfl ?_
     refine WO.nil (NX.go (WP.ret (NX.thenRet ?_)))
     refine NX.done (l := [.tmp 4]) rfl rfl ?_
     exact ⟨false, rfl, ⟨(fun h => by cases h), (fun (e : ba.p = bb.p) => by have h9 := congrArg List.length (congrArg BlkP.dels e); simp [BlkV.p] at h9; omega)⟩, (hS3.mask [false, false, false, false, false, false, true, false, false, false, false] (L' := blA ba :: blA bb :: L) rfl)⟩
    ·
     refine WP.skip (NX.go (WP.seq (WP.seq (WP.region rfl ?_))))
     refine WO.asg rfl rfl ?_
     refine WO.nil (NX.go (WP.block ?_))
     have hln : ba.rs.l.length = bb.rs.l.length := by omega
     have hld : ba.ds.l.length = bb.ds.l.length := by omega
     have hS5 : St B (cel g4 (blc bb) 37 :: cel g2 (blc ba) 37 :: (rsA ba.rs) :: allA mrA ba.rs.l :: (rsA bb.rs) :: allA mrA bb.rs.l :: (dsA ba.ds) :: allA recA ba.ds.l :: blA ba :: (dsA bb.ds) :: allA recA bb.ds.l :: blA bb :: L) w3 := (hS3.permT [0, 0, 0, 0, 3, 3] (L' := cel g4 (blc bb) 37 :: cel g2 (blc ba) 37 :: (rsA ba.rs) :: allA mrA ba.rs.l :: (rsA bb.rs) :: allA mrA bb.rs.l :: (dsA ba.ds) :: allA recA ba.ds.l :: blA ba :: (dsA bb.ds) :: allA recA bb.ds.l :: blA bb :: L) rfl)
     clear hS3
     refine WP.loop (α := Nat) (fun x => match x with | i => [(2, Value.pointer (some ⟨g2, 0, none⟩)), (3, Value.pointer (some ⟨g4, 0, none⟩)), (5, Value.int .i64 (i : Int))]) (fun x w => match x with | i => (i ≤ ba.rs.l.length ∧ ((ba.rs.l.drop i).map MRow.p = (bb.rs.l.drop i).map MRow.p ↔ ba.rs.l.map MRow.p = bb.rs.l.map MRow.p)) ∧ St B (cel g2 (blc ba) 37 :: cel g4 (blc bb) 37 :: (rsA ba.rs) :: allA mrA ba.rs.l :: (rsA bb.rs) :: allA mrA bb.rs.l :: (dsA ba.ds) :: allA recA ba.ds.l :: blA ba :: (dsA bb.ds) :: allA recA bb.ds.l :: blA bb :: L) w) (fun x => match x with | i => ba.rs.l.length - i) 0 ⟨⟨Nat.zero_le _, Iff.rfl⟩, (hS5.permT [1] (L' := cel g2 (blc ba) 37 :: cel g4 (blc bb) 37 :: (rsA ba.rs) :: allA mrA ba.rs.l :: (rsA bb.rs) :: allA mrA bb.rs.l :: (dsA ba.ds) :: allA recA ba.ds.l :: blA ba :: (dsA bb.ds) :: allA recA bb.ds.l :: blA bb :: L) rfl)⟩ (Sub.cons rfl (Sub.cons rfl (Sub.consE rfl (by first | rfl | first | rfl | (congr 1; omega) | (simp; done) | (simp; omega)) (Sub.nil _)))) ?_
     rintro i w6 ⟨⟨hi, hgo⟩, hS6⟩
     clear hS5
     refine WP.seq (WP.seq (WP.region rfl ?_))
     refine WO.mv rfl rfl ?_
     refine WO.V (run_fa 2 ⟨g2, 2, none⟩ rfl rfl) ?_
     refine WO.V (run_load Ty.ag35 rfl ((hS6.cel_at 0 rfl 2).trans rfl)) ?_
     refine WO.V (run_len rfl Tryz.underlying35 rfl) ?_
     refine WO.V (run_lss rfl rfl) ?_
     refine WO.nil (NX.go ?_)
     refine WP.condP rfl (fun g43 => ?_) (fun g43 => ?_)
     ·
      refine WP.skip (NX.go (WP.seq (WP.block (WP.seq ?_))))
      obtain ⟨p, hp⟩ : ∃ qq, ba.rs.l[i]? = some qq := ⟨_, List.getElem?_eq_getElem (by omega)⟩
      obtain ⟨q, hq⟩ : ∃ qq, bb.rs.l[i]? = some qq := ⟨_, List.getElem?_eq_getElem (by omega)⟩
      have hS7 := mrA_get (List.mem_of_getElem? hp) (hS6.permT [3] (L' := allA mrA ba.rs.l :: cel g2 (blc ba) 37 :: cel g4 (blc bb) 37 :: (rsA ba.rs) :: (rsA bb.rs) :: allA mrA bb.rs.l :: (dsA ba.ds) :: allA recA ba.ds.l :: blA ba :: (dsA bb.ds) :: allA recA bb.ds.l :: blA bb :: L) rfl)
      clear hS6
      have hS8 := mrA_get (List.mem_of_getElem? hq) (hS7.permT [7] (L' := allA mrA bb.rs.l :: (labA p.lb) :: (ptsA p.pt) :: allA mrA ba.rs.l :: cel g2 (blc ba) 37 :: cel g4 (blc bb) 37 :: (rsA ba.rs) :: (rsA bb.rs) :: (dsA ba.ds) :: allA recA ba.ds.l :: blA ba :: (dsA bb.ds) :: allA recA bb.ds.l :: blA bb :: L) rfl)
      clear hS7
      refine WD.start (fun w => Rd w q.lb.a q.lb.l.length 2 (q.lb.l.flatMap prc) ∧ Rd w q.pt.a q.pt.l.length 2 (q.pt.l.flatMap ptc) ∧ Rd w p.lb.a p.lb.l.length 2 (p.lb.l.flatMap prc) ∧ Rd w p.pt.a p.pt.l.length 2 (p.pt.l.flatMap ptc) ∧ (∀ jz, World.cell? w ⟨g2, jz, none⟩ = (blc ba)[jz]?) ∧ (∀ jz, World.cell? w ⟨g4, jz, none⟩ = (blc bb)[jz]?) ∧ Rd w ba.rs.a ba.rs.l.length 3 (ba.rs.l.flatMap mrc) ∧ Rd w bb.rs.a bb.rs.l.length 3 (bb.rs.l.flatMap mrc)) [] (bt 14 0) Ty.mo rfl (by kernel_rfl) hS8 (fun _ h => ⟨(rdH_rd (h.focus 0 rfl)), (rdH_rd (h.focus 1 rfl)), (rdH_rd (h.focus 3 rfl)), (rdH_rd (h.focus 4 rfl)), h.cel_at 6 rfl, h.cel_at 7 rfl, (rdH_rd (h.focus 8 rfl)), (rdH_rd (h.focus 9 rfl))⟩) (fun w9 hS9 s10 => ?_)
      clear hS8
      refine DP (i := 0) t8_6 (bt 14 1) rfl rfl rfl rfl (fun w => run_fa 2 ⟨g2, 2, none⟩ rfl rfl) ?_
      refine DT (i := 1) t8_6 (bt 14 3) s10 rfl rfl rfl rfl (fun w hs => run_load Ty.ag35 rfl ((hs.2.2.2.2.1 2).trans rfl)) ?_
      refine DP (i := 2) t8_6 (bt 14 7) rfl rfl rfl rfl (fun w => run_move rfl) ?_
      refine DT (i := 3) t8_6 (bt 14 15) s10 rfl rfl rfl rfl (fun w hs => run_indexAddr (q := adr ba.rs.a (i * 3)) Tryz.underlying35 Ty.sz60 rfl rfl (by omega) (by omega) ((hs.2.2.2.2.2.2.1).2.1 (by omega)) rfl) ?_
      refine DT (i := 4) t8_6 (bt 14 31) s10 rfl rfl rfl rfl (fun w hs => run_loadAgg (vs := (mrc p)) Ty.ag60 Ty.sz60 rfl ((hs.2.2.2.2.2.2.1).cells (by rw [flat_len mrc_len]; omega) (flat_part mrc_len hp)).1 ((hs.2.2.2.2.2.2.1).cells (by rw [flat_len mrc_len]; omega) (flat_part mrc_len hp)).2) ?_
      refine DP (i := 5) t8_6 (bt 14 63) rfl rfl rfl rfl (fun w => run_fa 2 ⟨g4, 2, none⟩ rfl rfl) ?_
      refine DT (i := 6) t8_6 (bt 14 127) s10 rfl rfl rfl rfl (fun w hs => run_load Ty.ag35 rfl ((hs.2.2.2.2.2.1 2).trans rfl)) ?_
      refine DP (i := 7) t8_6 (bt 14 255) rfl rfl rfl rfl (fun w => run_move rfl) ?_
      refine DT (i := 8) t8_6 (bt 14 511) s10 rfl rfl rfl rfl (fun w hs => run_indexAddr (q := adr bb.rs.a (i * 3)) Tryz.underlying35 Ty.sz60 rfl rfl (by omega) (by omega) ((hs.2.2.2.2.2.2.2).2.1 (by omega)) rfl) ?_
      refine DT (i := 9) t8_6 (bt 14 1023) s10 rfl rfl rfl rfl (fun w hs => run_loadAgg (vs := (mrc q)) Ty.ag60 Ty.sz60 rfl ((hs.2.2.2.2.2.2.2).cells (by rw [flat_len mrc_len]; omega) (flat_part mrc_len hq)).1 ((hs.2.2.2.2.2.2.2).cells (by rw [flat_len mrc_len]; omega) (flat_part mrc_len hq)).2) ?_
      refine WD.two (i := 10) (k := 11) t8_6 (bt 14 2047) (bt 14 3071) rfl rfl (by kernel_rfl) ?_ ?_
      ·
       refine WO.alloc (l := [Value.slice none 0 0, Value.int .i64 0, Value.slice none 0 0]) hS9 Ty.zr60 rfl rfl (fun g12 w11 lg12 hS11 => ?_)
       clear hS9
       refine WO.nil ?_
       have s13 : Rd w11 q.lb.a q.lb.l.length 2 (q.lb.l.flatMap prc) ∧ Rd w11 q.pt.a q.pt.l.length 2 (q.pt.l.flatMap ptc) ∧ Rd w11 p.lb.a p.lb.l.length 2 (p.lb.l.flatMap prc) ∧ Rd w11 p.pt.a p.pt.l.length 2 (p.pt.l.flatMap ptc) ∧ (∀ jz, World.cell? w11 ⟨g2, jz, none⟩ = (blc ba)[jz]?) ∧ (∀ jz, World.cell? w11 ⟨g4, jz, none⟩ = (blc bb)[jz]?) ∧ Rd w11 ba.rs.a ba.rs.l.length 3 (ba.rs.l.flatMap mrc) ∧ Rd w11 bb.rs.a bb.rs.l.length 3 (bb.rs.l.flatMap mrc) := ⟨(rdH_rd (hS11.focus 1 rfl)), (rdH_rd (hS11.focus 2 rfl)), (rdH_rd (hS11.focus 4 rfl)), (rdH_rd (hS11.focus 5 rfl)), hS11.cel_at 7 rfl, hS11.cel_at 8 rfl, (rdH_rd (hS11.focus 9 rfl)), (rdH_rd (hS11.focus 10 rfl))⟩
       refine NX.held s13 ?_
       refine WD.one (i := 11) t8_6 (bt 14 4095) rfl (by kernel_rfl) ?_
       refine WO.alloc (l := [Value.slice none 0 0, Value.int .i64 0, Value.slice none 0 0]) hS11 Ty.zr60 rfl rfl (fun g15 w14 lg15 hS14 => ?_)
       clear hS11
       refine WO.nil ?_
       have s16 : Rd w14 q.lb.a q.lb.l.length 2 (q.lb.l.flatMap prc) ∧ Rd w14 q.pt.a q.pt.l.length 2 (q.pt.l.flatMap ptc) ∧ Rd w14 p.lb.a p.lb.l.length 2 (p.lb.l.flatMap prc) ∧ Rd w14 p.pt.a p.pt.l.length 2 (p.pt.l.flatMap ptc) ∧ (∀ jz, World.cell? w14 ⟨g2, jz, none⟩ = (blc ba)[jz]?) ∧ (∀ jz, World.cell? w14 ⟨g4, jz, none⟩ = (blc bb)[jz]?) ∧ Rd w14 ba.rs.a ba.rs.l.length 3 (ba.rs.l.flatMap mrc) ∧ Rd w14 bb.rs.a bb.rs.l.length 3 (bb.rs.l.flatMap mrc) := ⟨(rdH_rd (hS14.focus 2 rfl)), (rdH_rd (hS14.focus 3 rfl)), (rdH_rd (hS14.focus 5 rfl)), (rdH_rd (hS14.focus 6 rfl)), hS14.cel_at 8 rfl, hS14.cel_at 9 rfl, (rdH_rd (hS14.focus 10 rfl)), (rdH_rd (hS14.focus 11 rfl))⟩
       refine NX.held s16 ?_
       refine WD.one (i := 12) t8_6 (bt 14 8191) rfl (by kernel_rfl) ?_
       refine WO.store (l' := (mrc p)) 1 hS14 rfl Ty.sz60 rfl rfl rfl rfl rfl (Nat.le_of_ble_eq_true rfl) rfl (fun w17 (hS17 : St B (cel g15 [Value.slice none 0 0, Value.int .i64 0, Value.slice none 0 0] 60 :: cel g12 (mrc p) 60 :: (labA q.lb) :: (ptsA q.pt) :: allA mrA bb.rs.l :: (labA p.lb) :: (ptsA p.pt) :: allA mrA ba.rs.l :: cel g2 (blc ba) 37 :: cel g4 (blc bb) 37 :: (rsA ba.rs) :: (rsA bb.rs) :: (dsA ba.ds) :: allA recA ba.ds.l :: blA ba :: (dsA bb.ds) :: allA recA bb.ds.l :: blA bb :: L) w17) => ?_)
       clear hS14
       refine WO.nil ?_
       have s18 : Rd w17 q.lb.a q.lb.l.length 2 (q.lb.l.flatMap prc) ∧ Rd w17 q.pt.a q.pt.l.length 2 (q.pt.l.flatMap ptc) ∧ Rd w17 p.lb.a p.lb.l.length 2 (p.lb.l.flatMap prc) ∧ Rd w17 p.pt.a p.pt.l.length 2 (p.pt.l.flatMap ptc) ∧ (∀ jz, World.cell? w17 ⟨g2, jz, none⟩ = (blc ba)[jz]?) ∧ (∀ jz, World.cell? w17 ⟨g4, jz, none⟩ = (blc bb)[jz]?) ∧ Rd w17 ba.rs.a ba.rs.l.length 3 (ba.rs.l.flatMap mrc) ∧ Rd w17 bb.rs.a bb.rs.l.length 3 (bb.rs.l.flatMap mrc) := ⟨(rdH_rd (hS17.focus 2 rfl)), (rdH_rd (hS17.focus 3 rfl)), (rdH_rd (hS17.focus 5 rfl)), (rdH_rd (hS17.focus 6 rfl)), hS17.cel_at 8 rfl, hS17.cel_at 9 rfl, (rdH_rd (hS17.focus 10 rfl)), (rdH_rd (hS17.focus 11 rfl))⟩
       refine NX.held s18 ?_
       refine WD.one (i := 13) t8_6 (bt 14 16383) rfl (by kernel_rfl) ?_
       refine WO.store (l' := (mrc q)) 0 hS17 rfl Ty.sz60 rfl rfl rfl rfl rfl (Nat.le_of_ble_eq_true rfl) rfl (fun w19 (hS19 : St B (cel g15 (mrc q) 60 :: cel g12 (mrc p) 60 :: (labA q.lb) :: (ptsA q.pt) :: allA mrA bb.rs.l :: (labA p.lb) :: (ptsA p.pt) :: allA mrA ba.rs.l :: cel g2 (blc ba) 37 :: cel g4 (blc bb) 37 :: (rsA ba.rs) :: (rsA bb.rs) :: (dsA ba.ds) :: allA recA ba.ds.l :: blA ba :: (dsA bb.ds) :: allA recA bb.ds.l :: blA bb :: L) w19) => ?_)
       clear hS17
       refine WO.nil ?_
       have s20 : Rd w19 q.lb.a q.lb.l.length 2 (q.lb.l.flatMap prc) ∧ Rd w19 q.pt.a q.pt.l.length 2 (q.pt.l.flatMap ptc) ∧ Rd w19 p.lb.a p.lb.l.length 2 (p.lb.l.flatMap prc) ∧ Rd w19 p.pt.a p.pt.l.length 2 (p.pt.l.flatMap ptc) ∧ (∀ jz, World.cell? w19 ⟨g2, jz, none⟩ = (blc ba)[jz]?) ∧ (∀ jz, World.cell? w19 ⟨g4, jz, none⟩ = (blc bb)[jz]?) ∧ Rd w19 ba.rs.a ba.rs.l.length 3 (ba.rs.l.flatMap mrc) ∧ Rd w19 bb.rs.a bb.rs.l.length 3 (bb.rs.l.flatMap mrc) := ⟨(rdH_rd (hS19.focus 2 rfl)), (rdH_rd (hS19.focus 3 rfl)), (rdH_rd (hS19.focus 5 rfl)), (rdH_rd (hS19.focus 6 rfl)), hS19.cel_at 8 rfl, hS19.cel_at 9 rfl, (rdH_rd (hS19.focus 10 rfl)), (rdH_rd (hS19.focus 11 rfl))⟩
       refine NX.held s20 ?_
       refine WD.done t8_6 (by kernel_rfl) ?_
       refine NX.go (WP.seq (WP.region rfl ?_))
       refine WO.V (run_fa 1 ⟨g12, 1, none⟩ rfl rfl) ?_
       refine WO.V (run_load Ty.ag2 rfl ((hS19.cel_at 1 rfl 1).trans rfl)) ?_
       refine WO.V (run_fa 1 ⟨g15, 1, none⟩ rfl rfl) ?_
       refine WO.V (run_load Ty.ag2 rfl ((hS19.cel_at 0 rfl 1).trans rfl)) ?_
       refine WO.V (run_neq rfl rfl) ?_
       refine WO.mv rfl rfl ?_
       refine dcase (p := ¬ p.last = q.last) (fun g61 d61 => ?_) (fun g61 d61 => ?_)
       ·
        refine WO.off rfl rfl d61 rfl ?_
        refine WO.off rfl rfl d61 rfl ?_
        refine WO.off rfl rfl d61 rfl ?_
        refine WO.off rfl rfl d61 rfl ?_
        refine WO.off rfl rfl d61 rfl ?_
        refine WO.off rfl rfl d61 rfl ?_
        refine WO.V (run_pickT rfl d61 rfl) ?_
        refine WO.mv rfl rfl ?_
        refine WO.off rfl rfl rfl rfl ?_
        refine WO.off rfl rfl rfl rfl ?_
        refine WO.off rfl rfl rfl rfl ?_
        refine WO.off rfl rfl rfl rfl ?_
        refine WO.off rfl rfl rfl rfl ?_
        refine WO.off rfl rfl rfl rfl ?_
        refine WO.V (run_pickT rfl rfl rfl) ?_
        refine WO.nil (NX.go ?_)
        refine WP.condT rfl rfl ?_
        refine WP.seq (WP.region rfl ?_)
        refine WO.asg rfl rfl ?_
        refine WO.nil (NX.go (WP.ret (NX.blkRet (NX.thenRet (NX.thenRet (NX.blkRet (NX.thenRet ?_)))))))
        refine NX.done (l := [.tmp 4]) rfl rfl ?_
        exact ⟨false, rfl, ⟨(fun h => by cases h), (fun (e : ba.p = bb.p) => by have h9 := hgo.2 (congrArg BlkP.rows e); rw [drop_cons hp, drop_cons hq] at h9; have h8 := (List.cons.inj h9).1; exact absurd (congrArg RowP.last h8) g61)⟩, (hS19.mask [false, false, false, false, false, false, false, false, false, false, false, false, false, false, true, false, false] (L' := blA ba :: blA bb :: L) rfl)⟩
       ·
        refine WO.on rfl rfl d61 ?_
        refine WO.V (run_fa 0 ⟨g12, 0, none⟩ rfl rfl) ?_
        refine WO.on rfl rfl d61 ?_
        refine WO.V (run_load Ty.ag44 rfl ((hS19.cel_at 1 rfl 0).trans rfl)) ?_
        refine WO.on rfl rfl d61 ?_
        refine WO.V (run_fa 0 ⟨g15, 0, none⟩ rfl rfl) ?_
        refine WO.on rfl rfl d61 ?_
        refine WO.V (run_load Ty.ag44 rfl ((hS19.cel_at 0 rfl 0).trans rfl)) ?_
        refine WO.on rfl rfl d61 ?_
        have hS21 := hS19.permT [5, 2] (L' := (labA p.lb) :: (labA q.lb) :: cel g15 (mrc q) 60 :: cel g12 (mrc p) 60 :: (ptsA q.pt) :: allA mrA bb.rs.l :: (ptsA p.pt) :: allA mrA ba.rs.l :: cel g2 (blc ba) 37 :: cel g4 (blc bb) 37 :: (rsA ba.rs) :: (rsA bb.rs) :: (dsA ba.ds) :: allA recA ba.ds.l :: blA ba :: (dsA bb.ds) :: allA recA bb.ds.l :: blA bb :: L) rfl
        clear hS19
        refine WO.call rfl rfl Ty.hd15 rfl (rsame_spec rdH_rd rdH_rd (hza.r p (List.mem_of_getElem? hp)).1 (hzb.r q (List.mem_of_getElem? hq)).1 hS21) (fun v23 w22 pv23 => ?_)
        obtain ⟨rfl, hS22⟩ := pv23
        clear hS21
        refine WO.on rfl rfl d61 ?_
        refine WO.V (run_notP rfl) ?_
        refine WO.V (run_pickF rfl d61 rfl) ?_
        refine WO.mv rfl rfl ?_
        refine dcase (p := ¬ (p.lb.l = q.lb.l)) (fun g69 d69 => ?_) (fun g69 d69 => ?_)
        ·
         refine WO.off rfl rfl d69 rfl ?_
         refine WO.off rfl rfl d69 rfl ?_
         refine WO.off rfl rfl d69 rfl ?_
         refine WO.off rfl rfl d69 rfl ?_
         refine WO.off rfl rfl d69 rfl ?_
         refine WO.off rfl rfl d69 rfl ?_
         refine WO.V (run_pickT rfl d69 rfl) ?_
         refine WO.nil (NX.go ?_)
         refine WP.condT rfl rfl ?_
         refine WP.seq (WP.region rfl ?_)
         refine WO.asg rfl rfl ?_
         refine WO.nil (NX.go (WP.ret (NX.blkRet (NX.thenRet (NX.thenRet (NX.blkRet (NX.thenRet ?_)))))))
         refine NX.done (l := [.tmp 4]) rfl rfl ?_
         exact ⟨false, rfl, ⟨(fun h => by cases h), (fun (e : ba.p = bb.p) => by have h9 := hgo.2 (congrArg BlkP.rows e); rw [drop_cons hp, drop_cons hq] at h9; have h8 := (List.cons.inj h9).1; exact absurd (congrArg RowP.lb h8) g69)⟩, (hS22.mask [false, false, false, false, false, false, false, false, false, false, false, false, false, false, true, false, false] (L' := blA ba :: blA bb :: L) rfl)⟩
        ·
         refine WO.on rfl rfl d69 ?_
         refine WO.V (run_fa 2 ⟨g12, 2, none⟩ rfl rfl) ?_
         refine WO.on rfl rfl d69 ?_
         refine WO.V (run_load Ty.ag56 rfl ((hS22.cel_at 3 rfl 2).trans rfl)) ?_
         refine WO.on rfl rfl d69 ?_
         refine WO.V (run_fa 2 ⟨g15, 2, none⟩ rfl rfl) ?_
         refine WO.on rfl rfl d69 ?_
         refine WO.V (run_load Ty.ag56 rfl ((hS22.cel_at 2 rfl 2).trans rfl)) ?_
         refine WO.on rfl rfl d69 ?_
         have hS24 := hS22.permT [6, 4] (L' := (ptsA p.pt) :: (ptsA q.pt) :: (labA p.lb) :: (labA q.lb) :: cel g15 (mrc q) 60 :: cel g12 (mrc p) 60 :: allA mrA bb.rs.l :: allA mrA ba.rs.l :: cel g2 (blc ba) 37 :: cel g4 (blc bb) 37 :: (rsA ba.rs) :: (rsA bb.rs) :: (dsA ba.ds) :: allA recA ba.ds.l :: blA ba :: (dsA bb.ds) :: allA recA bb.ds.l :: blA bb :: L) rfl
         clear hS22
         refine WO.call rfl rfl Ty.hd16 rfl (rpsame_spec rdH_rd rdH_rd (hza.r p (List.mem_of_getElem? hp)).2 (hzb.r q (List.mem_of_getElem? hq)).2 hS24) (fun v26 w25 pv26 => ?_)
         obtain ⟨rfl, hS25⟩ := pv26
         clear hS24
         refine WO.on rfl rfl d69 ?_
         refine WO.V (run_notP rfl) ?_
         refine WO.V (run_pickF rfl d69 rfl) ?_
         refine WO.nil (NX.go ?_)
         refine WP.condP rfl (fun g76 => ?_) (fun g76 => ?_)
         ·
          refine WP.seq (WP.region rfl ?_)
          refine WO.asg rfl rfl ?_
          refine WO.nil (NX.go (WP.ret (NX.blkRet (NX.thenRet (NX.thenRet (NX.blkRet (NX.thenRet ?_)))))))
          refine NX.done (l := [.tmp 4]) rfl rfl ?_
          exact ⟨false, rfl, ⟨(fun h => by cases h), (fun (e : ba.p = bb.p) => by have h9 := hgo.2 (congrArg BlkP.rows e); rw [drop_cons hp, drop_cons hq] at h9; have h8 := (List.cons.inj h9).1; exact absurd (congrArg RowP.pts h8) g76)⟩, (hS25.mask [false, false, false, false, false, false, false, false, false, false, false, false, false, false, true, false, false] (L' := blA ba :: blA bb :: L) rfl)⟩
         ·
          refine WP.skip (NX.blk (NX.go (WP.region rfl ?_)))
          refine WO.mv rfl rfl ?_
          refine WO.V (run_add rfl rfl (IntWalk.i64_in _ (by omega))) ?_
          refine WO.asg rfl rfl ?_
          refine WO.nil ?_
          exact NX.again (i + 1) ⟨⟨by omega, by rw [drop_cons hp, drop_cons hq, List.map_cons, List.map_cons] at hgo; rw [← hgo]; have e1 : p.last = q.last := (by simpa using g61); have e2 : p.lb.l = q.lb.l := (by simpa using g69); have e3 : p.pt.l = q.pt.l := (by simpa using g76); simp [MRow.p, e1, e2, e3]⟩, (hS25.permT [0, 0, 0, 0, 0, 0, 2, 2, 2, 1, 1] (L' := (ptsA p.pt) :: (ptsA q.pt) :: (labA p.lb) :: (labA q.lb) :: cel g15 (mrc q) 60 :: cel g12 (mrc p) 60 :: cel g2 (blc ba) 37 :: cel g4 (blc bb) 37 :: (rsA ba.rs) :: allA mrA ba.rs.l :: (rsA bb.rs) :: allA mrA bb.rs.l :: (dsA ba.ds) :: allA recA ba.ds.l :: blA ba :: (dsA bb.ds) :: allA recA bb.ds.l :: blA bb :: L) rfl).drop.drop.drop.drop.drop.drop⟩ (by show ba.rs.l.length - (i + 1) < ba.rs.l.length - i; omega) (Sub.cons rfl (Sub.cons rfl (Sub.consE rfl (by congr 1) (Sub.nil _))))
      ·
       refine WO.alloc (l := [Value.slice none 0 0, Value.int .i64 0, Value.slice none 0 0]) hS9 Ty.zr60 rfl rfl (fun g28 w27 lg28 hS27 => ?_)
       clear hS9
       refine WO.nil ?_
       have s29 : Rd w27 q.lb.a q.lb.l.length 2 (q.lb.l.flatMap prc) ∧ Rd w27 q.pt.a q.pt.l.length 2 (q.pt.l.flatMap ptc) ∧ Rd w27 p.lb.a p.lb.l.length 2 (p.lb.l.flatMap prc) ∧ Rd w27 p.pt.a p.pt.l.length 2 (p.pt.l.flatMap ptc) ∧ (∀ jz, World.cell? w27 ⟨g2, jz, none⟩ = (blc ba)[jz]?) ∧ (∀ jz, World.cell? w27 ⟨g4, jz, none⟩ = (blc bb)[jz]?) ∧ Rd w27 ba.rs.a ba.rs.l.length 3 (ba.rs.l.flatMap mrc) ∧ Rd w27 bb.rs.a bb.rs.l.length 3 (bb.rs.l.flatMap mrc) := ⟨(rdH_rd (hS27.focus 1 rfl)), (rdH_rd (hS27.focus 2 rfl)), (rdH_rd (hS27.focus 4 rfl)), (rdH_rd (hS27.focus 5 rfl)), hS27.cel_at 7 rfl, hS27.cel_at 8 rfl, (rdH_rd (hS27.focus 9 rfl)), (rdH_rd (hS27.focus 10 rfl))⟩
       refine NX.held s29 ?_
       refine WD.one (i := 10) t8_6 (bt 14 4095) rfl (by kernel_rfl) ?_
       refine WO.alloc (l := [Value.slice none 0 0, Value.int .i64 0, Value.slice none 0 0]) hS27 Ty.zr60 rfl rfl (fun g31 w30 lg31 hS30 => ?_)
       clear hS27
       refine WO.nil ?_
       have s32 : Rd w30 q.lb.a q.lb.l.length 2 (q.lb.l.flatMap prc) ∧ Rd w30 q.pt.a q.pt.l.length 2 (q.pt.l.flatMap ptc) ∧ Rd w30 p.lb.a p.lb.l.length 2 (p.lb.l.flatMap prc) ∧ Rd w30 p.pt.a p.pt.l.length 2 (p.pt.l.flatMap ptc) ∧ (∀ jz, World.cell? w30 ⟨g2, jz, none⟩ = (blc ba)[jz]?) ∧ (∀ jz, World.cell? w30 ⟨g4, jz, none⟩ = (blc bb)[jz]?) ∧ Rd w30 ba.rs.a ba.rs.l.length 3 (ba.rs.l.flatMap mrc) ∧ Rd w30 bb.rs.a bb.rs.l.length 3 (bb.rs.l.flatMap mrc) := ⟨(rdH_rd (hS30.focus 2 rfl)), (rdH_rd (hS30.focus 3 rfl)), (rdH_rd (hS30.focus 5 rfl)), (rdH_rd (hS30.focus 6 rfl)), hS30.cel_at 8 rfl, hS30.cel_at 9 rfl, (rdH_rd (hS30.focus 10 rfl)), (rdH_rd (hS30.focus 11 rfl))⟩
       refine NX.held s32 ?_
       refine WD.one (i := 12) t8_6 (bt 14 8191) rfl (by kernel_rfl) ?_
       refine WO.store (l' := (mrc p)) 0 hS30 rfl Ty.sz60 rfl rfl rfl rfl rfl (Nat.le_of_ble_eq_true rfl) rfl (fun w33 (hS33 : St B (cel g31 (mrc p) 60 :: cel g28 [Value.slice none 0 0, Value.int .i64 0, Value.slice none 0 0] 60 :: (labA q.lb) :: (ptsA q.pt) :: allA mrA bb.rs.l :: (labA p.lb) :: (ptsA p.pt) :: allA mrA ba.rs.l :: cel g2 (blc ba) 37 :: cel g4 (blc bb) 37 :: (rsA ba.rs) :: (rsA bb.rs) :: (dsA ba.ds) :: allA recA ba.ds.l :: blA ba :: (dsA bb.ds) :: allA recA bb.ds.l :: blA bb :: L) w33) => ?_)
       clear hS30
       refine WO.nil ?_
       have s34 : Rd w33 q.lb.a q.lb.l.length 2 (q.lb.l.flatMap prc) ∧ Rd w33 q.pt.a q.pt.l.length 2 (q.pt.l.flatMap ptc) ∧ Rd w33 p.lb.a p.lb.l.length 2 (p.lb.l.flatMap prc) ∧ Rd w33 p.pt.a p.pt.l.length 2 (p.pt.l.flatMap ptc) ∧ (∀ jz, World.cell? w33 ⟨g2, jz, none⟩ = (blc ba)[jz]?) ∧ (∀ jz, World.cell? w33 ⟨g4, jz, none⟩ = (blc bb)[jz]?) ∧ Rd w33 ba.rs.a ba.rs.l.length 3 (ba.rs.l.flatMap mrc) ∧ Rd w33 bb.rs.a bb.rs.l.length 3 (bb.rs.l.flatMap mrc) := ⟨(rdH_rd (hS33.focus 2 rfl)), (rdH_rd (hS33.focus 3 rfl)), (rdH_rd (hS33.focus 5 rfl)), (rdH_rd (hS33.focus 6 rfl)), hS33.cel_at 8 rfl, hS33.cel_at 9 rfl, (rdH_rd (hS33.focus 10 rfl)), (rdH_rd (hS33.focus 11 rfl))⟩
       refine NX.held s34 ?_
       refine WD.one (i := 13) t8_6 (bt 14 16383) rfl (by kernel_rfl) ?_
       refine WO.store (l' := (mrc q)) 1 hS33 rfl Ty.sz60 rfl rfl rfl rfl rfl (Nat.le_of_ble_eq_true rfl) rfl (fun w35 (hS35 : St B (cel g31 (mrc p) 60 :: cel g28 (mrc q) 60 :: (labA q.lb) :: (ptsA q.pt) :: allA mrA bb.rs.l :: (labA p.lb) :: (ptsA p.pt) :: allA mrA ba.rs.l :: cel g2 (blc ba) 37 :: cel g4 (blc bb) 37 :: (rsA ba.rs) :: (rsA bb.rs) :: (dsA ba.ds) :: allA recA ba.ds.l :: blA ba :: (dsA bb.ds) :: allA recA bb.ds.l :: blA bb :: L) w35) => ?_)
       clear hS33
       refine WO.nil ?_
       have s36 : Rd w35 q.lb.a q.lb.l.length 2 (q.lb.l.flatMap prc) ∧ Rd w35 q.pt.a q.pt.l.length 2 (q.pt.l.flatMap ptc) ∧ Rd w35 p.lb.a p.lb.l.length 2 (p.lb.l.flatMap prc) ∧ Rd w35 p.pt.a p.pt.l.length 2 (p.pt.l.flatMap ptc) ∧ (∀ jz, World.cell? w35 ⟨g2, jz, none⟩ = (blc ba)[jz]?) ∧ (∀ jz, World.cell? w35 ⟨g4, jz, none⟩ = (blc bb)[jz]?) ∧ Rd w35 ba.rs.a ba.rs.l.length 3 (ba.rs.l.flatMap mrc) ∧ Rd w35 bb.rs.a bb.rs.l.length 3 (bb.rs.l.flatMap mrc) := ⟨(rdH_rd (hS35.focus 2 rfl)), (rdH_rd (hS35.focus 3 rfl)), (rdH_rd (hS35.focus 5 rfl)), (rdH_rd (hS35.focus 6 rfl)), hS35.cel_at 8 rfl, hS35.cel_at 9 rfl, (rdH_rd (hS35.focus 10 rfl)), (rdH_rd (hS35.focus 11 rfl))⟩
       refine NX.held s36 ?_
       refine WD.done t8_6 (by kernel_rfl) ?_
       refine NX.go (WP.seq (WP.region rfl ?_))
       refine WO.V (run_fa 1 ⟨g31, 1, none⟩ rfl rfl) ?_
       refine WO.V (run_load Ty.ag2 rfl ((hS35.cel_at 0 rfl 1).trans rfl)) ?_
       refine WO.V (run_fa 1 ⟨g28, 1, none⟩ rfl rfl) ?_
       refine WO.V (run_load Ty.ag2 rfl ((hS35.cel_at 1 rfl 1).trans rfl)) ?_
       refine WO.V (run_neq rfl rfl) ?_
       refine WO.mv rfl rfl ?_
       refine dcase (p := ¬ p.last = q.last) (fun g61 d61 => ?_) (fun g61 d61 => ?_)
       ·
        refine WO.off rfl rfl d61 rfl ?_
        refine WO.off rfl rfl d61 rfl ?_
        refine WO.off rfl rfl d61 rfl ?_
        refine WO.off rfl rfl d61 rfl ?_
        refine WO.off rfl rfl d61 rfl ?_
        refine WO.off rfl rfl d61 rfl ?_
        refine WO.V (run_pickT rfl d61 rfl) ?_
        refine WO.mv rfl rfl ?_
        refine WO.off rfl rfl rfl rfl ?_
        refine WO.off rfl rfl rfl rfl ?_
        refine WO.off rfl rfl rfl rfl ?_
        refine WO.off rfl rfl rfl rfl ?_
        refine WO.off rfl rfl rfl rfl ?_
        refine WO.off rfl rfl rfl rfl ?_
        refine WO.V (run_pickT rfl rfl rfl) ?_
        refine WO.nil (NX.go ?_)
        refine WP.condT rfl rfl ?_
        refine WP.seq (WP.region rfl ?_)
        refine WO.asg rfl rfl ?_
        refine WO.nil (NX.go (WP.ret (NX.blkRet (NX.thenRet (NX.thenRet (NX.blkRet (NX.thenRet ?_)))))))
        refine NX.done (l := [.tmp 4]) rfl rfl ?_
        exact ⟨false, rfl, ⟨(fun h => by cases h), (fun (e : ba.p = bb.p) => by have h9 := hgo.2 (congrArg BlkP.rows e); rw [drop_cons hp, drop_cons hq] at h9; have h8 := (List.cons.inj h9).1; exact absurd (congrArg RowP.last h8) g61)⟩, (hS35.mask [false, false, false, false, false, false, false, false, false, false, false, false, false, false, true, false, false] (L' := blA ba :: blA bb :: L) rfl)⟩
       ·
        refine WO.on rfl rfl d61 ?_
        refine WO.V (run_fa 0 ⟨g31, 0, none⟩ rfl rfl) ?_
        refine WO.on rfl rfl d61 ?_
        refine WO.V (run_load Ty.ag44 rfl ((hS35.cel_at 0 rfl 0).trans rfl)) ?_
        refine WO.on rfl rfl d61 ?_
        refine WO.V (run_fa 0 ⟨g28, 0, none⟩ rfl rfl) ?_
        refine WO.on rfl rfl d61 ?_
        refine WO.V (run_load Ty.ag44 rfl ((hS35.cel_at 1 rfl 0).trans rfl)) ?_
        refine WO.on rfl rfl d61 ?_
        have hS37 := hS35.permT [5, 2] (L' := (labA p.lb) :: (labA q.lb) :: cel g31 (mrc p) 60 :: cel g28 (mrc q) 60 :: (ptsA q.pt) :: allA mrA bb.rs.l :: (ptsA p.pt) :: allA mrA ba.rs.l :: cel g2 (blc ba) 37 :: cel g4 (blc bb) 37 :: (rsA ba.rs) :: (rsA bb.rs) :: (dsA ba.ds) :: allA recA ba.ds.l :: blA ba :: (dsA bb.ds) :: allA recA bb.ds.l :: blA bb :: L) rfl
        clear hS35
        refine WO.call rfl rfl Ty.hd15 rfl (rsame_spec rdH_rd rdH_rd (hza.r p (List.mem_of_getElem? hp)).1 (hzb.r q (List.mem_of_getElem? hq)).1 hS37) (fun v39 w38 pv39 => ?_)
        obtain ⟨rfl, hS38⟩ := pv39
        clear hS37
        refine WO.on rfl rfl d61 ?_
        refine WO.V (run_notP rfl) ?_
        refine WO.V (run_pickF rfl d61 rfl) ?_
        refine WO.mv rfl rfl ?_
        refine dcase (p := ¬ (p.lb.l = q.lb.l)) (fun g69 d69 => ?_) (fun g69 d69 => ?_)
        ·
         refine WO.off rfl rfl d69 rfl ?_
         refine WO.off rfl rfl d69 rfl ?_
         refine WO.off rfl rfl d69 rfl ?_
         refine WO.off rfl rfl d69 rfl ?_
         refine WO.off rfl rfl d69 rfl ?_
         refine WO.off rfl rfl d69 rfl ?_
         refine WO.V (run_pickT rfl d69 rfl) ?_
         refine WO.nil (NX.go ?_)
         refine WP.condT rfl rfl ?_
         refine WP.seq (WP.region rfl ?_)
         refine WO.asg rfl rfl ?_
         refine WO.nil (NX.go (WP.ret (NX.blkRet (NX.thenRet (NX.thenRet (NX.blkRet (NX.thenRet ?_)))))))
         refine NX.done (l := [.tmp 4]) rfl rfl ?_
         exact ⟨false, rfl, ⟨(fun h => by cases h), (fun (e : ba.p = bb.p) => by have h9 := hgo.2 (congrArg BlkP.rows e); rw [drop_cons hp, drop_cons hq] at h9; have h8 := (List.cons.inj h9).1; exact absurd (congrArg RowP.lb h8) g69)⟩, (hS38.mask [false, false, false, false, false, false, false, false, false, false, false, false, false, false, true, false, false] (L' := blA ba :: blA bb :: L) rfl)⟩
        ·
         refine WO.on rfl rfl d69 ?_
         refine WO.V (run_fa 2 ⟨g31, 2, none⟩ rfl rfl) ?_
         refine WO.on rfl rfl d69 ?_
         refine WO.V (run_load Ty.ag56 rfl ((hS38.cel_at 2 rfl 2).trans rfl)) ?_
         refine WO.on rfl rfl d69 ?_
         refine WO.V (run_fa 2 ⟨g28, 2, none⟩ rfl rfl) ?_
         refine WO.on rfl rfl d69 ?_
         refine WO.V (run_load Ty.ag56 rfl ((hS38.cel_at 3 rfl 2).trans rfl)) ?_
         refine WO.on rfl rfl d69 ?_
         have hS40 := hS38.permT [6, 4] (L' := (ptsA p.pt) :: (ptsA q.pt) :: (labA p.lb) :: (labA q.lb) :: cel g31 (mrc p) 60 :: cel g28 (mrc q) 60 :: allA mrA bb.rs.l :: allA mrA ba.rs.l :: cel g2 (blc ba) 37 :: cel g4 (blc bb) 37 :: (rsA ba.rs) :: (rsA bb.rs) :: (dsA ba.ds) :: allA recA ba.ds.l :: blA ba :: (dsA bb.ds) :: allA recA bb.ds.l :: blA bb :: L) rfl
         clear hS38
         refine WO.call rfl rfl Ty.hd16 rfl (rpsame_spec rdH_rd rdH_rd (hza.r p (List.mem_of_getElem? hp)).2 (hzb.r q (List.mem_of_getElem? hq)).2 hS40) (fun v42 w41 pv42 => ?_)
         obtain ⟨rfl, hS41⟩ := pv42
         clear hS40
         refine WO.on rfl rfl d69 ?_
         refine WO.V (run_notP rfl) ?_
         refine WO.V (run_pickF rfl d69 rfl) ?_
         refine WO.nil (NX.go ?_)
         refine WP.condP rfl (fun g76 => ?_) (fun g76 => ?_)
         ·
          refine WP.seq (WP.region rfl ?_)
          refine WO.asg rfl rfl ?_
          refine WO.nil (NX.go (WP.ret (NX.blkRet (NX.thenRet (NX.thenRet (NX.blkRet (NX.thenRet ?_)))))))
          refine NX.done (l := [.tmp 4]) rfl rfl ?_
          exact ⟨false, rfl, ⟨(fun h => by cases h), (fun (e : ba.p = bb.p) => by have h9 := hgo.2 (congrArg BlkP.rows e); rw [drop_cons hp, drop_cons hq] at h9; have h8 := (List.cons.inj h9).1; exact absurd (congrArg RowP.pts h8) g76)⟩, (hS41.mask [false, false, false, false, false, false, false, false, false, false, false, false, false, false, true, false, false] (L' := blA ba :: blA bb :: L) rfl)⟩
         ·
          refine WP.skip (NX.blk (NX.go (WP.region rfl ?_)))
          refine WO.mv rfl rfl ?_
          refine WO.V (run_add rfl rfl (IntWalk.i64_in _ (by omega))) ?_
          refine WO.asg rfl rfl ?_
          refine WO.nil ?_
          exact NX.again (i + 1) ⟨⟨by omega, by rw [drop_cons hp, drop_cons hq, List.map_cons, List.map_cons] at hgo; rw [← hgo]; have e1 : p.last = q.last := (by simpa using g61); have e2 : p.lb.l = q.lb.l := (by simpa using g69); have e3 : p.pt.l = q.pt.l := (by simpa using g76); simp [MRow.p, e1, e2, e3]⟩, (hS41.permT [0, 0, 0, 0, 0, 0, 2, 2, 2, 1, 1] (L' := (ptsA p.pt) :: (ptsA q.pt) :: (labA p.lb) :: (labA q.lb) :: cel g31 (mrc p) 60 :: cel g28 (mrc q) 60 :: cel g2 (blc ba) 37 :: cel g4 (blc bb) 37 :: (rsA ba.rs) :: allA mrA ba.rs.l :: (rsA bb.rs) :: allA mrA bb.rs.l :: (dsA ba.ds) :: allA recA ba.ds.l :: blA ba :: (dsA bb.ds) :: allA recA bb.ds.l :: blA bb :: L) rfl).drop.drop.drop.drop.drop.drop⟩ (by show ba.rs.l.length - (i + 1) < ba.rs.l.length - i; omega) (Sub.cons rfl (Sub.cons rfl (Sub.consE rfl (by congr 1) (Sub.nil _))))
     ·
      refine WP.exit (NX.thenExit (NX.thenExit ?_))
      refine NX.blkExit ?_
      refine NX.go (WP.seq (WP.seq (WP.region rfl ?_)))
      refine WO.asg rfl rfl ?_
      refine WO.nil (NX.go (WP.block ?_))
      have hrr : ba.rs.l.map MRow.p = bb.rs.l.map MRow.p := hgo.1 (by rw [List.drop_of_length_le (by omega), List.drop_of_length_le (by omega)])
      have hS43 : St B (cel g2 (blc ba) 37 :: cel g4 (blc bb) 37 :: (dsA ba.ds) :: allA recA ba.ds.l :: (dsA bb.ds) :: allA recA bb.ds.l :: (rsA ba.rs) :: allA mrA ba.rs.l :: (rsA bb.rs) :: allA mrA bb.rs.l :: blA ba :: blA bb :: L) w6 := (hS6.permT [0, 0, 4, 4, 5, 5] (L' := cel g2 (blc ba) 37 :: cel g4 (blc bb) 37 :: (dsA ba.ds) :: allA recA ba.ds.l :: (dsA bb.ds) :: allA recA bb.ds.l :: (rsA ba.rs) :: allA mrA ba.rs.l :: (rsA bb.rs) :: allA mrA bb.rs.l :: blA ba :: blA bb :: L) rfl)
      clear hS6
      refine WP.loop (α := Nat) (fun x => match x with | j => [(2, Value.pointer (some ⟨g2, 0, none⟩)), (3, Value.pointer (some ⟨g4, 0, none⟩)), (8, Value.int .i64 (j : Int))]) (fun x w => match x with | j => (j ≤ ba.ds.l.length ∧ ((ba.ds.l.drop j).map Rcd.p = (bb.ds.l.drop j).map Rcd.p ↔ ba.ds.l.map Rcd.p = bb.ds.l.map Rcd.p)) ∧ St B (cel g2 (blc ba) 37 :: cel g4 (blc bb) 37 :: (dsA ba.ds) :: allA recA ba.ds.l :: (dsA bb.ds) :: allA recA bb.ds.l :: (rsA ba.rs) :: allA mrA ba.rs.l :: (rsA bb.rs) :: allA mrA bb.rs.l :: blA ba :: blA bb :: L) w) (fun x => match x with | j => ba.ds.l.length - j) 0 ⟨⟨Nat.zero_le _, Iff.rfl⟩, hS43⟩ (Sub.cons rfl (Sub.cons rfl (Sub.consE rfl (by first | rfl | first | rfl | (congr 1; omega) | (simp; done) | (simp; omega)) (Sub.nil _)))) ?_
      rintro j w44 ⟨⟨hj, hgo2⟩, hS44⟩
      clear hS43
      refine WP.seq (WP.seq (WP.region rfl ?_))
      refine WO.mv rfl rfl ?_
      refine WO.V (run_fa 3 ⟨g2, 3, none⟩ rfl rfl) ?_
      refine WO.V (run_load Ty.ag22 rfl ((hS44.cel_at 0 rfl 3).trans rfl)) ?_
      refine WO.V (run_len rfl Tryz.underlying22 rfl) ?_
      refine WO.V (run_lss rfl rfl) ?_
      refine WO.nil (NX.go ?_)
      refine WP.condP rfl (fun g81 => ?_) (fun g81 => ?_)
      ·
       refine WP.skip (NX.go (WP.seq (WP.block (WP.seq ?_))))
       obtain ⟨da, hd1⟩ : ∃ qq, ba.ds.l[j]? = some qq := ⟨_, List.getElem?_eq_getElem (by omega)⟩
       obtain ⟨db, hd2⟩ : ∃ qq, bb.ds.l[j]? = some qq := ⟨_, List.getElem?_eq_getElem (by omega)⟩
       refine WD.start (fun w => (∀ jz, World.cell? w ⟨g2, jz, none⟩ = (blc ba)[jz]?) ∧ (∀ jz, World.cell? w ⟨g4, jz, none⟩ = (blc bb)[jz]?) ∧ Rd w ba.ds.a ba.ds.l.length 5 (ba.ds.l.flatMap rcc) ∧ Rd w bb.ds.a bb.ds.l.length 5 (bb.ds.l.flatMap rcc)) [] (bt 12 0) Ty.mo rfl (by kernel_rfl) hS44 (fun _ h => ⟨h.cel_at 0 rfl, h.cel_at 1 rfl, (rdH_rd (h.focus 2 rfl)), (rdH_rd (h.focus 4 rfl))⟩) (fun w45 hS45 s46 => ?_)
       clear hS44
       refine DP (i := 0) t8_12 (bt 12 1) rfl rfl rfl rfl (fun w => run_fa 3 ⟨g2, 3, none⟩ rfl rfl) ?_
       refine DT (i := 1) t8_12 (bt 12 3) s46 rfl rfl rfl rfl (fun w hs => run_load Ty.ag22 rfl ((hs.1 3).trans rfl)) ?_
       refine DP (i := 2) t8_12 (bt 12 7) rfl rfl rfl rfl (fun w => run_move rfl) ?_
       refine DT (i := 3) t8_12 (bt 12 15) s46 rfl rfl rfl rfl (fun w hs => run_indexAddr (q := adr ba.ds.a (j * 5)) Tryz.underlying22 Ty.sz27 rfl rfl (by omega) (by omega) ((hs.2.2.1).2.1 (by omega)) rfl) ?_
       refine DT (i := 4) t8_12 (bt 12 31) s46 rfl rfl rfl rfl (fun w hs => run_loadAgg (vs := (rcc da)) Ty.ag27 Ty.sz27 rfl ((hs.2.2.1).cells (by rw [flat_len rcc_len]; omega) (flat_part rcc_len hd1)).1 ((hs.2.2.1).cells (by rw [flat_len rcc_len]; omega) (flat_part rcc_len hd1)).2) ?_
       refine DP (i := 5) t8_12 (bt 12 63) rfl rfl rfl rfl (fun w => run_fa 3 ⟨g4, 3, none⟩ rfl rfl) ?_
       refine DT (i := 6) t8_12 (bt 12 127) s46 rfl rfl rfl rfl (fun w hs => run_load Ty.ag22 rfl ((hs.2.1 3).trans rfl)) ?_
       refine DP (i := 7) t8_12 (bt 12 255) rfl rfl rfl rfl (fun w => run_move rfl) ?_
       refine DT (i := 8) t8_12 (bt 12 511) s46 rfl rfl rfl rfl (fun w hs => run_indexAddr (q := adr bb.ds.a (j * 5)) Tryz.underlying22 Ty.sz27 rfl rfl (by omega) (by omega) ((hs.2.2.2).2.1 (by omega)) rfl) ?_
       refine DT (i := 9) t8_12 (bt 12 1023) s46 rfl rfl rfl rfl (fun w hs => run_loadAgg (vs := (rcc db)) Ty.ag27 Ty.sz27 rfl ((hs.2.2.2).cells (by rw [flat_len rcc_len]; omega) (flat_part rcc_len hd2)).1 ((hs.2.2.2).cells (by rw [flat_len rcc_len]; omega) (flat_part rcc_len hd2)).2) ?_
       refine WD.one (i := 10) t8_12 (bt 12 2047) rfl (by kernel_rfl) ?_
       have hS47 := allA_get recA_pers (List.mem_of_getElem? hd1) (hS45.permT [3] (L' := allA recA ba.ds.l :: cel g2 (blc ba) 37 :: cel g4 (blc bb) 37 :: (dsA ba.ds) :: (dsA bb.ds) :: allA recA bb.ds.l :: (rsA ba.rs) :: allA mrA ba.rs.l :: (rsA bb.rs) :: allA mrA bb.rs.l :: blA ba :: blA bb :: L) rfl)
       clear hS45
       have hS48 := allA_get recA_pers (List.mem_of_getElem? hd2) (hS47.permT [6] (L' := allA recA bb.ds.l :: recA da :: allA recA ba.ds.l :: cel g2 (blc ba) 37 :: cel g4 (blc bb) 37 :: (dsA ba.ds) :: (dsA bb.ds) :: (rsA ba.rs) :: allA mrA ba.rs.l :: (rsA bb.rs) :: allA mrA bb.rs.l :: blA ba :: blA bb :: L) rfl)
       clear hS47
       have hS49 := hS48.permT [2] (L' := recA da :: recA db :: allA recA bb.ds.l :: allA recA ba.ds.l :: cel g2 (blc ba) 37 :: cel g4 (blc bb) 37 :: (dsA ba.ds) :: (dsA bb.ds) :: (rsA ba.rs) :: allA mrA ba.rs.l :: (rsA bb.rs) :: allA mrA bb.rs.l :: blA ba :: blA bb :: L) rfl
       clear hS48
       refine WO.call rfl rfl Ty.hd17 rfl (r12same_spec da db (hza.d da (List.mem_of_getElem? hd1)) (hzb.d db (List.mem_of_getElem? hd2)) hS49) (fun v51 w50 pv51 => ?_)
       obtain ⟨q9, rfl, hq9, hS50⟩ := pv51
       clear hS49
       refine WO.nil ?_
       have s52 : (∀ jz, World.cell? w50 ⟨g2, jz, none⟩ = (blc ba)[jz]?) ∧ (∀ jz, World.cell? w50 ⟨g4, jz, none⟩ = (blc bb)[jz]?) ∧ Rd w50 ba.ds.a ba.ds.l.length 5 (ba.ds.l.flatMap rcc) ∧ Rd w50 bb.ds.a bb.ds.l.length 5 (bb.ds.l.flatMap rcc) := ⟨hS50.cel_at 4 rfl, hS50.cel_at 5 rfl, (rdH_rd (hS50.focus 6 rfl)), (rdH_rd (hS50.focus 7 rfl))⟩
       refine NX.held s52 ?_
       refine DP (i := 11) t8_12 (bt 12 4095) rfl rfl rfl rfl (fun w => run_not rfl rfl) ?_
       refine WD.done t8_12 (by kernel_rfl) ?_
       refine NX.go ?_
       refine WP.condB rfl (fun g95 => ?_) (fun g95 => ?_)
       ·
        refine WP.seq (WP.region rfl ?_)
        refine WO.asg rfl rfl ?_
        refine WO.nil (NX.go (WP.ret (NX.blkRet (NX.thenRet (NX.thenRet (NX.blkRet (NX.thenRet ?_)))))))
        refine NX.done (l := [.tmp 4]) rfl rfl ?_
        exact ⟨false, rfl, ⟨(fun h => by cases h), (fun (e : ba.p = bb.p) => by have h9 := hgo2.2 (congrArg BlkP.dels e); rw [drop_cons hd1, drop_cons hd2] at h9; have h8 := (List.cons.inj h9).1; rw [hq9.2 h8] at g95; cases g95)⟩, hS50.drop.drop.drop.drop.drop.drop.drop.drop.drop.drop.drop.drop⟩
       ·
        refine WP.skip (NX.blk (NX.go (WP.region rfl ?_)))
        refine WO.mv rfl rfl ?_
        refine WO.V (run_add rfl rfl (IntWalk.i64_in _ (by omega))) ?_
        refine WO.asg rfl rfl ?_
        refine WO.nil ?_
        exact NX.again (j + 1) ⟨⟨by omega, by rw [drop_cons hd1, drop_cons hd2, List.map_cons, List.map_cons] at hgo2; rw [← hgo2, hq9.1 (by simpa using g95)]; simp⟩, (hS50.permT [0, 0, 2, 2, 2, 1, 1] (L' := recA da :: recA db :: cel g2 (blc ba) 37 :: cel g4 (blc bb) 37 :: (dsA ba.ds) :: allA recA ba.ds.l :: (dsA bb.ds) :: allA recA bb.ds.l :: (rsA ba.rs) :: allA mrA ba.rs.l :: (rsA bb.rs) :: allA mrA bb.rs.l :: blA ba :: blA bb :: L) rfl).drop.drop⟩ (by show ba.ds.l.length - (j + 1) < ba.ds.l.length - j; omega) (Sub.cons rfl (Sub.cons rfl (Sub.consE rfl (by congr 1) (Sub.nil _))))
      ·
       refine WP.exit (NX.thenExit (NX.thenExit ?_))
       refine NX.blkExit ?_
       refine NX.go (WP.seq (WP.region rfl ?_))
       refine WO.asg rfl rfl ?_
       refine WO.nil (NX.go (WP.ret ?_))
       refine NX.done (l := [.tmp 4]) rfl rfl ?_
       have hdd := hgo2.1 (by rw [List.drop_of_length_le (by omega), List.drop_of_length_le (by omega)])
       exact ⟨true, rfl, ⟨fun _ => by show BlkP.mk _ _ _ _ = BlkP.mk _ _ _ _; rw [show ba.first = bb.first by simpa using g14, show ba.to = bb.to by simpa using g21, hrr, hdd], fun _ => rfl⟩, hS44.drop.drop.drop.drop.drop.drop.drop.drop.drop.drop⟩
end Go.Proofs.YtegcibphlpanfaaGreatDoor.SL

/- The document's block of the program's. -/
namespace Go.Proofs.YtegcibphlpanfaaGreatDoor.SL
open Go.RowKit Go.Proofs.YtegcibphlpanfaaGreatDoor
open Go.Proofs.YtegcibphlpanfaaGreatDoorW.PrintLast (rtab opsOf)
set_option linter.unusedVariables false
set_option linter.unusedSimpArgs false
theorem from15_spec {B w : World} {L : List HP} (b1 : BlkV) (hnr : b1.rs.l.length ≤ 1099511627776) (hS : St B (blA b1 :: L) w) : Does Tryz.prog 9 [Value.agg #[Value.int .i64 b1.first, Value.int .i64 b1.to, Value.slice b1.rs.a b1.rs.l.length b1.rs.cap, Value.slice b1.ds.a b1.ds.l.length b1.ds.cap]] w (fun v w1 => ∃ oa oc, v = .agg (blc (⟨b1.first, b1.to, ⟨oa, b1.rs.l, oc⟩, b1.ds⟩ : BlkV)).toArray ∧ St B (blA (⟨b1.first, b1.to, ⟨oa, b1.rs.l, oc⟩, b1.ds⟩ : BlkV) :: blA b1 :: L) w1) := by
 replace hS := blA_open hS
 refine enter (n := 38) Tryz.func9 rfl rfl [Value.agg #[Value.int .i64 b1.first, Value.int .i64 b1.to, Value.slice b1.rs.a b1.rs.l.length b1.rs.cap, Value.slice b1.ds.a b1.ds.l.length b1.ds.cap]] rfl ?_
 refine WP.seq (WP.region rfl ?_)
 refine WO.box (l := (blc b1)) hS rfl rfl rfl (fun g2 w1 lg2 hS1 => ?_)
 clear hS
 refine WO.alloc (l := [Value.int .i64 0, Value.int .i64 0, Value.slice none 0 0, Value.slice none 0 0]) hS1 Ty.zr37 rfl rfl (fun g4 w3 lg4 hS3 => ?_)
 clear hS1
 refine WO.nil (NX.go (WP.seq (WP.region rfl ?_)))
 refine WO.V (run_fa 0 ⟨g2, 0, none⟩ rfl rfl) ?_
 refine WO.V (run_load Ty.ag3 rfl ((hS3.cel_at 1 rfl 0).trans rfl)) ?_
 refine WO.V (run_fa 1 ⟨g2, 1, none⟩ rfl rfl) ?_
 refine WO.V (run_load Ty.ag3 rfl ((hS3.cel_at 1 rfl 1).trans rfl)) ?_
 refine WO.V (run_fa 3 ⟨g2, 3, none⟩ rfl rfl) ?_
 refine WO.V (run_load Ty.ag22 rfl ((hS3.cel_at 1 rfl 3).trans rfl)) ?_
 refine WO.V (run_build (v := Value.agg #[Value.int .i64 b1.first, Value.int .i64 b1.to, Value.slice none 0 0, Value.slice b1.ds.a b1.ds.l.length b1.ds.cap]) rfl (fun w => by kernel_rfl)) ?_
 refine WO.alloc (l := [Value.int .i64 0, Value.int .i64 0, Value.slice none 0 0, Value.slice none 0 0]) hS3 Ty.zr37 rfl rfl (fun g6 w5 lg6 hS5 => ?_)
 clear hS3
 refine WO.store (l' := [Value.int .i64 b1.first, Value.int .i64 b1.to, Value.slice none 0 0, Value.slice b1.ds.a b1.ds.l.length b1.ds.cap]) 0 hS5 rfl Ty.sz37 rfl rfl rfl rfl rfl (Nat.le_of_ble_eq_true rfl) rfl (fun w7 (hS7 : St B (cel g6 [Value.int .i64 b1.first, Value.int .i64 b1.to, Value.slice none 0 0, Value.slice b1.ds.a b1.ds.l.length b1.ds.cap] 37 :: cel g4 [Value.int .i64 0, Value.int .i64 0, Value.slice none 0 0, Value.slice none 0 0] 37 :: cel g2 (blc b1) 31 :: (rsA b1.rs) :: allA mrA b1.rs.l :: (dsA b1.ds) :: allA recA b1.ds.l :: blA b1 :: L) w7) => ?_)
 clear hS5
 refine WO.nil (NX.go (WP.seq (WP.seq (WP.region rfl ?_))))
 refine WO.asg rfl rfl ?_
 refine WO.nil (NX.go (WP.block ?_))
 have hS8 : St B (cel g6 [Value.int .i64 b1.first, Value.int .i64 b1.to, Value.slice none 0 0, Value.slice b1.ds.a b1.ds.l.length b1.ds.cap] 37 :: cel g2 (blc b1) 31 :: (rsA b1.rs) :: allA mrA b1.rs.l :: cel g4 [Value.int .i64 0, Value.int .i64 0, Value.slice none 0 0, Value.slice none 0 0] 37 :: (dsA b1.ds) :: allA recA b1.ds.l :: blA b1 :: L) w7 := (hS7.permT [0, 1, 1, 1] (L' := cel g6 [Value.int .i64 b1.first, Value.int .i64 b1.to, Value.slice none 0 0, Value.slice b1.ds.a b1.ds.l.length b1.ds.cap] 37 :: cel g2 (blc b1) 31 :: (rsA b1.rs) :: allA mrA b1.rs.l :: cel g4 [Value.int .i64 0, Value.int .i64 0, Value.slice none 0 0, Value.slice none 0 0] 37 :: (dsA b1.ds) :: allA recA b1.ds.l :: blA b1 :: L) rfl)
 clear hS7
 replace hS8 := hS8.own_nil 60 3
 refine WP.loop (α := Nat × Option Addr × Nat) (fun x => match x with | ⟨i, oa, oc⟩ => [(1, Value.pointer (some ⟨g2, 0, none⟩)), (2, Value.pointer (some ⟨g4, 0, none⟩)), (3, Value.pointer (some ⟨g6, 0, none⟩)), (4, Value.int .i64 (i : Int))]) (fun x w => match x with | ⟨i, oa, oc⟩ => (i ≤ b1.rs.l.length) ∧ St B (own oa i oc 60 3 ((b1.rs.l.take i).flatMap mrc) :: cel g6 [Value.int .i64 b1.first, Value.int .i64 b1.to, Value.slice oa i oc, Value.slice b1.ds.a b1.ds.l.length b1.ds.cap] 37 :: cel g2 (blc b1) 31 :: (rsA b1.rs) :: allA mrA b1.rs.l :: cel g4 [Value.int .i64 0, Value.int .i64 0, Value.slice none 0 0, Value.slice none 0 0] 37 :: (dsA b1.ds) :: allA recA b1.ds.l :: blA b1 :: L) w) (fun x => match x with | ⟨i, oa, oc⟩ => b1.rs.l.length - i) (0, none, 0) ⟨Nat.zero_le _, hS8⟩ (Sub.cons rfl (Sub.cons rfl (Sub.cons rfl (Sub.consE rfl (by first | rfl | first | rfl | (congr 1; omega) | (simp; done) | (simp; omega)) (Sub.nil _))))) ?_
 rintro ⟨i, oa, oc⟩ w9 ⟨hi, hS9⟩
 clear hS8
 refine WP.seq (WP.seq (WP.region rfl ?_))
 refine WO.mv rfl rfl ?_
 refine WO.V (run_fa 2 ⟨g2, 2, none⟩ rfl rfl) ?_
 refine WO.V (run_load Ty.ag29 rfl ((hS9.cel_at 2 rfl 2).trans rfl)) ?_
 refine WO.V (run_len rfl Tryz.underlying29 rfl) ?_
 refine WO.V (run_lss rfl rfl) ?_
 refine WO.nil (NX.go ?_)
 refine WP.condP rfl (fun g17 => ?_) (fun g17 => ?_)
 ·
  refine WP.skip (NX.go (WP.seq (WP.block (WP.seq ?_))))
  obtain ⟨u, hu⟩ : ∃ qq, b1.rs.l[i]? = some qq := ⟨_, List.getElem?_eq_getElem (by omega)⟩
  refine WP.region rfl ?_
  refine WO.V (run_fa 2 ⟨g2, 2, none⟩ rfl rfl) ?_
  refine WO.V (run_load Ty.ag29 rfl ((hS9.cel_at 2 rfl 2).trans rfl)) ?_
  refine WO.mv rfl rfl ?_
  refine WO.V (run_indexAddr (q := adr b1.rs.a (i * 3)) Tryz.underlying29 Ty.sz64 rfl rfl (by omega) (by omega) ((rdH_rd (hS9.focus 3 rfl)).2.1 (by omega)) rfl) ?_
  refine WO.V (run_loadAgg (vs := (mrc u)) Ty.ag64 Ty.sz64 rfl ((rdH_rd (hS9.focus 3 rfl)).cells (by rw [flat_len mrc_len]; omega) (flat_part mrc_len hu)).1 ((rdH_rd (hS9.focus 3 rfl)).cells (by rw [flat_len mrc_len]; omega) (flat_part mrc_len hu)).2) ?_
  refine WO.alloc (l := [Value.slice none 0 0, Value.int .i64 0, Value.slice none 0 0]) hS9 Ty.zr64 rfl rfl (fun g11 w10 lg11 hS10 => ?_)
  clear hS9
  refine WO.store (l' := (mrc u)) 0 hS10 rfl Ty.sz64 rfl rfl rfl rfl rfl (Nat.le_of_ble_eq_true rfl) rfl (fun w12 (hS12 : St B (cel g11 (mrc u) 64 :: own oa i oc 60 3 ((b1.rs.l.take i).flatMap mrc) :: cel g6 [Value.int .i64 b1.first, Value.int .i64 b1.to, Value.slice oa i oc, Value.slice b1.ds.a b1.ds.l.length b1.ds.cap] 37 :: cel g2 (blc b1) 31 :: (rsA b1.rs) :: allA mrA b1.rs.l :: cel g4 [Value.int .i64 0, Value.int .i64 0, Value.slice none 0 0, Value.slice none 0 0] 37 :: (dsA b1.ds) :: allA recA b1.ds.l :: blA b1 :: L) w12) => ?_)
  clear hS10
  refine WO.nil (NX.go (WP.region rfl ?_))
  refine WO.V (run_fa 2 ⟨g6, 2, none⟩ rfl rfl) ?_
  refine WO.V (run_load Ty.ag35 rfl ((hS12.cel_at 2 rfl 2).trans rfl)) ?_
  refine WO.V (run_fa 0 ⟨g11, 0, none⟩ rfl rfl) ?_
  refine WO.V (run_load Ty.ag44 rfl ((hS12.cel_at 0 rfl 0).trans rfl)) ?_
  refine WO.V (run_fa 1 ⟨g11, 1, none⟩ rfl rfl) ?_
  refine WO.V (run_load Ty.ag2 rfl ((hS12.cel_at 0 rfl 1).trans rfl)) ?_
  refine WO.V (run_fa 2 ⟨g11, 2, none⟩ rfl rfl) ?_
  refine WO.V (run_load Ty.ag56 rfl ((hS12.cel_at 0 rfl 2).trans rfl)) ?_
  refine WO.V (run_build (v := Value.agg #[Value.slice u.lb.a u.lb.l.length u.lb.cap, Value.int .i64 u.last, Value.slice u.pt.a u.pt.l.length u.pt.cap]) rfl (fun w => by kernel_rfl)) ?_
  refine WO.buildSlice (l := (mrc u)) hS12 Tryz.underlying35 rfl (fun w => by kernel_rfl) rfl (fun g14 w13 lg14 hS13 => ?_)
  clear hS12
  refine WO.append (news := (mrc u)) 2 rfl Tryz.underlying35 Tryz.underlying35 (fun _ h => by cases h) Ty.sz60 (by decide) Ty.by60 Ty.zr60 rfl rfl rfl rfl hS13 rfl ((hS13.cel_rd 0 rfl (o := 0) (m := 1) (k := 3) rfl (Nat.le_of_ble_eq_true rfl)).src) rfl (by omega) (by omega) (fun a16 c17 w15 hS15 => ?_)
  replace hS15 : St B (cel g14 (mrc u) 60 :: cel g11 (mrc u) 64 :: own a16 (i + 1) c17 60 3 (((b1.rs.l.take i).flatMap mrc) ++ (mrc u)) :: cel g6 [Value.int .i64 b1.first, Value.int .i64 b1.to, Value.slice oa i oc, Value.slice b1.ds.a b1.ds.l.length b1.ds.cap] 37 :: cel g2 (blc b1) 31 :: (rsA b1.rs) :: allA mrA b1.rs.l :: cel g4 [Value.int .i64 0, Value.int .i64 0, Value.slice none 0 0, Value.slice none 0 0] 37 :: (dsA b1.ds) :: allA recA b1.ds.l :: blA b1 :: L) w15 := hS15
  clear hS13
  refine WO.V (run_fa 2 ⟨g6, 2, none⟩ rfl rfl) ?_
  refine WO.store (l' := [Value.int .i64 b1.first, Value.int .i64 b1.to, Value.slice a16 (i + 1) c17, Value.slice b1.ds.a b1.ds.l.length b1.ds.cap]) 3 hS15 rfl Ty.sz35 rfl rfl rfl rfl rfl (Nat.le_of_ble_eq_true rfl) rfl (fun w18 (hS18 : St B (cel g14 (mrc u) 60 :: cel g11 (mrc u) 64 :: own a16 (i + 1) c17 60 3 (((b1.rs.l.take i).flatMap mrc) ++ (mrc u)) :: cel g6 [Value.int .i64 b1.first, Value.int .i64 b1.to, Value.slice a16 (i + 1) c17, Value.slice b1.ds.a b1.ds.l.length b1.ds.cap] 37 :: cel g2 (blc b1) 31 :: (rsA b1.rs) :: allA mrA b1.rs.l :: cel g4 [Value.int .i64 0, Value.int .i64 0, Value.slice none 0 0, Value.slice none 0 0] 37 :: (dsA b1.ds) :: allA recA b1.ds.l :: blA b1 :: L) w18) => ?_)
  clear hS15
  refine WO.nil (NX.blk (NX.go (WP.region rfl ?_)))
  refine WO.mv rfl rfl ?_
  refine WO.V (run_add rfl rfl (IntWalk.i64_in _ (by omega))) ?_
  refine WO.asg rfl rfl ?_
  refine WO.nil ?_
  exact NX.again (i + 1, a16, c17) ⟨by omega, own_eqM hS18.drop.drop rfl (by rw [take_snocM hu]; simp [mrc])⟩ (by show b1.rs.l.length - (i + 1) < b1.rs.l.length - i; omega) (Sub.cons rfl (Sub.cons rfl (Sub.cons rfl (Sub.consE rfl (by congr 1) (Sub.nil _)))))
 ·
  refine WP.exit (NX.thenExit (NX.thenExit ?_))
  refine NX.blkExit ?_
  refine NX.go (WP.seq (WP.region rfl ?_))
  refine WO.V (run_loadAgg (vs := [Value.int .i64 b1.first, Value.int .i64 b1.to, Value.slice oa i oc, Value.slice b1.ds.a b1.ds.l.length b1.ds.cap]) Ty.ag37 Ty.sz37 rfl rfl (cell_all (hS9.cel_at 1 rfl) 0 rfl)) ?_
  refine WO.store (l' := [Value.int .i64 b1.first, Value.int .i64 b1.to, Value.slice oa i oc, Value.slice b1.ds.a b1.ds.l.length b1.ds.cap]) 5 hS9 rfl Ty.sz37 rfl rfl rfl rfl rfl (Nat.le_of_ble_eq_true rfl) rfl (fun w19 (hS19 : St B (own oa i oc 60 3 ((b1.rs.l.take i).flatMap mrc) :: cel g6 [Value.int .i64 b1.first, Value.int .i64 b1.to, Value.slice oa i oc, Value.slice b1.ds.a b1.ds.l.length b1.ds.cap] 37 :: cel g2 (blc b1) 31 :: (rsA b1.rs) :: allA mrA b1.rs.l :: cel g4 [Value.int .i64 b1.first, Value.int .i64 b1.to, Value.slice oa i oc, Value.slice b1.ds.a b1.ds.l.length b1.ds.cap] 37 :: (dsA b1.ds) :: allA recA b1.ds.l :: blA b1 :: L) w19) => ?_)
  clear hS9
  refine WO.nil (NX.go (WP.ret ?_))
  refine NX.doneC (l := [.cell 2 37]) rfl (.cons (.cell rfl (loadVar_agg (vs := [Value.int .i64 b1.first, Value.int .i64 b1.to, Value.slice oa i oc, Value.slice b1.ds.a b1.ds.l.length b1.ds.cap]) Ty.ag37 Ty.sz37 rfl (cell_all (hS19.cel_at 5 rfl) 0 rfl))) .nil) ?_
  have hie : i = b1.rs.l.length := by omega
  have hq1 : St B (rsA ⟨oa, b1.rs.l, oc⟩ :: cel g6 [Value.int .i64 b1.first, Value.int .i64 b1.to, Value.slice oa i oc, Value.slice b1.ds.a b1.ds.l.length b1.ds.cap] 37 :: cel g2 (blc b1) 31 :: (rsA b1.rs) :: allA mrA b1.rs.l :: cel g4 [Value.int .i64 b1.first, Value.int .i64 b1.to, Value.slice oa i oc, Value.slice b1.ds.a b1.ds.l.length b1.ds.cap] 37 :: (dsA b1.ds) :: allA recA b1.ds.l :: blA b1 :: L) w19 := rdH_own (own_eqM hS19 hie (by rw [List.take_of_length_le (by omega)]))
  have hq3 := (((hq1.mask [true, false, false, false, true, false] (L' := rsA ⟨oa, b1.rs.l, oc⟩ :: allA mrA b1.rs.l :: (dsA b1.ds) :: allA recA b1.ds.l :: blA b1 :: L) rfl).permT [2, 2, 1] (L' := (dsA b1.ds) :: allA recA b1.ds.l :: allA mrA b1.rs.l :: rsA ⟨oa, b1.rs.l, oc⟩ :: blA b1 :: L) rfl)).join
  have hq4 := (hq3.permT [1, 0, 0, 0] (L' := allA mrA b1.rs.l :: .sep ((dsA b1.ds)) (allA recA b1.ds.l) :: rsA ⟨oa, b1.rs.l, oc⟩ :: blA b1 :: L) rfl).join
  have hq5 := (hq4.permT [1, 0, 0] (L' := rsA ⟨oa, b1.rs.l, oc⟩ :: .sep (allA mrA b1.rs.l) (.sep ((dsA b1.ds)) (allA recA b1.ds.l)) :: blA b1 :: L) rfl).join
  exact ⟨oa, oc, by rw [hie]; rfl, hq5⟩
end Go.Proofs.YtegcibphlpanfaaGreatDoor.SL
