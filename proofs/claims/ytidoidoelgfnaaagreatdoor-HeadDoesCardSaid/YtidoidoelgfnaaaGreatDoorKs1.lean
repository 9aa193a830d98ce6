/- Records, compared. -/
import Derived.Test.YtidoidoelgfnaaaGreatDoorKg1M
import Derived.Test.YtidoidoelgfnaaaGreatDoorKc
import Derived.Test.YtidoidoelgfnaaaGreatDoorKmM
namespace Go.Proofs.YtidoidoelgfnaaaGreatDoor.SL
open Go.RowKit Go.Proofs.YtidoidoelgfnaaaGreatDoor
open Go.Proofs.YtidoidoelgfnaaaGreatDoorW.PrintLast (rtab opsOf)
set_option linter.unusedVariables false
set_option linter.unusedSimpArgs false

instance decMt : DecidableEq Mt := fun p q => decidable_of_iff (p.k = q.k ∧ p.n = q.n ∧ p.v = q.v) (by cases p; cases q; simp)
theorem eqIn_Mt (p q : Mt) (w : World) : (Op.equalIn 10000 151 (.agg #[.int .i64 p.k, str p.n, str p.v]) (.agg #[.int .i64 q.k, str q.n, str q.v])).run Tryz.prog w = .ok (decide (p = q)) w := by
  have u3 := Tryz.underlying3
  have a3 := Tryz.isAgg3
  have z3 := Tryz.sizeOf3
  have u9 := Tryz.underlying9
  have a9 := Tryz.isAgg9
  have z9 := Tryz.sizeOf9
  have hS : Tryz.prog.underlying 151 = some (.struct (Tryz.prog.fieldsOf 151)) := by kernel_rfl
  have hp : Tryz.prog.stoodInHeld 151 = false := by kernel_rfl
  rw [show (10000 : Nat) = 9999 + 1 from rfl, run_equalIn_agg w 9999 151 _ _ hS hp]
  simp only [Program.fieldsOf, Tryz.underlying151]
  go_simp
  obtain ⟨k, n, v⟩ := p
  obtain ⟨k', n', v'⟩ := q
  by_cases h0 : k = k' <;> by_cases h1 : n = n' <;> by_cases h2 : v = v' <;> simp [h0, h1, h2, ByteArray.toList_eq]
theorem run_neqMt {n : Nat} {D : List Deferred} {T : Tm} {w : World} {u : TypeId} {x y : Operand} {dst : Option Nat} {ty : TypeId} {pos : String} {aft : Array Edge} (p q : Mt) (hx : ev T x = some (.agg #[.int .i64 p.k, str p.n, str p.v])) (hy : ev T y = some (.agg #[.int .i64 q.k, str q.n, str q.v])) : Run Tryz.prog n D T w ⟨dst, .binOp .neq 151 x y u, ty, pos, aft, none⟩ (.bool (decide (¬ p = q))) w := fun c f => by
  have hg : Tryz.prog.eqGuardType Tryz.prog.depth 151 = false := by kernel_rfl
  have h := eqIn_Mt p q w
  have h2 : (Op.equal 151 (.agg #[.int .i64 p.k, str p.n, str p.v]) (.agg #[.int .i64 q.k, str q.n, str q.v])).run Tryz.prog w = .ok (decide (p = q)) w := h
  simp [execOp, f.ev hx, f.ev hy, eqGuard, hg, binOp, h2]
theorem t74_6 : rtab .any (opsOf Tryz.f74 6) = (true, [([], []), ([], []), ([0, 1], [0, 1]), ([2], [2]), ([], []), ([], []), ([4, 5], [4, 5]), ([6], [6]), ([3, 7], [3, 7])]) := by kernel_rfl
theorem rmsame_spec {B w : World} {L : List HP} {X Y : HP} {a b : Option Addr} {cap cap2 : Nat} {l m : List Mt} (hX : ∀ {L : List HP} {w : World}, St B (X :: L) w → Rd w a l.length 3 (l.flatMap mtc)) (hY : ∀ {L : List HP} {w : World}, St B (Y :: L) w → Rd w b m.length 3 (m.flatMap mtc)) (hl : l.length ≤ 4398046511104) (hm : m.length ≤ 4398046511104) (hS : St B (X :: Y :: L) w) : Does Tryz.prog 74 [Value.slice a l.length cap, Value.slice b m.length cap2] w (fun v w1 => v = .bool (decide (l = m)) ∧ St B (X :: Y :: L) w1) := by
 refine enter (n := 26) Tryz.func74 rfl rfl [Value.slice a l.length cap, Value.slice b m.length cap2] rfl ?_
 refine WP.seq (WP.region rfl ?_)
 refine WO.asg rfl rfl ?_
 refine WO.nil (NX.go (WP.seq (WP.seq (WP.region rfl ?_))))
 refine WO.mv rfl rfl ?_
 refine WO.V (run_len rfl Tryz.underlying24 rfl) ?_
 refine WO.mv rfl rfl ?_
 refine WO.V (run_len rfl Tryz.underlying24 rfl) ?_
 refine WO.V (run_neq rfl rfl) ?_
 refine WO.nil (NX.go ?_)
 refine WP.condP rfl (fun g10 => ?_) (fun g10 => ?_)
 ·
  refine WP.seq (WP.region rfl ?_)
  refine WO.asg rfl rfl ?_
  refine WO.nil (NX.go (WP.ret (NX.thenRet ?_)))
  refine NX.done (l := [.tmp 4]) rfl rfl ?_
  exact ⟨congrArg Value.bool (decide_eq_false (fun e => by rw [e] at g10; exact g10 rfl)).symm, hS⟩
 ·
  refine WP.skip (NX.go (WP.seq (WP.seq (WP.region rfl ?_))))
  refine WO.asg rfl rfl ?_
  refine WO.nil (NX.go (WP.block ?_))
  refine WP.loop (α := Nat) (fun x => match x with | i => [(0, Value.slice a l.length cap), (1, Value.slice b m.length cap2), (5, Value.int .i64 (i : Int))]) (fun x w => match x with | i => (i ≤ l.length ∧ (l.drop i = m.drop i ↔ l = m)) ∧ St B (X :: Y :: L) w) (fun x => match x with | i => l.length - i) 0 ⟨⟨Nat.zero_le _, Iff.rfl⟩, hS⟩ (Sub.cons rfl (Sub.cons rfl (Sub.consE rfl (by first | rfl | first | rfl | (congr 1; omega) | (simp; done) | (simp; omega)) (Sub.nil _)))) ?_
  rintro i w1 ⟨⟨hi, hgo⟩, hS1⟩
  clear hS
  refine WP.seq (WP.seq (WP.region rfl ?_))
  refine WO.mv rfl rfl ?_
  refine WO.mv rfl rfl ?_
  refine WO.V (run_len rfl Tryz.underlying24 rfl) ?_
  refine WO.V (run_lss rfl rfl) ?_
  refine WO.nil (NX.go ?_)
  refine WP.condP rfl (fun g14 => ?_) (fun g14 => ?_)
  ·
   refine WP.skip (NX.go (WP.seq (WP.block (WP.seq ?_))))
   obtain ⟨p, hp⟩ : ∃ p, l[i]? = some p := ⟨_, List.getElem?_eq_getElem (by omega)⟩
   obtain ⟨q, hq⟩ : ∃ q, m[i]? = some q := ⟨_, List.getElem?_eq_getElem (by omega)⟩
   have hsa : a.isSome = true := rd_isSome ((hX (hS1.focus 0 rfl))) (by omega)
   have hsb : b.isSome = true := rd_isSome ((hY (hS1.focus 1 rfl))) (by omega)
   refine WD.start (fun w => Rd w a l.length 3 (l.flatMap mtc) ∧ Rd w b m.length 3 (m.flatMap mtc)) [] (bt 9 0) Ty.mo rfl (by kernel_rfl) hS1 (fun _ h => ⟨(hX (h.focus 0 rfl)), (hY (h.focus 1 rfl))⟩) (fun w2 hS2 s3 => ?_)
   clear hS1
   refine DP (i := 0) t74_6 (bt 9 1) rfl rfl rfl rfl (fun w => run_move rfl) ?_
   refine DP (i := 1) t74_6 (bt 9 3) rfl rfl rfl rfl (fun w => run_move rfl) ?_
   refine DT (i := 2) t74_6 (bt 9 7) s3 rfl rfl rfl rfl (fun w hs => run_indexAddr (q := adr a (i * 3)) Tryz.underlying24 Ty.sz151 rfl rfl (by omega) (by omega) ((hs.1).2.1 (by omega)) rfl) ?_
   refine DT (i := 3) t74_6 (bt 9 15) s3 rfl rfl rfl rfl (fun w hs => run_loadAgg (vs := [Value.int .i64 p.k, str p.n, str p.v]) Ty.ag151 Ty.sz151 rfl ((hs.1).cells (by rw [flat_len mtc_len]; omega) (flat_part mtc_len hp)).1 ((hs.1).cells (by rw [flat_len mtc_len]; omega) (flat_part mtc_len hp)).2) ?_
   refine DP (i := 4) t74_6 (bt 9 31) rfl rfl rfl rfl (fun w => run_move rfl) ?_
   refine DP (i := 5) t74_6 (bt 9 63) rfl rfl rfl rfl (fun w => run_move rfl) ?_
   refine DT (i := 6) t74_6 (bt 9 127) s3 rfl rfl rfl rfl (fun w hs => run_indexAddr (q := adr b (i * 3)) Tryz.underlying24 Ty.sz151 rfl rfl (by omega) (by omega) ((hs.2).2.1 (by omega)) rfl) ?_
   refine DT (i := 7) t74_6 (bt 9 255) s3 rfl rfl rfl rfl (fun w hs => run_loadAgg (vs := [Value.int .i64 q.k, str q.n, str q.v]) Ty.ag151 Ty.sz151 rfl ((hs.2).cells (by rw [flat_len mtc_len]; omega) (flat_part mtc_len hq)).1 ((hs.2).cells (by rw [flat_len mtc_len]; omega) (flat_part mtc_len hq)).2) ?_
   refine DP (i := 8) t74_6 (bt 9 511) rfl rfl rfl rfl (fun w => run_neqMt p q rfl rfl) ?_
   refine WD.done t74_6 (by kernel_rfl) ?_
   refine NX.go ?_
   refine WP.condP rfl (fun g25 => ?_) (fun g25 => ?_)
   ·
    refine WP.seq (WP.region rfl ?_)
    refine WO.asg rfl rfl ?_
    refine WO.nil (NX.go (WP.ret (NX.blkRet (NX.thenRet (NX.thenRet (NX.blkRet (NX.thenRet ?_)))))))
    refine NX.done (l := [.tmp 4]) rfl rfl ?_
    exact ⟨congrArg Value.bool (decide_eq_false (fun e => by rw [← hgo, drop_cons hp, drop_cons hq] at e; exact g25 (List.cons.inj e).1)).symm, hS2⟩
   ·
    refine WP.skip (NX.blk (NX.go (WP.region rfl ?_)))
    refine WO.mv rfl rfl ?_
    refine WO.V (run_add rfl rfl (IntWalk.i64_in _ (by omega))) ?_
    refine WO.asg rfl rfl ?_
    refine WO.nil ?_
    exact NX.again (i + 1) ⟨⟨by omega, by rw [drop_cons hp, drop_cons hq] at hgo; rw [← hgo]; have : p = q := (by simpa using g25); subst this; simp⟩, hS2⟩ (by show l.length - (i + 1) < l.length - i; omega) (Sub.cons rfl (Sub.cons rfl (Sub.consE rfl (by congr 1) (Sub.nil _))))
  ·
   refine WP.exit (NX.thenExit (NX.thenExit ?_))
   refine NX.blkExit ?_
   refine NX.go (WP.seq (WP.region rfl ?_))
   refine WO.asg rfl rfl ?_
   refine WO.nil (NX.go (WP.ret ?_))
   refine NX.done (l := [.tmp 4]) rfl rfl ?_
   exact ⟨congrArg Value.bool (decide_eq_true (hgo.1 (by rw [List.drop_of_length_le (by omega), List.drop_of_length_le (by omega)]))).symm, hS1⟩
theorem t40_6 : rtab .any (opsOf Tryz.f40 6) = (true, [([], []), ([0], [0]), ([], []), ([1, 2], [1, 2]), ([3], [3]), ([], []), ([5], [5]), ([], []), ([6, 7], [6, 7]), ([8], [8]), ([], []), ([], []), ([10, 4, 0, 1, 2, 3, 4, 10, 11], [4, 10]), ([11, 9, 12, 0, 1, 2, 3, 4, 5, 6, 7, 8, 9, 10, 11, 12], [9, 11])]) := by kernel_rfl
theorem r12same_spec {B w : World} {L : List HP} (ra rb : Rcd) (hza : SzR ra) (hzb : SzR rb) (hS : St B (recA ra :: recA rb :: L) w) : Does Tryz.prog 40 [Value.agg #[Value.int .i64 ra.k, Value.slice ra.ss.a ra.ss.l.length ra.ss.cap, Value.slice ra.ms.a ra.ms.l.length ra.ms.cap, Value.int .i64 ra.fr, Value.int .i64 ra.to], Value.agg #[Value.int .i64 rb.k, Value.slice rb.ss.a rb.ss.l.length rb.ss.cap, Value.slice rb.ms.a rb.ms.l.length rb.ms.cap, Value.int .i64 rb.fr, Value.int .i64 rb.to]] w (fun v w1 => ∃ qb, v = .bool qb ∧ (qb = true ↔ ra.p = rb.p) ∧ St B (recA ra :: recA rb :: L) w1) := by
 replace hS := (recA_open ((recA_open hS).permT [4, 0, 0, 0, 0] rfl)).permT [4, 4, 4, 4, 0, 0, 0, 0] (L' := (rdH ra.ss.a ra.ss.l.length 3 (ra.ss.l.flatMap smc)) :: (rdH ra.ms.a ra.ms.l.length 3 (ra.ms.l.flatMap mtc)) :: smsA ra.ss.l :: recA ra :: (rdH rb.ss.a rb.ss.l.length 3 (rb.ss.l.flatMap smc)) :: (rdH rb.ms.a rb.ms.l.length 3 (rb.ms.l.flatMap mtc)) :: smsA rb.ss.l :: recA rb :: L) rfl
 have h1 := hza.ns
 have h2 := hza.nm2
 have h3 := hzb.ns
 have h4 := hzb.nm2
 refine enter (n := 81) Tryz.func40 rfl rfl [Value.agg #[Value.int .i64 ra.k, Value.slice ra.ss.a ra.ss.l.length ra.ss.cap, Value.slice ra.ms.a ra.ms.l.length ra.ms.cap, Value.int .i64 ra.fr, Value.int .i64 ra.to], Value.agg #[Value.int .i64 rb.k, Value.slice rb.ss.a rb.ss.l.length rb.ss.cap, Value.slice rb.ms.a rb.ms.l.length rb.ms.cap, Value.int .i64 rb.fr, Value.int .i64 rb.to]] rfl ?_
 refine WP.seq (WP.region rfl ?_)
 refine WO.box (l := (rcc ra)) hS rfl rfl rfl (fun g2 w1 lg2 hS1 => ?_)
 clear hS
 refine WO.box (l := (rcc rb)) hS1 rfl rfl rfl (fun g4 w3 lg4 hS3 => ?_)
 clear hS1
 refine WO.asg rfl rfl ?_
 refine WO.nil (NX.go (WP.seq (WP.seq (WP.region rfl ?_))))
 refine WO.V (run_fa 0 ⟨g2, 0, none⟩ rfl rfl) ?_
 refine WO.V (run_load Ty.ag3 rfl ((hS3.cel_at 1 rfl 0).trans rfl)) ?_
 refine WO.V (run_fa 0 ⟨g4, 0, none⟩ rfl rfl) ?_
 refine WO.V (run_load Ty.ag3 rfl ((hS3.cel_at 0 rfl 0).trans rfl)) ?_
 refine WO.V (run_neq rfl rfl) ?_
 refine WO.mv rfl rfl ?_
 refine dcase (p := ¬ ra.k = rb.k) (fun g13 d13 => ?_) (fun g13 d13 => ?_)
 ·
  refine WO.off rfl rfl d13 rfl ?_
  refine WO.off rfl rfl d13 rfl ?_
  refine WO.off rfl rfl d13 rfl ?_
  refine WO.off rfl rfl d13 rfl ?_
  refine WO.off rfl rfl d13 rfl ?_
  refine WO.V (run_pickT rfl d13 rfl) ?_
  refine WO.mv rfl rfl ?_
  refine WO.off rfl rfl rfl rfl ?_
  refine WO.off rfl rfl rfl rfl ?_
  refine WO.off rfl rfl rfl rfl ?_
  refine WO.off rfl rfl rfl rfl ?_
  refine WO.off rfl rfl rfl rfl ?_
  refine WO.V (run_pickT rfl rfl rfl) ?_
  refine WO.mv rfl rfl ?_
  refine WO.off rfl rfl rfl rfl ?_
  refine WO.off rfl rfl rfl rfl ?_
  refine WO.off rfl rfl rfl rfl ?_
  refine WO.off rfl rfl rfl rfl ?_
  refine WO.off rfl rfl rfl rfl ?_
  refine WO.off rfl rfl rfl rfl ?_
  refine WO.V (run_pickT rfl rfl rfl) ?_
  refine WO.mv rfl rfl ?_
  refine WO.off rfl rfl rfl rfl ?_
  refine WO.off rfl rfl rfl rfl ?_
  refine WO.off rfl rfl rfl rfl ?_
  refine WO.off rfl rfl rfl rfl ?_
  refine WO.off rfl rfl rfl rfl ?_
  refine WO.off rfl rfl rfl rfl ?_
  refine WO.off rfl rfl rfl rfl ?_
  refine WO.V (run_pickT rfl rfl rfl) ?_
  refine WO.nil (NX.go ?_)
  refine WP.condT rfl rfl ?_
  refine WP.seq (WP.region rfl ?_)
  refine WO.asg rfl rfl ?_
  refine WO.nil (NX.go (WP.ret (NX.thenRet ?_)))
  refine NX.done (l := [.tmp 4]) rfl rfl ?_
  exact ⟨false, rfl, ⟨(fun h => by cases h), (fun (e : ra.p = rb.p) => absurd (congrArg RcP.k e) g13)⟩, (hS3.mask [false, false, false, false, false, true, false, false, false] (L' := recA ra :: recA rb :: L) rfl)⟩
 ·
  refine WO.on rfl rfl d13 ?_
  refine WO.V (run_fa 3 ⟨g2, 3, none⟩ rfl rfl) ?_
  refine WO.on rfl rfl d13 ?_
  refine WO.V (run_load Ty.ag2 rfl ((hS3.cel_at 1 rfl 3).trans rfl)) ?_
  refine WO.on rfl rfl d13 ?_
  refine WO.V (run_fa 3 ⟨g4, 3, none⟩ rfl rfl) ?_
  refine WO.on rfl rfl d13 ?_
  refine WO.V (run_load Ty.ag2 rfl ((hS3.cel_at 0 rfl 3).trans rfl)) ?_
  refine WO.on rfl rfl d13 ?_
  refine WO.V (run_neq rfl rfl) ?_
  refine WO.V (run_pickF rfl d13 rfl) ?_
  refine WO.mv rfl rfl ?_
  refine dcase (p := ¬ ra.fr = rb.fr) (fun g20 d20 => ?_) (fun g20 d20 => ?_)
  ·
   refine WO.off rfl rfl d20 rfl ?_
   refine WO.off rfl rfl d20 rfl ?_
   refine WO.off rfl rfl d20 rfl ?_
   refine WO.off rfl rfl d20 rfl ?_
   refine WO.off rfl rfl d20 rfl ?_
   refine WO.V (run_pickT rfl d20 rfl) ?_
   refine WO.mv rfl rfl ?_
   refine WO.off rfl rfl rfl rfl ?_
   refine WO.off rfl rfl rfl rfl ?_
   refine WO.off rfl rfl rfl rfl ?_
   refine WO.off rfl rfl rfl rfl ?_
   refine WO.off rfl rfl rfl rfl ?_
   refine WO.off rfl rfl rfl rfl ?_
   refine WO.V (run_pickT rfl rfl rfl) ?_
   refine WO.mv rfl rfl ?_
   refine WO.off rfl rfl rfl rfl ?_
   refine WO.off rfl rfl rfl rfl ?_
   refine WO.off rfl rfl rfl rfl ?_
   refine WO.off rfl rfl rfl rfl ?_
   refine WO.off rfl rfl rfl rfl ?_
   refine WO.off rfl rfl rfl rfl ?_
   refine WO.off rfl rfl rfl rfl ?_
   refine WO.V (run_pickT rfl rfl rfl) ?_
   refine WO.nil (NX.go ?_)
   refine WP.condT rfl rfl ?_
   refine WP.seq (WP.region rfl ?_)
   refine WO.asg rfl rfl ?_
   refine WO.nil (NX.go (WP.ret (NX.thenRet ?_)))
   refine NX.done (l := [.tmp 4]) rfl rfl ?_
   exact ⟨false, rfl, ⟨(fun h => by cases h), (fun (e : ra.p = rb.p) => absurd (congrArg RcP.fr e) g20)⟩, (hS3.mask [false, false, false, false, false, true, false, false, false] (L' := recA ra :: recA rb :: L) rfl)⟩
  ·
   refine WO.on rfl rfl d20 ?_
   refine WO.V (run_fa 4 ⟨g2, 4, none⟩ rfl rfl) ?_
   refine WO.on rfl rfl d20 ?_
   refine WO.V (run_load Ty.ag2 rfl ((hS3.cel_at 1 rfl 4).trans rfl)) ?_
   refine WO.on rfl rfl d20 ?_
   refine WO.V (run_fa 4 ⟨g4, 4, none⟩ rfl rfl) ?_
   refine WO.on rfl rfl d20 ?_
   refine WO.V (run_load Ty.ag2 rfl ((hS3.cel_at 0 rfl 4).trans rfl)) ?_
   refine WO.on rfl rfl d20 ?_
   refine WO.V (run_neq rfl rfl) ?_
   refine WO.V (run_pickF rfl d20 rfl) ?_
   refine WO.mv rfl rfl ?_
   refine dcase (p := ¬ ra.to = rb.to) (fun g27 d27 => ?_) (fun g27 d27 => ?_)
   ·
    refine WO.off rfl rfl d27 rfl ?_
    refine WO.off rfl rfl d27 rfl ?_
    refine WO.off rfl rfl d27 rfl ?_
    refine WO.off rfl rfl d27 rfl ?_
    refine WO.off rfl rfl d27 rfl ?_
    refine WO.off rfl rfl d27 rfl ?_
    refine WO.V (run_pickT rfl d27 rfl) ?_
    refine WO.mv rfl rfl ?_
    refine WO.off rfl rfl rfl rfl ?_
    refine WO.off rfl rfl rfl rfl ?_
    refine WO.off rfl rfl rfl rfl ?_
    refine WO.off rfl rfl rfl rfl ?_
    refine WO.off rfl rfl rfl rfl ?_
    refine WO.off rfl rfl rfl rfl ?_
    refine WO.off rfl rfl rfl rfl ?_
    refine WO.V (run_pickT rfl rfl rfl) ?_
    refine WO.nil (NX.go ?_)
    refine WP.condT rfl rfl ?_
    refine WP.seq (WP.region rfl ?_)
    refine WO.asg rfl rfl ?_
    refine WO.nil (NX.go (WP.ret (NX.thenRet ?_)))
    refine NX.done (l := [.tmp 4]) rfl rfl ?_
    exact ⟨false, rfl, ⟨(fun h => by cases h), (fun (e : ra.p = rb.p) => absurd (congrArg RcP.to e) g27)⟩, (hS3.mask [false, false, false, false, false, true, false, false, false] (L' := recA ra :: recA rb :: L) rfl)⟩
   ·
    refine WO.on rfl rfl d27 ?_
    refine WO.V (run_fa 2 ⟨g2, 2, none⟩ rfl rfl) ?_
    refine WO.on rfl rfl d27 ?_
    refine WO.V (run_load Ty.ag24 rfl ((hS3.cel_at 1 rfl 2).trans rfl)) ?_
    refine WO.on rfl rfl d27 ?_
    refine WO.V (run_fa 2 ⟨g4, 2, none⟩ rfl rfl) ?_
    refine WO.on rfl rfl d27 ?_
    refine WO.V (run_load Ty.ag24 rfl ((hS3.cel_at 0 rfl 2).trans rfl)) ?_
    refine WO.on rfl rfl d27 ?_
    have hS5 := hS3.permT [3, 6] (L' := (rdH ra.ms.a ra.ms.l.length 3 (ra.ms.l.flatMap mtc)) :: (rdH rb.ms.a rb.ms.l.length 3 (rb.ms.l.flatMap mtc)) :: cel g4 (rcc rb) 33 :: cel g2 (rcc ra) 33 :: (rdH ra.ss.a ra.ss.l.length 3 (ra.ss.l.flatMap smc)) :: smsA ra.ss.l :: recA ra :: (rdH rb.ss.a rb.ss.l.length 3 (rb.ss.l.flatMap smc)) :: smsA rb.ss.l :: recA rb :: L) rfl
    clear hS3
    refine WO.call rfl rfl Ty.hd74 rfl (rmsame_spec rdH_rd rdH_rd h2 h4 hS5) (fun v7 w6 pv7 => ?_)
    obtain ⟨rfl, hS6⟩ := pv7
    clear hS5
    refine WO.on rfl rfl d27 ?_
    refine WO.V (run_notP rfl) ?_
    refine WO.V (run_pickF rfl d27 rfl) ?_
    refine WO.mv rfl rfl ?_
    refine dcase (p := ¬ (ra.ms.l = rb.ms.l)) (fun g35 d35 => ?_) (fun g35 d35 => ?_)
    ·
     refine WO.off rfl rfl d35 rfl ?_
     refine WO.off rfl rfl d35 rfl ?_
     refine WO.off rfl rfl d35 rfl ?_
     refine WO.off rfl rfl d35 rfl ?_
     refine WO.off rfl rfl d35 rfl ?_
     refine WO.off rfl rfl d35 rfl ?_
     refine WO.off rfl rfl d35 rfl ?_
     refine WO.V (run_pickT rfl d35 rfl) ?_
     refine WO.nil (NX.go ?_)
     refine WP.condT rfl rfl ?_
     refine WP.seq (WP.region rfl ?_)
     refine WO.asg rfl rfl ?_
     refine WO.nil (NX.go (WP.ret (NX.thenRet ?_)))
     refine NX.done (l := [.tmp 4]) rfl rfl ?_
     exact ⟨false, rfl, ⟨(fun h => by cases h), (fun (e : ra.p = rb.p) => absurd (congrArg RcP.ms e) g35)⟩, (hS6.mask [false, false, false, false, false, false, true, false, false] (L' := recA ra :: recA rb :: L) rfl)⟩
    ·
     refine WO.on rfl rfl d35 ?_
     refine WO.V (run_fa 1 ⟨g2, 1, none⟩ rfl rfl) ?_
     refine WO.on rfl rfl d35 ?_
     refine WO.V (run_load Ty.ag31 rfl ((hS6.cel_at 3 rfl 1).trans rfl)) ?_
     refine WO.on rfl rfl d35 ?_
     refine WO.V (run_len rfl Tryz.underlying31 rfl) ?_
     refine WO.on rfl rfl d35 ?_
     refine WO.V (run_fa 1 ⟨g4, 1, none⟩ rfl rfl) ?_
     refine WO.on rfl rfl d35 ?_
     refine WO.V (run_load Ty.ag31 rfl ((hS6.cel_at 2 rfl 1).trans rfl)) ?_
     refine WO.on rfl rfl d35 ?_
     refine WO.V (run_len rfl Tryz.underlying31 rfl) ?_
     refine WO.on rfl rfl d35 ?_
     refine WO.V (run_neq rfl rfl) ?_
     refine WO.V (run_pickF rfl d35 rfl) ?_
     refine WO.nil (NX.go ?_)
     refine WP.condP rfl (fun g43 => ?_) (fun g43 => ?_)
     ·
      refine WP.seq (WP.region rfl ?_)
      refine WO.asg rfl rfl ?_
      refine WO.nil (NX.go (WP.ret (NX.thenRet ?_)))
      refine NX.done (l := [.tmp 4]) rfl rfl ?_
      exact ⟨false, rfl, ⟨(fun h => by cases h), (fun (e : ra.p = rb.p) => by have h9 := congrArg List.length (congrArg RcP.ss e); simp [Rcd.p] at h9; omega)⟩, (hS6.mask [false, false, false, false, false, false, true, false, false] (L' := recA ra :: recA rb :: L) rfl)⟩
     ·
      refine WP.skip (NX.go (WP.seq (WP.seq (WP.region rfl ?_))))
      refine WO.asg rfl rfl ?_
      refine WO.nil (NX.go (WP.block ?_))
      have hS8 : St B (cel g4 (rcc rb) 33 :: cel g2 (rcc ra) 33 :: (rdH ra.ss.a ra.ss.l.length 3 (ra.ss.l.flatMap smc)) :: smsA ra.ss.l :: (rdH rb.ss.a rb.ss.l.length 3 (rb.ss.l.flatMap smc)) :: smsA rb.ss.l :: (rdH ra.ms.a ra.ms.l.length 3 (ra.ms.l.flatMap mtc)) :: (rdH rb.ms.a rb.ms.l.length 3 (rb.ms.l.flatMap mtc)) :: recA ra :: recA rb :: L) w6 := (hS6.permT [2, 2, 2, 2, 3, 3] (L' := cel g4 (rcc rb) 33 :: cel g2 (rcc ra) 33 :: (rdH ra.ss.a ra.ss.l.length 3 (ra.ss.l.flatMap smc)) :: smsA ra.ss.l :: (rdH rb.ss.a rb.ss.l.length 3 (rb.ss.l.flatMap smc)) :: smsA rb.ss.l :: (rdH ra.ms.a ra.ms.l.length 3 (ra.ms.l.flatMap mtc)) :: (rdH rb.ms.a rb.ms.l.length 3 (rb.ms.l.flatMap mtc)) :: recA ra :: recA rb :: L) rfl)
      clear hS6
      have hlen : ra.ss.l.length = rb.ss.l.length := by omega
      refine WP.loop (α := Nat) (fun x => match x with | i => [(2, Value.pointer (some ⟨g2, 0, none⟩)), (3, Value.pointer (some ⟨g4, 0, none⟩)), (5, Value.int .i64 (i : Int))]) (fun x w => match x with | i => (i ≤ ra.ss.l.length ∧ ((ra.ss.l.drop i).map Smp.p = (rb.ss.l.drop i).map Smp.p ↔ ra.ss.l.map Smp.p = rb.ss.l.map Smp.p)) ∧ St B (cel g4 (rcc rb) 33 :: cel g2 (rcc ra) 33 :: (rdH ra.ss.a ra.ss.l.length 3 (ra.ss.l.flatMap smc)) :: smsA ra.ss.l :: (rdH rb.ss.a rb.ss.l.length 3 (rb.ss.l.flatMap smc)) :: smsA rb.ss.l :: (rdH ra.ms.a ra.ms.l.length 3 (ra.ms.l.flatMap mtc)) :: (rdH rb.ms.a rb.ms.l.length 3 (rb.ms.l.flatMap mtc)) :: recA ra :: recA rb :: L) w) (fun x => match x with | i => ra.ss.l.length - i) 0 ⟨⟨Nat.zero_le _, Iff.rfl⟩, hS8⟩ (Sub.cons rfl (Sub.cons rfl (Sub.consE rfl (by first | rfl | first | rfl | (congr 1; omega) | (simp; done) | (simp; omega)) (Sub.nil _)))) ?_
      rintro i w9 ⟨⟨hi, hgo⟩, hS9⟩
      clear hS8
      refine WP.seq (WP.seq (WP.region rfl ?_))
      refine WO.mv rfl rfl ?_
      refine WO.V (run_fa 1 ⟨g2, 1, none⟩ rfl rfl) ?_
      refine WO.V (run_load Ty.ag31 rfl ((hS9.cel_at 1 rfl 1).trans rfl)) ?_
      refine WO.V (run_len rfl Tryz.underlying31 rfl) ?_
      refine WO.V (run_lss rfl rfl) ?_
      refine WO.nil (NX.go ?_)
      refine WP.condP rfl (fun g48 => ?_) (fun g48 => ?_)
      ·
       refine WP.skip (NX.go (WP.seq (WP.block (WP.seq ?_))))
       obtain ⟨p, hp⟩ : ∃ p, ra.ss.l[i]? = some p := ⟨_, List.getElem?_eq_getElem (by omega)⟩
       obtain ⟨q, hq⟩ : ∃ q, rb.ss.l[i]? = some q := ⟨_, List.getElem?_eq_getElem (by omega)⟩
       have hS10 := smsA_get hp (hS9.permT [3] (L' := smsA ra.ss.l :: cel g4 (rcc rb) 33 :: cel g2 (rcc ra) 33 :: (rdH ra.ss.a ra.ss.l.length 3 (ra.ss.l.flatMap smc)) :: (rdH rb.ss.a rb.ss.l.length 3 (rb.ss.l.flatMap smc)) :: smsA rb.ss.l :: (rdH ra.ms.a ra.ms.l.length 3 (ra.ms.l.flatMap mtc)) :: (rdH rb.ms.a rb.ms.l.length 3 (rb.ms.l.flatMap mtc)) :: recA ra :: recA rb :: L) rfl)
       clear hS9
       have hS11 := smsA_get hq (hS10.permT [6] (L' := smsA rb.ss.l :: (labA p.lb) :: smsA ra.ss.l :: cel g4 (rcc rb) 33 :: cel g2 (rcc ra) 33 :: (rdH ra.ss.a ra.ss.l.length 3 (ra.ss.l.flatMap smc)) :: (rdH rb.ss.a rb.ss.l.length 3 (rb.ss.l.flatMap smc)) :: (rdH ra.ms.a ra.ms.l.length 3 (ra.ms.l.flatMap mtc)) :: (rdH rb.ms.a rb.ms.l.length 3 (rb.ms.l.flatMap mtc)) :: recA ra :: recA rb :: L) rfl)
       clear hS10
       refine WD.start (fun w => Rd w q.lb.a q.lb.l.length 2 (q.lb.l.flatMap prc) ∧ Rd w p.lb.a p.lb.l.length 2 (p.lb.l.flatMap prc) ∧ (∀ jz, World.cell? w ⟨g4, jz, none⟩ = (rcc rb)[jz]?) ∧ (∀ jz, World.cell? w ⟨g2, jz, none⟩ = (rcc ra)[jz]?) ∧ Rd w ra.ss.a ra.ss.l.length 3 (ra.ss.l.flatMap smc) ∧ Rd w rb.ss.a rb.ss.l.length 3 (rb.ss.l.flatMap smc)) [] (bt 14 0) Ty.mo rfl (by kernel_rfl) hS11 (fun _ h => ⟨(rdH_rd (h.focus 0 rfl)), (rdH_rd (h.focus 2 rfl)), h.cel_at 4 rfl, h.cel_at 5 rfl, (rdH_rd (h.focus 6 rfl)), (rdH_rd (h.focus 7 rfl))⟩) (fun w12 hS12 s13 => ?_)
       clear hS11
       refine DP (i := 0) t40_6 (bt 14 1) rfl rfl rfl rfl (fun w => run_fa 1 ⟨g2, 1, none⟩ rfl rfl) ?_
       refine DT (i := 1) t40_6 (bt 14 3) s13 rfl rfl rfl rfl (fun w hs => run_load Ty.ag31 rfl ((hs.2.2.2.1 1).trans rfl)) ?_
       refine DP (i := 2) t40_6 (bt 14 7) rfl rfl rfl rfl (fun w => run_move rfl) ?_
       refine DT (i := 3) t40_6 (bt 14 15) s13 rfl rfl rfl rfl (fun w hs => run_indexAddr (q := adr ra.ss.a (i * 3)) Tryz.underlying31 Ty.sz83 rfl rfl (by omega) (by omega) ((hs.2.2.2.2.1).2.1 (by omega)) rfl) ?_
       refine DT (i := 4) t40_6 (bt 14 31) s13 rfl rfl rfl rfl (fun w hs => run_loadAgg (vs := (smc p)) Ty.ag83 Ty.sz83 rfl ((hs.2.2.2.2.1).cells (by rw [flat_len smc_len]; omega) (flat_part smc_len hp)).1 ((hs.2.2.2.2.1).cells (by rw [flat_len smc_len]; omega) (flat_part smc_len hp)).2) ?_
       refine DP (i := 5) t40_6 (bt 14 63) rfl rfl rfl rfl (fun w => run_fa 1 ⟨g4, 1, none⟩ rfl rfl) ?_
       refine DT (i := 6) t40_6 (bt 14 127) s13 rfl rfl rfl rfl (fun w hs => run_load Ty.ag31 rfl ((hs.2.2.1 1).trans rfl)) ?_
       refine DP (i := 7) t40_6 (bt 14 255) rfl rfl rfl rfl (fun w => run_move rfl) ?_
       refine DT (i := 8) t40_6 (bt 14 511) s13 rfl rfl rfl rfl (fun w hs => run_indexAddr (q := adr rb.ss.a (i * 3)) Tryz.underlying31 Ty.sz83 rfl rfl (by omega) (by omega) ((hs.2.2.2.2.2).2.1 (by omega)) rfl) ?_
       refine DT (i := 9) t40_6 (bt 14 1023) s13 rfl rfl rfl rfl (fun w hs => run_loadAgg (vs := (smc q)) Ty.ag83 Ty.sz83 rfl ((hs.2.2.2.2.2).cells (by rw [flat_len smc_len]; omega) (flat_part smc_len hq)).1 ((hs.2.2.2.2.2).cells (by rw [flat_len smc_len]; omega) (flat_part smc_len hq)).2) ?_
       refine WD.two (i := 10) (k := 11) t40_6 (bt 14 2047) (bt 14 3071) rfl rfl (by kernel_rfl) ?_ ?_
       ·
        refine WO.alloc (l := [Value.slice none 0 0, Value.int .i64 0, Value.int .u64 0]) hS12 Ty.zr83 rfl rfl (fun g15 w14 lg15 hS14 => ?_)
        clear hS12
        refine WO.nil ?_
        have s16 : Rd w14 q.lb.a q.lb.l.length 2 (q.lb.l.flatMap prc) ∧ Rd w14 p.lb.a p.lb.l.length 2 (p.lb.l.flatMap prc) ∧ (∀ jz, World.cell? w14 ⟨g4, jz, none⟩ = (rcc rb)[jz]?) ∧ (∀ jz, World.cell? w14 ⟨g2, jz, none⟩ = (rcc ra)[jz]?) ∧ Rd w14 ra.ss.a ra.ss.l.length 3 (ra.ss.l.flatMap smc) ∧ Rd w14 rb.ss.a rb.ss.l.length 3 (rb.ss.l.flatMap smc) := ⟨(rdH_rd (hS14.focus 1 rfl)), (rdH_rd (hS14.focus 3 rfl)), hS14.cel_at 5 rfl, hS14.cel_at 6 rfl, (rdH_rd (hS14.focus 7 rfl)), (rdH_rd (hS14.focus 8 rfl))⟩
        refine NX.held s16 ?_
        refine WD.one (i := 11) t40_6 (bt 14 4095) rfl (by kernel_rfl) ?_
        refine WO.alloc (l := [Value.slice none 0 0, Value.int .i64 0, Value.int .u64 0]) hS14 Ty.zr83 rfl rfl (fun g18 w17 lg18 hS17 => ?_)
        clear hS14
        refine WO.nil ?_
        have s19 : Rd w17 q.lb.a q.lb.l.length 2 (q.lb.l.flatMap prc) ∧ Rd w17 p.lb.a p.lb.l.length 2 (p.lb.l.flatMap prc) ∧ (∀ jz, World.cell? w17 ⟨g4, jz, none⟩ = (rcc rb)[jz]?) ∧ (∀ jz, World.cell? w17 ⟨g2, jz, none⟩ = (rcc ra)[jz]?) ∧ Rd w17 ra.ss.a ra.ss.l.length 3 (ra.ss.l.flatMap smc) ∧ Rd w17 rb.ss.a rb.ss.l.length 3 (rb.ss.l.flatMap smc) := ⟨(rdH_rd (hS17.focus 2 rfl)), (rdH_rd (hS17.focus 4 rfl)), hS17.cel_at 6 rfl, hS17.cel_at 7 rfl, (rdH_rd (hS17.focus 8 rfl)), (rdH_rd (hS17.focus 9 rfl))⟩
        refine NX.held s19 ?_
        refine WD.one (i := 12) t40_6 (bt 14 8191) rfl (by kernel_rfl) ?_
        refine WO.store (l' := (smc p)) 1 hS17 rfl Ty.sz83 rfl rfl rfl rfl rfl (Nat.le_of_ble_eq_true rfl) rfl (fun w20 (hS20 : St B (cel g18 [Value.slice none 0 0, Value.int .i64 0, Value.int .u64 0] 83 :: cel g15 (smc p) 83 :: (labA q.lb) :: smsA rb.ss.l :: (labA p.lb) :: smsA ra.ss.l :: cel g4 (rcc rb) 33 :: cel g2 (rcc ra) 33 :: (rdH ra.ss.a ra.ss.l.length 3 (ra.ss.l.flatMap smc)) :: (rdH rb.ss.a rb.ss.l.length 3 (rb.ss.l.flatMap smc)) :: (rdH ra.ms.a ra.ms.l.length 3 (ra.ms.l.flatMap mtc)) :: (rdH rb.ms.a rb.ms.l.length 3 (rb.ms.l.flatMap mtc)) :: recA ra :: recA rb :: L) w20) => ?_)
        clear hS17
        refine WO.nil ?_
        have s21 : Rd w20 q.lb.a q.lb.l.length 2 (q.lb.l.flatMap prc) ∧ Rd w20 p.lb.a p.lb.l.length 2 (p.lb.l.flatMap prc) ∧ (∀ jz, World.cell? w20 ⟨g4, jz, none⟩ = (rcc rb)[jz]?) ∧ (∀ jz, World.cell? w20 ⟨g2, jz, none⟩ = (rcc ra)[jz]?) ∧ Rd w20 ra.ss.a ra.ss.l.length 3 (ra.ss.l.flatMap smc) ∧ Rd w20 rb.ss.a rb.ss.l.length 3 (rb.ss.l.flatMap smc) := ⟨(rdH_rd (hS20.focus 2 rfl)), (rdH_rd (hS20.focus 4 rfl)), hS20.cel_at 6 rfl, hS20.cel_at 7 rfl, (rdH_rd (hS20.focus 8 rfl)), (rdH_rd (hS20.focus 9 rfl))⟩
        refine NX.held s21 ?_
        refine WD.one (i := 13) t40_6 (bt 14 16383) rfl (by kernel_rfl) ?_
        refine WO.store (l' := (smc q)) 0 hS20 rfl Ty.sz83 rfl rfl rfl rfl rfl (Nat.le_of_ble_eq_true rfl) rfl (fun w22 (hS22 : St B (cel g18 (smc q) 83 :: cel g15 (smc p) 83 :: (labA q.lb) :: smsA rb.ss.l :: (labA p.lb) :: smsA ra.ss.l :: cel g4 (rcc rb) 33 :: cel g2 (rcc ra) 33 :: (rdH ra.ss.a ra.ss.l.length 3 (ra.ss.l.flatMap smc)) :: (rdH rb.ss.a rb.ss.l.length 3 (rb.ss.l.flatMap smc)) :: (rdH ra.ms.a ra.ms.l.length 3 (ra.ms.l.flatMap mtc)) :: (rdH rb.ms.a rb.ms.l.length 3 (rb.ms.l.flatMap mtc)) :: recA ra :: recA rb :: L) w22) => ?_)
        clear hS20
        refine WO.nil ?_
        have s23 : Rd w22 q.lb.a q.lb.l.length 2 (q.lb.l.flatMap prc) ∧ Rd w22 p.lb.a p.lb.l.length 2 (p.lb.l.flatMap prc) ∧ (∀ jz, World.cell? w22 ⟨g4, jz, none⟩ = (rcc rb)[jz]?) ∧ (∀ jz, World.cell? w22 ⟨g2, jz, none⟩ = (rcc ra)[jz]?) ∧ Rd w22 ra.ss.a ra.ss.l.length 3 (ra.ss.l.flatMap smc) ∧ Rd w22 rb.ss.a rb.ss.l.length 3 (rb.ss.l.flatMap smc) := ⟨(rdH_rd (hS22.focus 2 rfl)), (rdH_rd (hS22.focus 4 rfl)), hS22.cel_at 6 rfl, hS22.cel_at 7 rfl, (rdH_rd (hS22.focus 8 rfl)), (rdH_rd (hS22.focus 9 rfl))⟩
        refine NX.held s23 ?_
        refine WD.done t40_6 (by kernel_rfl) ?_
        refine NX.go (WP.seq (WP.region rfl ?_))
        refine WO.V (run_fa 1 ⟨g15, 1, none⟩ rfl rfl) ?_
        refine WO.V (run_load Ty.ag2 rfl ((hS22.cel_at 1 rfl 1).trans rfl)) ?_
        refine WO.V (run_fa 1 ⟨g18, 1, none⟩ rfl rfl) ?_
        refine WO.V (run_load Ty.ag2 rfl ((hS22.cel_at 0 rfl 1).trans rfl)) ?_
        refine WO.V (run_neq rfl rfl) ?_
        refine WO.mv rfl rfl ?_
        refine dcase (p := ¬ p.t = q.t) (fun g66 d66 => ?_) (fun g66 d66 => ?_)
        ·
         refine WO.off rfl rfl d66 rfl ?_
         refine WO.off rfl rfl d66 rfl ?_
         refine WO.off rfl rfl d66 rfl ?_
         refine WO.off rfl rfl d66 rfl ?_
         refine WO.off rfl rfl d66 rfl ?_
         refine WO.V (run_pickT rfl d66 rfl) ?_
         refine WO.mv rfl rfl ?_
         refine WO.off rfl rfl rfl rfl ?_
         refine WO.off rfl rfl rfl rfl ?_
         refine WO.off rfl rfl rfl rfl ?_
         refine WO.off rfl rfl rfl rfl ?_
         refine WO.off rfl rfl rfl rfl ?_
         refine WO.off rfl rfl rfl rfl ?_
         refine WO.V (run_pickT rfl rfl rfl) ?_
         refine WO.nil (NX.go ?_)
         refine WP.condT rfl rfl ?_
         refine WP.seq (WP.region rfl ?_)
         refine WO.asg rfl rfl ?_
         refine WO.nil (NX.go (WP.ret (NX.blkRet (NX.thenRet (NX.thenRet (NX.blkRet (NX.thenRet ?_)))))))
         refine NX.done (l := [.tmp 4]) rfl rfl ?_
         exact ⟨false, rfl, ⟨(fun h => by cases h), (fun (e : ra.p = rb.p) => by have h9 := hgo.2 (congrArg RcP.ss e); rw [drop_cons hp, drop_cons hq] at h9; have h8 := (List.cons.inj h9).1; exact absurd (congrArg (fun z => z.2.1) h8) g66)⟩, hS22.drop.drop.drop.drop.drop.drop.drop.drop.drop.drop.drop.drop⟩
        ·
         refine WO.on rfl rfl d66 ?_
         refine WO.V (run_fa 2 ⟨g15, 2, none⟩ rfl rfl) ?_
         refine WO.on rfl rfl d66 ?_
         refine WO.V (run_load Ty.ag81 rfl ((hS22.cel_at 1 rfl 2).trans rfl)) ?_
         refine WO.on rfl rfl d66 ?_
         refine WO.V (run_fa 2 ⟨g18, 2, none⟩ rfl rfl) ?_
         refine WO.on rfl rfl d66 ?_
         refine WO.V (run_load Ty.ag81 rfl ((hS22.cel_at 0 rfl 2).trans rfl)) ?_
         refine WO.on rfl rfl d66 ?_
         refine WO.V (run_neq rfl rfl) ?_
         refine WO.V (run_pickF rfl d66 rfl) ?_
         refine WO.mv rfl rfl ?_
         refine dcase (p := ¬ p.v = q.v) (fun g73 d73 => ?_) (fun g73 d73 => ?_)
         ·
          refine WO.off rfl rfl d73 rfl ?_
          refine WO.off rfl rfl d73 rfl ?_
          refine WO.off rfl rfl d73 rfl ?_
          refine WO.off rfl rfl d73 rfl ?_
          refine WO.off rfl rfl d73 rfl ?_
          refine WO.off rfl rfl d73 rfl ?_
          refine WO.V (run_pickT rfl d73 rfl) ?_
          refine WO.nil (NX.go ?_)
          refine WP.condT rfl rfl ?_
          refine WP.seq (WP.region rfl ?_)
          refine WO.asg rfl rfl ?_
          refine WO.nil (NX.go (WP.ret (NX.blkRet (NX.thenRet (NX.thenRet (NX.blkRet (NX.thenRet ?_)))))))
          refine NX.done (l := [.tmp 4]) rfl rfl ?_
          exact ⟨false, rfl, ⟨(fun h => by cases h), (fun (e : ra.p = rb.p) => by have h9 := hgo.2 (congrArg RcP.ss e); rw [drop_cons hp, drop_cons hq] at h9; have h8 := (List.cons.inj h9).1; exact absurd (congrArg (fun z => z.2.2) h8) g73)⟩, hS22.drop.drop.drop.drop.drop.drop.drop.drop.drop.drop.drop.drop⟩
         ·
          refine WO.on rfl rfl d73 ?_
          refine WO.V (run_fa 0 ⟨g15, 0, none⟩ rfl rfl) ?_
          refine WO.on rfl rfl d73 ?_
          refine WO.V (run_load Ty.ag65 rfl ((hS22.cel_at 1 rfl 0).trans rfl)) ?_
          refine WO.on rfl rfl d73 ?_
          refine WO.V (run_fa 0 ⟨g18, 0, none⟩ rfl rfl) ?_
          refine WO.on rfl rfl d73 ?_
          refine WO.V (run_load Ty.ag65 rfl ((hS22.cel_at 0 rfl 0).trans rfl)) ?_
          refine WO.on rfl rfl d73 ?_
          have hS24 := hS22.permT [4, 2] (L' := (labA p.lb) :: (labA q.lb) :: cel g18 (smc q) 83 :: cel g15 (smc p) 83 :: smsA rb.ss.l :: smsA ra.ss.l :: cel g4 (rcc rb) 33 :: cel g2 (rcc ra) 33 :: (rdH ra.ss.a ra.ss.l.length 3 (ra.ss.l.flatMap smc)) :: (rdH rb.ss.a rb.ss.l.length 3 (rb.ss.l.flatMap smc)) :: (rdH ra.ms.a ra.ms.l.length 3 (ra.ms.l.flatMap mtc)) :: (rdH rb.ms.a rb.ms.l.length 3 (rb.ms.l.flatMap mtc)) :: recA ra :: recA rb :: L) rfl
          clear hS22
          refine WO.call rfl rfl Ty.hd45 rfl (rsame_spec rdH_rd rdH_rd (hza.s p (List.mem_of_getElem? hp)).1 (hzb.s q (List.mem_of_getElem? hq)).1 hS24) (fun v26 w25 pv26 => ?_)
          obtain ⟨rfl, hS25⟩ := pv26
          clear hS24
          refine WO.on rfl rfl d73 ?_
          refine WO.V (run_notP rfl) ?_
          refine WO.V (run_pickF rfl d73 rfl) ?_
          refine WO.nil (NX.go ?_)
          refine WP.condP rfl (fun g80 => ?_) (fun g80 => ?_)
          ·
           refine WP.seq (WP.region rfl ?_)
           refine WO.asg rfl rfl ?_
           refine WO.nil (NX.go (WP.ret (NX.blkRet (NX.thenRet (NX.thenRet (NX.blkRet (NX.thenRet ?_)))))))
           refine NX.done (l := [.tmp 4]) rfl rfl ?_
           exact ⟨false, rfl, ⟨(fun h => by cases h), (fun (e : ra.p = rb.p) => by have h9 := hgo.2 (congrArg RcP.ss e); rw [drop_cons hp, drop_cons hq] at h9; have h8 := (List.cons.inj h9).1; exact absurd (congrArg (fun z => z.1) h8) g80)⟩, hS25.drop.drop.drop.drop.drop.drop.drop.drop.drop.drop.drop.drop⟩
          ·
           refine WP.skip (NX.blk (NX.go (WP.region rfl ?_)))
           refine WO.mv rfl rfl ?_
           refine WO.V (run_add rfl rfl (IntWalk.i64_in _ (by omega))) ?_
           refine WO.asg rfl rfl ?_
           refine WO.nil ?_
           exact NX.again (i + 1) ⟨⟨by omega, by rw [drop_cons hp, drop_cons hq, List.map_cons, List.map_cons] at hgo; rw [← hgo]; have e1 : p.t = q.t := (by simpa using g66); have e2 : p.v = q.v := (by simpa using g73); have e3 : p.lb.l = q.lb.l := (by simpa using g80); simp [Smp.p, e1, e2, e3]⟩, (hS25.permT [0, 0, 0, 0, 2, 2, 2, 1, 1] (L' := (labA p.lb) :: (labA q.lb) :: cel g18 (smc q) 83 :: cel g15 (smc p) 83 :: cel g4 (rcc rb) 33 :: cel g2 (rcc ra) 33 :: (rdH ra.ss.a ra.ss.l.length 3 (ra.ss.l.flatMap smc)) :: smsA ra.ss.l :: (rdH rb.ss.a rb.ss.l.length 3 (rb.ss.l.flatMap smc)) :: smsA rb.ss.l :: (rdH ra.ms.a ra.ms.l.length 3 (ra.ms.l.flatMap mtc)) :: (rdH rb.ms.a rb.ms.l.length 3 (rb.ms.l.flatMap mtc)) :: recA ra :: recA rb :: L) rfl).drop.drop.drop.drop⟩ (by show ra.ss.l.length - (i + 1) < ra.ss.l.length - i; omega) (Sub.cons rfl (Sub.cons rfl (Sub.consE rfl (by congr 1) (Sub.nil _))))
       ·
        refine WO.alloc (l := [Value.slice none 0 0, Value.int .i64 0, Value.int .u64 0]) hS12 Ty.zr83 rfl rfl (fun g28 w27 lg28 hS27 => ?_)
        clear hS12
        refine WO.nil ?_
        have s29 : Rd w27 q.lb.a q.lb.l.length 2 (q.lb.l.flatMap prc) ∧ Rd w27 p.lb.a p.lb.l.length 2 (p.lb.l.flatMap prc) ∧ (∀ jz, World.cell? w27 ⟨g4, jz, none⟩ = (rcc rb)[jz]?) ∧ (∀ jz, World.cell? w27 ⟨g2, jz, none⟩ = (rcc ra)[jz]?) ∧ Rd w27 ra.ss.a ra.ss.l.length 3 (ra.ss.l.flatMap smc) ∧ Rd w27 rb.ss.a rb.ss.l.length 3 (rb.ss.l.flatMap smc) := ⟨(rdH_rd (hS27.focus 1 rfl)), (rdH_rd (hS27.focus 3 rfl)), hS27.cel_at 5 rfl, hS27.cel_at 6 rfl, (rdH_rd (hS27.focus 7 rfl)), (rdH_rd (hS27.focus 8 rfl))⟩
        refine NX.held s29 ?_
        refine WD.one (i := 10) t40_6 (bt 14 4095) rfl (by kernel_rfl) ?_
        refine WO.alloc (l := [Value.slice none 0 0, Value.int .i64 0, Value.int .u64 0]) hS27 Ty.zr83 rfl rfl (fun g31 w30 lg31 hS30 => ?_)
        clear hS27
        refine WO.nil ?_
        have s32 : Rd w30 q.lb.a q.lb.l.length 2 (q.lb.l.flatMap prc) ∧ Rd w30 p.lb.a p.lb.l.length 2 (p.lb.l.flatMap prc) ∧ (∀ jz, World.cell? w30 ⟨g4, jz, none⟩ = (rcc rb)[jz]?) ∧ (∀ jz, World.cell? w30 ⟨g2, jz, none⟩ = (rcc ra)[jz]?) ∧ Rd w30 ra.ss.a ra.ss.l.length 3 (ra.ss.l.flatMap smc) ∧ Rd w30 rb.ss.a rb.ss.l.length 3 (rb.ss.l.flatMap smc) := ⟨(rdH_rd (hS30.focus 2 rfl)), (rdH_rd (hS30.focus 4 rfl)), hS30.cel_at 6 rfl, hS30.cel_at 7 rfl, (rdH_rd (hS30.focus 8 rfl)), (rdH_rd (hS30.focus 9 rfl))⟩
        refine NX.held s32 ?_
        refine WD.one (i := 12) t40_6 (bt 14 8191) rfl (by kernel_rfl) ?_
        refine WO.store (l' := (smc p)) 0 hS30 rfl Ty.sz83 rfl rfl rfl rfl rfl (Nat.le_of_ble_eq_true rfl) rfl (fun w33 (hS33 : St B (cel g31 (smc p) 83 :: cel g28 [Value.slice none 0 0, Value.int .i64 0, Value.int .u64 0] 83 :: (labA q.lb) :: smsA rb.ss.l :: (labA p.lb) :: smsA ra.ss.l :: cel g4 (rcc rb) 33 :: cel g2 (rcc ra) 33 :: (rdH ra.ss.a ra.ss.l.length 3 (ra.ss.l.flatMap smc)) :: (rdH rb.ss.a rb.ss.l.length 3 (rb.ss.l.flatMap smc)) :: (rdH ra.ms.a ra.ms.l.length 3 (ra.ms.l.flatMap mtc)) :: (rdH rb.ms.a rb.ms.l.length 3 (rb.ms.l.flatMap mtc)) :: recA ra :: recA rb :: L) w33) => ?_)
        clear hS30
        refine WO.nil ?_
        have s34 : Rd w33 q.lb.a q.lb.l.length 2 (q.lb.l.flatMap prc) ∧ Rd w33 p.lb.a p.lb.l.length 2 (p.lb.l.flatMap prc) ∧ (∀ jz, World.cell? w33 ⟨g4, jz, none⟩ = (rcc rb)[jz]?) ∧ (∀ jz, World.cell? w33 ⟨g2, jz, none⟩ = (rcc ra)[jz]?) ∧ Rd w33 ra.ss.a ra.ss.l.length 3 (ra.ss.l.flatMap smc) ∧ Rd w33 rb.ss.a rb.ss.l.length 3 (rb.ss.l.flatMap smc) := ⟨(rdH_rd (hS33.focus 2 rfl)), (rdH_rd (hS33.focus 4 rfl)), hS33.cel_at 6 rfl, hS33.cel_at 7 rfl, (rdH_rd (hS33.focus 8 rfl)), (rdH_rd (hS33.focus 9 rfl))⟩
        refine NX.held s34 ?_
        refine WD.one (i := 13) t40_6 (bt 14 16383) rfl (by kernel_rfl) ?_
        refine WO.store (l' := (smc q)) 1 hS33 rfl Ty.sz83 rfl rfl rfl rfl rfl (Nat.le_of_ble_eq_true rfl) rfl (fun w35 (hS35 : St B (cel g31 (smc p) 83 :: cel g28 (smc q) 83 :: (labA q.lb) :: smsA rb.ss.l :: (labA p.lb) :: smsA ra.ss.l :: cel g4 (rcc rb) 33 :: cel g2 (rcc ra) 33 :: (rdH ra.ss.a ra.ss.l.length 3 (ra.ss.l.flatMap smc)) :: (rdH rb.ss.a rb.ss.l.length 3 (rb.ss.l.flatMap smc)) :: (rdH ra.ms.a ra.ms.l.length 3 (ra.ms.l.flatMap mtc)) :: (rdH rb.ms.a rb.ms.l.length 3 (rb.ms.l.flatMap mtc)) :: recA ra :: recA rb :: L) w35) => ?_)
        clear hS33
        refine WO.nil ?_
        have s36 : Rd w35 q.lb.a q.lb.l.length 2 (q.lb.l.flatMap prc) ∧ Rd w35 p.lb.a p.lb.l.length 2 (p.lb.l.flatMap prc) ∧ (∀ jz, World.cell? w35 ⟨g4, jz, none⟩ = (rcc rb)[jz]?) ∧ (∀ jz, World.cell? w35 ⟨g2, jz, none⟩ = (rcc ra)[jz]?) ∧ Rd w35 ra.ss.a ra.ss.l.length 3 (ra.ss.l.flatMap smc) ∧ Rd w35 rb.ss.a rb.ss.l.length 3 (rb.ss.l.flatMap smc) := ⟨(rdH_rd (hS35.focus 2 rfl)), (rdH_rd (hS35.focus 4 rfl)), hS35.cel_at 6 rfl, hS35.cel_at 7 rfl, (rdH_rd (hS35.focus 8 rfl)), (rdH_rd (hS35.focus 9 rfl))⟩
        refine NX.held s36 ?_
        refine WD.done t40_6 (by kernel_rfl) ?_
        refine NX.go (WP.seq (WP.region rfl ?_))
        refine WO.V (run_fa 1 ⟨g31, 1, none⟩ rfl rfl) ?_
        refine WO.V (run_load Ty.ag2 rfl ((hS35.cel_at 0 rfl 1).trans rfl)) ?_
        refine WO.V (run_fa 1 ⟨g28, 1, none⟩ rfl rfl) ?_
        refine WO.V (run_load Ty.ag2 rfl ((hS35.cel_at 1 rfl 1).trans rfl)) ?_
        refine WO.V (run_neq rfl rfl) ?_
        refine WO.mv rfl rfl ?_
        refine dcase (p := ¬ p.t = q.t) (fun g66 d66 => ?_) (fun g66 d66 => ?_)
        ·
         refine WO.off rfl rfl d66 rfl ?_
         refine WO.off rfl rfl d66 rfl ?_
         refine WO.off rfl rfl d66 rfl ?_
         refine WO.off rfl rfl d66 rfl ?_
         refine WO.off rfl rfl d66 rfl ?_
         refine WO.V (run_pickT rfl d66 rfl) ?_
         refine WO.mv rfl rfl ?_
         refine WO.off rfl rfl rfl rfl ?_
         refine WO.off rfl rfl rfl rfl ?_
         refine WO.off rfl rfl rfl rfl ?_
         refine WO.off rfl rfl rfl rfl ?_
         refine WO.off rfl rfl rfl rfl ?_
         refine WO.off rfl rfl rfl rfl ?_
         refine WO.V (run_pickT rfl rfl rfl) ?_
         refine WO.nil (NX.go ?_)
         refine WP.condT rfl rfl ?_
         refine WP.seq (WP.region rfl ?_)
         refine WO.asg rfl rfl ?_
         refine WO.nil (NX.go (WP.ret (NX.blkRet (NX.thenRet (NX.thenRet (NX.blkRet (NX.thenRet ?_)))))))
         refine NX.done (l := [.tmp 4]) rfl rfl ?_
         exact ⟨false, rfl, ⟨(fun h => by cases h), (fun (e : ra.p = rb.p) => by have h9 := hgo.2 (congrArg RcP.ss e); rw [drop_cons hp, drop_cons hq] at h9; have h8 := (List.cons.inj h9).1; exact absurd (congrArg (fun z => z.2.1) h8) g66)⟩, hS35.drop.drop.drop.drop.drop.drop.drop.drop.drop.drop.drop.drop⟩
        ·
         refine WO.on rfl rfl d66 ?_
         refine WO.V (run_fa 2 ⟨g31, 2, none⟩ rfl rfl) ?_
         refine WO.on rfl rfl d66 ?_
         refine WO.V (run_load Ty.ag81 rfl ((hS35.cel_at 0 rfl 2).trans rfl)) ?_
         refine WO.on rfl rfl d66 ?_
         refine WO.V (run_fa 2 ⟨g28, 2, none⟩ rfl rfl) ?_
         refine WO.on rfl rfl d66 ?_
         refine WO.V (run_load Ty.ag81 rfl ((hS35.cel_at 1 rfl 2).trans rfl)) ?_
         refine WO.on rfl rfl d66 ?_
         refine WO.V (run_neq rfl rfl) ?_
         refine WO.V (run_pickF rfl d66 rfl) ?_
         refine WO.mv rfl rfl ?_
         refine dcase (p := ¬ p.v = q.v) (fun g73 d73 => ?_) (fun g73 d73 => ?_)
         ·
          refine WO.off rfl rfl d73 rfl ?_
          refine WO.off rfl rfl d73 rfl ?_
          refine WO.off rfl rfl d73 rfl ?_
          refine WO.off rfl rfl d73 rfl ?_
          refine WO.off rfl rfl d73 rfl ?_
          refine WO.off rfl rfl d73 rfl ?_
          refine WO.V (run_pickT rfl d73 rfl) ?_
          refine WO.nil (NX.go ?_)
          refine WP.condT rfl rfl ?_
          refine WP.seq (WP.region rfl ?_)
          refine WO.asg rfl rfl ?_
          refine WO.nil (NX.go (WP.ret (NX.blkRet (NX.thenRet (NX.thenRet (NX.blkRet (NX.thenRet ?_)))))))
          refine NX.done (l := [.tmp 4]) rfl rfl ?_
          exact ⟨false, rfl, ⟨(fun h => by cases h), (fun (e : ra.p = rb.p) => by have h9 := hgo.2 (congrArg RcP.ss e); rw [drop_cons hp, drop_cons hq] at h9; have h8 := (List.cons.inj h9).1; exact absurd (congrArg (fun z => z.2.2) h8) g73)⟩, hS35.drop.drop.drop.drop.drop.drop.drop.drop.drop.drop.drop.drop⟩
         ·
          refine WO.on rfl rfl d73 ?_
          refine WO.V (run_fa 0 ⟨g31, 0, none⟩ rfl rfl) ?_
          refine WO.on rfl rfl d73 ?_
          refine WO.V (run_load Ty.ag65 rfl ((hS35.cel_at 0 rfl 0).trans rfl)) ?_
          refine WO.on rfl rfl d73 ?_
          refine WO.V (run_fa 0 ⟨g28, 0, none⟩ rfl rfl) ?_
          refine WO.on rfl rfl d73 ?_
          refine WO.V (run_load Ty.ag65 rfl ((hS35.cel_at 1 rfl 0).trans rfl)) ?_
          refine WO.on rfl rfl d73 ?_
          have hS37 := hS35.permT [4, 2] (L' := (labA p.lb) :: (labA q.lb) :: cel g31 (smc p) 83 :: cel g28 (smc q) 83 :: smsA rb.ss.l :: smsA ra.ss.l :: cel g4 (rcc rb) 33 :: cel g2 (rcc ra) 33 :: (rdH ra.ss.a ra.ss.l.length 3 (ra.ss.l.flatMap smc)) :: (rdH rb.ss.a rb.ss.l.length 3 (rb.ss.l.flatMap smc)) :: (rdH ra.ms.a ra.ms.l.length 3 (ra.ms.l.flatMap mtc)) :: (rdH rb.ms.a rb.ms.l.length 3 (rb.ms.l.flatMap mtc)) :: recA ra :: recA rb :: L) rfl
          clear hS35
          refine WO.call rfl rfl Ty.hd45 rfl (rsame_spec rdH_rd rdH_rd (hza.s p (List.mem_of_getElem? hp)).1 (hzb.s q (List.mem_of_getElem? hq)).1 hS37) (fun v39 w38 pv39 => ?_)
          obtain ⟨rfl, hS38⟩ := pv39
          clear hS37
          refine WO.on rfl rfl d73 ?_
          refine WO.V (run_notP rfl) ?_
          refine WO.V (run_pickF rfl d73 rfl) ?_
          refine WO.nil (NX.go ?_)
          refine WP.condP rfl (fun g80 => ?_) (fun g80 => ?_)
          ·
           refine WP.seq (WP.region rfl ?_)
           refine WO.asg rfl rfl ?_
           refine WO.nil (NX.go (WP.ret (NX.blkRet (NX.thenRet (NX.thenRet (NX.blkRet (NX.thenRet ?_)))))))
           refine NX.done (l := [.tmp 4]) rfl rfl ?_
           exact ⟨false, rfl, ⟨(fun h => by cases h), (fun (e : ra.p = rb.p) => by have h9 := hgo.2 (congrArg RcP.ss e); rw [drop_cons hp, drop_cons hq] at h9; have h8 := (List.cons.inj h9).1; exact absurd (congrArg (fun z => z.1) h8) g80)⟩, hS38.drop.drop.drop.drop.drop.drop.drop.drop.drop.drop.drop.drop⟩
          ·
           refine WP.skip (NX.blk (NX.go (WP.region rfl ?_)))
           refine WO.mv rfl rfl ?_
           refine WO.V (run_add rfl rfl (IntWalk.i64_in _ (by omega))) ?_
           refine WO.asg rfl rfl ?_
           refine WO.nil ?_
           exact NX.again (i + 1) ⟨⟨by omega, by rw [drop_cons hp, drop_cons hq, List.map_cons, List.map_cons] at hgo; rw [← hgo]; have e1 : p.t = q.t := (by simpa using g66); have e2 : p.v = q.v := (by simpa using g73); have e3 : p.lb.l = q.lb.l := (by simpa using g80); simp [Smp.p, e1, e2, e3]⟩, (hS38.permT [0, 0, 0, 0, 2, 2, 2, 1, 1] (L' := (labA p.lb) :: (labA q.lb) :: cel g31 (smc p) 83 :: cel g28 (smc q) 83 :: cel g4 (rcc rb) 33 :: cel g2 (rcc ra) 33 :: (rdH ra.ss.a ra.ss.l.length 3 (ra.ss.l.flatMap smc)) :: smsA ra.ss.l :: (rdH rb.ss.a rb.ss.l.length 3 (rb.ss.l.flatMap smc)) :: smsA rb.ss.l :: (rdH ra.ms.a ra.ms.l.length 3 (ra.ms.l.flatMap mtc)) :: (rdH rb.ms.a rb.ms.l.length 3 (rb.ms.l.flatMap mtc)) :: recA ra :: recA rb :: L) rfl).drop.drop.drop.drop⟩ (by show ra.ss.l.length - (i + 1) < ra.ss.l.length - i; omega) (Sub.cons rfl (Sub.cons rfl (Sub.consE rfl (by congr 1) (Sub.nil _))))
      ·
       refine WP.exit (NX.thenExit (NX.thenExit ?_))
       refine NX.blkExit ?_
       refine NX.go (WP.seq (WP.region rfl ?_))
       refine WO.asg rfl rfl ?_
       refine WO.nil (NX.go (WP.ret ?_))
       refine NX.done (l := [.tmp 4]) rfl rfl ?_
       have hss := hgo.1 (by rw [List.drop_of_length_le (by omega), List.drop_of_length_le (by omega)])
       exact ⟨true, rfl, ⟨fun _ => by show RcP.mk _ _ _ _ _ = RcP.mk _ _ _ _ _; rw [show ra.k = rb.k by simpa using g13, show ra.fr = rb.fr by simpa using g20, show ra.to = rb.to by simpa using g27, show ra.ms.l = rb.ms.l by simpa using g35, hss], fun _ => rfl⟩, hS9.drop.drop.drop.drop.drop.drop.drop.drop⟩
end Go.Proofs.YtidoidoelgfnaaaGreatDoor.SL
