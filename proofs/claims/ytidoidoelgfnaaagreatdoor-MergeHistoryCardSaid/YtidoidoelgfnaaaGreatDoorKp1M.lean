import Derived.Test.YtidoidoelgfnaaaGreatDoorKrmM
import Derived.Test.YtidoidoelgfnaaaGreatDoorMgr
import Derived.Test.YtidoidoelgfnaaaGreatDoorKb
import Derived.Test.YtidoidoelgfnaaaGreatDoorKcl
import Derived.Shelf.Lay
import Derived.Shelf.SlGeneric
import Derived.Ground.SlsfProg
import Derived.Test.YtidoidoelgfnaaaGreatDoorKc
import Derived.Test.YtidoidoelgfnaaaGreatDoorSrt
/- What deletes take away, in the program. -/
namespace Go.Proofs.YtidoidoelgfnaaaGreatDoor.SL
open Go.RowKit Go.Proofs.YtidoidoelgfnaaaGreatDoor
open Go.Proofs.YtidoidoelgfnaaaGreatDoorW.PrintLast (rtab opsOf)
set_option linter.unusedVariables false
set_option linter.unusedSimpArgs false
theorem pgone1_spec {B w : World} {L : List HP} {Y : HP} {b : Option Addr} {cap2 gt gl : Nat} {ps : List Pr} (hY : ∀ {L : List HP} {w : World}, St B (Y :: L) w → Rd w b ps.length 2 (ps.flatMap prc)) (t : Int) (hl2 : ps.length ≤ 4398046511104) (r : Rcd) (hz : SzR r) (hS : St B (cel gt [Value.int .i64 t] 2 :: cel gl [Value.slice b ps.length cap2] 65 :: (rdH r.ms.a r.ms.l.length 3 (r.ms.l.flatMap mtc)) :: Y :: L) w) : Does Tryz.prog 115 [Value.agg #[Value.int .i64 r.k, Value.slice r.ss.a r.ss.l.length r.ss.cap, Value.slice r.ms.a r.ms.l.length r.ms.cap, Value.int .i64 r.fr, Value.int .i64 r.to], Value.pointer (some ⟨gt, 0, none⟩), Value.pointer (some ⟨gl, 0, none⟩)] w (fun v w1 => v = .bool (decide (r.fr ≤ t ∧ t ≤ r.to) && isF r.ms.l ps) ∧ St B (cel gt [Value.int .i64 t] 2 :: cel gl [Value.slice b ps.length cap2] 65 :: (rdH r.ms.a r.ms.l.length 3 (r.ms.l.flatMap mtc)) :: Y :: L) w1) := by
 refine enter (n := 21) Tryz.func115 rfl rfl [Value.agg #[Value.int .i64 r.k, Value.slice r.ss.a r.ss.l.length r.ss.cap, Value.slice r.ms.a r.ms.l.length r.ms.cap, Value.int .i64 r.fr, Value.int .i64 r.to], Value.pointer (some ⟨gt, 0, none⟩), Value.pointer (some ⟨gl, 0, none⟩)] rfl ?_
 refine WP.seq (WP.region rfl ?_)
 refine WO.box (l := (rcc r)) hS rfl rfl rfl (fun g2 w1 lg2 hS1 => ?_)
 clear hS
 refine WO.asg rfl rfl ?_
 refine WO.nil (NX.go (WP.seq (WP.region rfl ?_)))
 refine WO.V (run_load Ty.ag2 rfl ((hS1.cel_at 1 rfl 0).trans rfl)) ?_
 refine WO.V (run_fa 3 ⟨g2, 3, none⟩ rfl rfl) ?_
 refine WO.V (run_load Ty.ag2 rfl ((hS1.cel_at 0 rfl 3).trans rfl)) ?_
 refine WO.V (run_geq rfl rfl) ?_
 refine WO.mv rfl rfl ?_
 refine dcase (p := r.fr ≤ t) (fun g9 d9 => ?_) (fun g9 d9 => ?_)
 ·
  refine WO.on rfl rfl d9 ?_
  refine WO.V (run_load Ty.ag2 rfl ((hS1.cel_at 1 rfl 0).trans rfl)) ?_
  refine WO.on rfl rfl d9 ?_
  refine WO.V (run_fa 4 ⟨g2, 4, none⟩ rfl rfl) ?_
  refine WO.on rfl rfl d9 ?_
  refine WO.V (run_load Ty.ag2 rfl ((hS1.cel_at 0 rfl 4).trans rfl)) ?_
  refine WO.on rfl rfl d9 ?_
  refine WO.V (run_leq rfl rfl) ?_
  refine WO.V (run_pickT rfl d9 rfl) ?_
  refine WO.mv rfl rfl ?_
  refine dcase (p := t ≤ r.to) (fun g15 d15 => ?_) (fun g15 d15 => ?_)
  ·
   refine WO.on rfl rfl d15 ?_
   refine WO.V (run_fa 2 ⟨g2, 2, none⟩ rfl rfl) ?_
   refine WO.on rfl rfl d15 ?_
   refine WO.V (run_load Ty.ag24 rfl ((hS1.cel_at 0 rfl 2).trans rfl)) ?_
   refine WO.on rfl rfl d15 ?_
   refine WO.V (run_load Ty.ag65 rfl ((hS1.cel_at 2 rfl 0).trans rfl)) ?_
   refine WO.on rfl rfl d15 ?_
   have hS3 := hS1.permT [3, 3] (L' := _::_::_::_::_::L) rfl
   clear hS1
   refine WO.call rfl rfl Ty.hd53 rfl (lis_spec rdH_rd hY hz.m hz.nm2 hl2 hS3) (fun v5 w4 pv5 => ?_)
   obtain ⟨rfl, hS4⟩ := pv5
   clear hS3
   refine WO.V (run_pickT rfl d15 rfl) ?_
   refine WO.asg rfl rfl ?_
   refine WO.nil (NX.go (WP.ret ?_))
   refine NX.done (l := [.tmp 4]) rfl rfl ?_
   exact ⟨congrArg Value.bool (by simp [g9, g15] <;> intros <;> omega), ((hS4.mask [true, true, false] (L' := _::_::_::_::L) rfl).permT [2, 2] (L' := _::_::_::_::L) rfl)⟩
  ·
   refine WO.off rfl rfl d15 rfl ?_
   refine WO.off rfl rfl d15 rfl ?_
   refine WO.off rfl rfl d15 rfl ?_
   refine WO.off rfl rfl d15 rfl ?_
   refine WO.V (run_pickF rfl d15 rfl) ?_
   refine WO.asg rfl rfl ?_
   refine WO.nil (NX.go (WP.ret ?_))
   refine NX.done (l := [.tmp 4]) rfl rfl ?_
   exact ⟨congrArg Value.bool (by simp [g9, g15] <;> intros <;> omega), hS1.drop⟩
 ·
  refine WO.off rfl rfl d9 rfl ?_
  refine WO.off rfl rfl d9 rfl ?_
  refine WO.off rfl rfl d9 rfl ?_
  refine WO.off rfl rfl d9 rfl ?_
  refine WO.V (run_pickF rfl d9 rfl) ?_
  refine WO.mv rfl rfl ?_
  refine WO.off rfl rfl rfl rfl ?_
  refine WO.off rfl rfl rfl rfl ?_
  refine WO.off rfl rfl rfl rfl ?_
  refine WO.off rfl rfl rfl rfl ?_
  refine WO.V (run_pickF rfl rfl rfl) ?_
  refine WO.asg rfl rfl ?_
  refine WO.nil (NX.go (WP.ret ?_))
  refine NX.done (l := [.tmp 4]) rfl rfl ?_
  exact ⟨congrArg Value.bool (by simp [g9] <;> intros <;> omega), hS1.drop⟩
theorem pindex_spec {B w : World} {L : List HP} {Y : HP} {b : Option Addr} {cap2 gt gl : Nat} {ps : List Pr} (hY : ∀ {L : List HP} {w : World}, St B (Y :: L) w → Rd w b ps.length 2 (ps.flatMap prc)) (t : Int) (hl2 : ps.length ≤ 4398046511104) {X : HP} {a : Option Addr} {cap : Nat} {d : List Rcd} (hX : ∀ {L : List HP} {w : World}, St B (X :: L) w → Rd w a d.length 5 (d.flatMap rcc)) (hz : ∀ r ∈ d, SzR r) (hd : d.length ≤ 140737488355328) (hS : St B (X :: allA recA d :: cel gt [Value.int .i64 t] 2 :: cel gl [Value.slice b ps.length cap2] 65 :: Y :: L) w) : Does Tryz.prog 133 [Value.slice a d.length cap, Value.func (.func 115) #[] #[Value.pointer (some ⟨gt, 0, none⟩), Value.pointer (some ⟨gl, 0, none⟩)]] w (fun v w1 => ∃ k : Int, v = .int .i64 k ∧ decide (0 ≤ k) = goneR d ps t ∧ St B (X :: allA recA d :: cel gt [Value.int .i64 t] 2 :: cel gl [Value.slice b ps.length cap2] 65 :: Y :: L) w1) := by
 refine enter (n := 19) Tryz.func133 rfl rfl [Value.slice a d.length cap, Value.func (.func 115) #[] #[Value.pointer (some ⟨gt, 0, none⟩), Value.pointer (some ⟨gl, 0, none⟩)]] rfl ?_
 refine WP.seq (WP.region rfl ?_)
 refine WO.asg rfl rfl ?_
 refine WO.nil (NX.go (WP.seq (WP.seq (WP.region rfl ?_))))
 refine WO.mv rfl rfl ?_
 refine WO.V (run_len rfl Tryz.underlying23 rfl) ?_
 refine WO.mv rfl rfl ?_
 refine WO.nil (NX.go (WP.block ?_))
 refine WP.loop (α := Nat) (fun x => match x with | i => [(0, Value.slice a d.length cap), (1, Value.func (.func 115) #[] #[Value.pointer (some ⟨gt, 0, none⟩), Value.pointer (some ⟨gl, 0, none⟩)]), (6, Value.slice a d.length cap), (7, Value.int .i64 ((d.length : Nat) : Int)), (8, Value.int .i64 (i : Int))]) (fun x w => match x with | i => (i ≤ d.length ∧ goneR (d.drop i) ps t = goneR d ps t) ∧ St B (X :: allA recA d :: cel gt [Value.int .i64 t] 2 :: cel gl [Value.slice b ps.length cap2] 65 :: Y :: L) w) (fun x => match x with | i => d.length - i) 0 ⟨⟨Nat.zero_le _, rfl⟩, hS⟩ (Sub.cons rfl (Sub.cons rfl (Sub.cons rfl (Sub.cons rfl (Sub.consE rfl (by first | rfl | first | rfl | (congr 1; omega) | (simp; done) | (simp; omega)) (Sub.nil _)))))) ?_
 rintro i w1 ⟨⟨hi, hgo⟩, hS1⟩
 clear hS
 refine WP.seq (WP.region rfl ?_)
 refine WO.V (run_lss rfl rfl) ?_
 refine WO.nil (NX.go (WP.seq ?_))
 refine WP.condP rfl (fun g9 => ?_) (fun g9 => ?_)
 ·
  refine WP.skip (NX.go (WP.seq (WP.block (WP.seq (WP.region rfl ?_)))))
  refine WO.mv rfl rfl ?_
  refine WO.asg rfl rfl ?_
  refine WO.nil (NX.go (WP.seq ?_))
  obtain ⟨r, hr⟩ : ∃ qq, d[i]? = some qq := ⟨_, List.getElem?_eq_getElem (by omega)⟩
  refine WP.region rfl ?_
  refine WO.mv rfl rfl ?_
  refine WO.mv rfl rfl ?_
  refine WO.mv rfl rfl ?_
  refine WO.V (run_indexAddr (q := adr a (i * 5)) Tryz.underlying23 Ty.sz33 rfl rfl (by omega) (by omega) ((hX (hS1.focus 0 rfl)).2.1 (by omega)) rfl) ?_
  refine WO.V (run_loadAgg (vs := (rcc r)) Ty.ag33 Ty.sz33 rfl ((hX (hS1.focus 0 rfl)).cells (by rw [flat_len rcc_len]; omega) (flat_part rcc_len hr)).1 ((hX (hS1.focus 0 rfl)).cells (by rw [flat_len rcc_len]; omega) (flat_part rcc_len hr)).2) ?_
  have hS2 := rms_get (List.mem_of_getElem? hr) (hS1.permT [1] (L' := _::_::_::_::_::L) rfl)
  clear hS1
  have hS3 := hS2.permT [3, 3, 0, 2] (L' := _::_::_::_::_::_::L) rfl
  clear hS2
  refine WO.callV (us := []) (cs := [Value.pointer (some ⟨gt, 0, none⟩), Value.pointer (some ⟨gl, 0, none⟩)]) rfl rfl Ty.hd115 rfl (pgone1_spec hY t hl2 r (hz r (List.mem_of_getElem? hr)) hS3) (fun v5 w4 pv5 => ?_)
  obtain ⟨rfl, hS4⟩ := pv5
  clear hS3
  refine WO.nil (NX.go ?_)
  refine WP.condB rfl (fun g16 => ?_) (fun g16 => ?_)
  ·
   refine WP.seq (WP.region rfl ?_)
   refine WO.mv rfl rfl ?_
   refine WO.asg rfl rfl ?_
   refine WO.nil (NX.go (WP.ret (NX.blkRet (NX.thenRet (NX.thenRet (NX.blkRet (NX.thenRet ?_)))))))
   refine NX.done (l := [.tmp 4]) rfl rfl ?_
   exact ⟨_, rfl, by rw [drop_cons hr] at hgo; rw [← hgo]; unfold goneR; rw [List.any_cons, g16]; simp, ((hS4.mask [true, true, false] (L' := _::_::_::_::_::L) rfl).permT [4, 3] (L' := _::_::_::_::_::L) rfl)⟩
  ·
   refine WP.skip (NX.blk (NX.go (WP.region rfl ?_)))
   refine WO.V (run_add rfl rfl (IntWalk.i64_in _ (by omega))) ?_
   refine WO.mv rfl rfl ?_
   refine WO.nil ?_
   exact NX.again (i + 1) ⟨⟨by omega, by rw [drop_cons hr] at hgo; rw [← hgo]; unfold goneR; rw [List.any_cons, g16, Bool.false_or]⟩, ((hS4.mask [true, true, false] (L' := _::_::_::_::_::L) rfl).permT [4, 3] (L' := _::_::_::_::_::L) rfl)⟩ (by show d.length - (i + 1) < d.length - i; omega) (Sub.cons rfl (Sub.cons rfl (Sub.cons rfl (Sub.cons rfl (Sub.consE rfl (by congr 1) (Sub.nil _))))))
 ·
  refine WP.exit (NX.thenExit (NX.thenExit ?_))
  refine NX.blkExit ?_
  refine NX.go (WP.seq (WP.region rfl ?_))
  refine WO.asg rfl rfl ?_
  refine WO.nil (NX.go (WP.ret ?_))
  refine NX.done (l := [.tmp 4]) rfl rfl ?_
  exact ⟨_, rfl, by rw [← hgo, List.drop_of_length_le (by omega)]; rfl, hS1⟩
theorem pcont_spec {B w : World} {L : List HP} {Y : HP} {b : Option Addr} {cap2 gt gl : Nat} {ps : List Pr} (hY : ∀ {L : List HP} {w : World}, St B (Y :: L) w → Rd w b ps.length 2 (ps.flatMap prc)) (t : Int) (hl2 : ps.length ≤ 4398046511104) {X : HP} {a : Option Addr} {cap : Nat} {d : List Rcd} (hX : ∀ {L : List HP} {w : World}, St B (X :: L) w → Rd w a d.length 5 (d.flatMap rcc)) (hz : ∀ r ∈ d, SzR r) (hd : d.length ≤ 140737488355328) (hS : St B (X :: allA recA d :: cel gt [Value.int .i64 t] 2 :: cel gl [Value.slice b ps.length cap2] 65 :: Y :: L) w) : Does Tryz.prog 114 [Value.slice a d.length cap, Value.func (.func 115) #[] #[Value.pointer (some ⟨gt, 0, none⟩), Value.pointer (some ⟨gl, 0, none⟩)]] w (fun v w1 => v = .bool (goneR d ps t) ∧ St B (X :: allA recA d :: cel gt [Value.int .i64 t] 2 :: cel gl [Value.slice b ps.length cap2] 65 :: Y :: L) w1) := by
 refine enter (n := 9) Tryz.func114 rfl rfl [Value.slice a d.length cap, Value.func (.func 115) #[] #[Value.pointer (some ⟨gt, 0, none⟩), Value.pointer (some ⟨gl, 0, none⟩)]] rfl ?_
 refine WP.seq (WP.region rfl ?_)
 refine WO.asg rfl rfl ?_
 refine WO.nil (NX.go (WP.seq (WP.region rfl ?_)))
 refine WO.mv rfl rfl ?_
 refine WO.mv rfl rfl ?_
 refine WO.call rfl rfl Ty.hd133 rfl (pindex_spec hY t hl2 hX hz hd hS) (fun v2 w1 pv2 => ?_)
 obtain ⟨k, rfl, hk, hS1⟩ := pv2
 clear hS
 refine WO.V (run_geq rfl rfl) ?_
 refine WO.asg rfl rfl ?_
 refine WO.nil (NX.go (WP.ret ?_))
 refine NX.done (l := [.tmp 4]) rfl rfl ?_
 exact ⟨congrArg Value.bool hk, hS1⟩
theorem pgone_spec {B w : World} {L : List HP} {X Y : HP} {a b : Option Addr} {cap cap2 : Nat} {d : List Rcd} {ps : List Pr} (hX : ∀ {L : List HP} {w : World}, St B (X :: L) w → Rd w a d.length 5 (d.flatMap rcc)) (hY : ∀ {L : List HP} {w : World}, St B (Y :: L) w → Rd w b ps.length 2 (ps.flatMap prc)) (hz : ∀ r ∈ d, SzR r) (hd : d.length ≤ 140737488355328) (hl2 : ps.length ≤ 4398046511104) (t : Int) (hS : St B (X :: allA recA d :: Y :: L) w) : Does Tryz.prog 88 [Value.slice a d.length cap, Value.slice b ps.length cap2, Value.int .i64 t] w (fun v w1 => v = .bool (goneR d ps t) ∧ St B (X :: allA recA d :: Y :: L) w1) := by
 refine enter (n := 10) Tryz.func88 rfl rfl [Value.slice a d.length cap, Value.slice b ps.length cap2, Value.int .i64 t] rfl ?_
 refine WP.seq (WP.region rfl ?_)
 refine WO.box (l := [Value.slice b ps.length cap2]) hS rfl rfl rfl (fun g2 w1 lg2 hS1 => ?_)
 clear hS
 refine WO.box (l := [Value.int .i64 t]) hS1 rfl rfl rfl (fun g4 w3 lg4 hS3 => ?_)
 clear hS1
 refine WO.asg rfl rfl ?_
 refine WO.nil (NX.go (WP.seq (WP.region rfl ?_)))
 refine WO.mv rfl rfl ?_
 refine WO.V (run_makeFunc rfl rfl) ?_
 have hS5 := hS3.permT [2, 2] (L' := _::_::_::_::_::L) rfl
 clear hS3
 refine WO.call rfl rfl Ty.hd114 rfl (pcont_spec (gt := g4) (gl := g2) hY t hl2 hX hz hd hS5) (fun v7 w6 pv7 => ?_)
 obtain ⟨rfl, hS6⟩ := pv7
 clear hS5
 refine WO.asg rfl rfl ?_
 refine WO.nil (NX.go (WP.ret ?_))
 refine NX.done (l := [.tmp 6]) rfl rfl ?_
 exact ⟨rfl, (hS6.mask [true, true, false, false] (L' := _::_::_::L) rfl)⟩
end Go.Proofs.YtidoidoelgfnaaaGreatDoor.SL

/- Rows by their keys: one that is found, or made. -/
namespace Go.Proofs.YtidoidoelgfnaaaGreatDoor.SL
open Go.RowKit Go.Proofs.YtidoidoelgfnaaaGreatDoor
open Go.Proofs.YtidoidoelgfnaaaGreatDoorW.PrintLast (rtab opsOf)
set_option linter.unusedVariables false
set_option linter.unusedSimpArgs false

/-- What a row that is found, or made, is. -/
structure OfR (gs : List Nat) (S : List MRow) (u : MRow) (g j : Nat) (gs1 : List Nat) (S1 : List MRow) (row : MRow) : Prop where
  hg : gs1[j]? = some g
  hr : S1[j]? = some row
  hlb : row.lb.l = u.lb.l
  hupd : ∀ (q : SlV Pt) (ps : List Pt), q.l = row.pt.l ++ ps → (S1.set j ⟨row.lb, max row.last u.last, q⟩).map MRow.p = updF (S.map MRow.p) u.lb.l u.last ps
  hlen : S1.length ≤ S.length + 1
  hchk : ∀ r ∈ S1, chk r.lb.l = true
  hpt : ∀ M, (∀ r ∈ S, r.pt.l.length ≤ M) → ∀ r ∈ S1, r.pt.l.length ≤ M
  hrw : row.pt.l.length = 0 ∨ row ∈ S
theorem ofR_old {gs : List Nat} {S : List MRow} {u row : MRow} {g j : Nat} (hc : ∀ r ∈ S, chk r.lb.l = true) (h1 : gs[j]? = some g) (h2 : S[j]? = some row) (h3 : row.lb.l = u.lb.l) (h4 : ∀ (q : SlV Pt) (t : Int) (ps : List Pt), q.l = row.pt.l ++ ps → (S.set j ⟨row.lb, max row.last t, q⟩).map MRow.p = updF (S.map MRow.p) u.lb.l t ps) : OfR gs S u g j gs S row :=
  ⟨h1, h2, h3, fun q ps => h4 q u.last ps, Nat.le_succ _, hc, fun M h => h, .inr (List.mem_of_getElem? h2)⟩
theorem ofR_new {gs : List Nat} {S : List MRow} {u : MRow} {g : Nat} {a : Option Addr} {c : Nat} (hl : gs.length = S.length) (hc : ∀ r ∈ S, chk r.lb.l = true) (hu : chk u.lb.l = true) (hn : findG gs S u.lb.l = none) : OfR gs S u g S.length (gs ++ [g]) (S ++ [⟨⟨a, u.lb.l, c⟩, u.last, ⟨none, [], 0⟩⟩]) ⟨⟨a, u.lb.l, c⟩, u.last, ⟨none, [], 0⟩⟩ := by
  refine ⟨by rw [← hl]; simp, by simp, rfl, fun q ps hq => ?_, by simp, fun r hr => ?_, fun M h r hr => ?_, .inl rfl⟩
  · exact upd_new (lb := ⟨a, u.lb.l, c⟩) (fun r hr => findG_none hl hn r hr) q ps (by simpa using hq)
  · rcases List.mem_append.1 hr with hr | hr
    · exact hc r hr
    · simp at hr; subst hr; exact hu
  · rcases List.mem_append.1 hr with hr | hr
    · exact h r hr
    · simp at hr; subst hr; exact Nat.zero_le _
theorem t87_4 : rtab .any (opsOf Tryz.f87 4) = (true, [([], []), ([0], [0]), ([1], [1]), ([], []), ([3], [3]), ([2, 4], [2, 4]), ([5], [5]), ([6, 2, 0, 1, 2, 3, 4, 5, 6], [6])]) := by kernel_rfl
theorem of_spec {B w : World} {L : List HP} {m : Nat} {gs : List Nat} {S : List MRow} (u : MRow) (hu : chk u.lb.l = true) (hc : ∀ r ∈ S, chk r.lb.l = true) (hS : St B (mpS m (entR gs S) :: sqA (rwA 93 103) gs S :: (labA u.lb) :: L) w) : Does Tryz.prog 87 [Value.map (some m), Value.agg #[Value.slice u.lb.a u.lb.l.length u.lb.cap, Value.int .i64 u.last, Value.slice u.pt.a u.pt.l.length u.pt.cap]] w (fun v w1 => ∃ (g j : Nat) (gs1 : List Nat) (S1 : List MRow) (row : MRow), v = ptrG g ∧ OfR gs S u g j gs1 S1 row ∧ St B (rwA 93 103 g row :: sqBut (rwA 93 103) j gs1 S1 :: mpS m (entR gs1 S1) :: labA u.lb :: L) w1) := by
 have hsz : SzP u.lb.l := fun p hp => by have := (chk_sz hu).2.2 p hp; omega
 refine enter (n := 30) Tryz.func87 rfl rfl [Value.map (some m), Value.agg #[Value.slice u.lb.a u.lb.l.length u.lb.cap, Value.int .i64 u.last, Value.slice u.pt.a u.pt.l.length u.pt.cap]] rfl ?_
 refine WP.seq (WP.region rfl ?_)
 refine WO.box (l := (mrc u)) hS rfl rfl rfl (fun g2 w1 lg2 hS1 => ?_)
 clear hS
 refine WO.asg rfl rfl ?_
 refine WO.nil (NX.go (WP.seq (WP.region rfl ?_)))
 refine WO.V (run_fa 0 ⟨g2, 0, none⟩ rfl rfl) ?_
 refine WO.V (run_load Ty.ag65 rfl ((hS1.cel_at 0 rfl 0).trans rfl)) ?_
 have hS3 := hS1.permT [3] (L' := _::_::_::_::L) rfl
 clear hS1
 refine WO.call rfl rfl Ty.hd59 rfl (lenc_spec rdH_rd hsz (by have := (chk_sz hu).1; omega) hS3) (fun v5 w4 pv5 => ?_)
 obtain ⟨rfl, hS4⟩ := pv5
 clear hS3
 refine WO.mv rfl rfl ?_
 refine WO.V (run_extract rfl rfl) ?_
 refine WO.V (run_extract rfl rfl) ?_
 refine WO.asg rfl rfl ?_
 refine WO.asg rfl rfl ?_
 refine WO.nil (NX.go (WP.seq (WP.region rfl ?_)))
 refine WO.mv rfl rfl ?_
 refine WO.mv rfl rfl ?_
 refine WO.V (run_lookupS 2 hS4 rfl Tryz.underlying116 Tryz.underlying9 Ty.zr119 rfl rfl (look_row hu hc)) ?_
 refine WO.asg rfl rfl ?_
 refine WO.nil (NX.go (WP.seq (WP.seq (WP.region rfl ?_))))
 refine WO.mv rfl rfl ?_
 refine WO.V (run_eqlNilP Tryz.underlying119 rfl rfl) ?_
 refine WO.nil (NX.go ?_)
 refine WP.condB rfl (fun g18 => ?_) (fun g18 => ?_)
 ·
  have hn : findG gs S u.lb.l = none := by cases hq : findG gs S u.lb.l with | none => rfl | some g => (rw [hq] at g18; cases g18)
  refine WP.seq ?_
  refine WD.start (fun w => Rd w u.lb.a u.lb.l.length 2 (u.lb.l.flatMap prc) ∧ (∀ jz, World.cell? w ⟨g2, jz, none⟩ = (mrc u)[jz]?)) [] (bt 8 0) Ty.mo rfl (by kernel_rfl) hS4 (fun _ h => ⟨(rdH_rd (h.focus 0 rfl)), h.cel_at 1 rfl⟩) (fun w6 hS6 s7 => ?_)
  clear hS4
  refine DP (i := 0) t87_4 (bt 8 1) rfl rfl rfl rfl (fun w => run_fa 0 ⟨g2, 0, none⟩ rfl rfl) ?_
  refine DT (i := 1) t87_4 (bt 8 3) s7 rfl rfl rfl rfl (fun w hs => run_load Ty.ag65 rfl ((hs.2 0).trans rfl)) ?_
  refine DP (i := 3) t87_4 (bt 8 11) rfl rfl rfl rfl (fun w => run_fa 1 ⟨g2, 1, none⟩ rfl rfl) ?_
  refine DT (i := 4) t87_4 (bt 8 27) s7 rfl rfl rfl rfl (fun w hs => run_load Ty.ag2 rfl ((hs.2 1).trans rfl)) ?_
  refine WD.one (i := 2) t87_4 (bt 8 31) rfl (by kernel_rfl) ?_
  refine WO.call rfl rfl Ty.hd65 rfl (clonePr (X := labA u.lb) rdH_rd (by have := (chk_sz hu).1; omega) hS6) (fun v9 w8 pv9 => ?_)
  obtain ⟨ca, cc, rfl, hS8⟩ := pv9
  clear hS6
  refine WO.nil ?_
  have s10 : Rd w8 u.lb.a u.lb.l.length 2 (u.lb.l.flatMap prc) ∧ (∀ jz, World.cell? w8 ⟨g2, jz, none⟩ = (mrc u)[jz]?) := ⟨(rdH_rd (hS8.focus 1 rfl)), hS8.cel_at 2 rfl⟩
  refine NX.held s10 ?_
  refine DP (i := 5) t87_4 (bt 8 63) rfl rfl rfl rfl (fun w => run_build (v := Value.agg #[Value.slice ca u.lb.l.length cc, Value.int .i64 u.last, Value.slice none 0 0]) rfl (fun w => by kernel_rfl)) ?_
  refine WD.one (i := 6) t87_4 (bt 8 127) rfl (by kernel_rfl) ?_
  refine WO.box (l := [Value.slice ca u.lb.l.length cc, Value.int .i64 u.last, Value.slice none 0 0]) hS8 rfl rfl rfl (fun g12 w11 lg12 hS11 => ?_)
  clear hS8
  refine WO.nil ?_
  have s13 : Rd w11 u.lb.a u.lb.l.length 2 (u.lb.l.flatMap prc) ∧ (∀ jz, World.cell? w11 ⟨g2, jz, none⟩ = (mrc u)[jz]?) := ⟨(rdH_rd (hS11.focus 2 rfl)), hS11.cel_at 3 rfl⟩
  refine NX.held s13 ?_
  refine DP (i := 7) t87_4 (bt 8 255) rfl rfl rfl rfl (fun w => run_assign rfl) ?_
  refine WD.done t87_4 (by kernel_rfl) ?_
  refine NX.go (WP.region rfl ?_)
  refine WO.mv rfl rfl ?_
  refine WO.mv rfl rfl ?_
  refine WO.mv rfl rfl ?_
  refine WO.mapUpdateS 4 hS11 rfl Tryz.underlying116 Tryz.underlying9 rfl rfl rfl (fun w14 hS14 => ?_)
  replace hS14 : St B (cel g12 [Value.slice ca u.lb.l.length cc, Value.int .i64 u.last, Value.slice none 0 0] 93 :: own ca u.lb.l.length cc 105 2 (u.lb.l.flatMap prc) :: _::_::mpS m (entR (gs ++ [g12]) (S ++ [(⟨⟨ca, u.lb.l, cc⟩, u.last, ⟨none, [], 0⟩⟩ : MRow)])) :: _::L) w14 := (by rw [entR_snoc (sqA_len (hS14.focus 5 rfl)), ← putS_new (by rw [entR_get hu hc, hn]; rfl)]; exact hS14)
  clear hS11
  refine WO.nil (NX.go (WP.seq (WP.region rfl ?_)))
  refine WO.mv rfl rfl ?_
  refine WO.asg rfl rfl ?_
  refine WO.nil (NX.go (WP.ret ?_))
  refine NX.done (l := [.tmp 4]) rfl rfl ?_
  have hq1 : St B (labA ⟨ca, u.lb.l, cc⟩ :: _::_::_::_::_::L) w14 := rdH_own (hS14.permT [1] (L' := _::_::_::_::_::_::L) rfl)
  have hq2 := hq1.own_nil 103 2
  have hq3 := rw_shut (tR := 93) (tP := 103) (r := (⟨⟨ca, u.lb.l, cc⟩, u.last, ⟨none, [], 0⟩⟩ : MRow)) (hq2.permT [2, 1] (L' := _::_::_::_::_::_::_::L) rfl)
  have hlen := sqA_len (hq3.permT [4] (L' := _::_::_::_::_::L) rfl)
  have hq4 := sqA_snoc (hq3.permT [4] (L' := _::_::_::_::_::L) rfl)
  have hR := ofR_new (g := g12) (a := ca) (c := cc) hlen hc hu hn
  obtain ⟨g', hg', hq5⟩ := sqA_pick hR.hr hq4
  have hgg : g' = g12 := by have := hR.hg; rw [hg'] at this; exact Option.some.inj this
  subst hgg
  exact ⟨g', S.length, gs ++ [g'], S ++ [(⟨⟨ca, u.lb.l, cc⟩, u.last, ⟨none, [], 0⟩⟩ : MRow)], (⟨⟨ca, u.lb.l, cc⟩, u.last, ⟨none, [], 0⟩⟩ : MRow), rfl, hR, ((hq5.mask [true, true, true, false] (L' := _::_::_::_::L) rfl).permT [0, 0, 1] (L' := _::_::_::_::L) rfl)⟩
 ·
  refine WP.skip (NX.go (WP.seq (WP.region rfl ?_)))
  refine WO.mv rfl rfl ?_
  refine WO.asg rfl rfl ?_
  refine WO.nil (NX.go (WP.ret ?_))
  refine NX.done (l := [.tmp 4]) rfl rfl ?_
  obtain ⟨g, hg⟩ : ∃ g, findG gs S u.lb.l = some g := by cases hq : findG gs S u.lb.l with | none => (rw [hq] at g18; cases g18) | some g => exact ⟨g, rfl⟩
  obtain ⟨j, row, h1, h2, h3, h4⟩ := findG_some hg
  obtain ⟨g', hg', hq5⟩ := sqA_pick h2 (hS4.permT [3] (L' := _::_::_::_::L) rfl)
  have hgg : g' = g := by rw [h1] at hg'; exact (Option.some.inj hg').symm
  subst hgg
  exact ⟨g', j, gs, S, row, by rw [hg]; rfl, ofR_old hc h1 h2 h3 h4, ((hq5.mask [true, true, true, false] (L' := _::_::_::_::L) rfl).permT [0, 0, 1] (L' := _::_::_::_::L) rfl)⟩
end Go.Proofs.YtidoidoelgfnaaaGreatDoor.SL

/- Rows in the order of their labels. -/
namespace Go.Proofs.YtidoidoelgfnaaaGreatDoor.SL
open Go.RowKit Go.Proofs.YtidoidoelgfnaaaGreatDoor
open Go.Proofs.YtidoidoelgfnaaaGreatDoorW.PrintLast (rtab opsOf)
set_option linter.unusedVariables false
set_option linter.unusedSimpArgs false

open Go.Shelf in
shelf_lay_g SlLaysF0.n6 Slsf 6 at Tryz 101 as Tryz.sortRows
theorem sorted1_spec {B w : World} {L : List HP} (x1 y1 : MRow) (h1 : x1.lb.l.length ≤ 4398046511104) (h2 : y1.lb.l.length ≤ 4398046511104) (hS : St B (labA x1.lb :: labA y1.lb :: L) w) : Does Tryz.prog 102 [Value.agg #[Value.slice x1.lb.a x1.lb.l.length x1.lb.cap, Value.int .i64 x1.last, Value.slice x1.pt.a x1.pt.l.length x1.pt.cap], Value.agg #[Value.slice y1.lb.a y1.lb.l.length y1.lb.cap, Value.int .i64 y1.last, Value.slice y1.pt.a y1.pt.l.length y1.pt.cap]] w (fun v w1 => v = .int .i64 (cmpF x1.lb.l y1.lb.l) ∧ St B (labA x1.lb :: labA y1.lb :: L) w1) := by
 refine enter (n := 10) Tryz.func102 rfl rfl [Value.agg #[Value.slice x1.lb.a x1.lb.l.length x1.lb.cap, Value.int .i64 x1.last, Value.slice x1.pt.a x1.pt.l.length x1.pt.cap], Value.agg #[Value.slice y1.lb.a y1.lb.l.length y1.lb.cap, Value.int .i64 y1.last, Value.slice y1.pt.a y1.pt.l.length y1.pt.cap]] rfl ?_
 refine WP.seq (WP.region rfl ?_)
 refine WO.box (l := (mrc x1)) hS rfl rfl rfl (fun g2 w1 lg2 hS1 => ?_)
 clear hS
 refine WO.box (l := (mrc y1)) hS1 rfl rfl rfl (fun g4 w3 lg4 hS3 => ?_)
 clear hS1
 refine WO.asg rfl rfl ?_
 refine WO.nil (NX.go (WP.seq (WP.region rfl ?_)))
 refine WO.V (run_fa 0 ⟨g2, 0, none⟩ rfl rfl) ?_
 refine WO.V (run_load Ty.ag65 rfl ((hS3.cel_at 1 rfl 0).trans rfl)) ?_
 refine WO.V (run_fa 0 ⟨g4, 0, none⟩ rfl rfl) ?_
 refine WO.V (run_load Ty.ag65 rfl ((hS3.cel_at 0 rfl 0).trans rfl)) ?_
 have hS5 := hS3.permT [2, 2] (L' := _::_::_::_::L) rfl
 clear hS3
 refine WO.call rfl rfl Ty.hd95 rfl (lcmp_spec rdH_rd rdH_rd h1 h2 hS5) (fun v7 w6 pv7 => ?_)
 obtain ⟨rfl, hS6⟩ := pv7
 clear hS5
 refine WO.asg rfl rfl ?_
 refine WO.nil (NX.go (WP.ret ?_))
 refine NX.done (l := [.tmp 4]) rfl rfl ?_
 exact ⟨rfl, (hS6.mask [true, true, false, false] (L' := _::_::L) rfl)⟩

def cmpM (x y : MRow) : Int := cmpF x.lb.l y.lb.l
theorem cmpM_swo : Go.Sort.SWO (ltOf cmpM) := ⟨fun x => cmp_swo.irrefl x.lb.l, fun x y z => cmp_swo.trans x.lb.l y.lb.l z.lb.l, fun x y z => cmp_swo.ntrans x.lb.l y.lb.l z.lb.l⟩
theorem mrc_one (r : MRow) : ∀ v ∈ mrc r, v.oneCell' = true := fun v hv => by simp [mrc] at hv; rcases hv with rfl | rfl | rfl <;> rfl
theorem lab_at {B W : World} {L : List HP} {l : List MRow} {x1 y1 : MRow} (hx : x1 ∈ l) (hy : y1 ∈ l) (h : St B (allA mrA l :: L) W) : St W [labA x1.lb, labA y1.lb] W := by
  have r1 := rdH_rd (mrA_get hx h)
  have r2 := rdH_rd (mrA_get hy h)
  have s0 := rdH_base (k := 2) (by decide) r2 (St.start W)
  exact rdH_base (k := 2) (by decide) r1 s0
theorem sortRows_spec {B w : World} {L : List HP} {a : Option Addr} {cap : Nat} {l : List MRow} (hn : l.length ≤ 4398046511104) (hl : ∀ r ∈ l, r.lb.l.length ≤ 4398046511104) (hS : St B (own a l.length cap 93 3 (l.flatMap mrc) :: allA mrA l :: L) w) :
    Does Tryz.prog 101 [.slice a l.length cap, .func (.func 102) #[] #[]] w (fun v w1 => v = .tuple #[] ∧ ∃ l1 : List MRow, l1.Perm l ∧ l1.Pairwise (fun x y => ¬ cmpM y x < 0) ∧ St B (own a l1.length cap 93 3 (l1.flatMap mrc) :: allA mrA l1 :: L) w1) := by
  have h := sortK (g := 102) (cb := #[]) (t := 93) Tryz.sortRows (by intro w; kernel_rfl) (by intro w; kernel_rfl) mrc_len mrc_one cmpM_swo Ty.hd102 (by omega) hS (fun W l' hl' hW x1 hx y1 hy => by
    have h0 := lab_at hx hy (hW.permT [1, 0] (L' := _::_::L) rfl)
    exact (sorted1_spec x1 y1 (hl x1 hx) (hl y1 hy) h0).mono fun v w1 ⟨e, h1⟩ => ⟨e, h1.drop.drop⟩)
  refine h.mono fun v w1 ⟨hv, l1, hp, hs, h1⟩ => ⟨hv, l1, hp, hs, ?_⟩
  have h2 := allA_sub mrA_pers (l := l1) (fun z hz => hp.subset hz) (h1.permT [1, 0] (L' := _::_::L) rfl)
  have h3 := (h2.permT [1, 1, 0] (L' := _::_::_::L) rfl).drop
  rw [hp.length_eq]; exact h3
theorem sorted_spec {B w : World} {L : List HP} {m : Nat} {gs : List Nat} {S : List MRow} (hn : S.length ≤ 1099511627776) (hl : ∀ r ∈ S, r.lb.l.length ≤ 4398046511104) (hS : St B (mpS m (entR gs S) :: sqA (rwA 93 103) gs S :: L) w) : Does Tryz.prog 61 [Value.map (some m)] w (fun v w1 => ∃ a1 c1, ∃ l1 : List MRow, v = .slice a1 l1.length c1 ∧ l1.Perm S ∧ l1.Pairwise (fun x y => ¬ cmpM y x < 0) ∧ St B (own a1 l1.length c1 93 3 (l1.flatMap mrc) :: allA mrA l1 :: L) w1) := by
 replace hS := hS.permT [1, 0] (L' := _::_::L) rfl
 have hlen := sqA_len hS
 replace hS := rows_seal hS
 refine enter (n := 21) Tryz.func61 rfl rfl [Value.map (some m)] rfl ?_
 refine WP.seq (WP.region rfl ?_)
 refine WO.asg rfl rfl ?_
 refine WO.nil (NX.go (WP.seq (WP.region rfl ?_)))
 refine WO.asg rfl rfl ?_
 refine WO.nil (NX.go (WP.seq (WP.seq (WP.region rfl ?_))))
 refine WO.mv rfl rfl ?_
 refine WO.rangeM 2 hS rfl Tryz.underlying116 rfl rfl (fun r2 w1 hS1 => ?_)
 clear hS
 refine WO.nil (NX.go (WP.block ?_))
 replace hS1 := hS1.own_nil 93 3
 refine WP.loop (α := List (Nat × MRow) × List MRow × List (List UInt8 × Value) × Option (List UInt8 × Value) × Option Addr × Nat) (fun x => match x with | ⟨rr, ol, rst, cur, oa, oc⟩ => [(3, Value.slice oa ol.length oc), (7, Value.pointer (some ⟨r2, 0, none⟩))]) (fun x w => match x with | ⟨rr, ol, rst, cur, oa, oc⟩ => (rst.Perm (entO rr) ∧ (rr.map (·.2) ++ ol).Perm S ∧ (∀ z ∈ rr, z ∈ gs.zip S)) ∧ St B (own oa ol.length oc 93 3 (ol.flatMap mrc) :: itM m r2 (entR gs S) rst cur :: sqA (celR 93) gs S :: allA mrA S :: L) w) (fun x => match x with | ⟨rr, ol, rst, cur, oa, oc⟩ => rst.length) (gs.zip S, [], entR gs S, none, none, 0) ⟨⟨List.Perm.refl _, by rw [List.append_nil, zip_snd hlen], fun z hz => hz⟩, (hS1.permT [0, 2] (L' := _::_::_::_::L) rfl)⟩ (Sub.consE rfl (by first | rfl | first | rfl | (congr 1; omega) | (simp; done) | (simp; omega)) (Sub.cons rfl (Sub.nil _))) ?_
 rintro ⟨rr, ol, rst, cur, oa, oc⟩ w3 ⟨⟨hR, hperm, hin⟩, hS3⟩
 clear hS1
 refine WP.seq (WP.region rfl ?_)
 refine WO.nextM 1 hS3 rfl rfl rfl (fun e8 => ?_) (fun pre8 nk nv post8 e8 w4 hS4 => ?_)
 ·
  refine WO.V (run_extract rfl rfl) ?_
  refine WO.nil (NX.go (WP.seq ?_))
  refine WP.condF rfl rfl ?_
  refine WP.exit (NX.thenExit (NX.thenExit ?_))
  refine NX.blkExit ?_
  refine NX.go (WP.seq ?_)
  have hrn : rr = [] := by subst e8; have := hR.length_eq; unfold entO at this; rw [List.length_map] at this; exact List.length_eq_zero_iff.1 (by simpa using this.symm)
  subst hrn
  have hpS : ol.Perm S := by simpa using hperm
  have hsub := allA_sub mrA_pers (l := ol) (fun z hz => hpS.subset hz) (hS3.permT [3] (L' := _::_::_::_::L) rfl)
  clear hS3
  refine WP.region rfl ?_
  refine WO.mv rfl rfl ?_
  have hS5 := hsub.permT [2] (L' := _::_::_::_::_::L) rfl
  clear hsub
  refine WO.call rfl rfl Ty.hd101 rfl (sortRows_spec (by rw [hpS.length_eq]; omega) (fun r hr => hl r (hpS.subset hr)) hS5) (fun v7 w6 pv7 => ?_)
  obtain ⟨rfl, l1, hp1, hs1, hS6⟩ := pv7
  clear hS5
  refine WO.nil (NX.go (WP.seq (WP.region rfl ?_)))
  refine WO.mv rfl rfl ?_
  refine WO.asg rfl rfl ?_
  refine WO.nil (NX.go (WP.ret ?_))
  refine NX.done (l := [.tmp 2]) rfl rfl ?_
  exact ⟨oa, oc, l1, by rw [← hp1.length_eq]; rfl, hp1.trans hpS, hs1, (hS6.mask [true, true, false, false, false] (L' := _::_::L) rfl)⟩
 ·
  obtain ⟨⟨q, row⟩, rr2, hp1, rfl, hp2⟩ := ent_step hR e8
  obtain ⟨j, hj1, hj2⟩ := zip_at (hin (q, row) (hp1.mem_iff.2 (List.mem_cons_self ..)))
  simp only at hj1 hj2
  have hol : ol.length + 1 ≤ S.length := by have h9 := hperm.length_eq; have h8 := hp1.length_eq; rw [List.length_append, List.length_map] at h9; rw [List.length_cons] at h8; omega
  obtain ⟨q', hq', hS8⟩ := sqA_pick hj2 (hS4.permT [2] (L' := _::_::_::_::L) rfl)
  have hqq : q' = q := by rw [hj1] at hq'; exact (Option.some.inj hq').symm
  subst hqq
  replace hS8 : St B (cel q' (mrc row) 93 :: sqBut (celR 93) j gs S :: _::itM m r2 (entR gs S) (pre8 ++ post8) (some (nk, ptrG q')) :: _::L) w4 := hS8
  clear hS4
  refine WO.V (run_extract rfl rfl) ?_
  refine WO.nil (NX.go (WP.seq ?_))
  refine WP.condT rfl rfl ?_
  refine WP.skip (NX.go (WP.block (WP.seq (WP.region rfl ?_))))
  refine WO.V (run_entryM (d := 0) 3 hS8 rfl rfl) ?_
  refine WO.V (run_extract rfl rfl) ?_
  refine WO.asg rfl rfl ?_
  refine WO.nil (NX.go (WP.region rfl ?_))
  refine WO.mv rfl rfl ?_
  refine WO.mv rfl rfl ?_
  refine WO.V (run_nilCheck rfl) ?_
  refine WO.V (run_loadAgg (vs := (mrc row)) Ty.ag93 Ty.sz93 rfl rfl (cell_all (hS8.cel_at 0 rfl) 0 rfl)) ?_
  refine WO.buildSlice (l := (mrc row)) hS8 Tryz.underlying44 rfl (fun w => by kernel_rfl) rfl (fun g10 w9 lg10 hS9 => ?_)
  clear hS8
  refine WO.append (news := (mrc row)) 3 rfl Tryz.underlying44 Tryz.underlying44 (fun _ h => by cases h) Ty.sz93 (by decide) Ty.by93 Ty.zr93 rfl rfl rfl rfl hS9 rfl ((hS9.cel_rd 0 rfl (o := 0) (m := 1) (k := 3) rfl (Nat.le_of_ble_eq_true rfl)).src) rfl (by omega) (by omega) (fun a12 c13 w11 hS11 => ?_)
  replace hS11 : St B (cel g10 (mrc row) 93 :: _::_::own a12 (ol.length + 1) c13 93 3 ((ol.flatMap mrc) ++ (mrc row)) :: _::_::L) w11 := hS11
  clear hS9
  refine WO.asg rfl rfl ?_
  refine WO.nil (NX.blk ?_)
  have hS14 := sqA_same (f := celR 93) hj2 hj1 (hS11.permT [1, 1] (L' := _::_::_::_::_::_::L) rfl)
  clear hS11
  exact NX.again (rr2, ol ++ [row], pre8 ++ post8, some (nk, ptrG q'), a12, c13) ⟨⟨hp2, by rw [← List.append_assoc]; exact (List.perm_append_comm.trans ((List.Perm.cons row (List.Perm.refl _)))).trans ((hp1.map (·.2)).append_right ol).symm |>.trans hperm, fun z hz => hin z (hp1.mem_iff.2 (List.mem_cons_of_mem _ hz))⟩, own_eqM ((hS14.mask [true, false] (L' := _::_::_::_::L) rfl).permT [1, 1] (L' := _::_::_::_::L) rfl) (by simp) (by simp [mrc])⟩ (by show (pre8 ++ post8).length < rst.length; rw [e8]; simp only [List.length_append, List.length_cons]; omega) (Sub.consE rfl (by simp) (Sub.cons rfl (Sub.nil _)))
end Go.Proofs.YtidoidoelgfnaaaGreatDoor.SL

/- What is left, in the program. -/
namespace Go.Proofs.YtidoidoelgfnaaaGreatDoor.SL
open Go.RowKit Go.Proofs.YtidoidoelgfnaaaGreatDoor
open Go.Proofs.YtidoidoelgfnaaaGreatDoorW.PrintLast (rtab opsOf)
set_option linter.unusedVariables false
set_option linter.unusedSimpArgs false

theorem rd_tail {B w : World} {L : List HP} {X : HP} {a : Option Addr} {cap i : Nat} {bs : List BlkV} (hX : ∀ {L : List HP} {w : World}, St B (X :: L) w → Rd w a bs.length 4 (bs.flatMap blc)) (hi : i ≤ bs.length) (hc : bs.length ≤ cap) (h : St B (X :: L) w) : Rd w (if cap = i then a else a.map (·.add (i * 4))) (bs.length - i) 4 ((bs.drop i).flatMap blc) := by
  rw [← flat_drop blc_len]; exact Rd.dropM (hX h) hi hc
def pgo (fr to : Int) (dd : List Rcd) (lb : List Pr) (p : Pt) : Bool := inF fr to p && ngone dd lb p
theorem leftU_cons {f : Pt → Bool} {dels : List Rcd} {b : BlkV} {l : List BlkV} {S : List RowP} {dd : List Rcd} (h : dd = dels ++ l.flatMap (·.ds.l)) : leftU f (dels.map Rcd.p) ((b :: l).map BlkV.p) S = leftU f (dels.map Rcd.p) (l.map BlkV.p) (rowsU f (dd.map Rcd.p) (b.rs.l.map MRow.p) S) := by
  rw [List.map_cons, leftU, h, dels_p]; rfl
theorem rowsU_cons {fr to : Int} {dd : List Rcd} {u : MRow} {l : List MRow} {S : List RowP} : rowsU (inF fr to) (dd.map Rcd.p) ((u :: l).map MRow.p) S = rowsU (inF fr to) (dd.map Rcd.p) (l.map MRow.p) (updF S u.lb.l u.last (u.pt.l.filter (pgo fr to dd u.lb.l))) := by
  rw [List.map_cons, rowsU]
  congr 2
  show List.filter (fun p => inF fr to p && !goneF (dd.map Rcd.p) u.lb.l p.t) u.pt.l = _
  congr 1; funext p; unfold pgo ngone; rw [goneR_eq]
theorem drop_mem {α : Type} {l : List α} {i k : Nat} {x : α} (h : (l.drop i)[k]? = some x) : x ∈ l := List.mem_of_mem_drop (List.mem_of_getElem? h)
theorem t52_15 : rtab .any (opsOf Tryz.f52 15) = (true, [([], []), ([], []), ([1], [1]), ([2], [2]), ([3], [3]), ([], []), ([5], [5]), ([4, 6], [4, 6]), ([0, 0, 1, 2, 3, 4, 5, 6, 7], [0]), ([8, 0, 1, 2, 3, 4, 5, 6, 7], [8]), ([9, 7, 0, 1, 2, 3, 4, 5, 6, 7], [7, 9])]) := by kernel_rfl
theorem t52_20 : rtab .any (opsOf Tryz.f52 20) = (true, [([], []), ([], []), ([1], [1]), ([2], [2]), ([3], [3]), ([], []), ([5], [5]), ([4, 6], [4, 6]), ([0, 0, 1, 2, 3, 4, 5, 6, 7], [0]), ([8, 0, 1, 2, 3, 4, 5, 6, 7], [8]), ([9, 7, 7, 0, 1, 2, 3, 4, 5, 6, 7], [7, 9])]) := by kernel_rfl
set_option maxHeartbeats 1000000 in
theorem pleft_spec {B w : World} {L : List HP} {X D : HP} {a b : Option Addr} {cap cap2 : Nat} {bs : List BlkV} {dels : List Rcd} (hX : ∀ {L : List HP} {w : World}, St B (X :: L) w → Rd w a bs.length 4 (bs.flatMap blc)) (hD : ∀ {L : List HP} {w : World}, St B (D :: L) w → Rd w b dels.length 5 (dels.flatMap rcc)) (hbz : ∀ b ∈ bs, SzB b) (hdz : ∀ r ∈ dels, SzR r) (hck : ∀ b ∈ bs, ∀ r ∈ b.rs.l, chk r.lb.l = true) (hcp : bs.length ≤ cap) (hbn : bs.length ≤ 1099511627776) (hrt : rtot bs ≤ 1099511627776) (hpt : ptot bs ≤ 4398046511104) (hdt : dels.length + dtot bs ≤ 1099511627776) (fr to : Int) (hS : St B (X :: allA blA bs :: D :: allA recA dels :: L) w) : Does Tryz.prog 52 [Value.slice a bs.length cap, Value.slice b dels.length cap2, Value.int .i64 fr, Value.int .i64 to] w (fun v w1 => ∃ a1 c1, ∃ l1 : List MRow, v = .slice a1 l1.length c1 ∧ l1.map MRow.p = (leftA (dels.map Rcd.p) (bs.map BlkV.p) []).map (flt (inF fr to)) ∧ l1.length ≤ 1099511627776 ∧ (∀ r ∈ l1, chk r.lb.l = true) ∧ (∀ r ∈ l1, r.pt.l.length ≤ 4398046511104) ∧ St B (own a1 l1.length c1 93 3 (l1.flatMap mrc) :: allA mrA l1 :: X :: allA blA bs :: D :: allA recA dels :: L) w1) := by
 refine enter (n := 105) Tryz.func52 rfl rfl [Value.slice a bs.length cap, Value.slice b dels.length cap2, Value.int .i64 fr, Value.int .i64 to] rfl ?_
 refine WP.seq (WP.region rfl ?_)
 refine WO.asg rfl rfl ?_
 refine WO.nil (NX.go (WP.seq (WP.region rfl ?_)))
 refine WO.makeMap hS rfl (fun r2 w1 hS1 => ?_)
 clear hS
 refine WO.asg rfl rfl ?_
 refine WO.nil (NX.go (WP.seq (WP.seq (WP.region rfl ?_))))
 refine WO.mv rfl rfl ?_
 refine WO.V (run_len rfl Tryz.underlying39 rfl) ?_
 refine WO.mv rfl rfl ?_
 refine WO.nil (NX.go (WP.block ?_))
 replace hS1 := (St.addPure trivial hS1 : St B (sqA (rwA 93 103) [] [] :: mpS r2 [] :: X :: allA blA bs :: D :: allA recA dels :: L) w1)
 refine WP.loop (α := Nat × List Nat × List MRow × Nat) (fun x => match x with | ⟨i, gs, S, M⟩ => [(0, Value.slice a bs.length cap), (1, Value.slice b dels.length cap2), (2, Value.int .i64 fr), (3, Value.int .i64 to), (9, Value.map (some r2)), (21, Value.slice a bs.length cap), (22, Value.int .i64 ((bs.length : Nat) : Int)), (23, Value.int .i64 (i : Int))]) (fun x w => match x with | ⟨i, gs, S, M⟩ => (i ≤ bs.length ∧ leftU (inF fr to) (dels.map Rcd.p) ((bs.drop i).map BlkV.p) (S.map MRow.p) = leftU (inF fr to) (dels.map Rcd.p) (bs.map BlkV.p) [] ∧ (∀ r ∈ S, chk r.lb.l = true) ∧ (∀ r ∈ S, r.pt.l.length ≤ M) ∧ S.length + rtot (bs.drop i) ≤ 1099511627776 ∧ M + ptot (bs.drop i) ≤ 4398046511104) ∧ St B (mpS r2 (entR gs S) :: sqA (rwA 93 103) gs S :: X :: allA blA bs :: D :: allA recA dels :: L) w) (fun x => match x with | ⟨i, gs, S, M⟩ => bs.length - i) (0, [], [], 0) ⟨⟨Nat.zero_le _, rfl, (fun r h => by cases h), (fun r h => by cases h), (by simpa using hrt), (by simpa using hpt)⟩, (hS1.permT [1] (L' := _::_::_::_::_::_::L) rfl)⟩ (Sub.cons rfl (Sub.cons rfl (Sub.cons rfl (Sub.cons rfl (Sub.cons rfl (Sub.cons rfl (Sub.cons rfl (Sub.consE rfl (by first | rfl | first | rfl | (congr 1; omega) | (simp; done) | (simp; omega)) (Sub.nil _))))))))) ?_
 rintro ⟨i, gs, S, M⟩ w3 ⟨⟨hi, hgo, hch, hM, hSn, hMn⟩, hS3⟩
 clear hS1
 refine WP.seq (WP.region rfl ?_)
 refine WO.V (run_lss rfl rfl) ?_
 refine WO.nil (NX.go (WP.seq ?_))
 refine WP.condP rfl (fun g24 => ?_) (fun g24 => ?_)
 ·
  refine WP.skip (NX.go (WP.seq (WP.block (WP.seq ?_))))
  obtain ⟨b1, hbl⟩ : ∃ qq, bs[i]? = some qq := ⟨_, List.getElem?_eq_getElem (by omega)⟩
  have hbz1 := hbz b1 (List.mem_of_getElem? hbl)
  have hbr1 := hbz1.nr
  have hdt1 := dtot_drop bs (i + 1)
  refine WP.region rfl ?_
  refine WO.mv rfl rfl ?_
  refine WO.V (run_indexAddr (q := adr a (i * 4)) Tryz.underlying39 Ty.sz46 rfl rfl (by omega) (by omega) ((hX (hS3.focus 2 rfl)).2.1 (by omega)) rfl) ?_
  refine WO.V (run_loadAgg (vs := (blc b1)) Ty.ag46 Ty.sz46 rfl ((hX (hS3.focus 2 rfl)).cells (by rw [flat_len blc_len]; omega) (flat_part blc_len hbl)).1 ((hX (hS3.focus 2 rfl)).cells (by rw [flat_len blc_len]; omega) (flat_part blc_len hbl)).2) ?_
  refine WO.alloc (l := [Value.int .i64 0, Value.int .i64 0, Value.slice none 0 0, Value.slice none 0 0]) hS3 Ty.zr46 rfl rfl (fun g5 w4 lg5 hS4 => ?_)
  clear hS3
  refine WO.asg rfl rfl ?_
  refine WO.store (l' := (blc b1)) 0 hS4 rfl Ty.sz46 rfl rfl rfl rfl rfl (Nat.le_of_ble_eq_true rfl) rfl (fun w6 (hS6 : St B (cel g5 (blc b1) 46 :: _::_::_::_::_::_::L) w6) => ?_)
  clear hS4
  refine WO.nil (NX.go (WP.seq (WP.region rfl ?_)))
  refine WO.mv rfl rfl ?_
  have hS7 := hS6.permT [5] (L' := _::_::_::_::_::_::_::L) rfl
  clear hS6
  refine WO.call rfl rfl Ty.hd86 rfl (cloneRcd (X := D) hD (by omega) hS7) (fun v9 w8 pv9 => ?_)
  obtain ⟨da0, dc0, rfl, hS8⟩ := pv9
  clear hS7
  refine WO.asg rfl rfl ?_
  refine WO.nil (NX.go (WP.seq (WP.seq (WP.region rfl ?_))))
  refine WO.mv rfl rfl ?_
  refine WO.mv rfl rfl ?_
  refine WO.V (run_add rfl rfl (IntWalk.i64_in _ (by omega))) ?_
  refine WO.V (run_sliceL (i := i + 1) (j := bs.length) Tryz.underlying39 Ty.sz46 rfl ⟨_, rfl⟩ rfl (by omega) (by omega)) ?_
  refine WO.V (run_len rfl Tryz.underlying39 rfl) ?_
  refine WO.mv rfl rfl ?_
  refine WO.nil (NX.go (WP.block ?_))
  have hS10 := St.dup (allA_pers recA_pers dels) (hS8.permT [7] (L' := _::_::_::_::_::_::_::_::L) rfl)
  clear hS8
  have hS11 : St B (_::_::_::_::_::_::_::_::_::L) w8 := (hS10.permT [0, 1, 2, 4, 4] (L' := _::_::_::_::_::_::_::_::_::L) rfl)
  clear hS10
  refine WP.loop (α := Nat × List Rcd × Option Addr × Nat) (fun x => match x with | ⟨k, dd, da, dc⟩ => [(0, Value.slice a bs.length cap), (1, Value.slice b dels.length cap2), (2, Value.int .i64 fr), (3, Value.int .i64 to), (9, Value.map (some r2)), (10, Value.int .i64 (i : Int)), (11, Value.pointer (some ⟨g5, 0, none⟩)), (12, Value.slice da dd.length dc), (21, Value.slice a bs.length cap), (22, Value.int .i64 ((bs.length : Nat) : Int)), (23, Value.int .i64 (i : Int)), (33, Value.slice (if cap = i + 1 then a else a.map (·.add ((i + 1) * 4))) (bs.length - (i + 1)) (cap - (i + 1))), (34, Value.int .i64 ((bs.length - (i + 1) : Nat) : Int)), (35, Value.int .i64 (k : Int))]) (fun x w => match x with | ⟨k, dd, da, dc⟩ => (k ≤ bs.length - (i + 1) ∧ dd ++ ((bs.drop (i + 1)).drop k).flatMap (·.ds.l) = dels ++ (bs.drop (i + 1)).flatMap (·.ds.l) ∧ dd.length + dtot ((bs.drop (i + 1)).drop k) ≤ 1099511627776) ∧ St B (own da dd.length dc 33 5 (dd.flatMap rcc) :: allA recA dd :: cel g5 (blc b1) 46 :: X :: allA blA bs :: allA recA dels :: D :: mpS r2 (entR gs S) :: sqA (rwA 93 103) gs S :: L) w) (fun x => match x with | ⟨k, dd, da, dc⟩ => (bs.length - (i + 1)) - k) (0, dels, da0, dc0) ⟨⟨Nat.zero_le _, rfl, by rw [List.drop_zero]; have := dtot_drop bs (i + 1); omega⟩, (hS11.permT [1] (L' := _::_::_::_::_::_::_::_::_::L) rfl)⟩ (Sub.cons rfl (Sub.cons rfl (Sub.cons rfl (Sub.cons rfl (Sub.cons rfl (Sub.cons rfl (Sub.cons rfl (Sub.consE rfl (by first | rfl | first | rfl | (congr 1; omega) | (simp; done) | (simp; omega)) (Sub.cons rfl (Sub.cons rfl (Sub.cons rfl (Sub.cons rfl (Sub.cons rfl (Sub.consE rfl (by first | rfl | first | rfl | (congr 1; omega) | (simp; done) | (simp; omega)) (Sub.nil _))))))))))))))) ?_
  rintro ⟨k, dd, da, dc⟩ w12 ⟨⟨hk, hdd, hdn⟩, hS12⟩
  clear hS11
  refine WP.seq (WP.region rfl ?_)
  refine WO.V (run_lss rfl rfl) ?_
  refine WO.nil (NX.go (WP.seq ?_))
  refine WP.condP rfl (fun g36 => ?_) (fun g36 => ?_)
  ·
   refine WP.skip (NX.go (WP.seq (WP.block (WP.seq ?_))))
   obtain ⟨c, hc⟩ : ∃ qq, (bs.drop (i + 1))[k]? = some qq := ⟨_, List.getElem?_eq_getElem (by rw [List.length_drop]; omega)⟩
   have hS13 := blA_get (drop_mem hc) (hS12.permT [4] (L' := _::_::_::_::_::_::_::_::_::L) rfl)
   clear hS12
   have hdn2 := hdn
   rw [drop_cons hc] at hdn2
   simp only [dtot] at hdn2
   refine WP.region rfl ?_
   refine WO.V (run_indexAddr (q := adr (if cap = i + 1 then a else a.map (·.add ((i + 1) * 4))) (k * 4)) Tryz.underlying39 Ty.sz46 rfl rfl (by omega) (by omega) ((rd_tail hX (by omega) hcp (hS13.focus 8 rfl)).2.1 (by omega)) rfl) ?_
   refine WO.V (run_loadAgg (vs := (blc c)) Ty.ag46 Ty.sz46 rfl ((rd_tail hX (by omega) hcp (hS13.focus 8 rfl)).cells (by rw [flat_len blc_len, List.length_drop]; omega) (flat_part blc_len hc)).1 ((rd_tail hX (by omega) hcp (hS13.focus 8 rfl)).cells (by rw [flat_len blc_len, List.length_drop]; omega) (flat_part blc_len hc)).2) ?_
   refine WO.alloc (l := [Value.int .i64 0, Value.int .i64 0, Value.slice none 0 0, Value.slice none 0 0]) hS13 Ty.zr46 rfl rfl (fun g15 w14 lg15 hS14 => ?_)
   clear hS13
   refine WO.store (l' := (blc c)) 0 hS14 rfl Ty.sz46 rfl rfl rfl rfl rfl (Nat.le_of_ble_eq_true rfl) rfl (fun w16 (hS16 : St B (cel g15 (blc c) 46 :: (rsA c.rs) :: allA mrA c.rs.l :: (dsA c.ds) :: allA recA c.ds.l :: _::_::_::_::_::_::_::_::_::L) w16) => ?_)
   clear hS14
   refine WO.nil (NX.go (WP.region rfl ?_))
   refine WO.mv rfl rfl ?_
   refine WO.V (run_fa 3 ⟨g15, 3, none⟩ rfl rfl) ?_
   refine WO.V (run_load Ty.ag23 rfl ((hS16.cel_at 0 rfl 3).trans rfl)) ?_
   refine WO.append (news := (c.ds.l.flatMap rcc)) 6 rfl Tryz.underlying23 Tryz.underlying23 (fun _ h => by cases h) Ty.sz33 (by decide) Ty.by33 Ty.zr33 rfl rfl rfl rfl hS16 rfl ((rdH_rd (hS16.focus 3 rfl)).src) (flat_noAgg rcc_na _) (by omega) (by omega) (fun a18 c19 w17 hS17 => ?_)
   replace hS17 : St B (_::_::_::_::_::_::own a18 (dd.length + c.ds.l.length) c19 33 5 ((dd.flatMap rcc) ++ (c.ds.l.flatMap rcc)) :: _::_::_::_::_::_::_::L) w17 := hS17
   clear hS16
   refine WO.asg rfl rfl ?_
   refine WO.nil (NX.blk (NX.go (WP.region rfl ?_)))
   refine WO.V (run_add rfl rfl (IntWalk.i64_in _ (by omega))) ?_
   refine WO.mv rfl rfl ?_
   refine WO.nil ?_
   have hS20 := recs_app (hS17.permT [7, 4] (L' := _::_::_::_::_::_::_::_::_::_::_::_::_::_::L) rfl)
   clear hS17
   exact NX.again (k + 1, dd ++ c.ds.l, a18, c19) ⟨⟨by omega, by rw [drop_cons hc] at hdd; rw [← hdd]; simp, by rw [drop_cons hc] at hdn; simp only [dtot] at hdn; rw [List.length_append]; omega⟩, own_eqM ((hS20.mask [true, false, false, false, false] (L' := _::_::_::_::_::_::_::_::_::L) rfl).permT [2, 0, 1, 1] (L' := _::_::_::_::_::_::_::_::_::L) rfl) (by simp) (by simp)⟩ (by show (bs.length - (i + 1)) - (k + 1) < (bs.length - (i + 1)) - k; omega) (Sub.cons rfl (Sub.cons rfl (Sub.cons rfl (Sub.cons rfl (Sub.cons rfl (Sub.cons rfl (Sub.cons rfl (Sub.consE rfl (by simp) (Sub.cons rfl (Sub.cons rfl (Sub.cons rfl (Sub.cons rfl (Sub.cons rfl (Sub.consE rfl (by congr 1) (Sub.nil _)))))))))))))))
  ·
   refine WP.exit (NX.thenExit (NX.thenExit ?_))
   refine NX.blkExit ?_
   refine NX.go (WP.seq ?_)
   have hS21 := blA_get (List.mem_of_getElem? hbl) (hS12.permT [4] (L' := _::_::_::_::_::_::_::_::_::L) rfl)
   clear hS12
   have hS22 : St B ((rsA b1.rs) :: allA mrA b1.rs.l :: _::_::_::_::_::_::_::_::_::L) w12 := (hS21.mask [true, true, false, false] (L' := _::_::_::_::_::_::_::_::_::_::_::L) rfl)
   clear hS21
   have hdd' : dd = dels ++ (bs.drop (i + 1)).flatMap (·.ds.l) := by rw [← hdd, List.drop_of_length_le (by rw [List.length_drop]; omega)]; simp
   have hddz : ∀ r ∈ dd, SzR r := fun r hr => dels_sz hdz hbz (hdd' ▸ hr)
   have hddn : dd.length ≤ 1099511627776 := by omega
   obtain ⟨RA, hRA⟩ : ∃ qq, rowsU (inF fr to) (dd.map Rcd.p) ((b1.rs.l.drop 0).map MRow.p) (S.map MRow.p) = qq := ⟨_, rfl⟩
   refine WP.region rfl ?_
   refine WO.V (run_fa 2 ⟨g5, 2, none⟩ rfl rfl) ?_
   refine WO.V (run_load Ty.ag44 rfl ((hS22.cel_at 5 rfl 2).trans rfl)) ?_
   refine WO.V (run_len rfl Tryz.underlying44 rfl) ?_
   refine WO.mv rfl rfl ?_
   refine WO.nil (NX.go (WP.block ?_))
   have hS23 : St B (_::_::_::_::_::_::_::_::_::_::_::L) w12 := (hS22.permT [0, 0, 1, 1, 5, 5] (L' := _::_::_::_::_::_::_::_::_::_::_::L) rfl)
   clear hS22
   refine WP.loop (α := Nat × List Nat × List MRow × Nat) (fun x => match x with | ⟨k, gs, S, M⟩ => [(0, Value.slice a bs.length cap), (1, Value.slice b dels.length cap2), (2, Value.int .i64 fr), (3, Value.int .i64 to), (9, Value.map (some r2)), (12, Value.slice da dd.length dc), (21, Value.slice a bs.length cap), (22, Value.int .i64 ((bs.length : Nat) : Int)), (23, Value.int .i64 (i : Int)), (45, Value.slice b1.rs.a b1.rs.l.length b1.rs.cap), (46, Value.int .i64 ((b1.rs.l.length : Nat) : Int)), (47, Value.int .i64 (k : Int))]) (fun x w => match x with | ⟨k, gs, S, M⟩ => (k ≤ b1.rs.l.length ∧ rowsU (inF fr to) (dd.map Rcd.p) ((b1.rs.l.drop k).map MRow.p) (S.map MRow.p) = RA ∧ (∀ r ∈ S, chk r.lb.l = true) ∧ (∀ r ∈ S, r.pt.l.length ≤ M) ∧ S.length + (b1.rs.l.length - k + rtot (bs.drop (i + 1))) ≤ 1099511627776 ∧ M + (rsum (b1.rs.l.drop k) + ptot (bs.drop (i + 1))) ≤ 4398046511104) ∧ St B (mpS r2 (entR gs S) :: sqA (rwA 93 103) gs S :: own da dd.length dc 33 5 (dd.flatMap rcc) :: allA recA dd :: (rsA b1.rs) :: allA mrA b1.rs.l :: allA blA bs :: cel g5 (blc b1) 46 :: X :: allA recA dels :: D :: L) w) (fun x => match x with | ⟨k, gs, S, M⟩ => b1.rs.l.length - k) (0, gs, S, M) ⟨⟨Nat.zero_le _, hRA, hch, hM, by rw [drop_cons hbl] at hSn; simp only [rtot] at hSn; simp only [Nat.sub_zero]; omega, by rw [drop_cons hbl] at hMn; simp only [ptot] at hMn; rw [List.drop_zero]; omega⟩, (hS23.permT [4, 4, 2, 2] (L' := _::_::_::_::_::_::_::_::_::_::_::L) rfl)⟩ (Sub.cons rfl (Sub.cons rfl (Sub.cons rfl (Sub.cons rfl (Sub.cons rfl (Sub.cons rfl (Sub.cons rfl (Sub.cons rfl (Sub.cons rfl (Sub.cons rfl (Sub.cons rfl (Sub.consE rfl (by first | rfl | first | rfl | (congr 1; omega) | (simp; done) | (simp; omega)) (Sub.nil _))))))))))))) ?_
   rintro ⟨k, gs, S, M⟩ w24 ⟨⟨hk4, hgo4, hch, hM, hSn4, hMn4⟩, hS24⟩
   clear hS23
   refine WP.seq (WP.region rfl ?_)
   refine WO.V (run_lss rfl rfl) ?_
   refine WO.nil (NX.go (WP.seq ?_))
   refine WP.condP rfl (fun g48 => ?_) (fun g48 => ?_)
   ·
    refine WP.skip (NX.go (WP.seq (WP.block (WP.seq ?_))))
    obtain ⟨u, hu⟩ : ∃ qq, b1.rs.l[k]? = some qq := ⟨_, List.getElem?_eq_getElem (by omega)⟩
    refine WP.region rfl ?_
    refine WO.V (run_indexAddr (q := adr b1.rs.a (k * 3)) Tryz.underlying44 Ty.sz93 rfl rfl (by omega) (by omega) ((rdH_rd (hS24.focus 4 rfl)).2.1 (by omega)) rfl) ?_
    refine WO.V (run_loadAgg (vs := (mrc u)) Ty.ag93 Ty.sz93 rfl ((rdH_rd (hS24.focus 4 rfl)).cells (by rw [flat_len mrc_len]; omega) (flat_part mrc_len hu)).1 ((rdH_rd (hS24.focus 4 rfl)).cells (by rw [flat_len mrc_len]; omega) (flat_part mrc_len hu)).2) ?_
    refine WO.alloc (l := [Value.slice none 0 0, Value.int .i64 0, Value.slice none 0 0]) hS24 Ty.zr93 rfl rfl (fun g26 w25 lg26 hS25 => ?_)
    clear hS24
    refine WO.store (l' := (mrc u)) 0 hS25 rfl Ty.sz93 rfl rfl rfl rfl rfl (Nat.le_of_ble_eq_true rfl) rfl (fun w27 (hS27 : St B (cel g26 (mrc u) 93 :: _::_::_::_::_::_::_::_::_::_::_::L) w27) => ?_)
    clear hS25
    refine WO.nil (NX.go (WP.seq ?_))
    have hS28 := mrA_get (List.mem_of_getElem? hu) (hS27.permT [6] (L' := _::_::_::_::_::_::_::_::_::_::_::_::L) rfl)
    clear hS27
    have hup := (hbz1.r u (List.mem_of_getElem? hu)).2.1
    refine WP.region rfl ?_
    refine WO.mv rfl rfl ?_
    refine WO.V (run_loadAgg (vs := (mrc u)) Ty.ag93 Ty.sz93 rfl rfl (cell_all (hS28.cel_at 3 rfl) 0 rfl)) ?_
    have hS29 := hS28.permT [4, 4] (L' := _::_::_::_::_::_::_::_::_::_::_::_::_::_::L) rfl
    clear hS28
    refine WO.call rfl rfl Ty.hd87 rfl (of_spec u (hck b1 (List.mem_of_getElem? hbl) u (List.mem_of_getElem? hu)) hch hS29) (fun v31 w30 pv31 => ?_)
    obtain ⟨gq, j0, gs1, S1, row, rfl, hR, hS30⟩ := pv31
    clear hS29
    refine WO.asg rfl rfl ?_
    refine WO.nil (NX.go (WP.seq ?_))
    have hS32 : St B (cel gq (mrc row) 93 :: (labA row.lb) :: own row.pt.a row.pt.l.length row.pt.cap 103 2 (row.pt.l.flatMap ptc) :: sqBut (rwA 93 103) j0 gs1 S1 :: mpS r2 (entR gs1 S1) :: _::_::_::_::_::_::_::_::_::_::_::_::L) w30 := rw_open hS30
    clear hS30
    have hS33 : St B (_::_::_::_::_::_::_::_::_::_::_::_::_::_::_::_::_::L) w30 := (hS32.permT [0, 1, 3, 3, 4, 4, 4] (L' := _::_::_::_::_::_::_::_::_::_::_::_::_::_::_::_::_::L) rfl)
    clear hS32
    have hrM := hR.hpt M hM row (List.mem_of_getElem? hR.hr)
    have hMn5 := hMn4
    rw [drop_cons hu] at hMn5
    simp only [rsum] at hMn5
    refine WD.start (fun w => (∀ jz, World.cell? w ⟨gq, jz, none⟩ = (mrc row)[jz]?) ∧ (∀ jz, World.cell? w ⟨g26, jz, none⟩ = (mrc u)[jz]?)) [10] (bt 11 0) Ty.mo rfl (by kernel_rfl) hS33 (fun _ h => ⟨h.cel_at 0 rfl, h.cel_at 4 rfl⟩) (fun w34 hS34 s35 => ?_)
    clear hS33
    refine DP (i := 0) t52_15 (bt 11 1) rfl rfl rfl rfl (fun w => run_move rfl) ?_
    refine DP (i := 1) t52_15 (bt 11 3) rfl rfl rfl rfl (fun w => run_move rfl) ?_
    refine DP (i := 2) t52_15 (bt 11 7) rfl rfl rfl rfl (fun w => run_nilCheck rfl) ?_
    refine DP (i := 3) t52_15 (bt 11 15) rfl rfl rfl rfl (fun w => run_fa 1 ⟨gq, 1, none⟩ rfl rfl) ?_
    refine DT (i := 4) t52_15 (bt 11 31) s35 rfl rfl rfl rfl (fun w hs => run_load Ty.ag2 rfl ((hs.1 1).trans rfl)) ?_
    refine DP (i := 5) t52_15 (bt 11 63) rfl rfl rfl rfl (fun w => run_fa 1 ⟨g26, 1, none⟩ rfl rfl) ?_
    refine DT (i := 6) t52_15 (bt 11 127) s35 rfl rfl rfl rfl (fun w hs => run_load Ty.ag2 rfl ((hs.2 1).trans rfl)) ?_
    refine DP (i := 7) t52_15 (bt 11 255) rfl rfl rfl rfl (fun w => run_max rfl (maxI _ _)) ?_
    refine DP (i := 8) t52_15 (bt 11 511) rfl rfl rfl rfl (fun w => run_nilCheck rfl) ?_
    refine DP (i := 9) t52_15 (bt 11 1023) rfl rfl rfl rfl (fun w => run_fa 1 ⟨gq, 1, none⟩ rfl rfl) ?_
    refine WD.one (i := 10) t52_15 (bt 11 2047) rfl (by kernel_rfl) ?_
    refine WO.store (l' := [Value.slice row.lb.a row.lb.l.length row.lb.cap, Value.int .i64 (max row.last u.last), Value.slice row.pt.a row.pt.l.length row.pt.cap]) 0 hS34 rfl Ty.sz2 rfl rfl rfl rfl rfl (Nat.le_of_ble_eq_true rfl) rfl (fun w36 (hS36 : St B (cel gq [Value.slice row.lb.a row.lb.l.length row.lb.cap, Value.int .i64 (max row.last u.last), Value.slice row.pt.a row.pt.l.length row.pt.cap] 93 :: _::_::_::_::_::_::_::_::_::_::_::_::_::_::_::_::L) w36) => ?_)
    clear hS34
    refine WO.nil ?_
    refine NX.last (by decide) ?_
    refine WD.done t52_15 (by kernel_rfl) ?_
    refine NX.go (WP.seq (WP.region rfl ?_))
    refine WO.V (run_fa 2 ⟨g26, 2, none⟩ rfl rfl) ?_
    refine WO.V (run_load Ty.ag66 rfl ((hS36.cel_at 4 rfl 2).trans rfl)) ?_
    refine WO.V (run_len rfl Tryz.underlying66 rfl) ?_
    refine WO.mv rfl rfl ?_
    refine WO.nil (NX.go (WP.block ?_))
    refine WP.loop (α := Nat × Option Addr × Nat) (fun x => match x with | ⟨j, pa, pc⟩ => [(0, Value.slice a bs.length cap), (1, Value.slice b dels.length cap2), (2, Value.int .i64 fr), (3, Value.int .i64 to), (9, Value.map (some r2)), (12, Value.slice da dd.length dc), (16, Value.pointer (some ⟨g26, 0, none⟩)), (17, Value.pointer (some ⟨gq, 0, none⟩)), (21, Value.slice a bs.length cap), (22, Value.int .i64 ((bs.length : Nat) : Int)), (23, Value.int .i64 (i : Int)), (45, Value.slice b1.rs.a b1.rs.l.length b1.rs.cap), (46, Value.int .i64 ((b1.rs.l.length : Nat) : Int)), (47, Value.int .i64 (k : Int)), (65, Value.slice u.pt.a u.pt.l.length u.pt.cap), (66, Value.int .i64 ((u.pt.l.length : Nat) : Int)), (67, Value.int .i64 (j : Int))]) (fun x w => match x with | ⟨j, pa, pc⟩ => (j ≤ u.pt.l.length) ∧ St B (cel gq [Value.slice row.lb.a row.lb.l.length row.lb.cap, Value.int .i64 (max row.last u.last), Value.slice pa ((row.pt.l ++ (u.pt.l.take j).filter (pgo fr to dd u.lb.l)).length) pc] 93 :: own pa ((row.pt.l ++ (u.pt.l.take j).filter (pgo fr to dd u.lb.l)).length) pc 103 2 ((row.pt.l ++ (u.pt.l.take j).filter (pgo fr to dd u.lb.l)).flatMap ptc) :: cel g26 (mrc u) 93 :: (labA u.lb) :: (ptsA u.pt) :: own da dd.length dc 33 5 (dd.flatMap rcc) :: allA recA dd :: (labA row.lb) :: sqBut (rwA 93 103) j0 gs1 S1 :: mpS r2 (entR gs1 S1) :: allA mrA b1.rs.l :: (rsA b1.rs) :: allA blA bs :: cel g5 (blc b1) 46 :: X :: allA recA dels :: D :: L) w) (fun x => match x with | ⟨j, pa, pc⟩ => u.pt.l.length - j) (0, row.pt.a, row.pt.cap) ⟨Nat.zero_le _, by simpa using (hS36.permT [0, 0, 2] (L' := _::_::_::_::_::_::_::_::_::_::_::_::_::_::_::_::_::L) rfl)⟩ (Sub.cons rfl (Sub.cons rfl (Sub.cons rfl (Sub.cons rfl (Sub.cons rfl (Sub.cons rfl (Sub.cons rfl (Sub.cons rfl (Sub.cons rfl (Sub.cons rfl (Sub.cons rfl (Sub.cons rfl (Sub.cons rfl (Sub.cons rfl (Sub.cons rfl (Sub.cons rfl (Sub.consE rfl (by first | rfl | first | rfl | (congr 1; omega) | (simp; done) | (simp; omega)) (Sub.nil _)))))))))))))))))) ?_
    rintro ⟨j, pa, pc⟩ w37 ⟨hj, hS37⟩
    clear hS36
    refine WP.seq (WP.region rfl ?_)
    refine WO.V (run_lss rfl rfl) ?_
    refine WO.nil (NX.go (WP.seq ?_))
    refine WP.condP rfl (fun g68 => ?_) (fun g68 => ?_)
    ·
     refine WP.skip (NX.go (WP.seq (WP.block (WP.seq ?_))))
     obtain ⟨p, hp⟩ : ∃ qq, u.pt.l[j]? = some qq := ⟨_, List.getElem?_eq_getElem (by omega)⟩
     refine WP.region rfl ?_
     refine WO.V (run_indexAddr (q := adr u.pt.a (j * 2)) Tryz.underlying66 Ty.sz103 rfl rfl (by omega) (by omega) ((rdH_rd (hS37.focus 4 rfl)).2.1 (by omega)) rfl) ?_
     refine WO.V (run_loadAgg (vs := (ptc p)) Ty.ag103 Ty.sz103 rfl ((rdH_rd (hS37.focus 4 rfl)).cells (by rw [flat_len ptc_len]; omega) (flat_part ptc_len hp)).1 ((rdH_rd (hS37.focus 4 rfl)).cells (by rw [flat_len ptc_len]; omega) (flat_part ptc_len hp)).2) ?_
     refine WO.alloc (l := [Value.int .i64 0, Value.int .u64 0]) hS37 Ty.zr103 rfl rfl (fun g39 w38 lg39 hS38 => ?_)
     clear hS37
     refine WO.store (l' := (ptc p)) 0 hS38 rfl Ty.sz103 rfl rfl rfl rfl rfl (Nat.le_of_ble_eq_true rfl) rfl (fun w40 (hS40 : St B (cel g39 (ptc p) 103 :: _::_::_::_::_::_::_::_::_::_::_::_::_::_::_::_::_::L) w40) => ?_)
     clear hS38
     refine WO.nil (NX.go (WP.seq (WP.region rfl ?_)))
     refine WO.V (run_fa 0 ⟨g39, 0, none⟩ rfl rfl) ?_
     refine WO.V (run_load Ty.ag2 rfl ((hS40.cel_at 0 rfl 0).trans rfl)) ?_
     refine WO.mv rfl rfl ?_
     refine WO.V (run_geq rfl rfl) ?_
     refine WO.mv rfl rfl ?_
     refine dcase (p := fr ≤ p.t) (fun g75 d75 => ?_) (fun g75 d75 => ?_)
     ·
      refine WO.on rfl rfl d75 ?_
      refine WO.V (run_fa 0 ⟨g39, 0, none⟩ rfl rfl) ?_
      refine WO.on rfl rfl d75 ?_
      refine WO.V (run_load Ty.ag2 rfl ((hS40.cel_at 0 rfl 0).trans rfl)) ?_
      refine WO.on rfl rfl d75 ?_
      refine WO.mv rfl rfl ?_
      refine WO.on rfl rfl d75 ?_
      refine WO.V (run_leq rfl rfl) ?_
      refine WO.V (run_pickT rfl d75 rfl) ?_
      refine WO.mv rfl rfl ?_
      refine dcase (p := p.t ≤ to) (fun g81 d81 => ?_) (fun g81 d81 => ?_)
      ·
       refine WO.on rfl rfl d81 ?_
       refine WO.mv rfl rfl ?_
       refine WO.on rfl rfl d81 ?_
       refine WO.V (run_fa 0 ⟨g26, 0, none⟩ rfl rfl) ?_
       refine WO.on rfl rfl d81 ?_
       refine WO.V (run_load Ty.ag65 rfl ((hS40.cel_at 3 rfl 0).trans rfl)) ?_
       refine WO.on rfl rfl d81 ?_
       refine WO.V (run_fa 0 ⟨g39, 0, none⟩ rfl rfl) ?_
       refine WO.on rfl rfl d81 ?_
       refine WO.V (run_load Ty.ag2 rfl ((hS40.cel_at 0 rfl 0).trans rfl)) ?_
       refine WO.on rfl rfl d81 ?_
       have hS41 := hS40.permT [6, 6, 4] (L' := _::_::_::_::_::_::_::_::_::_::_::_::_::_::_::_::_::_::L) rfl
       clear hS40
       refine WO.call rfl rfl Ty.hd88 rfl (pgone_spec (X := own da dd.length dc 33 5 (dd.flatMap rcc)) (fun h => h.own_rd.1) rdH_rd hddz (by omega) (hbz1.r u (List.mem_of_getElem? hu)).1 p.t hS41) (fun v43 w42 pv43 => ?_)
       obtain ⟨rfl, hS42⟩ := pv43
       clear hS41
       refine WO.on rfl rfl d81 ?_
       refine WO.V (run_not rfl rfl) ?_
       refine WO.V (run_pickT rfl d81 rfl) ?_
       refine WO.nil (NX.go ?_)
       refine WP.condB rfl (fun g89 => ?_) (fun g89 => ?_)
       ·
        have hfl := filter_take_le (pgo fr to dd u.lb.l) u.pt.l j
        have hroom : (row.pt.l ++ (u.pt.l.take j).filter (pgo fr to dd u.lb.l)).length + 1 ≤ 4398046511104 := by rw [List.length_append]; omega
        refine WD.start (fun w => (∀ jz, World.cell? w ⟨g39, jz, none⟩ = (ptc p)[jz]?) ∧ (∀ jz, World.cell? w ⟨gq, jz, none⟩ = [Value.slice row.lb.a row.lb.l.length row.lb.cap, Value.int .i64 (max row.last u.last), Value.slice pa ((row.pt.l ++ (u.pt.l.take j).filter (pgo fr to dd u.lb.l)).length) pc][jz]?) ∧ (∀ jz, World.cell? w ⟨g26, jz, none⟩ = (mrc u)[jz]?)) [10] (bt 11 0) Ty.mo rfl (by kernel_rfl) hS42 (fun _ h => ⟨h.cel_at 3 rfl, h.cel_at 4 rfl, h.cel_at 6 rfl⟩) (fun w44 hS44 s45 => ?_)
        clear hS42
        refine DP (i := 0) t52_20 (bt 11 1) rfl rfl rfl rfl (fun w => run_move rfl) ?_
        refine DP (i := 1) t52_20 (bt 11 3) rfl rfl rfl rfl (fun w => run_move rfl) ?_
        refine DP (i := 2) t52_20 (bt 11 7) rfl rfl rfl rfl (fun w => run_nilCheck rfl) ?_
        refine DP (i := 3) t52_20 (bt 11 15) rfl rfl rfl rfl (fun w => run_fa 2 ⟨gq, 2, none⟩ rfl rfl) ?_
        refine DT (i := 4) t52_20 (bt 11 31) s45 rfl rfl rfl rfl (fun w hs => run_load Ty.ag66 rfl ((hs.2.1 2).trans rfl)) ?_
        refine DT (i := 5) t52_20 (bt 11 63) s45 rfl rfl rfl rfl (fun w hs => run_loadAgg (vs := (ptc p)) Ty.ag103 Ty.sz103 rfl rfl (cell_all (hs.1) 0 rfl)) ?_
        refine WD.one (i := 6) t52_20 (bt 11 127) rfl (by kernel_rfl) ?_
        refine WO.buildSlice (l := (ptc p)) hS44 Tryz.underlying66 rfl (fun w => by kernel_rfl) rfl (fun g47 w46 lg47 hS46 => ?_)
        clear hS44
        refine WO.nil ?_
        have s48 : (∀ jz, World.cell? w46 ⟨g39, jz, none⟩ = (ptc p)[jz]?) ∧ (∀ jz, World.cell? w46 ⟨gq, jz, none⟩ = [Value.slice row.lb.a row.lb.l.length row.lb.cap, Value.int .i64 (max row.last u.last), Value.slice pa ((row.pt.l ++ (u.pt.l.take j).filter (pgo fr to dd u.lb.l)).length) pc][jz]?) ∧ (∀ jz, World.cell? w46 ⟨g26, jz, none⟩ = (mrc u)[jz]?) := ⟨hS46.cel_at 4 rfl, hS46.cel_at 5 rfl, hS46.cel_at 7 rfl⟩
        refine NX.held s48 ?_
        refine WD.one (i := 7) t52_20 (bt 11 255) rfl (by kernel_rfl) ?_
        refine WO.append (news := (ptc p)) 6 rfl Tryz.underlying66 Tryz.underlying66 (fun _ h => by cases h) Ty.sz103 (by decide) Ty.by103 Ty.zr103 rfl rfl rfl rfl hS46 rfl ((hS46.cel_rd 0 rfl (o := 0) (m := 1) (k := 2) rfl (Nat.le_of_ble_eq_true rfl)).src) rfl (by omega) (by omega) (fun a50 c51 w49 hS49 => ?_)
        replace hS49 : St B (cel g47 (ptc p) 103 :: _::_::_::_::_::own a50 (((row.pt.l ++ (u.pt.l.take j).filter (pgo fr to dd u.lb.l)).length) + 1) c51 103 2 (((row.pt.l ++ (u.pt.l.take j).filter (pgo fr to dd u.lb.l)).flatMap ptc) ++ (ptc p)) :: _::_::_::_::_::_::_::_::_::_::_::_::L) w49 := hS49
        clear hS46
        refine WO.nil ?_
        have s52 : (∀ jz, World.cell? w49 ⟨g39, jz, none⟩ = (ptc p)[jz]?) ∧ (∀ jz, World.cell? w49 ⟨gq, jz, none⟩ = [Value.slice row.lb.a row.lb.l.length row.lb.cap, Value.int .i64 (max row.last u.last), Value.slice pa ((row.pt.l ++ (u.pt.l.take j).filter (pgo fr to dd u.lb.l)).length) pc][jz]?) ∧ (∀ jz, World.cell? w49 ⟨g26, jz, none⟩ = (mrc u)[jz]?) := ⟨hS49.cel_at 4 rfl, hS49.cel_at 5 rfl, hS49.cel_at 7 rfl⟩
        refine NX.held s52 ?_
        refine DP (i := 8) t52_20 (bt 11 511) rfl rfl rfl rfl (fun w => run_nilCheck rfl) ?_
        refine DP (i := 9) t52_20 (bt 11 1023) rfl rfl rfl rfl (fun w => run_fa 2 ⟨gq, 2, none⟩ rfl rfl) ?_
        refine WD.one (i := 10) t52_20 (bt 11 2047) rfl (by kernel_rfl) ?_
        refine WO.store (l' := [Value.slice row.lb.a row.lb.l.length row.lb.cap, Value.int .i64 (max row.last u.last), Value.slice a50 (((row.pt.l ++ (u.pt.l.take j).filter (pgo fr to dd u.lb.l)).length) + 1) c51]) 5 hS49 rfl Ty.sz66 rfl rfl rfl rfl rfl (Nat.le_of_ble_eq_true rfl) rfl (fun w53 (hS53 : St B (_::_::_::_::_::cel gq [Value.slice row.lb.a row.lb.l.length row.lb.cap, Value.int .i64 (max row.last u.last), Value.slice a50 (((row.pt.l ++ (u.pt.l.take j).filter (pgo fr to dd u.lb.l)).length) + 1) c51] 93 :: _::_::_::_::_::_::_::_::_::_::_::_::_::L) w53) => ?_)
        clear hS49
        refine WO.nil ?_
        refine NX.last (by decide) ?_
        refine WD.done t52_20 (by kernel_rfl) ?_
        refine NX.blk (NX.go ?_)
        have hpg : pgo fr to dd u.lb.l p = true := by simp [pgo, inF, ngone, g24, g36, g48, g68, g75, g81, g89] <;> omega
        refine WP.region rfl ?_
        refine WO.V (run_add rfl rfl (IntWalk.i64_in _ (by omega))) ?_
        refine WO.mv rfl rfl ?_
        refine WO.nil ?_
        have hlen9 : (((row.pt.l ++ (u.pt.l.take j).filter (pgo fr to dd u.lb.l)).length) + 1) = (row.pt.l ++ (u.pt.l.take (j + 1)).filter (pgo fr to dd u.lb.l)).length := by rw [take_filter hp, if_pos hpg]; simp; omega
        have hS54 : St B (cel gq [Value.slice row.lb.a row.lb.l.length row.lb.cap, Value.int .i64 (max row.last u.last), Value.slice a50 ((row.pt.l ++ (u.pt.l.take (j + 1)).filter (pgo fr to dd u.lb.l)).length) c51] 93 :: own a50 ((row.pt.l ++ (u.pt.l.take (j + 1)).filter (pgo fr to dd u.lb.l)).length) c51 103 2 ((row.pt.l ++ (u.pt.l.take (j + 1)).filter (pgo fr to dd u.lb.l)).flatMap ptc) :: cel g47 (ptc p) 103 :: own da dd.length dc 33 5 (dd.flatMap rcc) :: allA recA dd :: (labA u.lb) :: cel g39 (ptc p) 103 :: cel g26 (mrc u) 93 :: (ptsA u.pt) :: (labA row.lb) :: sqBut (rwA 93 103) j0 gs1 S1 :: mpS r2 (entR gs1 S1) :: allA mrA b1.rs.l :: (rsA b1.rs) :: allA blA bs :: cel g5 (blc b1) 46 :: X :: allA recA dels :: D :: L) w53 := by have z := (hS53.permT [5, 5] (L' := _::_::_::_::_::_::_::_::_::_::_::_::_::_::_::_::_::_::_::L) rfl); rw [hlen9] at z; have z2 := own_eqM (z.permT [1, 0] (L' := _::_::_::_::_::_::_::_::_::_::_::_::_::_::_::_::_::_::_::L) rfl) rfl (show _ = ((row.pt.l ++ (u.pt.l.take (j + 1)).filter (pgo fr to dd u.lb.l)).flatMap ptc) by rw [take_filter hp, if_pos hpg]; simp [ptc]); exact z2.permT [1, 0] rfl
        clear hS53
        exact NX.again (j + 1, a50, c51) ⟨by omega, ((hS54.mask [true, true, false, true, true, true, false] (L' := _::_::_::_::_::_::_::_::_::_::_::_::_::_::_::_::_::L) rfl).permT [0, 0, 3, 2, 2] (L' := _::_::_::_::_::_::_::_::_::_::_::_::_::_::_::_::_::L) rfl)⟩ (by show u.pt.l.length - (j + 1) < u.pt.l.length - j; omega) (Sub.cons rfl (Sub.cons rfl (Sub.cons rfl (Sub.cons rfl (Sub.cons rfl (Sub.cons rfl (Sub.cons rfl (Sub.cons rfl (Sub.cons rfl (Sub.cons rfl (Sub.cons rfl (Sub.cons rfl (Sub.cons rfl (Sub.cons rfl (Sub.cons rfl (Sub.cons rfl (Sub.consE rfl (by congr 1) (Sub.nil _))))))))))))))))))
       ·
        refine WP.skip (NX.blk (NX.go ?_))
        have hpg : ¬ pgo fr to dd u.lb.l p = true := by simp [pgo, inF, ngone, g24, g36, g48, g68, g75, g81, g89] <;> intros <;> omega
        refine WP.region rfl ?_
        refine WO.V (run_add rfl rfl (IntWalk.i64_in _ (by omega))) ?_
        refine WO.mv rfl rfl ?_
        refine WO.nil ?_
        have hsame : (u.pt.l.take (j + 1)).filter (pgo fr to dd u.lb.l) = (u.pt.l.take j).filter (pgo fr to dd u.lb.l) := by rw [take_filter hp, if_neg hpg]
        exact NX.again (j + 1, pa, pc) ⟨by omega, by rw [hsame]; exact ((hS42.mask [true, true, true, false] (L' := _::_::_::_::_::_::_::_::_::_::_::_::_::_::_::_::_::L) rfl).permT [3, 3, 3, 2, 2] (L' := _::_::_::_::_::_::_::_::_::_::_::_::_::_::_::_::_::L) rfl)⟩ (by show u.pt.l.length - (j + 1) < u.pt.l.length - j; omega) (Sub.cons rfl (Sub.cons rfl (Sub.cons rfl (Sub.cons rfl (Sub.cons rfl (Sub.cons rfl (Sub.cons rfl (Sub.cons rfl (Sub.cons rfl (Sub.cons rfl (Sub.cons rfl (Sub.cons rfl (Sub.cons rfl (Sub.cons rfl (Sub.cons rfl (Sub.cons rfl (Sub.consE rfl (by congr 1) (Sub.nil _))))))))))))))))))
      ·
       refine WO.off rfl rfl d81 rfl ?_
       refine WO.off rfl rfl d81 rfl ?_
       refine WO.off rfl rfl d81 rfl ?_
       refine WO.off rfl rfl d81 rfl ?_
       refine WO.off rfl rfl d81 rfl ?_
       refine WO.off rfl rfl d81 rfl ?_
       refine WO.off rfl rfl d81 rfl ?_
       refine WO.V (run_pickF rfl d81 rfl) ?_
       refine WO.nil (NX.go ?_)
       refine WP.condF rfl rfl ?_
       refine WP.skip (NX.blk (NX.go ?_))
       have hpg : ¬ pgo fr to dd u.lb.l p = true := by simp [pgo, inF, ngone, g24, g36, g48, g68, g75, g81] <;> intros <;> omega
       refine WP.region rfl ?_
       refine WO.V (run_add rfl rfl (IntWalk.i64_in _ (by omega))) ?_
       refine WO.mv rfl rfl ?_
       refine WO.nil ?_
       have hsame : (u.pt.l.take (j + 1)).filter (pgo fr to dd u.lb.l) = (u.pt.l.take j).filter (pgo fr to dd u.lb.l) := by rw [take_filter hp, if_neg hpg]
       exact NX.again (j + 1, pa, pc) ⟨by omega, by rw [hsame]; exact hS40.drop⟩ (by show u.pt.l.length - (j + 1) < u.pt.l.length - j; omega) (Sub.cons rfl (Sub.cons rfl (Sub.cons rfl (Sub.cons rfl (Sub.cons rfl (Sub.cons rfl (Sub.cons rfl (Sub.cons rfl (Sub.cons rfl (Sub.cons rfl (Sub.cons rfl (Sub.cons rfl (Sub.cons rfl (Sub.cons rfl (Sub.cons rfl (Sub.cons rfl (Sub.consE rfl (by congr 1) (Sub.nil _))))))))))))))))))
     ·
      refine WO.off rfl rfl d75 rfl ?_
      refine WO.off rfl rfl d75 rfl ?_
      refine WO.off rfl rfl d75 rfl ?_
      refine WO.off rfl rfl d75 rfl ?_
      refine WO.V (run_pickF rfl d75 rfl) ?_
      refine WO.mv rfl rfl ?_
      refine WO.off rfl rfl rfl rfl ?_
      refine WO.off rfl rfl rfl rfl ?_
      refine WO.off rfl rfl rfl rfl ?_
      refine WO.off rfl rfl rfl rfl ?_
      refine WO.off rfl rfl rfl rfl ?_
      refine WO.off rfl rfl rfl rfl ?_
      refine WO.off rfl rfl rfl rfl ?_
      refine WO.V (run_pickF rfl rfl rfl) ?_
      refine WO.nil (NX.go ?_)
      refine WP.condF rfl rfl ?_
      refine WP.skip (NX.blk (NX.go ?_))
      have hpg : ¬ pgo fr to dd u.lb.l p = true := by simp [pgo, inF, ngone, g24, g36, g48, g68, g75] <;> intros <;> omega
      refine WP.region rfl ?_
      refine WO.V (run_add rfl rfl (IntWalk.i64_in _ (by omega))) ?_
      refine WO.mv rfl rfl ?_
      refine WO.nil ?_
      have hsame : (u.pt.l.take (j + 1)).filter (pgo fr to dd u.lb.l) = (u.pt.l.take j).filter (pgo fr to dd u.lb.l) := by rw [take_filter hp, if_neg hpg]
      exact NX.again (j + 1, pa, pc) ⟨by omega, by rw [hsame]; exact hS40.drop⟩ (by show u.pt.l.length - (j + 1) < u.pt.l.length - j; omega) (Sub.cons rfl (Sub.cons rfl (Sub.cons rfl (Sub.cons rfl (Sub.cons rfl (Sub.cons rfl (Sub.cons rfl (Sub.cons rfl (Sub.cons rfl (Sub.cons rfl (Sub.cons rfl (Sub.cons rfl (Sub.cons rfl (Sub.cons rfl (Sub.cons rfl (Sub.cons rfl (Sub.consE rfl (by congr 1) (Sub.nil _))))))))))))))))))
    ·
     refine WP.exit (NX.thenExit (NX.thenExit ?_))
     refine NX.blkExit ?_
     refine NX.blk (NX.go ?_)
     have hjl : u.pt.l.take j = u.pt.l := List.take_of_length_le (by omega)
     have hS58 := rw_shut (tR := 93) (tP := 103) (g := gq) (r := (⟨row.lb, max row.last u.last, ⟨pa, row.pt.l ++ u.pt.l.filter (pgo fr to dd u.lb.l), pc⟩⟩ : MRow)) (by have z := (hS37.permT [0, 6] (L' := _::_::_::_::_::_::_::_::_::_::_::_::_::_::_::_::_::L) rfl); rw [hjl] at z; exact z)
     clear hS37
     have hS59 := sqA_back hR.hg (hS58.permT [0, 5] (L' := _::_::_::_::_::_::_::_::_::_::_::_::_::_::_::L) rfl)
     clear hS58
     have hS60 : St B (sqA (rwA 93 103) gs1 (S1.set j0 (⟨row.lb, max row.last u.last, ⟨pa, row.pt.l ++ u.pt.l.filter (pgo fr to dd u.lb.l), pc⟩⟩ : MRow)) :: cel g26 (mrc u) 93 :: (labA u.lb) :: (ptsA u.pt) :: own da dd.length dc 33 5 (dd.flatMap rcc) :: allA recA dd :: mpS r2 (entR gs1 (S1.set j0 (⟨row.lb, max row.last u.last, ⟨pa, row.pt.l ++ u.pt.l.filter (pgo fr to dd u.lb.l), pc⟩⟩ : MRow))) :: allA mrA b1.rs.l :: (rsA b1.rs) :: allA blA bs :: cel g5 (blc b1) 46 :: X :: allA recA dels :: D :: L) w37 := by rw [entR_set (r' := (⟨row.lb, max row.last u.last, ⟨pa, row.pt.l ++ u.pt.l.filter (pgo fr to dd u.lb.l), pc⟩⟩ : MRow)) hR.hr rfl]; exact hS59
     clear hS59
     have hfl2 := List.length_filter_le (pgo fr to dd u.lb.l) u.pt.l
     refine WP.region rfl ?_
     refine WO.V (run_add rfl rfl (IntWalk.i64_in _ (by omega))) ?_
     refine WO.mv rfl rfl ?_
     refine WO.nil ?_
     exact NX.again (k + 1, gs1, S1.set j0 (⟨row.lb, max row.last u.last, ⟨pa, row.pt.l ++ u.pt.l.filter (pgo fr to dd u.lb.l), pc⟩⟩ : MRow), M + (u.pt.l.filter (pgo fr to dd u.lb.l)).length) ⟨⟨by omega, by rw [drop_cons hu, rowsU_cons] at hgo4; rw [hR.hupd _ _ rfl]; exact hgo4, fun r hr => by rcases List.mem_or_eq_of_mem_set hr with hr | hr; (· exact hR.hchk r hr); (· rw [hr]; show chk row.lb.l = true; exact hR.hchk row (List.mem_of_getElem? hR.hr)), fun r hr => by rcases List.mem_or_eq_of_mem_set hr with hr | hr; (· exact Nat.le_trans (hR.hpt M hM r hr) (Nat.le_add_right _ _)); (· rw [hr]; show (row.pt.l ++ _).length ≤ _; rw [List.length_append]; have := hR.hpt M hM row (List.mem_of_getElem? hR.hr); omega), by rw [List.length_set]; have := hR.hlen; omega, by omega⟩, ((hS60.mask [true, false, false, false] (L' := _::_::_::_::_::_::_::_::_::_::_::L) rfl).permT [3, 0, 0, 0, 1] (L' := _::_::_::_::_::_::_::_::_::_::_::L) rfl)⟩ (by show b1.rs.l.length - (k + 1) < b1.rs.l.length - k; omega) (Sub.cons rfl (Sub.cons rfl (Sub.cons rfl (Sub.cons rfl (Sub.cons rfl (Sub.cons rfl (Sub.cons rfl (Sub.cons rfl (Sub.cons rfl (Sub.cons rfl (Sub.cons rfl (Sub.consE rfl (by congr 1) (Sub.nil _)))))))))))))
   ·
    refine WP.exit (NX.thenExit (NX.thenExit ?_))
    refine NX.blkExit ?_
    refine NX.blk (NX.go (WP.region rfl ?_))
    refine WO.V (run_add rfl rfl (IntWalk.i64_in _ (by omega))) ?_
    refine WO.mv rfl rfl ?_
    refine WO.nil ?_
    exact NX.again (i + 1, gs, S, M) ⟨⟨by omega, by rw [List.drop_of_length_le (by omega)] at hgo4; rw [drop_cons hbl, leftU_cons hdd'] at hgo; rw [List.drop_zero] at hRA; rw [← hgo, hRA, ← hgo4]; rfl, hch, hM, by omega, by omega⟩, ((hS24.mask [true, true, false, false, false, false, true, false] (L' := _::_::_::_::_::_::L) rfl).permT [0, 0, 1, 0, 1] (L' := _::_::_::_::_::_::L) rfl)⟩ (by show bs.length - (i + 1) < bs.length - i; omega) (Sub.cons rfl (Sub.cons rfl (Sub.cons rfl (Sub.cons rfl (Sub.cons rfl (Sub.cons rfl (Sub.cons rfl (Sub.consE rfl (by congr 1) (Sub.nil _)))))))))
 ·
  refine WP.exit (NX.thenExit (NX.thenExit ?_))
  refine NX.blkExit ?_
  refine NX.go (WP.seq (WP.region rfl ?_))
  refine WO.mv rfl rfl ?_
  refine WO.call rfl rfl Ty.hd61 rfl (sorted_spec (by omega) (fun r hr => by have := (chk_sz (hch r hr)).1; omega) hS3) (fun v62 w61 pv62 => ?_)
  obtain ⟨a1, c1, l1, rfl, hp1, hs1, hS61⟩ := pv62
  clear hS3
  refine WO.asg rfl rfl ?_
  refine WO.nil (NX.go (WP.ret ?_))
  refine NX.done (l := [.tmp 8]) rfl rfl ?_
  have hLU : S.map MRow.p = leftU (inF fr to) (dels.map Rcd.p) (bs.map BlkV.p) [] := by rw [← hgo, List.drop_of_length_le (by omega)]; rfl
  have hres : l1.map MRow.p = (leftA (dels.map Rcd.p) (bs.map BlkV.p) []).map (flt (inF fr to)) := left_sorted (hLU ▸ hp1.map MRow.p) (by rw [List.pairwise_map]; exact hs1)
  exact ⟨a1, c1, l1, rfl, hres, by rw [hp1.length_eq]; omega, fun r hr => hch r (hp1.subset hr), fun r hr => Nat.le_trans (hM r (hp1.subset hr)) (by omega), hS61⟩
end Go.Proofs.YtidoidoelgfnaaaGreatDoor.SL

/- Queries, in the program. -/
namespace Go.Proofs.YtidoidoelgfnaaaGreatDoor.SL
open Go.RowKit Go.Proofs.YtidoidoelgfnaaaGreatDoor
open Go.Proofs.YtidoidoelgfnaaaGreatDoorW.PrintLast (rtab opsOf)
set_option linter.unusedVariables false
set_option linter.unusedSimpArgs false
theorem pquery_spec {B w : World} {L : List HP} {X D M : HP} {a b m : Option Addr} {cap cap2 cap3 : Nat} {bs : List BlkV} {dels : List Rcd} {ask : List Mt} (hX : ∀ {L : List HP} {w : World}, St B (X :: L) w → Rd w a bs.length 4 (bs.flatMap blc)) (hD : ∀ {L : List HP} {w : World}, St B (D :: L) w → Rd w b dels.length 5 (dels.flatMap rcc)) (hMt : ∀ {L : List HP} {w : World}, St B (M :: L) w → Rd w m ask.length 3 (ask.flatMap mtc)) (hbz : ∀ b ∈ bs, SzB b) (hdz : ∀ r ∈ dels, SzR r) (hck : ∀ b ∈ bs, ∀ r ∈ b.rs.l, chk r.lb.l = true) (hmz : SzM ask) (hmn : ask.length ≤ 4398046511104) (hcp : bs.length ≤ cap) (hbn : bs.length ≤ 1099511627776) (hrt : rtot bs ≤ 1099511627776) (hpt : ptot bs ≤ 4398046511104) (hdt : dels.length + dtot bs ≤ 1099511627776) (fr to : Int) (hS : St B (X :: allA blA bs :: D :: allA recA dels :: M :: L) w) : Does Tryz.prog 18 [Value.slice a bs.length cap, Value.slice b dels.length cap2, Value.slice m ask.length cap3, Value.int .i64 fr, Value.int .i64 to] w (fun v w1 => ∃ a1 c1, ∃ out : List MSer, v = .slice a1 out.length c1 ∧ out.map MSer.p = qryR ask fr to (leftA (dels.map Rcd.p) (bs.map BlkV.p) []) ∧ out.length ≤ 1099511627776 ∧ (∀ s ∈ out, s.lb.l.length ≤ 4398046511104 ∧ s.pt.l.length ≤ 4398046511104) ∧ St B (own a1 out.length c1 68 2 (out.flatMap msc) :: allA serA out :: X :: allA blA bs :: D :: allA recA dels :: M :: L) w1) := by
 refine enter (n := 44) Tryz.func18 rfl rfl [Value.slice a bs.length cap, Value.slice b dels.length cap2, Value.slice m ask.length cap3, Value.int .i64 fr, Value.int .i64 to] rfl ?_
 refine WP.seq (WP.region rfl ?_)
 refine WO.asg rfl rfl ?_
 refine WO.nil (NX.go (WP.seq (WP.region rfl ?_)))
 refine WO.asg rfl rfl ?_
 refine WO.nil (NX.go (WP.seq (WP.seq (WP.region rfl ?_))))
 refine WO.mv rfl rfl ?_
 refine WO.mv rfl rfl ?_
 refine WO.mv rfl rfl ?_
 refine WO.mv rfl rfl ?_
 refine WO.call rfl rfl Ty.hd52 rfl (pleft_spec hX hD hbz hdz hck hcp hbn hrt hpt hdt fr to hS) (fun v2 w1 pv2 => ?_)
 obtain ⟨ra, rc, R, rfl, hR, hRn, hRl, hRp, hS1⟩ := pv2
 clear hS
 refine WO.V (run_len rfl Tryz.underlying44 rfl) ?_
 refine WO.mv rfl rfl ?_
 refine WO.nil (NX.go (WP.block ?_))
 have hS3 : St B (own ra R.length rc 93 3 (R.flatMap mrc) :: allA mrA R :: _::_::_::_::_::L) w1 := (hS1.permT [0, 0, 4] (L' := _::_::_::_::_::_::_::L) rfl)
 clear hS1
 replace hS3 := (St.addPure trivial hS3 : St B (allA serA [] :: own ra R.length rc 93 3 (R.flatMap mrc) :: allA mrA R :: M :: X :: allA blA bs :: D :: allA recA dels :: L) w1)
 replace hS3 := hS3.own_nil 68 2
 refine WP.loop (α := Nat × List MSer × Option Addr × Nat) (fun x => match x with | ⟨i, out, oa, oc⟩ => [(2, Value.slice m ask.length cap3), (11, Value.slice oa out.length oc), (18, Value.slice ra R.length rc), (19, Value.int .i64 ((R.length : Nat) : Int)), (20, Value.int .i64 (i : Int))]) (fun x w => match x with | ⟨i, out, oa, oc⟩ => (i ≤ R.length ∧ out.map MSer.p ++ qryP ask ((R.drop i).map MRow.p) = qryR ask fr to (leftA (dels.map Rcd.p) (bs.map BlkV.p) []) ∧ out.length ≤ i ∧ (∀ s ∈ out, s.lb.l.length ≤ 4398046511104 ∧ s.pt.l.length ≤ 4398046511104)) ∧ St B (own oa out.length oc 68 2 (out.flatMap msc) :: allA serA out :: own ra R.length rc 93 3 (R.flatMap mrc) :: allA mrA R :: M :: X :: allA blA bs :: D :: allA recA dels :: L) w) (fun x => match x with | ⟨i, out, oa, oc⟩ => R.length - i) (0, [], none, 0) ⟨⟨Nat.zero_le _, by rw [List.drop_zero, hR, qry_flt]; rfl, Nat.le_refl _, (fun s h => by cases h)⟩, hS3⟩ (Sub.cons rfl (Sub.consE rfl (by first | rfl | first | rfl | (congr 1; omega) | (simp; done) | (simp; omega)) (Sub.cons rfl (Sub.cons rfl (Sub.consE rfl (by first | rfl | first | rfl | (congr 1; omega) | (simp; done) | (simp; omega)) (Sub.nil _)))))) ?_
 rintro ⟨i, out, oa, oc⟩ w4 ⟨⟨hi, hgo, hon, hsz⟩, hS4⟩
 clear hS3
 refine WP.seq (WP.region rfl ?_)
 refine WO.V (run_lss rfl rfl) ?_
 refine WO.nil (NX.go (WP.seq ?_))
 refine WP.condP rfl (fun g21 => ?_) (fun g21 => ?_)
 ·
  refine WP.skip (NX.go (WP.seq (WP.block (WP.seq ?_))))
  obtain ⟨r, hr⟩ : ∃ qq, R[i]? = some qq := ⟨_, List.getElem?_eq_getElem (by omega)⟩
  have hS5 := mrA_get (List.mem_of_getElem? hr) (hS4.permT [3] (L' := _::_::_::_::_::_::_::_::_::L) rfl)
  clear hS4
  refine WP.region rfl ?_
  refine WO.V (run_indexAddr (q := adr ra (i * 3)) Tryz.underlying44 Ty.sz93 rfl rfl (by omega) (by omega) ((hS5.own_rd_i 5 rfl).2.1 (by omega)) rfl) ?_
  refine WO.V (run_loadAgg (vs := (mrc r)) Ty.ag93 Ty.sz93 rfl ((hS5.own_rd_i 5 rfl).cells (by rw [flat_len mrc_len]; omega) (flat_part mrc_len hr)).1 ((hS5.own_rd_i 5 rfl).cells (by rw [flat_len mrc_len]; omega) (flat_part mrc_len hr)).2) ?_
  refine WO.alloc (l := [Value.slice none 0 0, Value.int .i64 0, Value.slice none 0 0]) hS5 Ty.zr93 rfl rfl (fun g7 w6 lg7 hS6 => ?_)
  clear hS5
  refine WO.store (l' := (mrc r)) 0 hS6 rfl Ty.sz93 rfl rfl rfl rfl rfl (Nat.le_of_ble_eq_true rfl) rfl (fun w8 (hS8 : St B (cel g7 (mrc r) 93 :: (labA r.lb) :: (ptsA r.pt) :: _::_::_::_::_::_::_::_::_::L) w8) => ?_)
  clear hS6
  refine WO.nil (NX.go (WP.seq (WP.region rfl ?_)))
  refine WO.V (run_fa 2 ⟨g7, 2, none⟩ rfl rfl) ?_
  refine WO.V (run_load Ty.ag66 rfl ((hS8.cel_at 0 rfl 2).trans rfl)) ?_
  refine WO.V (run_len rfl Tryz.underlying66 rfl) ?_
  refine WO.V (run_gtr rfl rfl) ?_
  refine WO.mv rfl rfl ?_
  refine dcase (p := 0 < ((r.pt.l.length : Nat) : Int)) (fun g28 d28 => ?_) (fun g28 d28 => ?_)
  ·
   refine WO.on rfl rfl d28 ?_
   refine WO.mv rfl rfl ?_
   refine WO.on rfl rfl d28 ?_
   refine WO.V (run_fa 0 ⟨g7, 0, none⟩ rfl rfl) ?_
   refine WO.on rfl rfl d28 ?_
   refine WO.V (run_load Ty.ag65 rfl ((hS8.cel_at 0 rfl 0).trans rfl)) ?_
   refine WO.on rfl rfl d28 ?_
   have hS9 := hS8.permT [7, 1] (L' := _::_::_::_::_::_::_::_::_::_::_::_::L) rfl
   clear hS8
   refine WO.call rfl rfl Ty.hd53 rfl (lis_spec hMt rdH_rd hmz hmn (by have := (chk_sz (hRl r (List.mem_of_getElem? hr))).1; omega) hS9) (fun v11 w10 pv11 => ?_)
   obtain ⟨rfl, hS10⟩ := pv11
   clear hS9
   refine WO.V (run_pickT rfl d28 rfl) ?_
   refine WO.nil (NX.go ?_)
   refine WP.condB rfl (fun g33 => ?_) (fun g33 => ?_)
   ·
    refine WP.region rfl ?_
    refine WO.mv rfl rfl ?_
    refine WO.V (run_fa 0 ⟨g7, 0, none⟩ rfl rfl) ?_
    refine WO.V (run_load Ty.ag65 rfl ((hS10.cel_at 2 rfl 0).trans rfl)) ?_
    refine WO.V (run_fa 2 ⟨g7, 2, none⟩ rfl rfl) ?_
    refine WO.V (run_load Ty.ag66 rfl ((hS10.cel_at 2 rfl 2).trans rfl)) ?_
    refine WO.V (run_build (v := Value.agg #[Value.slice r.lb.a r.lb.l.length r.lb.cap, Value.slice r.pt.a r.pt.l.length r.pt.cap]) rfl (fun w => by kernel_rfl)) ?_
    refine WO.buildSlice (l := [Value.slice r.lb.a r.lb.l.length r.lb.cap, Value.slice r.pt.a r.pt.l.length r.pt.cap]) hS10 Tryz.underlying37 rfl (fun w => by kernel_rfl) rfl (fun g13 w12 lg13 hS12 => ?_)
    clear hS10
    refine WO.append (news := [Value.slice r.lb.a r.lb.l.length r.lb.cap, Value.slice r.pt.a r.pt.l.length r.pt.cap]) 6 rfl Tryz.underlying37 Tryz.underlying37 (fun _ h => by cases h) Ty.sz68 (by decide) Ty.by68 Ty.zr68 rfl rfl rfl rfl hS12 rfl ((hS12.cel_rd 0 rfl (o := 0) (m := 1) (k := 2) rfl (Nat.le_of_ble_eq_true rfl)).src) rfl (by omega) (by omega) (fun a15 c16 w14 hS14 => ?_)
    replace hS14 : St B (cel g13 [Value.slice r.lb.a r.lb.l.length r.lb.cap, Value.slice r.pt.a r.pt.l.length r.pt.cap] 68 :: _::_::_::_::_::own a15 (out.length + 1) c16 68 2 ((out.flatMap msc) ++ [Value.slice r.lb.a r.lb.l.length r.lb.cap, Value.slice r.pt.a r.pt.l.length r.pt.cap]) :: _::_::_::_::_::_::L) w14 := hS14
    clear hS12
    refine WO.asg rfl rfl ?_
    refine WO.nil (NX.blk (NX.go (WP.region rfl ?_)))
    refine WO.V (run_add rfl rfl (IntWalk.i64_in _ (by omega))) ?_
    refine WO.mv rfl rfl ?_
    refine WO.nil ?_
    have hS17 := ser_snoc (x := (⟨r.lb, r.pt⟩ : MSer)) (hS14.permT [7, 2, 3] (L' := _::_::_::_::_::_::_::_::_::_::_::_::_::L) rfl)
    clear hS14
    exact NX.again (i + 1, out ++ [(⟨r.lb, r.pt⟩ : MSer)], a15, c16) ⟨⟨by omega, by rw [drop_cons hr, List.map_cons, qryP, if_pos ⟨show 0 < r.pt.l.length by omega, g33⟩] at hgo; rw [List.map_append, List.append_assoc]; exact hgo, by rw [List.length_append]; simp; omega, fun s hs => by rcases List.mem_append.1 hs with hs | hs; (· exact hsz s hs); (· simp at hs; subst hs; exact ⟨by have := (chk_sz (hRl r (List.mem_of_getElem? hr))).1; show r.lb.l.length ≤ _; omega, hRp r (List.mem_of_getElem? hr)⟩)⟩, own_eqM ((hS17.mask [true, false, true, false] (L' := _::_::_::_::_::_::_::_::_::L) rfl).permT [3, 0, 2, 1] (L' := _::_::_::_::_::_::_::_::_::L) rfl) (by simp) (by simp [msc])⟩ (by show R.length - (i + 1) < R.length - i; omega) (Sub.cons rfl (Sub.consE rfl (by simp) (Sub.cons rfl (Sub.cons rfl (Sub.consE rfl (by congr 1) (Sub.nil _))))))
   ·
    refine WP.skip (NX.blk (NX.go (WP.region rfl ?_)))
    refine WO.V (run_add rfl rfl (IntWalk.i64_in _ (by omega))) ?_
    refine WO.mv rfl rfl ?_
    refine WO.nil ?_
    exact NX.again (i + 1, out, oa, oc) ⟨⟨by omega, by rw [drop_cons hr, List.map_cons, qryP, if_neg (fun h => by rw [show isF ask r.p.lb = isF ask r.lb.l from rfl, g33] at h; exact absurd h.2 (by decide))] at hgo; exact hgo, by omega, hsz⟩, ((hS10.mask [true, false, false, false] (L' := _::_::_::_::_::_::_::_::_::L) rfl).permT [2, 2, 2, 1] (L' := _::_::_::_::_::_::_::_::_::L) rfl)⟩ (by show R.length - (i + 1) < R.length - i; omega) (Sub.cons rfl (Sub.consE rfl (by first | rfl | (congr 1; omega) | (simp; done) | (simp; omega)) (Sub.cons rfl (Sub.cons rfl (Sub.consE rfl (by congr 1) (Sub.nil _))))))
  ·
   refine WO.off rfl rfl d28 rfl ?_
   refine WO.off rfl rfl d28 rfl ?_
   refine WO.off rfl rfl d28 rfl ?_
   refine WO.off rfl rfl d28 rfl ?_
   refine WO.V (run_pickF rfl d28 rfl) ?_
   refine WO.nil (NX.go ?_)
   refine WP.condF rfl rfl ?_
   refine WP.skip (NX.blk (NX.go (WP.region rfl ?_)))
   refine WO.V (run_add rfl rfl (IntWalk.i64_in _ (by omega))) ?_
   refine WO.mv rfl rfl ?_
   refine WO.nil ?_
   exact NX.again (i + 1, out, oa, oc) ⟨⟨by omega, by rw [drop_cons hr, List.map_cons, qryP, if_neg (fun h => g28 (by have := h.1; show (0 : Int) < _; exact_mod_cast this))] at hgo; exact hgo, by omega, hsz⟩, (hS8.permT [0, 0, 0, 1, 1, 1] (L' := _::_::_::_::_::_::_::_::_::_::_::_::L) rfl).drop.drop.drop⟩ (by show R.length - (i + 1) < R.length - i; omega) (Sub.cons rfl (Sub.consE rfl (by first | rfl | (congr 1; omega) | (simp; done) | (simp; omega)) (Sub.cons rfl (Sub.cons rfl (Sub.consE rfl (by congr 1) (Sub.nil _))))))
 ·
  refine WP.exit (NX.thenExit (NX.thenExit ?_))
  refine NX.blkExit ?_
  refine NX.go (WP.seq (WP.region rfl ?_))
  refine WO.mv rfl rfl ?_
  refine WO.asg rfl rfl ?_
  refine WO.nil (NX.go (WP.ret ?_))
  refine NX.done (l := [.tmp 10]) rfl rfl ?_
  exact ⟨oa, oc, out, rfl, by rw [← hgo, List.drop_of_length_le (by omega)]; simp [qryP], by omega, hsz, ((hS4.mask [true, true, false, false] (L' := _::_::_::_::_::_::_::L) rfl).permT [0, 0, 1, 1, 1, 1] (L' := _::_::_::_::_::_::_::L) rfl)⟩
end Go.Proofs.YtidoidoelgfnaaaGreatDoor.SL
