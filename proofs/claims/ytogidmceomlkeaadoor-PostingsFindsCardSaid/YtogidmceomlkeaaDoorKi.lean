/- Rows of pairs; the rows that have a pair. -/
import Derived.Test.YtogidmceomlkeaaDoorKo
namespace Go.Proofs.YtogidmceomlkeaaDoor.SL
open Go.RowKit Go.Proofs.YtogidmceomlkeaaDoor
open Go.Proofs.YtogidmceomlkeaaDoorW.PrintLast (rtab opsOf)
set_option linter.unusedVariables false
set_option linter.unusedSimpArgs false

/-- A row of pairs in memory. -/
structure RowV where
  a : Option Addr
  l : List Pr
  cap : Nat
def rowc (r : RowV) : List Value := [.slice r.a r.l.length r.cap]
theorem rowc_len (r : RowV) : (rowc r).length = 1 := rfl
def RdRows (w : World) (a : Option Addr) (R : List RowV) : Prop := Rd w a R.length 1 (R.flatMap rowc) ∧ ∀ r ∈ R, Rd w r.a r.l.length 2 (r.l.flatMap prc)
theorem row_get {R : List RowV} {i : Nat} {r : RowV} (h : R[i]? = some r) : (R.flatMap rowc)[i]? = some (.slice r.a r.l.length r.cap) := by
  have := flat_get rowc_len h (j := 0) (by decide)
  rw [Nat.mul_one, Nat.add_zero] at this
  exact this.trans rfl
def idxGo (f : List Pr → Bool) : Nat → List (List Pr) → List Int
  | _, [] => []
  | i, r :: rs => (if f r then [(i : Int)] else []) ++ idxGo f (i + 1) rs
def ofF (rows : List (List Pr)) (p : Pr) : List Int := idxGo (fun r => decide (p ∈ r)) 0 rows
def findF (rows : List (List Pr)) (l : List Mt) : List Int := idxGo (fun r => isF l r) 0 rows
theorem idx_step {f : List Pr → Bool} {R : List RowV} {i : Nat} {r : RowV} {o T : List Int} (h : R[i]? = some r) (hT : o ++ idxGo f i ((R.map RowV.l).drop i) = T) : (o ++ (if f r.l then [(i : Int)] else [])) ++ idxGo f (i + 1) ((R.map RowV.l).drop (i + 1)) = T := by
  rw [drop_cons (show (R.map RowV.l)[i]? = some r.l by rw [List.getElem?_map, h]; rfl)] at hT
  rw [← hT, idxGo, List.append_assoc]
theorem idx_end {f : List Pr → Bool} {R : List RowV} {i : Nat} {o T : List Int} (h : R.length ≤ i) (hT : o ++ idxGo f i ((R.map RowV.l).drop i) = T) : o = T := by
  rw [List.drop_of_length_le (by simpa using h)] at hT
  simpa [idxGo] using hT
theorem in_step {l : List Pr} {k : Nat} {q p : Pr} (h : l[k]? = some q) : decide (p ∈ l.take (k + 1)) = (decide (p ∈ l.take k) || decide (q = p)) := by
  rw [List.take_add_one, h]
  by_cases h1 : p ∈ l.take k
  · simp [h1]
  · by_cases h2 : q = p
    · simp [h2]
    · simp [h1, h2, Ne.symm h2]
theorem if_len {c : Bool} {i : Int} : (if c then [i] else []).length ≤ 1 := by split <;> simp
def SzR (R : List RowV) : Prop := R.length ≤ 1000000000 ∧ ∀ r ∈ R, r.l.length ≤ 4398046511104 ∧ SzP r.l
theorem own_len {B w : World} {L : List HP} {a : Option Addr} {n n' cap t k : Nat} {l l' : List Value} (h : St B (own a n cap t k l :: L) w) (e : n = n') (e2 : l = l') : St B (own a n' cap t k l' :: L) w := by subst e; subst e2; exact h
theorem rOf_spec_t9 : rtab .any (opsOf Tryd.f8 9) = (true, [([], []), ([0], [0]), ([1], [1]), ([1], [1]), ([2, 3, 1], [1, 2, 3]), ([4, 1], [1, 4]), ([1], [1]), ([5, 6, 1], [1, 5, 6]), ([7, 1], [1, 7]), ([1], [1]), ([8, 9, 1], [1, 8, 9]), ([1, 10], [1, 10]), ([11, 1, 0, 1, 2, 3, 4, 5, 6, 7, 8, 9, 10, 11], [0, 11])]) := by kernel_rfl
theorem rOf_spec {B w : World} {L : List HP} {X : HP} {a : Option Addr} {cap : Nat} {R : List RowV} (hX : ∀ {L : List HP} {w : World}, St B (X :: L) w → RdRows w a R) (hn : R.length ≤ 1000000000) (hbR : ∀ r ∈ R, r.l.length ≤ 4398046511104) (p : Pr) (hS : St B (X :: L) w) : Does Tryd.prog 8 [Value.slice a R.length cap, Value.agg #[str p.n, str p.v]] w (fun v w1 => ∃ a1 c1, v = .slice a1 (ofF (R.map RowV.l) p).length c1 ∧ St B (own a1 (ofF (R.map RowV.l) p).length c1 3 1 (ri (ofF (R.map RowV.l) p)) :: X :: L) w1) := by
 refine enter (n := 42) Tryd.func8 rfl rfl [Value.slice a R.length cap, Value.agg #[str p.n, str p.v]] rfl ?_
 refine WP.seq ?_
 refine WP.region rfl ?_
 refine WO.box (l := [str p.n, str p.v]) hS rfl rfl rfl (fun g2 w1 lg2 hS1 => ?_)
 clear hS
 refine WO.val (run_assign rfl) rfl rfl rfl ?_
 refine WO.nil ?_
 refine NX.go ?_
 refine WP.seq ?_
 refine WP.region rfl ?_
 refine WO.val (run_assign rfl) rfl rfl rfl ?_
 refine WO.nil ?_
 refine NX.go ?_
 refine WP.seq ?_
 refine WP.seq ?_
 refine WP.region rfl ?_
 refine WO.val (run_assign rfl) rfl rfl rfl ?_
 refine WO.nil ?_
 refine NX.go ?_
 refine WP.block ?_
 have hq0 := ((hS1.permT [1, 0] (L' := X :: cel g2 [str p.n, str p.v] 25 :: L) rfl).own_nil 3 1).permT [1, 1, 0] (L' := X :: cel g2 [str p.n, str p.v] 25 :: own none 0 0 3 1 [] :: L) rfl
 refine WP.loop (α := Nat × List Int × Option Addr × Nat) (fun x => match x with | ⟨i, o, ao, co⟩ => [(0, Value.slice a R.length cap), (3, Value.pointer (some ⟨g2, 0, none⟩)), (5, Value.slice ao o.length co), (6, Value.int .i64 (i : Int))]) (fun x w => match x with | ⟨i, o, ao, co⟩ => (i ≤ R.length ∧ o.length ≤ i ∧ o ++ idxGo (fun r => decide (p ∈ r)) i ((R.map RowV.l).drop i) = ofF (R.map RowV.l) p) ∧ St B (X :: cel g2 [str p.n, str p.v] 25 :: own ao o.length co 3 1 (ri o) :: L) w) (fun x => match x with | ⟨i, o, ao, co⟩ => R.length - i) (0, [], none, 0) ⟨⟨Nat.zero_le _, by simp, rfl⟩, hq0⟩ (Sub.cons rfl (Sub.cons rfl (Sub.consE rfl (by first | rfl | first | rfl | (congr 1; omega) | (simp; done) | (simp; omega)) (Sub.consE rfl (by first | rfl | first | rfl | (congr 1; omega) | (simp; done) | (simp; omega)) (Sub.nil _))))) ?_
 rintro ⟨i, o, ao, co⟩ w3 ⟨⟨hi, hoi, hT⟩, hS3⟩
 clear hS1
 refine WP.seq ?_
 refine WP.seq ?_
 refine WP.region rfl ?_
 refine WO.val (run_move rfl) rfl rfl rfl ?_
 refine WO.val (run_move rfl) rfl rfl rfl ?_
 refine WO.val (run_len rfl Tryd.underlying22 rfl) rfl rfl rfl ?_
 refine WO.val (run_lss rfl rfl) rfl rfl rfl ?_
 refine WO.nil ?_
 refine NX.go ?_
 refine WP.condP rfl (fun g12 => ?_) (fun g12 => ?_)
 ·
  obtain ⟨r, hr⟩ : ∃ r, R[i]? = some r := ⟨_, List.getElem?_eq_getElem (by omega)⟩
  have hrm : r ∈ R := List.mem_of_getElem? hr
  have hrl := hbR r hrm
  refine WP.skip ?_
  refine NX.go ?_
  refine WP.seq ?_
  refine WP.block ?_
  refine WP.seq ?_
  refine WP.region rfl ?_
  refine WO.val (run_assign rfl) rfl rfl rfl ?_
  refine WO.nil ?_
  refine NX.go ?_
  refine WP.seq ?_
  refine WP.seq ?_
  refine WP.region rfl ?_
  refine WO.val (run_assign rfl) rfl rfl rfl ?_
  refine WO.nil ?_
  refine NX.go ?_
  refine WP.block ?_
  refine WP.loop (α := Nat × Bool) (fun x => match x with | ⟨k, inn⟩ => [(0, Value.slice a R.length cap), (3, Value.pointer (some ⟨g2, 0, none⟩)), (5, Value.slice ao o.length co), (6, Value.int .i64 (i : Int)), (7, Value.bool inn), (8, Value.int .i64 (k : Int))]) (fun x w => match x with | ⟨k, inn⟩ => (k ≤ r.l.length ∧ inn = decide (p ∈ r.l.take k)) ∧ St B (X :: cel g2 [str p.n, str p.v] 25 :: own ao o.length co 3 1 (ri o) :: L) w) (fun x => match x with | ⟨k, inn⟩ => r.l.length - k) (0, false) ⟨⟨Nat.zero_le _, by simp⟩, hS3⟩ (Sub.cons rfl (Sub.cons rfl (Sub.cons rfl (Sub.cons rfl (Sub.consE rfl (by first | rfl | first | rfl | (congr 1; omega) | (simp; done) | (simp; omega)) (Sub.consE rfl (by first | rfl | first | rfl | (congr 1; omega) | (simp; done) | (simp; omega)) (Sub.nil _))))))) ?_
  rintro ⟨k, inn⟩ w4 ⟨⟨hk, hin⟩, hS4⟩
  clear hS3
  refine WP.seq ?_
  refine WP.seq ?_
  refine WP.region rfl ?_
  refine WO.val (run_move rfl) rfl rfl rfl ?_
  refine WO.val (run_move rfl) rfl rfl rfl ?_
  refine WO.val (run_move rfl) rfl rfl rfl ?_
  refine WO.val (run_indexAddr (q := adr a i) Tryd.underlying22 Ty.sz26 rfl rfl (by omega) (by omega) (((fun h => (hX h).1) (hS4.focus 0 rfl)).2.1 (by omega)) (by simp)) rfl rfl rfl ?_
  refine WO.val (run_load Ty.ag26 rfl (((fun h => (hX h).1) (hS4.focus 0 rfl)).cell (row_get hr))) rfl rfl rfl ?_
  refine WO.val (run_len rfl Tryd.underlying26 rfl) rfl rfl rfl ?_
  refine WO.val (run_lss rfl rfl) rfl rfl rfl ?_
  refine WO.nil ?_
  refine NX.go ?_
  refine WP.condP rfl (fun g21 => ?_) (fun g21 => ?_)
  ·
   refine WP.skip ?_
   refine NX.go ?_
   refine WP.seq ?_
   refine WP.block ?_
   obtain ⟨q, hq⟩ : ∃ q, r.l[k]? = some q := ⟨_, List.getElem?_eq_getElem (by omega)⟩
   refine WP.meet (α := Bool) (fun x => match x with | inn2 => [(0, Value.slice a R.length cap), (3, Value.pointer (some ⟨g2, 0, none⟩)), (5, Value.slice ao o.length co), (6, Value.int .i64 (i : Int)), (7, Value.bool inn2), (8, Value.int .i64 (k : Int))]) (fun x w => match x with | inn2 => (inn2 = (inn || decide (q = p))) ∧ St B (X :: cel g2 [str p.n, str p.v] 25 :: own ao o.length co 3 1 (ri o) :: L) w) ?_ (fun K5 => ?_)
   ·
    rintro inn2 w6 ⟨hin2, hS6⟩
    clear hS4
    refine NX.blk ?_
    refine NX.go ?_
    refine WP.region rfl ?_
    refine WO.val (run_move rfl) rfl rfl rfl ?_
    refine WO.val (run_add rfl rfl (IntWalk.i64_in _ (by omega))) rfl rfl rfl ?_
    refine WO.val (run_assign rfl) rfl rfl rfl ?_
    refine WO.nil ?_
    exact NX.again (k + 1, inn2) ⟨⟨by omega, by rw [in_step hq, ← hin, hin2]⟩, hS6⟩ (by show r.l.length - (k + 1) < r.l.length - k; omega) (Sub.cons rfl (Sub.cons rfl (Sub.cons rfl (Sub.cons rfl (Sub.consE rfl rfl (Sub.consE rfl (by congr 1) (Sub.nil _)))))))
   ·
    refine WD.start (fun w => Rd w a R.length 1 (R.flatMap rowc) ∧ (∀ j, World.cell? w ⟨g2, j, none⟩ = [str p.n, str p.v][j]?) ∧ Rd w ao o.length 1 (ri o) ∧ Rd w r.a r.l.length 2 (r.l.flatMap prc)) [] #[false, false, false, false, false, false, false, false, false, false, false, false, false] Ty.mo rfl (by kernel_rfl) hS4 (fun _ h => ⟨((fun h => (hX h).1) (h.focus 0 rfl)), h.cel_at 1 rfl, (h.own_rd_i 2 rfl), ((fun h => (hX h).2 r hrm) (h.focus 0 rfl))⟩) (fun w7 hS7 s8 => ?_)
    clear hS4
    refine WD.pure (i := 0) rOf_spec_t9 #[true, false, false, false, false, false, false, false, false, false, false, false, false] rfl rfl rfl (by kernel_rfl) (PQ.blk (PQ.then (PQ.then (PQ.blk (PQ.then (PQ.blk (PQ.then (PQ.then (PQ.blk (PQ.then PQ.body)))))))))) rfl (fun w => run_move rfl) ?_
    refine WD.pure (i := 1) rOf_spec_t9 #[true, true, false, false, false, false, false, false, false, false, false, false, false] rfl rfl rfl (by kernel_rfl) (PQ.blk (PQ.then (PQ.then (PQ.blk (PQ.then (PQ.blk (PQ.then (PQ.then (PQ.blk (PQ.then PQ.body)))))))))) rfl (fun w => run_move rfl) ?_
    rcases Bool.eq_false_or_eq_true inn with g25 | g25
    ·
     refine WD.off (i := 2) rOf_spec_t9 #[true, true, true, false, false, false, false, false, false, false, false, false, false] rfl rfl rfl g25 (by kernel_rfl) (PQ.blk (PQ.then (PQ.then (PQ.blk (PQ.then (PQ.blk (PQ.then (PQ.then (PQ.blk (PQ.then PQ.body)))))))))) rfl ?_
     refine WD.off (i := 3) rOf_spec_t9 #[true, true, true, true, false, false, false, false, false, false, false, false, false] rfl rfl rfl g25 (by kernel_rfl) (PQ.blk (PQ.then (PQ.then (PQ.blk (PQ.then (PQ.blk (PQ.then (PQ.then (PQ.blk (PQ.then PQ.body)))))))))) rfl ?_
     refine WD.off (i := 4) rOf_spec_t9 #[true, true, true, true, true, false, false, false, false, false, false, false, false] rfl rfl rfl g25 (by kernel_rfl) (PQ.blk (PQ.then (PQ.then (PQ.blk (PQ.then (PQ.blk (PQ.then (PQ.then (PQ.blk (PQ.then PQ.body)))))))))) rfl ?_
     refine WD.off (i := 5) rOf_spec_t9 #[true, true, true, true, true, true, false, false, false, false, false, false, false] rfl rfl rfl g25 (by kernel_rfl) (PQ.blk (PQ.then (PQ.then (PQ.blk (PQ.then (PQ.blk (PQ.then (PQ.then (PQ.blk (PQ.then PQ.body)))))))))) rfl ?_
     refine WD.off (i := 6) rOf_spec_t9 #[true, true, true, true, true, true, true, false, false, false, false, false, false] rfl rfl rfl g25 (by kernel_rfl) (PQ.blk (PQ.then (PQ.then (PQ.blk (PQ.then (PQ.blk (PQ.then (PQ.then (PQ.blk (PQ.then PQ.body)))))))))) rfl ?_
     refine WD.off (i := 7) rOf_spec_t9 #[true, true, true, true, true, true, true, true, false, false, false, false, false] rfl rfl rfl g25 (by kernel_rfl) (PQ.blk (PQ.then (PQ.then (PQ.blk (PQ.then (PQ.blk (PQ.then (PQ.then (PQ.blk (PQ.then PQ.body)))))))))) rfl ?_
     refine WD.off (i := 8) rOf_spec_t9 #[true, true, true, true, true, true, true, true, true, false, false, false, false] rfl rfl rfl g25 (by kernel_rfl) (PQ.blk (PQ.then (PQ.then (PQ.blk (PQ.then (PQ.blk (PQ.then (PQ.then (PQ.blk (PQ.then PQ.body)))))))))) rfl ?_
     refine WD.off (i := 9) rOf_spec_t9 #[true, true, true, true, true, true, true, true, true, true, false, false, false] rfl rfl rfl g25 (by kernel_rfl) (PQ.blk (PQ.then (PQ.then (PQ.blk (PQ.then (PQ.blk (PQ.then (PQ.then (PQ.blk (PQ.then PQ.body)))))))))) rfl ?_
     refine WD.off (i := 10) rOf_spec_t9 #[true, true, true, true, true, true, true, true, true, true, true, false, false] rfl rfl rfl g25 (by kernel_rfl) (PQ.blk (PQ.then (PQ.then (PQ.blk (PQ.then (PQ.blk (PQ.then (PQ.then (PQ.blk (PQ.then PQ.body)))))))))) rfl ?_
     refine WD.pure (i := 11) rOf_spec_t9 #[true, true, true, true, true, true, true, true, true, true, true, true, false] rfl rfl rfl (by kernel_rfl) (PQ.blk (PQ.then (PQ.then (PQ.blk (PQ.then (PQ.blk (PQ.then (PQ.then (PQ.blk (PQ.then PQ.body)))))))))) rfl (fun w => run_pickT rfl g25 rfl) ?_
     refine WD.pure (i := 12) rOf_spec_t9 #[true, true, true, true, true, true, true, true, true, true, true, true, true] rfl rfl rfl (by kernel_rfl) (PQ.blk (PQ.then (PQ.then (PQ.blk (PQ.then (PQ.blk (PQ.then (PQ.then (PQ.blk (PQ.then PQ.body)))))))))) rfl (fun w => run_assign rfl) ?_
     refine WD.done rOf_spec_t9 (by kernel_rfl) ?_
     exact K5 true _ _ ⟨by rw [g25]; rfl, hS7⟩ (Sub.cons rfl (Sub.cons rfl (Sub.cons rfl (Sub.cons rfl (Sub.consE rfl (by first | rfl | first | rfl | (congr 1; omega) | (simp; done) | (simp; omega)) (Sub.cons rfl (Sub.nil _)))))))
    ·
     refine WD.pureOn (i := 2) rOf_spec_t9 #[true, true, true, false, false, false, false, false, false, false, false, false, false] rfl rfl rfl g25 (by kernel_rfl) (PQ.blk (PQ.then (PQ.then (PQ.blk (PQ.then (PQ.blk (PQ.then (PQ.then (PQ.blk (PQ.then PQ.body)))))))))) rfl (fun w => run_move rfl) ?_
     refine WD.pureOn (i := 3) rOf_spec_t9 #[true, true, true, true, false, false, false, false, false, false, false, false, false] rfl rfl rfl g25 (by kernel_rfl) (PQ.blk (PQ.then (PQ.then (PQ.blk (PQ.then (PQ.blk (PQ.then (PQ.then (PQ.blk (PQ.then PQ.body)))))))))) rfl (fun w => run_move rfl) ?_
     refine WD.takeOn (i := 4) rOf_spec_t9 #[true, true, true, true, true, false, false, false, false, false, false, false, false] s8 rfl rfl rfl g25 (by kernel_rfl) (PQ.blk (PQ.then (PQ.then (PQ.blk (PQ.then (PQ.blk (PQ.then (PQ.then (PQ.blk (PQ.then PQ.body)))))))))) rfl (fun w hs => run_indexAddr (q := adr a i) Tryd.underlying22 Ty.sz26 rfl rfl (by omega) (by omega) ((hs.1).2.1 (by omega)) (by simp)) ?_
     refine WD.takeOn (i := 5) rOf_spec_t9 #[true, true, true, true, true, true, false, false, false, false, false, false, false] s8 rfl rfl rfl g25 (by kernel_rfl) (PQ.blk (PQ.then (PQ.then (PQ.blk (PQ.then (PQ.blk (PQ.then (PQ.then (PQ.blk (PQ.then PQ.body)))))))))) rfl (fun w hs => run_load Ty.ag26 rfl ((hs.1).cell (row_get hr))) ?_
     refine WD.pureOn (i := 6) rOf_spec_t9 #[true, true, true, true, true, true, true, false, false, false, false, false, false] rfl rfl rfl g25 (by kernel_rfl) (PQ.blk (PQ.then (PQ.then (PQ.blk (PQ.then (PQ.blk (PQ.then (PQ.then (PQ.blk (PQ.then PQ.body)))))))))) rfl (fun w => run_move rfl) ?_
     refine WD.takeOn (i := 7) rOf_spec_t9 #[true, true, true, true, true, true, true, true, false, false, false, false, false] s8 rfl rfl rfl g25 (by kernel_rfl) (PQ.blk (PQ.then (PQ.then (PQ.blk (PQ.then (PQ.blk (PQ.then (PQ.then (PQ.blk (PQ.then PQ.body)))))))))) rfl (fun w hs => run_indexAddr (q := adr r.a (k * 2)) Tryd.underlying26 Ty.sz25 rfl rfl (by omega) (by omega) ((hs.2.2.2).2.1 (by omega)) rfl) ?_
     refine WD.takeOn (i := 8) rOf_spec_t9 #[true, true, true, true, true, true, true, true, true, false, false, false, false] s8 rfl rfl rfl g25 (by kernel_rfl) (PQ.blk (PQ.then (PQ.then (PQ.blk (PQ.then (PQ.blk (PQ.then (PQ.then (PQ.blk (PQ.then PQ.body)))))))))) rfl (fun w hs => run_loadAgg (vs := [str q.n, str q.v]) Ty.ag25 Ty.sz25 rfl ((hs.2.2.2).cells (by rw [flat_len prc_len]; omega) (flat_part prc_len hq)).1 ((hs.2.2.2).cells (by rw [flat_len prc_len]; omega) (flat_part prc_len hq)).2) ?_
     refine WD.takeOn (i := 9) rOf_spec_t9 #[true, true, true, true, true, true, true, true, true, true, false, false, false] s8 rfl rfl rfl g25 (by kernel_rfl) (PQ.blk (PQ.then (PQ.then (PQ.blk (PQ.then (PQ.blk (PQ.then (PQ.then (PQ.blk (PQ.then PQ.body)))))))))) rfl (fun w hs => run_loadAgg (vs := [str p.n, str p.v]) Ty.ag25 Ty.sz25 rfl rfl (cell_all (hs.2.1) 0 rfl)) ?_
     refine WD.pureOn (i := 10) rOf_spec_t9 #[true, true, true, true, true, true, true, true, true, true, true, false, false] rfl rfl rfl g25 (by kernel_rfl) (PQ.blk (PQ.then (PQ.then (PQ.blk (PQ.then (PQ.blk (PQ.then (PQ.then (PQ.blk (PQ.then PQ.body)))))))))) rfl (fun w => run_eqlA rfl rfl (by kernel_rfl) (fun w => eqIn_pair q p w)) ?_
     refine WD.pure (i := 11) rOf_spec_t9 #[true, true, true, true, true, true, true, true, true, true, true, true, false] rfl rfl rfl (by kernel_rfl) (PQ.blk (PQ.then (PQ.then (PQ.blk (PQ.then (PQ.blk (PQ.then (PQ.then (PQ.blk (PQ.then PQ.body)))))))))) rfl (fun w => run_pickF rfl g25 rfl) ?_
     refine WD.pure (i := 12) rOf_spec_t9 #[true, true, true, true, true, true, true, true, true, true, true, true, true] rfl rfl rfl (by kernel_rfl) (PQ.blk (PQ.then (PQ.then (PQ.blk (PQ.then (PQ.blk (PQ.then (PQ.then (PQ.blk (PQ.then PQ.body)))))))))) rfl (fun w => run_assign rfl) ?_
     refine WD.done rOf_spec_t9 (by kernel_rfl) ?_
     exact K5 (decide (q = p)) _ _ ⟨by rw [g25]; rfl, hS7⟩ (Sub.cons rfl (Sub.cons rfl (Sub.cons rfl (Sub.cons rfl (Sub.consE rfl (by first | rfl | first | rfl | (congr 1; omega) | (simp; done) | (simp; omega)) (Sub.cons rfl (Sub.nil _)))))))
  ·
   refine WP.exit ?_
   refine NX.thenExit ?_
   refine NX.thenExit ?_
   refine NX.blkExit ?_
   refine NX.go ?_
   refine WP.seq ?_
   have hine : inn = decide (p ∈ r.l) := by rw [hin, List.take_of_length_le (by omega)]
   refine WP.region rfl ?_
   refine WO.val (run_move rfl) rfl rfl rfl ?_
   refine WO.nil ?_
   refine NX.go ?_
   refine WP.meet (α := List Int × Option Addr × Nat) (fun x => match x with | ⟨o2, ao2, co2⟩ => [(0, Value.slice a R.length cap), (3, Value.pointer (some ⟨g2, 0, none⟩)), (5, Value.slice ao2 o2.length co2), (6, Value.int .i64 (i : Int))]) (fun x w => match x with | ⟨o2, ao2, co2⟩ => (o2 = o ++ (if decide (p ∈ r.l) then [(i : Int)] else [])) ∧ St B (X :: cel g2 [str p.n, str p.v] 25 :: own ao2 o2.length co2 3 1 (ri o2) :: L) w) ?_ (fun K9 => ?_)
   ·
    rintro ⟨o2, ao2, co2⟩ w10 ⟨ho2, hS10⟩
    clear hS4
    refine NX.blk ?_
    refine NX.go ?_
    refine WP.region rfl ?_
    refine WO.val (run_move rfl) rfl rfl rfl ?_
    refine WO.val (run_add rfl rfl (IntWalk.i64_in _ (by omega))) rfl rfl rfl ?_
    refine WO.val (run_assign rfl) rfl rfl rfl ?_
    refine WO.nil ?_
    exact NX.again (i + 1, o2, ao2, co2) ⟨⟨by omega, by have := if_len (c := decide (p ∈ r.l)) (i := (i : Int)); rw [ho2, List.length_append]; omega, by rw [ho2]; exact idx_step (f := (fun r => decide (p ∈ r))) hr hT⟩, hS10⟩ (by show R.length - (i + 1) < R.length - i; omega) (Sub.cons rfl (Sub.cons rfl (Sub.consE rfl rfl (Sub.consE rfl (by congr 1) (Sub.nil _)))))
   ·
    refine WP.condB rfl (fun g36 => ?_) (fun g36 => ?_)
    ·
     have hino : decide (p ∈ r.l) = true := by rw [← hine, g36]
     refine WP.region rfl ?_
     refine WO.val (run_move rfl) rfl rfl rfl ?_
     refine WO.val (run_move rfl) rfl rfl rfl ?_
     refine WO.buildSlice (l := [Value.int .i64 (i : Int)]) hS4 Tryd.underlying30 rfl (fun w => by kernel_rfl) rfl (fun g12 w11 lg12 hS11 => ?_)
     clear hS4
     have hS11 := hS11.own_of_cel (m := 1) (k := 1) rfl
     refine WO.append (news := [Value.int .i64 (i : Int)]) 3 rfl Tryd.underlying30 Tryd.underlying30 (fun _ h => by cases h) Ty.sz3 (by decide) Ty.by3 Ty.zr3 rfl rfl rfl rfl hS11 rfl ((hS11.own_rd_i 0 rfl).src) rfl (by omega) (by omega) (fun a14 c15 w13 hS13 => ?_)
     replace hS13 : St B (own (some ⟨g12, 0, none⟩) 1 1 3 1 [Value.int .i64 (i : Int)] :: X :: cel g2 [str p.n, str p.v] 25 :: own a14 (o.length + 1) c15 3 1 ((ri o) ++ [Value.int .i64 (i : Int)]) :: L) w13 := hS13
     clear hS11
     refine WO.val (run_assign rfl) rfl rfl rfl ?_
     refine WO.nil ?_
     exact K9 (o ++ [(i : Int)], a14, c15) _ _ ⟨by rw [hino]; rfl, (own_len (hS13.permT [0, 2, 0, 0] (L' := own (some ⟨g12, 0, none⟩) 1 1 3 1 [Value.int .i64 (i : Int)] :: own a14 (o.length + 1) c15 3 1 ((ri o) ++ [Value.int .i64 (i : Int)]) :: X :: cel g2 [str p.n, str p.v] 25 :: L) rfl).drop (by simp) (by simp [ri])).permT [1, 1, 0] rfl⟩ (Sub.cons rfl (Sub.cons rfl (Sub.consE rfl (by simp) (Sub.cons rfl (Sub.nil _)))))
    ·
     have hino : decide (p ∈ r.l) = false := by rw [← hine, g36]
     refine WP.skip ?_
     exact K9 (o, ao, co) _ _ ⟨by rw [hino]; exact (List.append_nil o).symm, ((hS4.permT [2, 0, 0] (L' := own ao o.length co 3 1 (ri o) :: X :: cel g2 [str p.n, str p.v] 25 :: L) rfl)).permT [1, 1, 0] rfl⟩ (Sub.cons rfl (Sub.cons rfl (Sub.consE rfl rfl (Sub.cons rfl (Sub.nil _)))))
 ·
  refine WP.exit ?_
  refine NX.thenExit ?_
  refine NX.thenExit ?_
  refine NX.blkExit ?_
  refine NX.go ?_
  refine WP.seq ?_
  refine WP.region rfl ?_
  refine WO.val (run_move rfl) rfl rfl rfl ?_
  refine WO.val (run_assign rfl) rfl rfl rfl ?_
  refine WO.nil ?_
  refine NX.go ?_
  refine WP.ret ?_
  refine NX.done (l := [.tmp 4]) rfl rfl ?_
  have hTT := idx_end (by omega) hT
  exact ⟨ao, co, congrArg (fun z => Value.slice ao z co) (by rw [hTT]), own_len ((hS3.permT [1, 1, 0] (L' := cel g2 [str p.n, str p.v] 25 :: own ao o.length co 3 1 (ri o) :: X :: L) rfl).drop) (by rw [hTT]) (by rw [hTT])⟩
end Go.Proofs.YtogidmceomlkeaaDoor.SL
