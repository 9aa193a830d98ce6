/- Rows that are owned. -/
import Derived.Test.YtogidmceomlkeaaDoorKi6
namespace Go.Proofs.YtogidmceomlkeaaDoor.SL
open Go.RowKit Go.Proofs.YtogidmceomlkeaaDoor
open Go.Proofs.YtogidmceomlkeaaDoorW.PrintLast (rtab opsOf)
set_option linter.unusedVariables false
set_option linter.unusedSimpArgs false

theorem rdRowsB {B w : World} {L : List HP} {a : Option Addr} {R : List RowV} (h : St B L w) (hA : RdRows B a R) : RdRows w a R := ⟨h.rdB hA.1, fun r hr => h.rdB (hA.2 r hr)⟩
def ownRows : List RowV → HP
  | [] => .pure True
  | r :: R => .sep (own r.a r.l.length r.cap 25 2 (r.l.flatMap prc)) (ownRows R)
theorem ownRows_rd {B w : World} : ∀ {R : List RowV} {L : List HP}, St B (ownRows R :: L) w → ∀ r ∈ R, Rd w r.a r.l.length 2 (r.l.flatMap prc)
  | [], _, _, r, h => by cases h
  | q :: R, L, hS, r, h => by
    rcases List.mem_cons.1 h with e | e
    · subst e; exact hS.sep.own_rd.1
    · exact ownRows_rd (R := R) hS.sep.drop r e
theorem ownRows_snoc {B w : World} {r : RowV} : ∀ {R : List RowV} {L : List HP}, St B (ownRows R :: own r.a r.l.length r.cap 25 2 (r.l.flatMap prc) :: L) w → St B (ownRows (R ++ [r]) :: L) w
  | [], L, h => (h.permT [1, 0] (L' := own r.a r.l.length r.cap 25 2 (r.l.flatMap prc) :: ownRows [] :: L) rfl).join
  | q :: R, L, h => by
    have h1 := h.sep.permT [1, 1, 0] (L' := ownRows R :: own r.a r.l.length r.cap 25 2 (r.l.flatMap prc) :: own q.a q.l.length q.cap 25 2 (q.l.flatMap prc) :: L) rfl
    have h2 := ownRows_snoc (r := r) (R := R) h1
    exact (h2.permT [1, 0] (L' := own q.a q.l.length q.cap 25 2 (q.l.flatMap prc) :: ownRows (R ++ [r]) :: L) rfl).join
def ownBut : Nat → List RowV → HP
  | _, [] => .pure True
  | 0, _ :: R => ownRows R
  | i + 1, r :: R => .sep (own r.a r.l.length r.cap 25 2 (r.l.flatMap prc)) (ownBut i R)
theorem ownRows_pick {B w : World} {r : RowV} : ∀ {R : List RowV} {i : Nat} {L : List HP}, R[i]? = some r → St B (ownRows R :: L) w → St B (own r.a r.l.length r.cap 25 2 (r.l.flatMap prc) :: ownBut i R :: L) w
  | [], i, L, h, _ => by simp at h
  | q :: R, 0, L, h, hS => by simp at h; subst h; exact hS.sep
  | q :: R, i + 1, L, h, hS => by
    have h1 := hS.sep.permT [1, 0] (L' := ownRows R :: own q.a q.l.length q.cap 25 2 (q.l.flatMap prc) :: L) rfl
    have h2 := ownRows_pick (r := r) (i := i) (by simpa using h) h1
    have h3 := h2.permT [2, 1, 0] (L' := own q.a q.l.length q.cap 25 2 (q.l.flatMap prc) :: ownBut i R :: own r.a r.l.length r.cap 25 2 (r.l.flatMap prc) :: L) rfl
    exact h3.join.permT [1, 0] rfl
theorem ownRows_back {B w : World} {r : RowV} : ∀ {R : List RowV} {i : Nat} {L : List HP}, i < R.length → St B (own r.a r.l.length r.cap 25 2 (r.l.flatMap prc) :: ownBut i R :: L) w → St B (ownRows (R.set i r) :: L) w
  | [], i, L, h, _ => by simp at h
  | q :: R, 0, L, h, hS => hS.join
  | q :: R, i + 1, L, h, hS => by
    have h1 := (hS.permT [1, 0] (L' := HP.sep (own q.a q.l.length q.cap 25 2 (q.l.flatMap prc)) (ownBut i R) :: own r.a r.l.length r.cap 25 2 (r.l.flatMap prc) :: L) rfl).sep
    have h2 := h1.permT [2, 1, 0] (L' := own r.a r.l.length r.cap 25 2 (r.l.flatMap prc) :: ownBut i R :: own q.a q.l.length q.cap 25 2 (q.l.flatMap prc) :: L) rfl
    have h3 := ownRows_back (r := r) (R := R) (i := i) (by simpa using h) h2
    exact (h3.permT [1, 0] (L' := own q.a q.l.length q.cap 25 2 (q.l.flatMap prc) :: ownRows (R.set i r) :: L) rfl).join
theorem rowc_set {r r' : RowV} : ∀ {R : List RowV} {i : Nat}, R[i]? = some r → rowc r' = rowc r → (R.set i r').flatMap rowc = R.flatMap rowc
  | [], i, h, _ => by simp at h
  | q :: R, 0, h, e => by simp at h; subst h; simp [e]
  | q :: R, i + 1, h, e => by
    have := rowc_set (R := R) (i := i) (by simpa using h) e
    simp [this]
theorem of_len (rows : List (List Pr)) (p : Pr) : (ofF rows p).length ≤ rows.length := by
  have key : ∀ (f : List Pr → Bool) (l : List (List Pr)) (j : Nat), (idxGo f j l).length ≤ l.length := by
    intro f l
    induction l with
    | nil => intro j; exact Nat.le_refl _
    | cons q l ih => intro j; simp only [idxGo, List.length_append, List.length_cons]; have := ih (j + 1); split <;> simp <;> omega
  exact key _ _ _
theorem find_len (rows : List (List Pr)) (ms : List Mt) : (findF rows ms).length ≤ rows.length := by
  have key : ∀ (f : List Pr → Bool) (l : List (List Pr)) (j : Nat), (idxGo f j l).length ≤ l.length := by
    intro f l
    induction l with
    | nil => intro j; exact Nat.le_refl _
    | cons q l ih => intro j; simp only [idxGo, List.length_append, List.length_cons]; have := ih (j + 1); split <;> simp <;> omega
  exact key _ _ _
theorem mts_noAgg (l : List Mt) : (l.flatMap mtc).all noAgg = true := by
  rw [List.all_flatMap]; exact List.all_eq_true.2 fun p _ => rfl
theorem same_spec_t6 : rtab .any (opsOf Tryd.f6 6) = (true, [([], []), ([], []), ([0, 1], [0, 1]), ([2], [2]), ([], []), ([], []), ([4, 5], [4, 5]), ([6], [6]), ([3, 7], [3, 7])]) := by kernel_rfl
theorem same_spec {B w : World} {L : List HP} {X Y : HP} {a b : Option Addr} {cap cap2 : Nat} {l m : List Int} (hX : ∀ {L : List HP} {w : World}, St B (X :: L) w → Rd w a l.length 1 (ri l)) (hY : ∀ {L : List HP} {w : World}, St B (Y :: L) w → Rd w b m.length 1 (ri m)) (hb : l.length ≤ 1000000) (hS : St B (X :: Y :: L) w) : Does Tryd.prog 6 [Value.slice a l.length cap, Value.slice b m.length cap2] w (fun v w1 => v = .bool (decide (l = m)) ∧ St B (X :: Y :: L) w1) := by
 refine enter (n := 26) Tryd.func6 rfl rfl [Value.slice a l.length cap, Value.slice b m.length cap2] rfl ?_
 refine WP.seq ?_
 refine WP.region rfl ?_
 refine WO.val (run_assign rfl) rfl rfl rfl ?_
 refine WO.nil ?_
 refine NX.go ?_
 refine WP.seq ?_
 refine WP.seq ?_
 refine WP.region rfl ?_
 refine WO.val (run_move rfl) rfl rfl rfl ?_
 refine WO.val (run_len rfl Tryd.underlying30 rfl) rfl rfl rfl ?_
 refine WO.val (run_move rfl) rfl rfl rfl ?_
 refine WO.val (run_len rfl Tryd.underlying30 rfl) rfl rfl rfl ?_
 refine WO.val (run_neq rfl rfl) rfl rfl rfl ?_
 refine WO.nil ?_
 refine NX.go ?_
 refine WP.condP rfl (fun g10 => ?_) (fun g10 => ?_)
 ·
  refine WP.seq ?_
  refine WP.region rfl ?_
  refine WO.val (run_assign rfl) rfl rfl rfl ?_
  refine WO.nil ?_
  refine NX.go ?_
  refine WP.ret ?_
  refine NX.thenRet ?_
  refine NX.done (l := [.tmp 4]) rfl rfl ?_
  exact ⟨congrArg Value.bool (decide_eq_false (fun e => by rw [e] at g10; exact g10 rfl)).symm, hS⟩
 ·
  refine WP.skip ?_
  refine NX.go ?_
  refine WP.seq ?_
  refine WP.seq ?_
  refine WP.region rfl ?_
  refine WO.val (run_assign rfl) rfl rfl rfl ?_
  refine WO.nil ?_
  refine NX.go ?_
  refine WP.block ?_
  refine WP.loop (α := Nat) (fun x => match x with | i => [(0, Value.slice a l.length cap), (1, Value.slice b m.length cap2), (5, Value.int .i64 (i : Int))]) (fun x w => match x with | i => (i ≤ l.length ∧ l.take i = m.take i) ∧ St B (X :: Y :: L) w) (fun x => match x with | i => l.length - i) 0 ⟨⟨by omega, by simp⟩, hS⟩ (Sub.cons rfl (Sub.cons rfl (Sub.consE rfl (by first | rfl | first | rfl | (congr 1; omega) | (simp; done) | (simp; omega)) (Sub.nil _)))) ?_
  rintro i w1 ⟨⟨hi, hni⟩, hS1⟩
  clear hS
  refine WP.seq ?_
  refine WP.seq ?_
  refine WP.region rfl ?_
  refine WO.val (run_move rfl) rfl rfl rfl ?_
  refine WO.val (run_move rfl) rfl rfl rfl ?_
  refine WO.val (run_len rfl Tryd.underlying30 rfl) rfl rfl rfl ?_
  refine WO.val (run_lss rfl rfl) rfl rfl rfl ?_
  refine WO.nil ?_
  refine NX.go ?_
  refine WP.condP rfl (fun g14 => ?_) (fun g14 => ?_)
  ·
   refine WP.skip ?_
   refine NX.go ?_
   refine WP.seq ?_
   refine WP.block ?_
   refine WP.seq ?_
   refine WD.start (fun w => Rd w a l.length 1 (ri l) ∧ Rd w b m.length 1 (ri m)) [] #[false, false, false, false, false, false, false, false, false] Ty.mo rfl (by kernel_rfl) hS1 (fun _ h => ⟨(hX (h.focus 0 rfl)), (hY (h.focus 1 rfl))⟩) (fun w2 hS2 s3 => ?_)
   clear hS1
   refine WD.pure (i := 0) same_spec_t6 #[true, false, false, false, false, false, false, false, false] rfl rfl rfl (by kernel_rfl) (PQ.then (PQ.blk (PQ.then (PQ.then (PQ.blk (PQ.then PQ.body)))))) rfl (fun w => run_move rfl) ?_
   refine WD.pure (i := 1) same_spec_t6 #[true, true, false, false, false, false, false, false, false] rfl rfl rfl (by kernel_rfl) (PQ.then (PQ.blk (PQ.then (PQ.then (PQ.blk (PQ.then PQ.body)))))) rfl (fun w => run_move rfl) ?_
   obtain ⟨x, hx⟩ : ∃ x, l[i]? = some x := ⟨_, List.getElem?_eq_getElem (by omega)⟩
   refine WD.take (i := 2) same_spec_t6 #[true, true, true, false, false, false, false, false, false] s3 rfl rfl rfl (by kernel_rfl) (PQ.then (PQ.blk (PQ.then (PQ.then (PQ.blk (PQ.then PQ.body)))))) rfl (fun w hs => run_indexAddr (q := adr a i) Tryd.underlying30 Ty.sz3 rfl rfl (by omega) (by omega) ((hs.1).2.1 (by omega)) (by simp)) ?_
   refine WD.take (i := 3) same_spec_t6 #[true, true, true, true, false, false, false, false, false] s3 rfl rfl rfl (by kernel_rfl) (PQ.then (PQ.blk (PQ.then (PQ.then (PQ.blk (PQ.then PQ.body)))))) rfl (fun w hs => run_load Ty.ag3 rfl ((hs.1).cell (ri_get hx))) ?_
   refine WD.pure (i := 4) same_spec_t6 #[true, true, true, true, true, false, false, false, false] rfl rfl rfl (by kernel_rfl) (PQ.then (PQ.blk (PQ.then (PQ.then (PQ.blk (PQ.then PQ.body)))))) rfl (fun w => run_move rfl) ?_
   refine WD.pure (i := 5) same_spec_t6 #[true, true, true, true, true, true, false, false, false] rfl rfl rfl (by kernel_rfl) (PQ.then (PQ.blk (PQ.then (PQ.then (PQ.blk (PQ.then PQ.body)))))) rfl (fun w => run_move rfl) ?_
   obtain ⟨y, hy⟩ : ∃ y, m[i]? = some y := ⟨_, List.getElem?_eq_getElem (by omega)⟩
   refine WD.take (i := 6) same_spec_t6 #[true, true, true, true, true, true, true, false, false] s3 rfl rfl rfl (by kernel_rfl) (PQ.then (PQ.blk (PQ.then (PQ.then (PQ.blk (PQ.then PQ.body)))))) rfl (fun w hs => run_indexAddr (q := adr b i) Tryd.underlying30 Ty.sz3 rfl rfl (by omega) (by omega) ((hs.2).2.1 (by omega)) (by simp)) ?_
   refine WD.take (i := 7) same_spec_t6 #[true, true, true, true, true, true, true, true, false] s3 rfl rfl rfl (by kernel_rfl) (PQ.then (PQ.blk (PQ.then (PQ.then (PQ.blk (PQ.then PQ.body)))))) rfl (fun w hs => run_load Ty.ag3 rfl ((hs.2).cell (ri_get hy))) ?_
   refine WD.pure (i := 8) same_spec_t6 #[true, true, true, true, true, true, true, true, true] rfl rfl rfl (by kernel_rfl) (PQ.then (PQ.blk (PQ.then (PQ.then (PQ.blk (PQ.then PQ.body)))))) rfl (fun w => run_neq rfl rfl) ?_
   refine WD.done same_spec_t6 (by kernel_rfl) ?_
   refine NX.go ?_
   refine WP.condP rfl (fun g25 => ?_) (fun g25 => ?_)
   ·
    refine WP.seq ?_
    refine WP.region rfl ?_
    refine WO.val (run_assign rfl) rfl rfl rfl ?_
    refine WO.nil ?_
    refine NX.go ?_
    refine WP.ret ?_
    refine NX.blkRet ?_
    refine NX.thenRet ?_
    refine NX.thenRet ?_
    refine NX.blkRet ?_
    refine NX.thenRet ?_
    refine NX.done (l := [.tmp 4]) rfl rfl ?_
    exact ⟨congrArg Value.bool (decide_eq_false (fun e => by rw [e, hy] at hx; exact g25 (Option.some.inj hx).symm)).symm, hS2⟩
   ·
    refine WP.skip ?_
    refine NX.blk ?_
    refine NX.go ?_
    refine WP.region rfl ?_
    refine WO.val (run_move rfl) rfl rfl rfl ?_
    refine WO.val (run_add rfl rfl (IntWalk.i64_in _ (by omega))) rfl rfl rfl ?_
    refine WO.val (run_assign rfl) rfl rfl rfl ?_
    refine WO.nil ?_
    exact NX.again (i + 1) ⟨⟨by omega, by rw [List.take_add_one, List.take_add_one, hx, hy, hni, Decidable.of_not_not g25]⟩, hS2⟩ (by show l.length - (i + 1) < l.length - i; omega) (Sub.cons rfl (Sub.cons rfl (Sub.consE rfl (by congr 1) (Sub.nil _))))
  ·
   refine WP.exit ?_
   refine NX.thenExit ?_
   refine NX.thenExit ?_
   refine NX.blkExit ?_
   refine NX.go ?_
   refine WP.seq ?_
   refine WP.region rfl ?_
   refine WO.val (run_assign rfl) rfl rfl rfl ?_
   refine WO.nil ?_
   refine NX.go ?_
   refine WP.ret ?_
   refine NX.done (l := [.tmp 4]) rfl rfl ?_
   exact ⟨congrArg Value.bool (decide_eq_true (by rw [List.take_of_length_le (by omega), List.take_of_length_le (by omega)] at hni; exact hni)).symm, hS1⟩
end Go.Proofs.YtogidmceomlkeaaDoor.SL
