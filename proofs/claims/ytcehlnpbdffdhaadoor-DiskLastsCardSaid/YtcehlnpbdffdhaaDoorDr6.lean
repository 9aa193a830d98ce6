/- A disk: bytes behind a file. -/
import Derived.Test.YtcehlnpbdffdhaaDoorDr5
namespace Go.Proofs.YtcehlnpbdffdhaaDoor.SL
open Go.RowKit Go.Proofs.YtcehlnpbdffdhaaDoor
open Go.Proofs.YtcehlnpbdffdhaaDoorW.PrintLast (rtab opsOf)
set_option linter.unusedVariables false
set_option linter.unusedSimpArgs false

theorem WFD.room {D : Dk} {n t : Nat} (hw : WFD D) (hb : Bnd D n t) (ht : t ≤ 1099511627776) : -9223372036854775808 ≤ D.room - ((usedN D.f D.nm : Nat) : Int) ∧ D.room - ((usedN D.f D.nm : Nat) : Int) ≤ 9223372036854775807 := by
  have hu : usedN D.f D.nm ≤ 70368744177664 := Nat.le_trans (usedN_le hb D.nm) (Nat.mul_le_mul hw.nm64 ht)
  have hr := hw.rng
  rcases Int.lt_or_le D.room 0 with h | h
  · have h0 : D.nm = [] := by
      cases e : D.nm with
      | nil => rfl
      | cons x l =>
        have := (hw.good.f x (by rw [e]; exact List.mem_cons_self ..)).2
        rw [hw.neg h] at this
        exact absurd this (Nat.not_lt_zero _)
    rw [h0]
    show -9223372036854775808 ≤ D.room - ((0 : Nat) : Int) ∧ _
    omega
  · omega
theorem getD_new {gs : List Nat} {g n : Nat} (h : gs.length = n) : (gs ++ [g]).getD n 0 = g := by
  rw [List.getD_eq_getElem?_getD, List.getElem?_append_right (by omega), h, Nat.sub_self]; rfl
theorem append_ok {dx : DkX} {D D1 : Dk} {k s : List UInt8} {gf : Nat} {a : Option Addr} {cap : Nat} {v : Value} (ok : OkX dx D) (hw : WFD D) (hk : fileF k = true) (h1 : D1.f = D.f) (h2 : D1.nm = D.nm) (h3 : D1.last = D.last) (h4 : D1.ch = D.ch) :
    OkX ⟨dx.gs ++ [gf], dx.r1, applyE (dx.gs ++ [gf]) dx.e1 ⟨[], k, D.f.length⟩, dx.r2, dx.e2, a, cap, dx.vs ++ [v]⟩ { changeD { D1 with f := D1.f ++ [([], 0)] } ⟨[], k, D1.f.length⟩ with f := D1.f ++ [(s, 0)] } := by
  have hlt : ∀ l : Nm, GoodN l D.f.length → ∀ e ∈ l, e.2 < dx.gs.length := fun l h e he => by rw [ok.g]; exact (h.f e he).2
  refine ⟨?_, ?_, ?_, ?_⟩
  · show (dx.gs ++ [gf]).length = (D1.f ++ [(s, 0)]).length
    rw [List.length_append, List.length_append, ok.g, h1]; rfl
  · show (applyE (dx.gs ++ [gf]) dx.e1 ⟨[], k, D.f.length⟩).Perm (esOf (dx.gs ++ [gf]) (applyN D1.nm ⟨[], k, D1.f.length⟩))
    rw [h1, h2]
    refine applyE_perm (n := D.f.length + 1) ?_ (hw.good.mono (Nat.le_succ _)) (.inr ⟨hk, Nat.lt_succ_self _, .inl rfl⟩)
    rw [esOf_grow (hlt _ hw.good)]; exact ok.p1
  · show dx.e2.Perm (esOf (dx.gs ++ [gf]) D1.last)
    rw [h3, esOf_grow (hlt _ hw.last)]; exact ok.p2
  · show (D1.ch ++ [_]).length = (dx.vs ++ [v]).length
    rw [List.length_append, List.length_append, h4, ok.v]; rfl
theorem dappend_spec_t3 : rtab .any (opsOf Tryd.f24 3) = (true, [([], []), ([0], [0]), ([1], [1]), ([2], [2]), ([], []), ([3, 4], [3, 4]), ([], []), ([6, 5, 0, 1, 2, 3, 4, 5, 6], [5, 6])]) := by kernel_rfl
theorem dappend_spec_t6 : rtab .any (opsOf Tryd.f24 6) = (true, [([], []), ([0], [0]), ([], []), ([2], [2]), ([3], [3]), ([4], [4]), ([], []), ([6], [6]), ([5, 7], [5, 7]), ([1, 8], [1, 8]), ([9, 7], [9]), ([10], [10]), ([11, 10], [10, 11]), ([12, 10, 10], [10, 12]), ([13], [13]), ([14, 13], [13, 14]), ([15, 13], [13, 15]), ([16, 13], [13, 16]), ([17, 13, 13], [13, 17]), ([18, 13], [13, 18]), ([13, 19, 10], [10, 13, 19]), ([10, 20], [10, 20]), ([21, 18], [21])]) := by kernel_rfl
theorem dappend_spec {B w : World} {L : List HP} {g : Nat} {D : Dk} {n t : Nat} (hw : WFD D) (hb : Bnd D n t) (hn1 : n ≤ 1000000000) (ht : t ≤ 1099511627776) (k s : List UInt8) (hkl : k.length ≤ 140737488355328) (hsl : s.length ≤ 140737488355328) (hS : St B (dkA g D :: L) w) : Does Tryd.prog 24 [Value.pointer (some ⟨g, 0, none⟩), str k, str s] w (fun v w1 => v = .int .i64 (appendD D k s).2 ∧ St B (dkA g (appendD D k s).1 :: L) w1) := by
 obtain ⟨dx, ok, h0⟩ := hS.dk_open
 clear hS
 have he1 : dx.e1.length = D.nm.length := by have := ok.p1.length_eq; unfold esOf at this; rw [List.length_map] at this; exact this
 have hroom := hw.room hb ht
 have hvs : dx.vs.length ≤ 1099511627776 := by have := ok.v; have := hb.ch; omega
 refine enter (n := 59) Tryd.func24 rfl rfl [Value.pointer (some ⟨g, 0, none⟩), str k, str s] rfl ?_
 refine WP.seq ?_
 refine WP.region rfl ?_
 refine WO.box (l := [str k]) h0 rfl rfl rfl (fun g2 w1 lg2 hS1 => ?_)
 clear h0
 refine WO.val (run_assign rfl) rfl rfl rfl ?_
 refine WO.nil ?_
 refine NX.go ?_
 refine WP.seq ?_
 refine WP.seq ?_
 refine WP.region rfl ?_
 refine WO.val (run_move rfl) rfl rfl rfl ?_
 have hS3 := hS1.permT [1, 0, 0, 0, 0, 0, 0] (L' := cel g [Value.int .i64 D.room, Value.map (some dx.r1), Value.map (some dx.r2), Value.slice dx.a dx.vs.length dx.cap, Value.bool D.dead, Value.int .i64 D.left] 103 :: cel g2 [str k] 9 :: mpS dx.r1 dx.e1 :: mpS dx.r2 dx.e2 :: own dx.a dx.vs.length dx.cap 108 1 dx.vs :: chsA dx.gs D.ch dx.vs :: filesA dx.gs D.f :: L) rfl
 clear hS1
 refine WO.call rfl rfl Ty.hd59 rfl (dwrite_spec hw.left hw.lrng hS3) (fun v5 w4 pv5 => ?_)
 obtain ⟨rfl, hS4⟩ := pv5
 clear hS3
 refine WO.val (run_not rfl rfl) rfl rfl rfl ?_
 refine WO.nil ?_
 refine NX.go ?_
 refine WP.condB rfl (fun g10 => ?_) (fun g10 => ?_)
 ·
  refine WP.seq ?_
  refine WP.region rfl ?_
  refine WO.val (run_assign rfl) rfl rfl rfl ?_
  refine WO.nil ?_
  refine NX.go ?_
  refine WP.ret ?_
  refine NX.thenRet ?_
  refine NX.done (l := [.tmp 6]) rfl rfl ?_
  have e : appendD D k s = ({ D with dead := wDead D.dead D.left, left := wLeft D.dead D.left }, 11) := by unfold appendD; rw [onWrite_eq, if_neg (by simpa using g10)]
  rw [e]
  exact ⟨rfl, St.dk_shut (D := { D with dead := wDead D.dead D.left, left := wLeft D.dead D.left }) ⟨ok.g, ok.p1, ok.p2, ok.v⟩ ((hS4.permT [1, 0, 0, 0, 0, 0, 0] (L' := cel g2 [str k] 9 :: cel g [Value.int .i64 D.room, Value.map (some dx.r1), Value.map (some dx.r2), Value.slice dx.a dx.vs.length dx.cap, Value.bool (wDead D.dead D.left), Value.int .i64 (wLeft D.dead D.left)] 103 :: mpS dx.r1 dx.e1 :: mpS dx.r2 dx.e2 :: own dx.a dx.vs.length dx.cap 108 1 dx.vs :: chsA dx.gs D.ch dx.vs :: filesA dx.gs D.f :: L) rfl).drop)⟩
 ·
  refine WP.skip ?_
  refine NX.go ?_
  refine WP.seq ?_
  refine WD.start (fun w => (∀ j, World.cell? w ⟨g, j, none⟩ = [Value.int .i64 D.room, Value.map (some dx.r1), Value.map (some dx.r2), Value.slice dx.a dx.vs.length dx.cap, Value.bool (wDead D.dead D.left), Value.int .i64 (wLeft D.dead D.left)][j]?) ∧ (∀ j, World.cell? w ⟨g2, j, none⟩ = [str k][j]?)) [] #[false, false, false, false, false, false, false, false] Ty.mo rfl (by kernel_rfl) hS4 (fun _ h => ⟨h.cel_at 0 rfl, h.cel_at 1 rfl⟩) (fun w6 hS6 s7 => ?_)
  clear hS4
  refine WD.pure (i := 0) dappend_spec_t3 #[true, false, false, false, false, false, false, false] rfl rfl rfl (by kernel_rfl) (PQ.then PQ.body) rfl (fun w => run_move rfl) ?_
  refine WD.pure (i := 1) dappend_spec_t3 #[true, true, false, false, false, false, false, false] rfl rfl rfl (by kernel_rfl) (PQ.then PQ.body) rfl (fun w => run_nilCheck rfl) ?_
  refine WD.pure (i := 2) dappend_spec_t3 #[true, true, true, false, false, false, false, false] rfl rfl rfl (by kernel_rfl) (PQ.then PQ.body) rfl (fun w => run_fieldAddr (q := ⟨g, 1, none⟩) (show fieldB Tryd.prog 103 1 = some 1 from by kernel_rfl) rfl rfl) ?_
  refine WD.take (i := 3) dappend_spec_t3 #[true, true, true, true, false, false, false, false] s7 rfl rfl rfl (by kernel_rfl) (PQ.then PQ.body) rfl (fun w hs => run_load Ty.ag100 rfl ((hs.1 1).trans rfl)) ?_
  refine WD.take (i := 4) dappend_spec_t3 #[true, true, true, true, true, false, false, false] s7 rfl rfl rfl (by kernel_rfl) (PQ.then PQ.body) rfl (fun w hs => run_load Ty.ag9 rfl ((hs.2 0).trans rfl)) ?_
  refine WD.two (i := 5) (k := 6) dappend_spec_t3 #[true, true, true, true, true, true, false, false] #[true, true, true, true, true, false, true, false] rfl rfl (by kernel_rfl) ?_ ?_
  ·
   refine WO.val (run_lookupS 2 hS6 rfl Tryd.underlying100 Tryd.underlying9 Ty.zr104 rfl rfl (look_ok ok hw k)) rfl rfl rfl ?_
   refine WO.nil ?_
   have s8 : (∀ j, World.cell? w6 ⟨g, j, none⟩ = [Value.int .i64 D.room, Value.map (some dx.r1), Value.map (some dx.r2), Value.slice dx.a dx.vs.length dx.cap, Value.bool (wDead D.dead D.left), Value.int .i64 (wLeft D.dead D.left)][j]?) ∧ (∀ j, World.cell? w6 ⟨g2, j, none⟩ = [str k][j]?) := ⟨hS6.cel_at 0 rfl, hS6.cel_at 1 rfl⟩
   refine NX.held s8 ?_
   refine WD.one (i := 6) dappend_spec_t3 #[true, true, true, true, true, true, true, false] rfl (by kernel_rfl) ?_
   refine WO.alloc (l := [Value.pointer none]) hS6 Ty.zr104 rfl rfl (fun g11 w9 lg11 hS9 => ?_)
   clear hS6
   refine WO.nil ?_
   have s12 : (∀ j, World.cell? w9 ⟨g, j, none⟩ = [Value.int .i64 D.room, Value.map (some dx.r1), Value.map (some dx.r2), Value.slice dx.a dx.vs.length dx.cap, Value.bool (wDead D.dead D.left), Value.int .i64 (wLeft D.dead D.left)][j]?) ∧ (∀ j, World.cell? w9 ⟨g2, j, none⟩ = [str k][j]?) := ⟨hS9.cel_at 1 rfl, hS9.cel_at 2 rfl⟩
   refine NX.held s12 ?_
   refine WD.one (i := 7) dappend_spec_t3 #[true, true, true, true, true, true, true, true] rfl (by kernel_rfl) ?_
   refine WO.store (l' := [Value.pointer (findP dx.gs k D.nm)]) 0 hS9 rfl Ty.sz104 rfl rfl rfl rfl rfl (Nat.le_of_ble_eq_true rfl) rfl (fun w13 (hS13 : St B (cel g11 [Value.pointer (findP dx.gs k D.nm)] 104 :: cel g [Value.int .i64 D.room, Value.map (some dx.r1), Value.map (some dx.r2), Value.slice dx.a dx.vs.length dx.cap, Value.bool (wDead D.dead D.left), Value.int .i64 (wLeft D.dead D.left)] 103 :: cel g2 [str k] 9 :: mpS dx.r1 dx.e1 :: mpS dx.r2 dx.e2 :: own dx.a dx.vs.length dx.cap 108 1 dx.vs :: chsA dx.gs D.ch dx.vs :: filesA dx.gs D.f :: L) w13) => ?_)
   clear hS9
   refine WO.nil ?_
   have s14 : (∀ j, World.cell? w13 ⟨g, j, none⟩ = [Value.int .i64 D.room, Value.map (some dx.r1), Value.map (some dx.r2), Value.slice dx.a dx.vs.length dx.cap, Value.bool (wDead D.dead D.left), Value.int .i64 (wLeft D.dead D.left)][j]?) ∧ (∀ j, World.cell? w13 ⟨g2, j, none⟩ = [str k][j]?) := ⟨hS13.cel_at 1 rfl, hS13.cel_at 2 rfl⟩
   refine NX.held s14 ?_
   refine WD.done dappend_spec_t3 (by kernel_rfl) ?_
   refine NX.go ?_
   refine WP.seq ?_
   refine WP.block ?_
   refine WP.seq ?_
   refine WP.region rfl ?_
   refine WO.val (run_load Ty.ag9 rfl ((hS13.cel_at 2 rfl 0).trans rfl)) rfl rfl rfl ?_
   refine WO.call rfl rfl Ty.hd60 rfl (dright_spec k (by omega) hS13) (fun v16 w15 pv16 => ?_)
   obtain ⟨rfl, hS15⟩ := pv16
   clear hS13
   refine WO.val (run_not rfl rfl) rfl rfl rfl ?_
   refine WO.val (run_assign rfl) rfl rfl rfl ?_
   refine WO.nil ?_
   refine NX.go ?_
   refine WP.condB rfl (fun g17 => ?_) (fun g17 => ?_)
   ·
    refine WP.seq ?_
    refine WP.region rfl ?_
    refine WO.val (run_assign rfl) rfl rfl rfl ?_
    refine WO.nil ?_
    refine NX.go ?_
    refine WP.ret ?_
    refine NX.blkRet ?_
    refine NX.thenRet ?_
    refine NX.done (l := [.tmp 6]) rfl rfl ?_
    have e : appendD D k s = ({ D with dead := wDead D.dead D.left, left := wLeft D.dead D.left }, 3) := by unfold appendD; rw [onWrite_eq, if_pos (by simpa using g10)]; show append1 _ k s = _; unfold append1; rw [if_pos (by simpa using g17)]
    rw [e]
    exact ⟨rfl, St.dk_shut (D := { D with dead := wDead D.dead D.left, left := wLeft D.dead D.left }) ⟨ok.g, ok.p1, ok.p2, ok.v⟩ ((hS15.permT [0, 1, 0, 0, 0, 0, 0, 0] (L' := cel g11 [Value.pointer (findP dx.gs k D.nm)] 104 :: cel g2 [str k] 9 :: cel g [Value.int .i64 D.room, Value.map (some dx.r1), Value.map (some dx.r2), Value.slice dx.a dx.vs.length dx.cap, Value.bool (wDead D.dead D.left), Value.int .i64 (wLeft D.dead D.left)] 103 :: mpS dx.r1 dx.e1 :: mpS dx.r2 dx.e2 :: own dx.a dx.vs.length dx.cap 108 1 dx.vs :: chsA dx.gs D.ch dx.vs :: filesA dx.gs D.f :: L) rfl).drop.drop)⟩
   ·
    have hk : fileF k = true := by simpa using g17
    refine WP.seq ?_
    refine WD.start (fun w => (∀ j, World.cell? w ⟨g, j, none⟩ = [Value.int .i64 D.room, Value.map (some dx.r1), Value.map (some dx.r2), Value.slice dx.a dx.vs.length dx.cap, Value.bool (wDead D.dead D.left), Value.int .i64 (wLeft D.dead D.left)][j]?)) [] #[false, false, false, false, false, false, false, false, false, false, false, false, false, false, false, false, false, false, false, false, false, false, false] Ty.mo rfl (by kernel_rfl) hS15 (fun _ h => h.cel_at 1 rfl) (fun w17 hS17 s18 => ?_)
    clear hS15
    refine WD.pure (i := 0) dappend_spec_t6 #[true, false, false, false, false, false, false, false, false, false, false, false, false, false, false, false, false, false, false, false, false, false, false] rfl rfl rfl (by kernel_rfl) (PQ.then (PQ.blk (PQ.then PQ.body))) rfl (fun w => run_move rfl) ?_
    refine WD.pure (i := 1) dappend_spec_t6 #[true, true, false, false, false, false, false, false, false, false, false, false, false, false, false, false, false, false, false, false, false, false, false] rfl rfl rfl (by kernel_rfl) (PQ.then (PQ.blk (PQ.then PQ.body))) rfl (fun w => run_lenS rfl Tryd.underlying9 rfl) ?_
    refine WD.pure (i := 2) dappend_spec_t6 #[true, true, true, false, false, false, false, false, false, false, false, false, false, false, false, false, false, false, false, false, false, false, false] rfl rfl rfl (by kernel_rfl) (PQ.then (PQ.blk (PQ.then PQ.body))) rfl (fun w => run_move rfl) ?_
    refine WD.pure (i := 3) dappend_spec_t6 #[true, true, true, true, false, false, false, false, false, false, false, false, false, false, false, false, false, false, false, false, false, false, false] rfl rfl rfl (by kernel_rfl) (PQ.then (PQ.blk (PQ.then PQ.body))) rfl (fun w => run_nilCheck rfl) ?_
    refine WD.pure (i := 4) dappend_spec_t6 #[true, true, true, true, true, false, false, false, false, false, false, false, false, false, false, false, false, false, false, false, false, false, false] rfl rfl rfl (by kernel_rfl) (PQ.then (PQ.blk (PQ.then PQ.body))) rfl (fun w => run_fieldAddr (q := ⟨g, 0, none⟩) (show fieldB Tryd.prog 103 0 = some 0 from by kernel_rfl) rfl rfl) ?_
    refine WD.take (i := 5) dappend_spec_t6 #[true, true, true, true, true, true, false, false, false, false, false, false, false, false, false, false, false, false, false, false, false, false, false] s18 rfl rfl rfl (by kernel_rfl) (PQ.then (PQ.blk (PQ.then PQ.body))) rfl (fun w hs => run_load Ty.ag3 rfl ((hs 0).trans rfl)) ?_
    refine WD.pure (i := 6) dappend_spec_t6 #[true, true, true, true, true, true, true, false, false, false, false, false, false, false, false, false, false, false, false, false, false, false, false] rfl rfl rfl (by kernel_rfl) (PQ.then (PQ.blk (PQ.then PQ.body))) rfl (fun w => run_move rfl) ?_
    refine WD.one (i := 7) dappend_spec_t6 #[true, true, true, true, true, true, true, true, false, false, false, false, false, false, false, false, false, false, false, false, false, false, false] rfl (by kernel_rfl) ?_
    have hS19 := hS17.permT [1, 2, 2, 2, 2, 2, 0, 0] (L' := cel g [Value.int .i64 D.room, Value.map (some dx.r1), Value.map (some dx.r2), Value.slice dx.a dx.vs.length dx.cap, Value.bool (wDead D.dead D.left), Value.int .i64 (wLeft D.dead D.left)] 103 :: mpS dx.r1 dx.e1 :: mpS dx.r2 dx.e2 :: own dx.a dx.vs.length dx.cap 108 1 dx.vs :: chsA dx.gs D.ch dx.vs :: filesA dx.gs D.f :: cel g11 [Value.pointer (findP dx.gs k D.nm)] 104 :: cel g2 [str k] 9 :: L) rfl
    clear hS17
    refine WO.call rfl rfl Ty.hd27 rfl (dused_open (D := { D with dead := wDead D.dead D.left, left := wLeft D.dead D.left }) (dx := dx) ⟨ok.g, ok.p1, ok.p2, ok.v⟩ hw.w ⟨hb.ch, hb.f, hb.t⟩ ht hS19) (fun v21 w20 pv21 => ?_)
    obtain ⟨rfl, hS20⟩ := pv21
    clear hS19
    refine WO.nil ?_
    have s22 : (∀ j, World.cell? w20 ⟨g, j, none⟩ = [Value.int .i64 D.room, Value.map (some dx.r1), Value.map (some dx.r2), Value.slice dx.a dx.vs.length dx.cap, Value.bool (wDead D.dead D.left), Value.int .i64 (wLeft D.dead D.left)][j]?) := hS20.cel_at 0 rfl
    refine NX.held s22 ?_
    refine WD.pure (i := 8) dappend_spec_t6 #[true, true, true, true, true, true, true, true, true, false, false, false, false, false, false, false, false, false, false, false, false, false, false] rfl rfl rfl (by kernel_rfl) (PQ.then (PQ.blk (PQ.then PQ.body))) rfl (fun w => run_sub rfl rfl (IntWalk.i64_in _ (by omega))) ?_
    refine WD.pure (i := 9) dappend_spec_t6 #[true, true, true, true, true, true, true, true, true, true, false, false, false, false, false, false, false, false, false, false, false, false, false] rfl rfl rfl (by kernel_rfl) (PQ.then (PQ.blk (PQ.then PQ.body))) rfl (fun w => run_gtr rfl rfl) ?_
    refine WD.pure (i := 10) dappend_spec_t6 #[true, true, true, true, true, true, true, true, true, true, true, false, false, false, false, false, false, false, false, false, false, false, false] rfl rfl rfl (by kernel_rfl) (PQ.then (PQ.blk (PQ.then PQ.body))) rfl (fun w => run_move rfl) ?_
    by_cases g32 : (D.room - ((usedN D.f D.nm : Nat) : Int)) < (s.length : Int)
    ·
     refine WD.off (i := 11) dappend_spec_t6 #[true, true, true, true, true, true, true, true, true, true, true, true, false, false, false, false, false, false, false, false, false, false, false] rfl rfl rfl (decide_eq_true g32) (by kernel_rfl) (PQ.then (PQ.blk (PQ.then PQ.body))) rfl ?_
     refine WD.off (i := 12) dappend_spec_t6 #[true, true, true, true, true, true, true, true, true, true, true, true, true, false, false, false, false, false, false, false, false, false, false] rfl rfl rfl (decide_eq_true g32) (by kernel_rfl) (PQ.then (PQ.blk (PQ.then PQ.body))) rfl ?_
     refine WD.off (i := 13) dappend_spec_t6 #[true, true, true, true, true, true, true, true, true, true, true, true, true, true, false, false, false, false, false, false, false, false, false] rfl rfl rfl (decide_eq_true g32) (by kernel_rfl) (PQ.then (PQ.blk (PQ.then PQ.body))) rfl ?_
     refine WD.offU (i := 14) dappend_spec_t6 #[true, true, true, true, true, true, true, true, true, true, true, true, true, true, true, false, false, false, false, false, false, false, false] rfl rfl rfl (by kernel_rfl) (PQ.then (PQ.blk (PQ.then PQ.body))) rfl ?_
     refine WD.offU (i := 15) dappend_spec_t6 #[true, true, true, true, true, true, true, true, true, true, true, true, true, true, true, true, false, false, false, false, false, false, false] rfl rfl rfl (by kernel_rfl) (PQ.then (PQ.blk (PQ.then PQ.body))) rfl ?_
     refine WD.offU (i := 16) dappend_spec_t6 #[true, true, true, true, true, true, true, true, true, true, true, true, true, true, true, true, true, false, false, false, false, false, false] rfl rfl rfl (by kernel_rfl) (PQ.then (PQ.blk (PQ.then PQ.body))) rfl ?_
     refine WD.offU (i := 17) dappend_spec_t6 #[true, true, true, true, true, true, true, true, true, true, true, true, true, true, true, true, true, true, false, false, false, false, false] rfl rfl rfl (by kernel_rfl) (PQ.then (PQ.blk (PQ.then PQ.body))) rfl ?_
     refine WD.offU (i := 18) dappend_spec_t6 #[true, true, true, true, true, true, true, true, true, true, true, true, true, true, true, true, true, true, true, false, false, false, false] rfl rfl rfl (by kernel_rfl) (PQ.then (PQ.blk (PQ.then PQ.body))) rfl ?_
     refine WD.offU (i := 19) dappend_spec_t6 #[true, true, true, true, true, true, true, true, true, true, true, true, true, true, true, true, true, true, true, true, false, false, false] rfl rfl rfl (by kernel_rfl) (PQ.then (PQ.blk (PQ.then PQ.body))) rfl ?_
     refine WD.off (i := 20) dappend_spec_t6 #[true, true, true, true, true, true, true, true, true, true, true, true, true, true, true, true, true, true, true, true, true, false, false] rfl rfl rfl (decide_eq_true g32) (by kernel_rfl) (PQ.then (PQ.blk (PQ.then PQ.body))) rfl ?_
     refine WD.pure (i := 21) dappend_spec_t6 #[true, true, true, true, true, true, true, true, true, true, true, true, true, true, true, true, true, true, true, true, true, true, false] rfl rfl rfl (by kernel_rfl) (PQ.then (PQ.blk (PQ.then PQ.body))) rfl (fun w => run_pickT rfl (decide_eq_true g32) rfl) ?_
     refine WD.pure (i := 22) dappend_spec_t6 #[true, true, true, true, true, true, true, true, true, true, true, true, true, true, true, true, true, true, true, true, true, true, true] rfl rfl rfl (by kernel_rfl) (PQ.then (PQ.blk (PQ.then PQ.body))) rfl (fun w => run_assign rfl) ?_
     refine WD.done dappend_spec_t6 (by kernel_rfl) ?_
     refine NX.go ?_
     refine WP.condT rfl rfl ?_
     refine WP.seq ?_
     refine WP.region rfl ?_
     refine WO.val (run_assign rfl) rfl rfl rfl ?_
     refine WO.nil ?_
     refine NX.go ?_
     refine WP.ret ?_
     refine NX.blkRet ?_
     refine NX.thenRet ?_
     refine NX.done (l := [.tmp 6]) rfl rfl ?_
     have e : appendD D k s = ({ D with dead := wDead D.dead D.left, left := wLeft D.dead D.left }, 4) := by unfold appendD; rw [onWrite_eq, if_pos (by simpa using g10)]; show append1 _ k s = _; unfold append1; rw [if_neg (by rw [hk]; decide), if_pos (show D.room - ((usedN D.f D.nm : Nat) : Int) < (s.length : Int) ∨ (findN k D.nm = none ∧ D.nm.length = 64) from .inl g32)]
     rw [e]
     exact ⟨rfl, St.dk_shut (D := { D with dead := wDead D.dead D.left, left := wLeft D.dead D.left }) ⟨ok.g, ok.p1, ok.p2, ok.v⟩ ((hS20.permT [6, 6, 0, 0, 0, 0, 0, 0] (L' := cel g11 [Value.pointer (findP dx.gs k D.nm)] 104 :: cel g2 [str k] 9 :: cel g [Value.int .i64 D.room, Value.map (some dx.r1), Value.map (some dx.r2), Value.slice dx.a dx.vs.length dx.cap, Value.bool (wDead D.dead D.left), Value.int .i64 (wLeft D.dead D.left)] 103 :: mpS dx.r1 dx.e1 :: mpS dx.r2 dx.e2 :: own dx.a dx.vs.length dx.cap 108 1 dx.vs :: chsA dx.gs D.ch dx.vs :: filesA dx.gs D.f :: L) rfl).drop.drop)⟩
    ·
     refine WD.one (i := 11) dappend_spec_t6 #[true, true, true, true, true, true, true, true, true, true, true, true, false, false, false, false, false, false, false, false, false, false, false] rfl (by kernel_rfl) ?_
     refine WO.on rfl rfl (decide_eq_false g32) ?_
     refine WO.val (run_load Ty.ag104 rfl ((hS20.cel_at 6 rfl 0).trans rfl)) rfl rfl rfl ?_
     refine WO.nil ?_
     have s23 : (∀ j, World.cell? w20 ⟨g, j, none⟩ = [Value.int .i64 D.room, Value.map (some dx.r1), Value.map (some dx.r2), Value.slice dx.a dx.vs.length dx.cap, Value.bool (wDead D.dead D.left), Value.int .i64 (wLeft D.dead D.left)][j]?) := hS20.cel_at 0 rfl
     refine NX.held s23 ?_
     refine WD.pureOn (i := 12) dappend_spec_t6 #[true, true, true, true, true, true, true, true, true, true, true, true, true, false, false, false, false, false, false, false, false, false, false] rfl rfl rfl (decide_eq_false g32) (by kernel_rfl) (PQ.then (PQ.blk (PQ.then PQ.body))) rfl (fun w => run_eqlNilP Tryd.underlying104 rfl rfl) ?_
     refine WD.pureOn (i := 13) dappend_spec_t6 #[true, true, true, true, true, true, true, true, true, true, true, true, true, true, false, false, false, false, false, false, false, false, false] rfl rfl rfl (decide_eq_false g32) (by kernel_rfl) (PQ.then (PQ.blk (PQ.then PQ.body))) rfl (fun w => run_move rfl) ?_
     rcases Bool.eq_false_or_eq_true ((findP dx.gs k D.nm).isNone) with g35 | g35
     ·
      have hn := findP_none g35
      have hP : findP dx.gs k D.nm = none := by unfold findP; rw [hn]; rfl
      rw [hP] at hS20
      refine WD.pureOn (i := 14) dappend_spec_t6 #[true, true, true, true, true, true, true, true, true, true, true, true, true, true, true, false, false, false, false, false, false, false, false] rfl rfl rfl g35 (by kernel_rfl) (PQ.then (PQ.blk (PQ.then PQ.body))) rfl (fun w => run_move rfl) ?_
      refine WD.pureOn (i := 15) dappend_spec_t6 #[true, true, true, true, true, true, true, true, true, true, true, true, true, true, true, true, false, false, false, false, false, false, false] rfl rfl rfl g35 (by kernel_rfl) (PQ.then (PQ.blk (PQ.then PQ.body))) rfl (fun w => run_nilCheck rfl) ?_
      refine WD.pureOn (i := 16) dappend_spec_t6 #[true, true, true, true, true, true, true, true, true, true, true, true, true, true, true, true, true, false, false, false, false, false, false] rfl rfl rfl g35 (by kernel_rfl) (PQ.then (PQ.blk (PQ.then PQ.body))) rfl (fun w => run_fieldAddr (q := ⟨g, 1, none⟩) (show fieldB Tryd.prog 103 1 = some 1 from by kernel_rfl) rfl rfl) ?_
      refine WD.takeOn (i := 17) dappend_spec_t6 #[true, true, true, true, true, true, true, true, true, true, true, true, true, true, true, true, true, true, false, false, false, false, false] s23 rfl rfl rfl g35 (by kernel_rfl) (PQ.then (PQ.blk (PQ.then PQ.body))) rfl (fun w hs => run_load Ty.ag100 rfl ((hs 1).trans rfl)) ?_
      refine WD.one (i := 18) dappend_spec_t6 #[true, true, true, true, true, true, true, true, true, true, true, true, true, true, true, true, true, true, true, false, false, false, false] rfl (by kernel_rfl) ?_
      refine WO.on rfl rfl g35 ?_
      refine WO.val (run_lenMapS 1 hS20 rfl rfl Tryd.underlying100 rfl) rfl rfl rfl ?_
      refine WO.nil ?_
      have s24 : (∀ j, World.cell? w20 ⟨g, j, none⟩ = [Value.int .i64 D.room, Value.map (some dx.r1), Value.map (some dx.r2), Value.slice dx.a dx.vs.length dx.cap, Value.bool (wDead D.dead D.left), Value.int .i64 (wLeft D.dead D.left)][j]?) := hS20.cel_at 0 rfl
      refine NX.held s24 ?_
      refine WD.pureOn (i := 19) dappend_spec_t6 #[true, true, true, true, true, true, true, true, true, true, true, true, true, true, true, true, true, true, true, true, false, false, false] rfl rfl rfl g35 (by kernel_rfl) (PQ.then (PQ.blk (PQ.then PQ.body))) rfl (fun w => run_eql rfl rfl) ?_
      refine WD.pureOn (i := 20) dappend_spec_t6 #[true, true, true, true, true, true, true, true, true, true, true, true, true, true, true, true, true, true, true, true, true, false, false] rfl rfl rfl (decide_eq_false g32) (by kernel_rfl) (PQ.then (PQ.blk (PQ.then PQ.body))) rfl (fun w => run_pickT rfl g35 rfl) ?_
      refine WD.pure (i := 21) dappend_spec_t6 #[true, true, true, true, true, true, true, true, true, true, true, true, true, true, true, true, true, true, true, true, true, true, false] rfl rfl rfl (by kernel_rfl) (PQ.then (PQ.blk (PQ.then PQ.body))) rfl (fun w => run_pickF rfl (decide_eq_false g32) rfl) ?_
      refine WD.pure (i := 22) dappend_spec_t6 #[true, true, true, true, true, true, true, true, true, true, true, true, true, true, true, true, true, true, true, true, true, true, true] rfl rfl rfl (by kernel_rfl) (PQ.then (PQ.blk (PQ.then PQ.body))) rfl (fun w => run_assign rfl) ?_
      refine WD.done dappend_spec_t6 (by kernel_rfl) ?_
      refine NX.go ?_
      refine WP.condP rfl (fun g21 => ?_) (fun g21 => ?_)
      ·
       refine WP.seq ?_
       refine WP.region rfl ?_
       refine WO.val (run_assign rfl) rfl rfl rfl ?_
       refine WO.nil ?_
       refine NX.go ?_
       refine WP.ret ?_
       refine NX.blkRet ?_
       refine NX.thenRet ?_
       refine NX.done (l := [.tmp 6]) rfl rfl ?_
       have e : appendD D k s = ({ D with dead := wDead D.dead D.left, left := wLeft D.dead D.left }, 4) := by unfold appendD; rw [onWrite_eq, if_pos (by simpa using g10)]; show append1 _ k s = _; unfold append1; rw [if_neg (by rw [hk]; decide), if_pos (show D.room - ((usedN D.f D.nm : Nat) : Int) < (s.length : Int) ∨ (findN k D.nm = none ∧ D.nm.length = 64) from .inr ⟨hn, by omega⟩)]
       rw [e]
       exact ⟨rfl, St.dk_shut (D := { D with dead := wDead D.dead D.left, left := wLeft D.dead D.left }) ⟨ok.g, ok.p1, ok.p2, ok.v⟩ ((hS20.permT [6, 6, 0, 0, 0, 0, 0, 0] (L' := cel g11 [Value.pointer none] 104 :: cel g2 [str k] 9 :: cel g [Value.int .i64 D.room, Value.map (some dx.r1), Value.map (some dx.r2), Value.slice dx.a dx.vs.length dx.cap, Value.bool (wDead D.dead D.left), Value.int .i64 (wLeft D.dead D.left)] 103 :: mpS dx.r1 dx.e1 :: mpS dx.r2 dx.e2 :: own dx.a dx.vs.length dx.cap 108 1 dx.vs :: chsA dx.gs D.ch dx.vs :: filesA dx.gs D.f :: L) rfl).drop.drop)⟩
      ·
       refine WP.skip ?_
       refine NX.blk ?_
       refine NX.go ?_
       refine WP.seq ?_
       refine WP.seq ?_
       refine WP.region rfl ?_
       refine WO.val (run_load Ty.ag104 rfl ((hS20.cel_at 6 rfl 0).trans rfl)) rfl rfl rfl ?_
       refine WO.val (run_eqlNilP Tryd.underlying104 rfl rfl) rfl rfl rfl ?_
       refine WO.nil ?_
       refine NX.go ?_
       refine WP.condT rfl rfl ?_
       refine WP.seq ?_
       refine WP.region rfl ?_
       refine WO.val (run_build (v := Value.agg #[str [], Value.int .i64 0]) rfl (fun w => by kernel_rfl)) rfl rfl rfl ?_
       refine WO.box (l := [str [], Value.int .i64 0]) hS20 rfl rfl rfl (fun g26 w25 lg26 hS25 => ?_)
       clear hS20
       refine WO.store (l' := [Value.pointer (some ⟨g26, 0, none⟩)]) 7 hS25 rfl Ty.sz104 rfl rfl rfl rfl rfl (Nat.le_of_ble_eq_true rfl) rfl (fun w27 (hS27 : St B (cel g26 [str [], Value.int .i64 0] 106 :: cel g [Value.int .i64 D.room, Value.map (some dx.r1), Value.map (some dx.r2), Value.slice dx.a dx.vs.length dx.cap, Value.bool (wDead D.dead D.left), Value.int .i64 (wLeft D.dead D.left)] 103 :: mpS dx.r1 dx.e1 :: mpS dx.r2 dx.e2 :: own dx.a dx.vs.length dx.cap 108 1 dx.vs :: chsA dx.gs D.ch dx.vs :: filesA dx.gs D.f :: cel g11 [Value.pointer (some ⟨g26, 0, none⟩)] 104 :: cel g2 [str k] 9 :: L) w27) => ?_)
       clear hS25
       refine WO.nil ?_
       refine NX.go ?_
       refine WP.region rfl ?_
       refine WO.val (run_move rfl) rfl rfl rfl ?_
       refine WO.val (run_makeFunc rfl rfl) rfl rfl rfl ?_
       have hS28 : St B (cel g26 [str [], Value.int .i64 0] 106 :: cel g [Value.int .i64 D.room, Value.map (some dx.r1), Value.map (some dx.r2), Value.slice dx.a dx.vs.length dx.cap, Value.bool (wDead D.dead D.left), Value.int .i64 (wLeft D.dead D.left)] 103 :: mpS dx.r1 dx.e1 :: mpS dx.r2 dx.e2 :: own dx.a dx.vs.length dx.cap 108 1 dx.vs :: chsA dx.gs D.ch dx.vs :: filesA dx.gs D.f :: scel g11 [Value.pointer (some ⟨g26, 0, none⟩)] 104 :: cel g2 [str k] 9 :: L) w27 := hS27.cel_seal_i 7 rfl rfl
       clear hS27
       have hS29 : St B (cel g26 [str [], Value.int .i64 0] 106 :: cel g [Value.int .i64 D.room, Value.map (some dx.r1), Value.map (some dx.r2), Value.slice dx.a dx.vs.length dx.cap, Value.bool (wDead D.dead D.left), Value.int .i64 (wLeft D.dead D.left)] 103 :: mpS dx.r1 dx.e1 :: mpS dx.r2 dx.e2 :: own dx.a dx.vs.length dx.cap 108 1 dx.vs :: chsA dx.gs D.ch dx.vs :: filesA dx.gs D.f :: scel g11 [Value.pointer (some ⟨g26, 0, none⟩)] 104 :: scel g2 [str k] 9 :: L) w27 := hS28.cel_seal_i 8 rfl rfl
       clear hS28
       have hS30 : St B (chgA (dx.gs ++ [g26]) (Chg.mk [] k D.f.length) (Value.func (.func 62) #[] #[ptrV g11, ptrV g2]) :: scel g11 [Value.pointer (some ⟨g26, 0, none⟩)] 104 :: cel g26 [str [], Value.int .i64 0] 106 :: cel g [Value.int .i64 D.room, Value.map (some dx.r1), Value.map (some dx.r2), Value.slice dx.a dx.vs.length dx.cap, Value.bool (wDead D.dead D.left), Value.int .i64 (wLeft D.dead D.left)] 103 :: mpS dx.r1 dx.e1 :: mpS dx.r2 dx.e2 :: own dx.a dx.vs.length dx.cap 108 1 dx.vs :: chsA dx.gs D.ch dx.vs :: filesA dx.gs D.f :: L) w27 := mk_put (gs := dx.gs ++ [g26]) (c := (Chg.mk [] k D.f.length)) (fileF_ne hk) rfl (getD_new ok.g).symm ((St.dup (scel_pers _ _ _) (hS29.permT [7, 7, 0, 0, 0, 0, 0, 0, 0] (L' := scel g11 [Value.pointer (some ⟨g26, 0, none⟩)] 104 :: scel g2 [str k] 9 :: cel g26 [str [], Value.int .i64 0] 106 :: cel g [Value.int .i64 D.room, Value.map (some dx.r1), Value.map (some dx.r2), Value.slice dx.a dx.vs.length dx.cap, Value.bool (wDead D.dead D.left), Value.int .i64 (wLeft D.dead D.left)] 103 :: mpS dx.r1 dx.e1 :: mpS dx.r2 dx.e2 :: own dx.a dx.vs.length dx.cap 108 1 dx.vs :: chsA dx.gs D.ch dx.vs :: filesA dx.gs D.f :: L) rfl)).permT [1, 1, 0] (L' := scel g11 [Value.pointer (some ⟨g26, 0, none⟩)] 104 :: scel g2 [str k] 9 :: scel g11 [Value.pointer (some ⟨g26, 0, none⟩)] 104 :: cel g26 [str [], Value.int .i64 0] 106 :: cel g [Value.int .i64 D.room, Value.map (some dx.r1), Value.map (some dx.r2), Value.slice dx.a dx.vs.length dx.cap, Value.bool (wDead D.dead D.left), Value.int .i64 (wLeft D.dead D.left)] 103 :: mpS dx.r1 dx.e1 :: mpS dx.r2 dx.e2 :: own dx.a dx.vs.length dx.cap 108 1 dx.vs :: chsA dx.gs D.ch dx.vs :: filesA dx.gs D.f :: L) rfl)
       clear hS29
       have hS31 := hS30.permT [0, 3, 2, 3, 0, 0, 0, 0, 0] (L' := chgA (dx.gs ++ [g26]) (Chg.mk [] k D.f.length) (Value.func (.func 62) #[] #[ptrV g11, ptrV g2]) :: mpS dx.r1 dx.e1 :: cel g [Value.int .i64 D.room, Value.map (some dx.r1), Value.map (some dx.r2), Value.slice dx.a dx.vs.length dx.cap, Value.bool (wDead D.dead D.left), Value.int .i64 (wLeft D.dead D.left)] 103 :: own dx.a dx.vs.length dx.cap 108 1 dx.vs :: scel g11 [Value.pointer (some ⟨g26, 0, none⟩)] 104 :: cel g26 [str [], Value.int .i64 0] 106 :: mpS dx.r2 dx.e2 :: chsA dx.gs D.ch dx.vs :: filesA dx.gs D.f :: L) rfl
       clear hS30
       refine WO.call rfl rfl Ty.hd61 rfl (dchange_spec (gs := dx.gs ++ [g26]) (c := (Chg.mk [] k D.f.length)) (cs := [ptrV g11, ptrV g2]) hvs hS31) (fun v33 w32 pv33 => ?_)
       obtain ⟨a2, c2, rfl, hS32⟩ := pv33
       clear hS31
       refine WO.nil ?_
       refine NX.go ?_
       refine WP.seq ?_
       refine WP.region rfl ?_
       refine WO.val (run_load Ty.ag104 rfl ((hS32.scel_at 4 rfl 0).trans rfl)) rfl rfl rfl ?_
       refine WO.val (run_nilCheck rfl) rfl rfl rfl ?_
       refine WO.val (run_fieldAddr (q := ⟨g26, 0, none⟩) (show fieldB Tryd.prog 106 0 = some 0 from by kernel_rfl) rfl rfl) rfl rfl rfl ?_
       refine WO.val (run_load Ty.ag9 rfl ((hS32.cel_at 5 rfl 0).trans rfl)) rfl rfl rfl ?_
       refine WO.val (run_move rfl) rfl rfl rfl ?_
       refine WO.val (run_cat rfl rfl (by first | omega | (simp; omega))) rfl rfl rfl ?_
       refine WO.val (run_nilCheck rfl) rfl rfl rfl ?_
       refine WO.val (run_fieldAddr (q := ⟨g26, 0, none⟩) (show fieldB Tryd.prog 106 0 = some 0 from by kernel_rfl) rfl rfl) rfl rfl rfl ?_
       refine WO.store (l' := [str ([] ++ s), Value.int .i64 0]) 5 hS32 rfl Ty.sz9 rfl rfl rfl rfl rfl (Nat.le_of_ble_eq_true rfl) rfl (fun w34 (hS34 : St B (chgA (dx.gs ++ [g26]) (Chg.mk [] k D.f.length) (Value.func (.func 62) #[] #[ptrV g11, ptrV g2]) :: mpS dx.r1 (applyE (dx.gs ++ [g26]) dx.e1 (Chg.mk [] k D.f.length)) :: cel g [Value.int .i64 D.room, Value.map (some dx.r1), Value.map (some dx.r2), Value.slice a2 ((dx.vs ++ [Value.func (.func 62) #[] #[ptrV g11, ptrV g2]]).length) c2, Value.bool (wDead D.dead D.left), Value.int .i64 (wLeft D.dead D.left)] 103 :: own a2 ((dx.vs ++ [Value.func (.func 62) #[] #[ptrV g11, ptrV g2]]).length) c2 108 1 (dx.vs ++ [Value.func (.func 62) #[] #[ptrV g11, ptrV g2]]) :: scel g11 [Value.pointer (some ⟨g26, 0, none⟩)] 104 :: cel g26 [str ([] ++ s), Value.int .i64 0] 106 :: mpS dx.r2 dx.e2 :: chsA dx.gs D.ch dx.vs :: filesA dx.gs D.f :: L) w34) => ?_)
       clear hS32
       refine WO.nil ?_
       refine NX.go ?_
       refine WP.seq ?_
       refine WP.region rfl ?_
       refine WO.val (run_assign rfl) rfl rfl rfl ?_
       refine WO.nil ?_
       refine NX.go ?_
       refine WP.ret ?_
       have hS35 : St B (chsA (dx.gs ++ [g26]) (D.ch ++ [(Chg.mk [] k D.f.length)]) (dx.vs ++ [Value.func (.func 62) #[] #[ptrV g11, ptrV g2]]) :: mpS dx.r1 (applyE (dx.gs ++ [g26]) dx.e1 (Chg.mk [] k D.f.length)) :: cel g [Value.int .i64 D.room, Value.map (some dx.r1), Value.map (some dx.r2), Value.slice a2 ((dx.vs ++ [Value.func (.func 62) #[] #[ptrV g11, ptrV g2]]).length) c2, Value.bool (wDead D.dead D.left), Value.int .i64 (wLeft D.dead D.left)] 103 :: own a2 ((dx.vs ++ [Value.func (.func 62) #[] #[ptrV g11, ptrV g2]]).length) c2 108 1 (dx.vs ++ [Value.func (.func 62) #[] #[ptrV g11, ptrV g2]]) :: scel g11 [Value.pointer (some ⟨g26, 0, none⟩)] 104 :: cel g26 [str ([] ++ s), Value.int .i64 0] 106 :: mpS dx.r2 dx.e2 :: filesA dx.gs D.f :: L) w34 := by have z := (hS34.permT [7, 0, 0, 0, 0, 0, 0, 0, 0] (L' := chsA dx.gs D.ch dx.vs :: chgA (dx.gs ++ [g26]) (Chg.mk [] k D.f.length) (Value.func (.func 62) #[] #[ptrV g11, ptrV g2]) :: mpS dx.r1 (applyE (dx.gs ++ [g26]) dx.e1 (Chg.mk [] k D.f.length)) :: cel g [Value.int .i64 D.room, Value.map (some dx.r1), Value.map (some dx.r2), Value.slice a2 ((dx.vs ++ [Value.func (.func 62) #[] #[ptrV g11, ptrV g2]]).length) c2, Value.bool (wDead D.dead D.left), Value.int .i64 (wLeft D.dead D.left)] 103 :: own a2 ((dx.vs ++ [Value.func (.func 62) #[] #[ptrV g11, ptrV g2]]).length) c2 108 1 (dx.vs ++ [Value.func (.func 62) #[] #[ptrV g11, ptrV g2]]) :: scel g11 [Value.pointer (some ⟨g26, 0, none⟩)] 104 :: cel g26 [str ([] ++ s), Value.int .i64 0] 106 :: mpS dx.r2 dx.e2 :: filesA dx.gs D.f :: L) rfl); rw [← chsA_grow (g := g26) (by rw [ok.g]; exact hw.ch)] at z; exact chsA_snoc z
       have hS36 : St B (filesA (dx.gs ++ [g26]) (D.f ++ [(s, 0)]) :: chsA (dx.gs ++ [g26]) (D.ch ++ [(Chg.mk [] k D.f.length)]) (dx.vs ++ [Value.func (.func 62) #[] #[ptrV g11, ptrV g2]]) :: mpS dx.r1 (applyE (dx.gs ++ [g26]) dx.e1 (Chg.mk [] k D.f.length)) :: cel g [Value.int .i64 D.room, Value.map (some dx.r1), Value.map (some dx.r2), Value.slice a2 ((dx.vs ++ [Value.func (.func 62) #[] #[ptrV g11, ptrV g2]]).length) c2, Value.bool (wDead D.dead D.left), Value.int .i64 (wLeft D.dead D.left)] 103 :: own a2 ((dx.vs ++ [Value.func (.func 62) #[] #[ptrV g11, ptrV g2]]).length) c2 108 1 (dx.vs ++ [Value.func (.func 62) #[] #[ptrV g11, ptrV g2]]) :: scel g11 [Value.pointer (some ⟨g26, 0, none⟩)] 104 :: mpS dx.r2 dx.e2 :: L) w34 := filesA_snoc (y := (s, 0)) (hS35.permT [7, 5, 0, 0, 0, 0, 0, 0] (L' := filesA dx.gs D.f :: cel g26 [str ([] ++ s), Value.int .i64 0] 106 :: chsA (dx.gs ++ [g26]) (D.ch ++ [(Chg.mk [] k D.f.length)]) (dx.vs ++ [Value.func (.func 62) #[] #[ptrV g11, ptrV g2]]) :: mpS dx.r1 (applyE (dx.gs ++ [g26]) dx.e1 (Chg.mk [] k D.f.length)) :: cel g [Value.int .i64 D.room, Value.map (some dx.r1), Value.map (some dx.r2), Value.slice a2 ((dx.vs ++ [Value.func (.func 62) #[] #[ptrV g11, ptrV g2]]).length) c2, Value.bool (wDead D.dead D.left), Value.int .i64 (wLeft D.dead D.left)] 103 :: own a2 ((dx.vs ++ [Value.func (.func 62) #[] #[ptrV g11, ptrV g2]]).length) c2 108 1 (dx.vs ++ [Value.func (.func 62) #[] #[ptrV g11, ptrV g2]]) :: scel g11 [Value.pointer (some ⟨g26, 0, none⟩)] 104 :: mpS dx.r2 dx.e2 :: L) rfl)
       refine NX.done (l := [.tmp 6]) rfl rfl ?_
       have e : appendD D k s = ({ changeD { D with dead := wDead D.dead D.left, left := wLeft D.dead D.left, f := D.f ++ [([], 0)] } ⟨[], k, D.f.length⟩ with f := D.f ++ [(s, 0)] }, 0) := by unfold appendD; rw [onWrite_eq, if_pos (by simpa using g10)]; show append1 _ k s = _; unfold append1; rw [if_neg (by rw [hk]; decide), if_neg (show ¬ (D.room - ((usedN D.f D.nm : Nat) : Int) < (s.length : Int) ∨ (findN k D.nm = none ∧ D.nm.length = 64)) from fun h => h.elim g32 (fun h => absurd h.2 (by omega))), show findN k (Dk.nm { D with dead := wDead D.dead D.left, left := wLeft D.dead D.left }) = none from hn]
       rw [e]
       exact ⟨rfl, St.dk_shut (D := { changeD { D with dead := wDead D.dead D.left, left := wLeft D.dead D.left, f := D.f ++ [([], 0)] } ⟨[], k, D.f.length⟩ with f := D.f ++ [(s, 0)] }) (append_ok (D1 := { D with dead := wDead D.dead D.left, left := wLeft D.dead D.left }) (gf := g26) (s := s) (a := a2) (cap := c2) (v := Value.func (.func 62) #[] #[ptrV g11, ptrV g2]) ok hw hk rfl rfl rfl rfl) ((hS36.permT [5, 3, 2, 3, 2, 1, 0] (L' := scel g11 [Value.pointer (some ⟨g26, 0, none⟩)] 104 :: cel g [Value.int .i64 D.room, Value.map (some dx.r1), Value.map (some dx.r2), Value.slice a2 ((dx.vs ++ [Value.func (.func 62) #[] #[ptrV g11, ptrV g2]]).length) c2, Value.bool (wDead D.dead D.left), Value.int .i64 (wLeft D.dead D.left)] 103 :: mpS dx.r1 (applyE (dx.gs ++ [g26]) dx.e1 (Chg.mk [] k D.f.length)) :: mpS dx.r2 dx.e2 :: own a2 ((dx.vs ++ [Value.func (.func 62) #[] #[ptrV g11, ptrV g2]]).length) c2 108 1 (dx.vs ++ [Value.func (.func 62) #[] #[ptrV g11, ptrV g2]]) :: chsA (dx.gs ++ [g26]) (D.ch ++ [(Chg.mk [] k D.f.length)]) (dx.vs ++ [Value.func (.func 62) #[] #[ptrV g11, ptrV g2]]) :: filesA (dx.gs ++ [g26]) (D.f ++ [(s, 0)]) :: L) rfl).drop)⟩
     ·
      obtain ⟨i, hi⟩ := findP_some g35
      obtain ⟨q, hq⟩ : ∃ q, q = dx.gs.getD i 0 := ⟨_, rfl⟩
      have hlt := hw.find hi
      have hfl := fileAt_le hb hlt.1
      have hP : findP dx.gs k D.nm = some ⟨q, 0, none⟩ := by unfold findP; rw [hi, hq]; rfl
      rw [hP] at hS20
      refine WD.off (i := 14) dappend_spec_t6 #[true, true, true, true, true, true, true, true, true, true, true, true, true, true, true, false, false, false, false, false, false, false, false] rfl rfl rfl g35 (by kernel_rfl) (PQ.then (PQ.blk (PQ.then PQ.body))) rfl ?_
      refine WD.off (i := 15) dappend_spec_t6 #[true, true, true, true, true, true, true, true, true, true, true, true, true, true, true, true, false, false, false, false, false, false, false] rfl rfl rfl g35 (by kernel_rfl) (PQ.then (PQ.blk (PQ.then PQ.body))) rfl ?_
      refine WD.off (i := 16) dappend_spec_t6 #[true, true, true, true, true, true, true, true, true, true, true, true, true, true, true, true, true, false, false, false, false, false, false] rfl rfl rfl g35 (by kernel_rfl) (PQ.then (PQ.blk (PQ.then PQ.body))) rfl ?_
      refine WD.off (i := 17) dappend_spec_t6 #[true, true, true, true, true, true, true, true, true, true, true, true, true, true, true, true, true, true, false, false, false, false, false] rfl rfl rfl g35 (by kernel_rfl) (PQ.then (PQ.blk (PQ.then PQ.body))) rfl ?_
      refine WD.off (i := 18) dappend_spec_t6 #[true, true, true, true, true, true, true, true, true, true, true, true, true, true, true, true, true, true, true, false, false, false, false] rfl rfl rfl g35 (by kernel_rfl) (PQ.then (PQ.blk (PQ.then PQ.body))) rfl ?_
      refine WD.off (i := 19) dappend_spec_t6 #[true, true, true, true, true, true, true, true, true, true, true, true, true, true, true, true, true, true, true, true, false, false, false] rfl rfl rfl g35 (by kernel_rfl) (PQ.then (PQ.blk (PQ.then PQ.body))) rfl ?_
      refine WD.pureOn (i := 20) dappend_spec_t6 #[true, true, true, true, true, true, true, true, true, true, true, true, true, true, true, true, true, true, true, true, true, false, false] rfl rfl rfl (decide_eq_false g32) (by kernel_rfl) (PQ.then (PQ.blk (PQ.then PQ.body))) rfl (fun w => run_pickF rfl g35 rfl) ?_
      refine WD.pure (i := 21) dappend_spec_t6 #[true, true, true, true, true, true, true, true, true, true, true, true, true, true, true, true, true, true, true, true, true, true, false] rfl rfl rfl (by kernel_rfl) (PQ.then (PQ.blk (PQ.then PQ.body))) rfl (fun w => run_pickF rfl (decide_eq_false g32) rfl) ?_
      refine WD.pure (i := 22) dappend_spec_t6 #[true, true, true, true, true, true, true, true, true, true, true, true, true, true, true, true, true, true, true, true, true, true, true] rfl rfl rfl (by kernel_rfl) (PQ.then (PQ.blk (PQ.then PQ.body))) rfl (fun w => run_assign rfl) ?_
      refine WD.done dappend_spec_t6 (by kernel_rfl) ?_
      refine NX.go ?_
      refine WP.condF rfl rfl ?_
      refine WP.skip ?_
      refine NX.blk ?_
      refine NX.go ?_
      refine WP.seq ?_
      refine WP.seq ?_
      refine WP.region rfl ?_
      refine WO.val (run_load Ty.ag104 rfl ((hS20.cel_at 6 rfl 0).trans rfl)) rfl rfl rfl ?_
      refine WO.val (run_eqlNilP Tryd.underlying104 rfl rfl) rfl rfl rfl ?_
      refine WO.nil ?_
      refine NX.go ?_
      refine WP.condF rfl rfl ?_
      refine WP.skip ?_
      refine NX.go ?_
      refine WP.seq ?_
      have hS37 : St B (cel q [str ((fileAt D.f i).1), Value.int .i64 ((fileAt D.f i).2 : Int)] 106 :: filesBut i dx.gs D.f :: cel g [Value.int .i64 D.room, Value.map (some dx.r1), Value.map (some dx.r2), Value.slice dx.a dx.vs.length dx.cap, Value.bool (wDead D.dead D.left), Value.int .i64 (wLeft D.dead D.left)] 103 :: mpS dx.r1 dx.e1 :: mpS dx.r2 dx.e2 :: own dx.a dx.vs.length dx.cap 108 1 dx.vs :: chsA dx.gs D.ch dx.vs :: cel g11 [Value.pointer (some ⟨q, 0, none⟩)] 104 :: cel g2 [str k] 9 :: L) w20 := by have z := filesA_pick hlt.1 (hS20.permT [5, 0, 0, 0, 0, 0, 0, 0] (L' := filesA dx.gs D.f :: cel g [Value.int .i64 D.room, Value.map (some dx.r1), Value.map (some dx.r2), Value.slice dx.a dx.vs.length dx.cap, Value.bool (wDead D.dead D.left), Value.int .i64 (wLeft D.dead D.left)] 103 :: mpS dx.r1 dx.e1 :: mpS dx.r2 dx.e2 :: own dx.a dx.vs.length dx.cap 108 1 dx.vs :: chsA dx.gs D.ch dx.vs :: cel g11 [Value.pointer (some ⟨q, 0, none⟩)] 104 :: cel g2 [str k] 9 :: L) rfl); rw [← hq] at z; exact z
      clear hS20
      refine WP.region rfl ?_
      refine WO.val (run_load Ty.ag104 rfl ((hS37.cel_at 7 rfl 0).trans rfl)) rfl rfl rfl ?_
      refine WO.val (run_nilCheck rfl) rfl rfl rfl ?_
      refine WO.val (run_fieldAddr (q := ⟨q, 0, none⟩) (show fieldB Tryd.prog 106 0 = some 0 from by kernel_rfl) rfl rfl) rfl rfl rfl ?_
      refine WO.val (run_load Ty.ag9 rfl ((hS37.cel_at 0 rfl 0).trans rfl)) rfl rfl rfl ?_
      refine WO.val (run_move rfl) rfl rfl rfl ?_
      refine WO.val (run_cat rfl rfl (by first | omega | (simp; omega))) rfl rfl rfl ?_
      refine WO.val (run_nilCheck rfl) rfl rfl rfl ?_
      refine WO.val (run_fieldAddr (q := ⟨q, 0, none⟩) (show fieldB Tryd.prog 106 0 = some 0 from by kernel_rfl) rfl rfl) rfl rfl rfl ?_
      refine WO.store (l' := [str (((fileAt D.f i).1) ++ s), Value.int .i64 ((fileAt D.f i).2 : Int)]) 0 hS37 rfl Ty.sz9 rfl rfl rfl rfl rfl (Nat.le_of_ble_eq_true rfl) rfl (fun w38 (hS38 : St B (cel q [str (((fileAt D.f i).1) ++ s), Value.int .i64 ((fileAt D.f i).2 : Int)] 106 :: filesBut i dx.gs D.f :: cel g [Value.int .i64 D.room, Value.map (some dx.r1), Value.map (some dx.r2), Value.slice dx.a dx.vs.length dx.cap, Value.bool (wDead D.dead D.left), Value.int .i64 (wLeft D.dead D.left)] 103 :: mpS dx.r1 dx.e1 :: mpS dx.r2 dx.e2 :: own dx.a dx.vs.length dx.cap 108 1 dx.vs :: chsA dx.gs D.ch dx.vs :: cel g11 [Value.pointer (some ⟨q, 0, none⟩)] 104 :: cel g2 [str k] 9 :: L) w38) => ?_)
      clear hS37
      refine WO.nil ?_
      refine NX.go ?_
      refine WP.seq ?_
      refine WP.region rfl ?_
      refine WO.val (run_assign rfl) rfl rfl rfl ?_
      refine WO.nil ?_
      refine NX.go ?_
      refine WP.ret ?_
      have hS39 : St B (filesA dx.gs (D.f.set i ((fileAt D.f i).1 ++ s, (fileAt D.f i).2)) :: cel g [Value.int .i64 D.room, Value.map (some dx.r1), Value.map (some dx.r2), Value.slice dx.a dx.vs.length dx.cap, Value.bool (wDead D.dead D.left), Value.int .i64 (wLeft D.dead D.left)] 103 :: mpS dx.r1 dx.e1 :: mpS dx.r2 dx.e2 :: own dx.a dx.vs.length dx.cap 108 1 dx.vs :: chsA dx.gs D.ch dx.vs :: cel g11 [Value.pointer (some ⟨q, 0, none⟩)] 104 :: cel g2 [str k] 9 :: L) w38 := filesA_back (y := ((fileAt D.f i).1 ++ s, (fileAt D.f i).2)) (by rw [← hq]; first | exact hS38 | (unfold cutF; rw [← hkq]; exact hS38))
      refine NX.done (l := [.tmp 6]) rfl rfl ?_
      have e : appendD D k s = ({ D with dead := wDead D.dead D.left, left := wLeft D.dead D.left, f := addTo D.f i s }, 0) := by unfold appendD; rw [onWrite_eq, if_pos (by simpa using g10)]; show append1 _ k s = _; unfold append1; rw [if_neg (by rw [hk]; decide), if_neg (show ¬ (D.room - ((usedN D.f D.nm : Nat) : Int) < (s.length : Int) ∨ (findN k D.nm = none ∧ D.nm.length = 64)) from fun h => h.elim g32 (fun h => (by rw [hi] at h; cases h.1))), show findN k (Dk.nm { D with dead := wDead D.dead D.left, left := wLeft D.dead D.left }) = some i from hi]
      rw [e]
      exact ⟨rfl, St.dk_shut (D := { D with dead := wDead D.dead D.left, left := wLeft D.dead D.left, f := addTo D.f i s }) ⟨by show dx.gs.length = (D.f.set i _).length; rw [List.length_set]; exact ok.g, ok.p1, ok.p2, ok.v⟩ ((hS39.permT [6, 6, 1, 1, 1, 1, 1, 0] (L' := cel g11 [Value.pointer (some ⟨q, 0, none⟩)] 104 :: cel g2 [str k] 9 :: cel g [Value.int .i64 D.room, Value.map (some dx.r1), Value.map (some dx.r2), Value.slice dx.a dx.vs.length dx.cap, Value.bool (wDead D.dead D.left), Value.int .i64 (wLeft D.dead D.left)] 103 :: mpS dx.r1 dx.e1 :: mpS dx.r2 dx.e2 :: own dx.a dx.vs.length dx.cap 108 1 dx.vs :: chsA dx.gs D.ch dx.vs :: filesA dx.gs (D.f.set i ((fileAt D.f i).1 ++ s, (fileAt D.f i).2)) :: L) rfl).drop.drop)⟩
  ·
   refine WO.alloc (l := [Value.pointer none]) hS6 Ty.zr104 rfl rfl (fun g41 w40 lg41 hS40 => ?_)
   clear hS6
   refine WO.nil ?_
   have s42 : (∀ j, World.cell? w40 ⟨g, j, none⟩ = [Value.int .i64 D.room, Value.map (some dx.r1), Value.map (some dx.r2), Value.slice dx.a dx.vs.length dx.cap, Value.bool (wDead D.dead D.left), Value.int .i64 (wLeft D.dead D.left)][j]?) ∧ (∀ j, World.cell? w40 ⟨g2, j, none⟩ = [str k][j]?) := ⟨hS40.cel_at 1 rfl, hS40.cel_at 2 rfl⟩
   refine NX.held s42 ?_
   refine WD.one (i := 5) dappend_spec_t3 #[true, true, true, true, true, true, true, false] rfl (by kernel_rfl) ?_
   refine WO.val (run_lookupS 3 hS40 rfl Tryd.underlying100 Tryd.underlying9 Ty.zr104 rfl rfl (look_ok ok hw k)) rfl rfl rfl ?_
   refine WO.nil ?_
   have s43 : (∀ j, World.cell? w40 ⟨g, j, none⟩ = [Value.int .i64 D.room, Value.map (some dx.r1), Value.map (some dx.r2), Value.slice dx.a dx.vs.length dx.cap, Value.bool (wDead D.dead D.left), Value.int .i64 (wLeft D.dead D.left)][j]?) ∧ (∀ j, World.cell? w40 ⟨g2, j, none⟩ = [str k][j]?) := ⟨hS40.cel_at 1 rfl, hS40.cel_at 2 rfl⟩
   refine NX.held s43 ?_
   refine WD.one (i := 7) dappend_spec_t3 #[true, true, true, true, true, true, true, true] rfl (by kernel_rfl) ?_
   refine WO.store (l' := [Value.pointer (findP dx.gs k D.nm)]) 0 hS40 rfl Ty.sz104 rfl rfl rfl rfl rfl (Nat.le_of_ble_eq_true rfl) rfl (fun w44 (hS44 : St B (cel g41 [Value.pointer (findP dx.gs k D.nm)] 104 :: cel g [Value.int .i64 D.room, Value.map (some dx.r1), Value.map (some dx.r2), Value.slice dx.a dx.vs.length dx.cap, Value.bool (wDead D.dead D.left), Value.int .i64 (wLeft D.dead D.left)] 103 :: cel g2 [str k] 9 :: mpS dx.r1 dx.e1 :: mpS dx.r2 dx.e2 :: own dx.a dx.vs.length dx.cap 108 1 dx.vs :: chsA dx.gs D.ch dx.vs :: filesA dx.gs D.f :: L) w44) => ?_)
   clear hS40
   refine WO.nil ?_
   have s45 : (∀ j, World.cell? w44 ⟨g, j, none⟩ = [Value.int .i64 D.room, Value.map (some dx.r1), Value.map (some dx.r2), Value.slice dx.a dx.vs.length dx.cap, Value.bool (wDead D.dead D.left), Value.int .i64 (wLeft D.dead D.left)][j]?) ∧ (∀ j, World.cell? w44 ⟨g2, j, none⟩ = [str k][j]?) := ⟨hS44.cel_at 1 rfl, hS44.cel_at 2 rfl⟩
   refine NX.held s45 ?_
   refine WD.done dappend_spec_t3 (by kernel_rfl) ?_
   refine NX.go ?_
   refine WP.seq ?_
   refine WP.block ?_
   refine WP.seq ?_
   refine WP.region rfl ?_
   refine WO.val (run_load Ty.ag9 rfl ((hS44.cel_at 2 rfl 0).trans rfl)) rfl rfl rfl ?_
   refine WO.call rfl rfl Ty.hd60 rfl (dright_spec k (by omega) hS44) (fun v47 w46 pv47 => ?_)
   obtain ⟨rfl, hS46⟩ := pv47
   clear hS44
   refine WO.val (run_not rfl rfl) rfl rfl rfl ?_
   refine WO.val (run_assign rfl) rfl rfl rfl ?_
   refine WO.nil ?_
   refine NX.go ?_
   refine WP.condB rfl (fun g17 => ?_) (fun g17 => ?_)
   ·
    refine WP.seq ?_
    refine WP.region rfl ?_
    refine WO.val (run_assign rfl) rfl rfl rfl ?_
    refine WO.nil ?_
    refine NX.go ?_
    refine WP.ret ?_
    refine NX.blkRet ?_
    refine NX.thenRet ?_
    refine NX.done (l := [.tmp 6]) rfl rfl ?_
    have e : appendD D k s = ({ D with dead := wDead D.dead D.left, left := wLeft D.dead D.left }, 3) := by unfold appendD; rw [onWrite_eq, if_pos (by simpa using g10)]; show append1 _ k s = _; unfold append1; rw [if_pos (by simpa using g17)]
    rw [e]
    exact ⟨rfl, St.dk_shut (D := { D with dead := wDead D.dead D.left, left := wLeft D.dead D.left }) ⟨ok.g, ok.p1, ok.p2, ok.v⟩ ((hS46.permT [0, 1, 0, 0, 0, 0, 0, 0] (L' := cel g41 [Value.pointer (findP dx.gs k D.nm)] 104 :: cel g2 [str k] 9 :: cel g [Value.int .i64 D.room, Value.map (some dx.r1), Value.map (some dx.r2), Value.slice dx.a dx.vs.length dx.cap, Value.bool (wDead D.dead D.left), Value.int .i64 (wLeft D.dead D.left)] 103 :: mpS dx.r1 dx.e1 :: mpS dx.r2 dx.e2 :: own dx.a dx.vs.length dx.cap 108 1 dx.vs :: chsA dx.gs D.ch dx.vs :: filesA dx.gs D.f :: L) rfl).drop.drop)⟩
   ·
    have hk : fileF k = true := by simpa using g17
    refine WP.seq ?_
    refine WD.start (fun w => (∀ j, World.cell? w ⟨g, j, none⟩ = [Value.int .i64 D.room, Value.map (some dx.r1), Value.map (some dx.r2), Value.slice dx.a dx.vs.length dx.cap, Value.bool (wDead D.dead D.left), Value.int .i64 (wLeft D.dead D.left)][j]?)) [] #[false, false, false, false, false, false, false, false, false, false, false, false, false, false, false, false, false, false, false, false, false, false, false] Ty.mo rfl (by kernel_rfl) hS46 (fun _ h => h.cel_at 1 rfl) (fun w48 hS48 s49 => ?_)
    clear hS46
    refine WD.pure (i := 0) dappend_spec_t6 #[true, false, false, false, false, false, false, false, false, false, false, false, false, false, false, false, false, false, false, false, false, false, false] rfl rfl rfl (by kernel_rfl) (PQ.then (PQ.blk (PQ.then PQ.body))) rfl (fun w => run_move rfl) ?_
    refine WD.pure (i := 1) dappend_spec_t6 #[true, true, false, false, false, false, false, false, false, false, false, false, false, false, false, false, false, false, false, false, false, false, false] rfl rfl rfl (by kernel_rfl) (PQ.then (PQ.blk (PQ.then PQ.body))) rfl (fun w => run_lenS rfl Tryd.underlying9 rfl) ?_
    refine WD.pure (i := 2) dappend_spec_t6 #[true, true, true, false, false, false, false, false, false, false, false, false, false, false, false, false, false, false, false, false, false, false, false] rfl rfl rfl (by kernel_rfl) (PQ.then (PQ.blk (PQ.then PQ.body))) rfl (fun w => run_move rfl) ?_
    refine WD.pure (i := 3) dappend_spec_t6 #[true, true, true, true, false, false, false, false, false, false, false, false, false, false, false, false, false, false, false, false, false, false, false] rfl rfl rfl (by kernel_rfl) (PQ.then (PQ.blk (PQ.then PQ.body))) rfl (fun w => run_nilCheck rfl) ?_
    refine WD.pure (i := 4) dappend_spec_t6 #[true, true, true, true, true, false, false, false, false, false, false, false, false, false, false, false, false, false, false, false, false, false, false] rfl rfl rfl (by kernel_rfl) (PQ.then (PQ.blk (PQ.then PQ.body))) rfl (fun w => run_fieldAddr (q := ⟨g, 0, none⟩) (show fieldB Tryd.prog 103 0 = some 0 from by kernel_rfl) rfl rfl) ?_
    refine WD.take (i := 5) dappend_spec_t6 #[true, true, true, true, true, true, false, false, false, false, false, false, false, false, false, false, false, false, false, false, false, false, false] s49 rfl rfl rfl (by kernel_rfl) (PQ.then (PQ.blk (PQ.then PQ.body))) rfl (fun w hs => run_load Ty.ag3 rfl ((hs 0).trans rfl)) ?_
    refine WD.pure (i := 6) dappend_spec_t6 #[true, true, true, true, true, true, true, false, false, false, false, false, false, false, false, false, false, false, false, false, false, false, false] rfl rfl rfl (by kernel_rfl) (PQ.then (PQ.blk (PQ.then PQ.body))) rfl (fun w => run_move rfl) ?_
    refine WD.one (i := 7) dappend_spec_t6 #[true, true, true, true, true, true, true, true, false, false, false, false, false, false, false, false, false, false, false, false, false, false, false] rfl (by kernel_rfl) ?_
    have hS50 := hS48.permT [1, 2, 2, 2, 2, 2, 0, 0] (L' := cel g [Value.int .i64 D.room, Value.map (some dx.r1), Value.map (some dx.r2), Value.slice dx.a dx.vs.length dx.cap, Value.bool (wDead D.dead D.left), Value.int .i64 (wLeft D.dead D.left)] 103 :: mpS dx.r1 dx.e1 :: mpS dx.r2 dx.e2 :: own dx.a dx.vs.length dx.cap 108 1 dx.vs :: chsA dx.gs D.ch dx.vs :: filesA dx.gs D.f :: cel g41 [Value.pointer (findP dx.gs k D.nm)] 104 :: cel g2 [str k] 9 :: L) rfl
    clear hS48
    refine WO.call rfl rfl Ty.hd27 rfl (dused_open (D := { D with dead := wDead D.dead D.left, left := wLeft D.dead D.left }) (dx := dx) ⟨ok.g, ok.p1, ok.p2, ok.v⟩ hw.w ⟨hb.ch, hb.f, hb.t⟩ ht hS50) (fun v52 w51 pv52 => ?_)
    obtain ⟨rfl, hS51⟩ := pv52
    clear hS50
    refine WO.nil ?_
    have s53 : (∀ j, World.cell? w51 ⟨g, j, none⟩ = [Value.int .i64 D.room, Value.map (some dx.r1), Value.map (some dx.r2), Value.slice dx.a dx.vs.length dx.cap, Value.bool (wDead D.dead D.left), Value.int .i64 (wLeft D.dead D.left)][j]?) := hS51.cel_at 0 rfl
    refine NX.held s53 ?_
    refine WD.pure (i := 8) dappend_spec_t6 #[true, true, true, true, true, true, true, true, true, false, false, false, false, false, false, false, false, false, false, false, false, false, false] rfl rfl rfl (by kernel_rfl) (PQ.then (PQ.blk (PQ.then PQ.body))) rfl (fun w => run_sub rfl rfl (IntWalk.i64_in _ (by omega))) ?_
    refine WD.pure (i := 9) dappend_spec_t6 #[true, true, true, true, true, true, true, true, true, true, false, false, false, false, false, false, false, false, false, false, false, false, false] rfl rfl rfl (by kernel_rfl) (PQ.then (PQ.blk (PQ.then PQ.body))) rfl (fun w => run_gtr rfl rfl) ?_
    refine WD.pure (i := 10) dappend_spec_t6 #[true, true, true, true, true, true, true, true, true, true, true, false, false, false, false, false, false, false, false, false, false, false, false] rfl rfl rfl (by kernel_rfl) (PQ.then (PQ.blk (PQ.then PQ.body))) rfl (fun w => run_move rfl) ?_
    by_cases g32 : (D.room - ((usedN D.f D.nm : Nat) : Int)) < (s.length : Int)
    ·
     refine WD.off (i := 11) dappend_spec_t6 #[true, true, true, true, true, true, true, true, true, true, true, true, false, false, false, false, false, false, false, false, false, false, false] rfl rfl rfl (decide_eq_true g32) (by kernel_rfl) (PQ.then (PQ.blk (PQ.then PQ.body))) rfl ?_
     refine WD.off (i := 12) dappend_spec_t6 #[true, true, true, true, true, true, true, true, true, true, true, true, true, false, false, false, false, false, false, false, false, false, false] rfl rfl rfl (decide_eq_true g32) (by kernel_rfl) (PQ.then (PQ.blk (PQ.then PQ.body))) rfl ?_
     refine WD.off (i := 13) dappend_spec_t6 #[true, true, true, true, true, true, true, true, true, true, true, true, true, true, false, false, false, false, false, false, false, false, false] rfl rfl rfl (decide_eq_true g32) (by kernel_rfl) (PQ.then (PQ.blk (PQ.then PQ.body))) rfl ?_
     refine WD.offU (i := 14) dappend_spec_t6 #[true, true, true, true, true, true, true, true, true, true, true, true, true, true, true, false, false, false, false, false, false, false, false] rfl rfl rfl (by kernel_rfl) (PQ.then (PQ.blk (PQ.then PQ.body))) rfl ?_
     refine WD.offU (i := 15) dappend_spec_t6 #[true, true, true, true, true, true, true, true, true, true, true, true, true, true, true, true, false, false, false, false, false, false, false] rfl rfl rfl (by kernel_rfl) (PQ.then (PQ.blk (PQ.then PQ.body))) rfl ?_
     refine WD.offU (i := 16) dappend_spec_t6 #[true, true, true, true, true, true, true, true, true, true, true, true, true, true, true, true, true, false, false, false, false, false, false] rfl rfl rfl (by kernel_rfl) (PQ.then (PQ.blk (PQ.then PQ.body))) rfl ?_
     refine WD.offU (i := 17) dappend_spec_t6 #[true, true, true, true, true, true, true, true, true, true, true, true, true, true, true, true, true, true, false, false, false, false, false] rfl rfl rfl (by kernel_rfl) (PQ.then (PQ.blk (PQ.then PQ.body))) rfl ?_
     refine WD.offU (i := 18) dappend_spec_t6 #[true, true, true, true, true, true, true, true, true, true, true, true, true, true, true, true, true, true, true, false, false, false, false] rfl rfl rfl (by kernel_rfl) (PQ.then (PQ.blk (PQ.then PQ.body))) rfl ?_
     refine WD.offU (i := 19) dappend_spec_t6 #[true, true, true, true, true, true, true, true, true, true, true, true, true, true, true, true, true, true, true, true, false, false, false] rfl rfl rfl (by kernel_rfl) (PQ.then (PQ.blk (PQ.then PQ.body))) rfl ?_
     refine WD.off (i := 20) dappend_spec_t6 #[true, true, true, true, true, true, true, true, true, true, true, true, true, true, true, true, true, true, true, true, true, false, false] rfl rfl rfl (decide_eq_true g32) (by kernel_rfl) (PQ.then (PQ.blk (PQ.then PQ.body))) rfl ?_
     refine WD.pure (i := 21) dappend_spec_t6 #[true, true, true, true, true, true, true, true, true, true, true, true, true, true, true, true, true, true, true, true, true, true, false] rfl rfl rfl (by kernel_rfl) (PQ.then (PQ.blk (PQ.then PQ.body))) rfl (fun w => run_pickT rfl (decide_eq_true g32) rfl) ?_
     refine WD.pure (i := 22) dappend_spec_t6 #[true, true, true, true, true, true, true, true, true, true, true, true, true, true, true, true, true, true, true, true, true, true, true] rfl rfl rfl (by kernel_rfl) (PQ.then (PQ.blk (PQ.then PQ.body))) rfl (fun w => run_assign rfl) ?_
     refine WD.done dappend_spec_t6 (by kernel_rfl) ?_
     refine NX.go ?_
     refine WP.condT rfl rfl ?_
     refine WP.seq ?_
     refine WP.region rfl ?_
     refine WO.val (run_assign rfl) rfl rfl rfl ?_
     refine WO.nil ?_
     refine NX.go ?_
     refine WP.ret ?_
     refine NX.blkRet ?_
     refine NX.thenRet ?_
     refine NX.done (l := [.tmp 6]) rfl rfl ?_
     have e : appendD D k s = ({ D with dead := wDead D.dead D.left, left := wLeft D.dead D.left }, 4) := by unfold appendD; rw [onWrite_eq, if_pos (by simpa using g10)]; show append1 _ k s = _; unfold append1; rw [if_neg (by rw [hk]; decide), if_pos (show D.room - ((usedN D.f D.nm : Nat) : Int) < (s.length : Int) ∨ (findN k D.nm = none ∧ D.nm.length = 64) from .inl g32)]
     rw [e]
     exact ⟨rfl, St.dk_shut (D := { D with dead := wDead D.dead D.left, left := wLeft D.dead D.left }) ⟨ok.g, ok.p1, ok.p2, ok.v⟩ ((hS51.permT [6, 6, 0, 0, 0, 0, 0, 0] (L' := cel g41 [Value.pointer (findP dx.gs k D.nm)] 104 :: cel g2 [str k] 9 :: cel g [Value.int .i64 D.room, Value.map (some dx.r1), Value.map (some dx.r2), Value.slice dx.a dx.vs.length dx.cap, Value.bool (wDead D.dead D.left), Value.int .i64 (wLeft D.dead D.left)] 103 :: mpS dx.r1 dx.e1 :: mpS dx.r2 dx.e2 :: own dx.a dx.vs.length dx.cap 108 1 dx.vs :: chsA dx.gs D.ch dx.vs :: filesA dx.gs D.f :: L) rfl).drop.drop)⟩
    ·
     refine WD.one (i := 11) dappend_spec_t6 #[true, true, true, true, true, true, true, true, true, true, true, true, false, false, false, false, false, false, false, false, false, false, false] rfl (by kernel_rfl) ?_
     refine WO.on rfl rfl (decide_eq_false g32) ?_
     refine WO.val (run_load Ty.ag104 rfl ((hS51.cel_at 6 rfl 0).trans rfl)) rfl rfl rfl ?_
     refine WO.nil ?_
     have s54 : (∀ j, World.cell? w51 ⟨g, j, none⟩ = [Value.int .i64 D.room, Value.map (some dx.r1), Value.map (some dx.r2), Value.slice dx.a dx.vs.length dx.cap, Value.bool (wDead D.dead D.left), Value.int .i64 (wLeft D.dead D.left)][j]?) := hS51.cel_at 0 rfl
     refine NX.held s54 ?_
     refine WD.pureOn (i := 12) dappend_spec_t6 #[true, true, true, true, true, true, true, true, true, true, true, true, true, false, false, false, false, false, false, false, false, false, false] rfl rfl rfl (decide_eq_false g32) (by kernel_rfl) (PQ.then (PQ.blk (PQ.then PQ.body))) rfl (fun w => run_eqlNilP Tryd.underlying104 rfl rfl) ?_
     refine WD.pureOn (i := 13) dappend_spec_t6 #[true, true, true, true, true, true, true, true, true, true, true, true, true, true, false, false, false, false, false, false, false, false, false] rfl rfl rfl (decide_eq_false g32) (by kernel_rfl) (PQ.then (PQ.blk (PQ.then PQ.body))) rfl (fun w => run_move rfl) ?_
     rcases Bool.eq_false_or_eq_true ((findP dx.gs k D.nm).isNone) with g35 | g35
     ·
      have hn := findP_none g35
      have hP : findP dx.gs k D.nm = none := by unfold findP; rw [hn]; rfl
      rw [hP] at hS51
      refine WD.pureOn (i := 14) dappend_spec_t6 #[true, true, true, true, true, true, true, true, true, true, true, true, true, true, true, false, false, false, false, false, false, false, false] rfl rfl rfl g35 (by kernel_rfl) (PQ.then (PQ.blk (PQ.then PQ.body))) rfl (fun w => run_move rfl) ?_
      refine WD.pureOn (i := 15) dappend_spec_t6 #[true, true, true, true, true, true, true, true, true, true, true, true, true, true, true, true, false, false, false, false, false, false, false] rfl rfl rfl g35 (by kernel_rfl) (PQ.then (PQ.blk (PQ.then PQ.body))) rfl (fun w => run_nilCheck rfl) ?_
      refine WD.pureOn (i := 16) dappend_spec_t6 #[true, true, true, true, true, true, true, true, true, true, true, true, true, true, true, true, true, false, false, false, false, false, false] rfl rfl rfl g35 (by kernel_rfl) (PQ.then (PQ.blk (PQ.then PQ.body))) rfl (fun w => run_fieldAddr (q := ⟨g, 1, none⟩) (show fieldB Tryd.prog 103 1 = some 1 from by kernel_rfl) rfl rfl) ?_
      refine WD.takeOn (i := 17) dappend_spec_t6 #[true, true, true, true, true, true, true, true, true, true, true, true, true, true, true, true, true, true, false, false, false, false, false] s54 rfl rfl rfl g35 (by kernel_rfl) (PQ.then (PQ.blk (PQ.then PQ.body))) rfl (fun w hs => run_load Ty.ag100 rfl ((hs 1).trans rfl)) ?_
      refine WD.one (i := 18) dappend_spec_t6 #[true, true, true, true, true, true, true, true, true, true, true, true, true, true, true, true, true, true, true, false, false, false, false] rfl (by kernel_rfl) ?_
      refine WO.on rfl rfl g35 ?_
      refine WO.val (run_lenMapS 1 hS51 rfl rfl Tryd.underlying100 rfl) rfl rfl rfl ?_
      refine WO.nil ?_
      have s55 : (∀ j, World.cell? w51 ⟨g, j, none⟩ = [Value.int .i64 D.room, Value.map (some dx.r1), Value.map (some dx.r2), Value.slice dx.a dx.vs.length dx.cap, Value.bool (wDead D.dead D.left), Value.int .i64 (wLeft D.dead D.left)][j]?) := hS51.cel_at 0 rfl
      refine NX.held s55 ?_
      refine WD.pureOn (i := 19) dappend_spec_t6 #[true, true, true, true, true, true, true, true, true, true, true, true, true, true, true, true, true, true, true, true, false, false, false] rfl rfl rfl g35 (by kernel_rfl) (PQ.then (PQ.blk (PQ.then PQ.body))) rfl (fun w => run_eql rfl rfl) ?_
      refine WD.pureOn (i := 20) dappend_spec_t6 #[true, true, true, true, true, true, true, true, true, true, true, true, true, true, true, true, true, true, true, true, true, false, false] rfl rfl rfl (decide_eq_false g32) (by kernel_rfl) (PQ.then (PQ.blk (PQ.then PQ.body))) rfl (fun w => run_pickT rfl g35 rfl) ?_
      refine WD.pure (i := 21) dappend_spec_t6 #[true, true, true, true, true, true, true, true, true, true, true, true, true, true, true, true, true, true, true, true, true, true, false] rfl rfl rfl (by kernel_rfl) (PQ.then (PQ.blk (PQ.then PQ.body))) rfl (fun w => run_pickF rfl (decide_eq_false g32) rfl) ?_
      refine WD.pure (i := 22) dappend_spec_t6 #[true, true, true, true, true, true, true, true, true, true, true, true, true, true, true, true, true, true, true, true, true, true, true] rfl rfl rfl (by kernel_rfl) (PQ.then (PQ.blk (PQ.then PQ.body))) rfl (fun w => run_assign rfl) ?_
      refine WD.done dappend_spec_t6 (by kernel_rfl) ?_
      refine NX.go ?_
      refine WP.condP rfl (fun g21 => ?_) (fun g21 => ?_)
      ·
       refine WP.seq ?_
       refine WP.region rfl ?_
       refine WO.val (run_assign rfl) rfl rfl rfl ?_
       refine WO.nil ?_
       refine NX.go ?_
       refine WP.ret ?_
       refine NX.blkRet ?_
       refine NX.thenRet ?_
       refine NX.done (l := [.tmp 6]) rfl rfl ?_
       have e : appendD D k s = ({ D with dead := wDead D.dead D.left, left := wLeft D.dead D.left }, 4) := by unfold appendD; rw [onWrite_eq, if_pos (by simpa using g10)]; show append1 _ k s = _; unfold append1; rw [if_neg (by rw [hk]; decide), if_pos (show D.room - ((usedN D.f D.nm : Nat) : Int) < (s.length : Int) ∨ (findN k D.nm = none ∧ D.nm.length = 64) from .inr ⟨hn, by omega⟩)]
       rw [e]
       exact ⟨rfl, St.dk_shut (D := { D with dead := wDead D.dead D.left, left := wLeft D.dead D.left }) ⟨ok.g, ok.p1, ok.p2, ok.v⟩ ((hS51.permT [6, 6, 0, 0, 0, 0, 0, 0] (L' := cel g41 [Value.pointer none] 104 :: cel g2 [str k] 9 :: cel g [Value.int .i64 D.room, Value.map (some dx.r1), Value.map (some dx.r2), Value.slice dx.a dx.vs.length dx.cap, Value.bool (wDead D.dead D.left), Value.int .i64 (wLeft D.dead D.left)] 103 :: mpS dx.r1 dx.e1 :: mpS dx.r2 dx.e2 :: own dx.a dx.vs.length dx.cap 108 1 dx.vs :: chsA dx.gs D.ch dx.vs :: filesA dx.gs D.f :: L) rfl).drop.drop)⟩
      ·
       refine WP.skip ?_
       refine NX.blk ?_
       refine NX.go ?_
       refine WP.seq ?_
       refine WP.seq ?_
       refine WP.region rfl ?_
       refine WO.val (run_load Ty.ag104 rfl ((hS51.cel_at 6 rfl 0).trans rfl)) rfl rfl rfl ?_
       refine WO.val (run_eqlNilP Tryd.underlying104 rfl rfl) rfl rfl rfl ?_
       refine WO.nil ?_
       refine NX.go ?_
       refine WP.condT rfl rfl ?_
       refine WP.seq ?_
       refine WP.region rfl ?_
       refine WO.val (run_build (v := Value.agg #[str [], Value.int .i64 0]) rfl (fun w => by kernel_rfl)) rfl rfl rfl ?_
       refine WO.box (l := [str [], Value.int .i64 0]) hS51 rfl rfl rfl (fun g57 w56 lg57 hS56 => ?_)
       clear hS51
       refine WO.store (l' := [Value.pointer (some ⟨g57, 0, none⟩)]) 7 hS56 rfl Ty.sz104 rfl rfl rfl rfl rfl (Nat.le_of_ble_eq_true rfl) rfl (fun w58 (hS58 : St B (cel g57 [str [], Value.int .i64 0] 106 :: cel g [Value.int .i64 D.room, Value.map (some dx.r1), Value.map (some dx.r2), Value.slice dx.a dx.vs.length dx.cap, Value.bool (wDead D.dead D.left), Value.int .i64 (wLeft D.dead D.left)] 103 :: mpS dx.r1 dx.e1 :: mpS dx.r2 dx.e2 :: own dx.a dx.vs.length dx.cap 108 1 dx.vs :: chsA dx.gs D.ch dx.vs :: filesA dx.gs D.f :: cel g41 [Value.pointer (some ⟨g57, 0, none⟩)] 104 :: cel g2 [str k] 9 :: L) w58) => ?_)
       clear hS56
       refine WO.nil ?_
       refine NX.go ?_
       refine WP.region rfl ?_
       refine WO.val (run_move rfl) rfl rfl rfl ?_
       refine WO.val (run_makeFunc rfl rfl) rfl rfl rfl ?_
       have hS59 : St B (cel g57 [str [], Value.int .i64 0] 106 :: cel g [Value.int .i64 D.room, Value.map (some dx.r1), Value.map (some dx.r2), Value.slice dx.a dx.vs.length dx.cap, Value.bool (wDead D.dead D.left), Value.int .i64 (wLeft D.dead D.left)] 103 :: mpS dx.r1 dx.e1 :: mpS dx.r2 dx.e2 :: own dx.a dx.vs.length dx.cap 108 1 dx.vs :: chsA dx.gs D.ch dx.vs :: filesA dx.gs D.f :: scel g41 [Value.pointer (some ⟨g57, 0, none⟩)] 104 :: cel g2 [str k] 9 :: L) w58 := hS58.cel_seal_i 7 rfl rfl
       clear hS58
       have hS60 : St B (cel g57 [str [], Value.int .i64 0] 106 :: cel g [Value.int .i64 D.room, Value.map (some dx.r1), Value.map (some dx.r2), Value.slice dx.a dx.vs.length dx.cap, Value.bool (wDead D.dead D.left), Value.int .i64 (wLeft D.dead D.left)] 103 :: mpS dx.r1 dx.e1 :: mpS dx.r2 dx.e2 :: own dx.a dx.vs.length dx.cap 108 1 dx.vs :: chsA dx.gs D.ch dx.vs :: filesA dx.gs D.f :: scel g41 [Value.pointer (some ⟨g57, 0, none⟩)] 104 :: scel g2 [str k] 9 :: L) w58 := hS59.cel_seal_i 8 rfl rfl
       clear hS59
       have hS61 : St B (chgA (dx.gs ++ [g57]) (Chg.mk [] k D.f.length) (Value.func (.func 62) #[] #[ptrV g41, ptrV g2]) :: scel g41 [Value.pointer (some ⟨g57, 0, none⟩)] 104 :: cel g57 [str [], Value.int .i64 0] 106 :: cel g [Value.int .i64 D.room, Value.map (some dx.r1), Value.map (some dx.r2), Value.slice dx.a dx.vs.length dx.cap, Value.bool (wDead D.dead D.left), Value.int .i64 (wLeft D.dead D.left)] 103 :: mpS dx.r1 dx.e1 :: mpS dx.r2 dx.e2 :: own dx.a dx.vs.length dx.cap 108 1 dx.vs :: chsA dx.gs D.ch dx.vs :: filesA dx.gs D.f :: L) w58 := mk_put (gs := dx.gs ++ [g57]) (c := (Chg.mk [] k D.f.length)) (fileF_ne hk) rfl (getD_new ok.g).symm ((St.dup (scel_pers _ _ _) (hS60.permT [7, 7, 0, 0, 0, 0, 0, 0, 0] (L' := scel g41 [Value.pointer (some ⟨g57, 0, none⟩)] 104 :: scel g2 [str k] 9 :: cel g57 [str [], Value.int .i64 0] 106 :: cel g [Value.int .i64 D.room, Value.map (some dx.r1), Value.map (some dx.r2), Value.slice dx.a dx.vs.length dx.cap, Value.bool (wDead D.dead D.left), Value.int .i64 (wLeft D.dead D.left)] 103 :: mpS dx.r1 dx.e1 :: mpS dx.r2 dx.e2 :: own dx.a dx.vs.length dx.cap 108 1 dx.vs :: chsA dx.gs D.ch dx.vs :: filesA dx.gs D.f :: L) rfl)).permT [1, 1, 0] (L' := scel g41 [Value.pointer (some ⟨g57, 0, none⟩)] 104 :: scel g2 [str k] 9 :: scel g41 [Value.pointer (some ⟨g57, 0, none⟩)] 104 :: cel g57 [str [], Value.int .i64 0] 106 :: cel g [Value.int .i64 D.room, Value.map (some dx.r1), Value.map (some dx.r2), Value.slice dx.a dx.vs.length dx.cap, Value.bool (wDead D.dead D.left), Value.int .i64 (wLeft D.dead D.left)] 103 :: mpS dx.r1 dx.e1 :: mpS dx.r2 dx.e2 :: own dx.a dx.vs.length dx.cap 108 1 dx.vs :: chsA dx.gs D.ch dx.vs :: filesA dx.gs D.f :: L) rfl)
       clear hS60
       have hS62 := hS61.permT [0, 3, 2, 3, 0, 0, 0, 0, 0] (L' := chgA (dx.gs ++ [g57]) (Chg.mk [] k D.f.length) (Value.func (.func 62) #[] #[ptrV g41, ptrV g2]) :: mpS dx.r1 dx.e1 :: cel g [Value.int .i64 D.room, Value.map (some dx.r1), Value.map (some dx.r2), Value.slice dx.a dx.vs.length dx.cap, Value.bool (wDead D.dead D.left), Value.int .i64 (wLeft D.dead D.left)] 103 :: own dx.a dx.vs.length dx.cap 108 1 dx.vs :: scel g41 [Value.pointer (some ⟨g57, 0, none⟩)] 104 :: cel g57 [str [], Value.int .i64 0] 106 :: mpS dx.r2 dx.e2 :: chsA dx.gs D.ch dx.vs :: filesA dx.gs D.f :: L) rfl
       clear hS61
       refine WO.call rfl rfl Ty.hd61 rfl (dchange_spec (gs := dx.gs ++ [g57]) (c := (Chg.mk [] k D.f.length)) (cs := [ptrV g41, ptrV g2]) hvs hS62) (fun v64 w63 pv64 => ?_)
       obtain ⟨a2, c2, rfl, hS63⟩ := pv64
       clear hS62
       refine WO.nil ?_
       refine NX.go ?_
       refine WP.seq ?_
       refine WP.region rfl ?_
       refine WO.val (run_load Ty.ag104 rfl ((hS63.scel_at 4 rfl 0).trans rfl)) rfl rfl rfl ?_
       refine WO.val (run_nilCheck rfl) rfl rfl rfl ?_
       refine WO.val (run_fieldAddr (q := ⟨g57, 0, none⟩) (show fieldB Tryd.prog 106 0 = some 0 from by kernel_rfl) rfl rfl) rfl rfl rfl ?_
       refine WO.val (run_load Ty.ag9 rfl ((hS63.cel_at 5 rfl 0).trans rfl)) rfl rfl rfl ?_
       refine WO.val (run_move rfl) rfl rfl rfl ?_
       refine WO.val (run_cat rfl rfl (by first | omega | (simp; omega))) rfl rfl rfl ?_
       refine WO.val (run_nilCheck rfl) rfl rfl rfl ?_
       refine WO.val (run_fieldAddr (q := ⟨g57, 0, none⟩) (show fieldB Tryd.prog 106 0 = some 0 from by kernel_rfl) rfl rfl) rfl rfl rfl ?_
       refine WO.store (l' := [str ([] ++ s), Value.int .i64 0]) 5 hS63 rfl Ty.sz9 rfl rfl rfl rfl rfl (Nat.le_of_ble_eq_true rfl) rfl (fun w65 (hS65 : St B (chgA (dx.gs ++ [g57]) (Chg.mk [] k D.f.length) (Value.func (.func 62) #[] #[ptrV g41, ptrV g2]) :: mpS dx.r1 (applyE (dx.gs ++ [g57]) dx.e1 (Chg.mk [] k D.f.length)) :: cel g [Value.int .i64 D.room, Value.map (some dx.r1), Value.map (some dx.r2), Value.slice a2 ((dx.vs ++ [Value.func (.func 62) #[] #[ptrV g41, ptrV g2]]).length) c2, Value.bool (wDead D.dead D.left), Value.int .i64 (wLeft D.dead D.left)] 103 :: own a2 ((dx.vs ++ [Value.func (.func 62) #[] #[ptrV g41, ptrV g2]]).length) c2 108 1 (dx.vs ++ [Value.func (.func 62) #[] #[ptrV g41, ptrV g2]]) :: scel g41 [Value.pointer (some ⟨g57, 0, none⟩)] 104 :: cel g57 [str ([] ++ s), Value.int .i64 0] 106 :: mpS dx.r2 dx.e2 :: chsA dx.gs D.ch dx.vs :: filesA dx.gs D.f :: L) w65) => ?_)
       clear hS63
       refine WO.nil ?_
       refine NX.go ?_
       refine WP.seq ?_
       refine WP.region rfl ?_
       refine WO.val (run_assign rfl) rfl rfl rfl ?_
       refine WO.nil ?_
       refine NX.go ?_
       refine WP.ret ?_
       have hS66 : St B (chsA (dx.gs ++ [g57]) (D.ch ++ [(Chg.mk [] k D.f.length)]) (dx.vs ++ [Value.func (.func 62) #[] #[ptrV g41, ptrV g2]]) :: mpS dx.r1 (applyE (dx.gs ++ [g57]) dx.e1 (Chg.mk [] k D.f.length)) :: cel g [Value.int .i64 D.room, Value.map (some dx.r1), Value.map (some dx.r2), Value.slice a2 ((dx.vs ++ [Value.func (.func 62) #[] #[ptrV g41, ptrV g2]]).length) c2, Value.bool (wDead D.dead D.left), Value.int .i64 (wLeft D.dead D.left)] 103 :: own a2 ((dx.vs ++ [Value.func (.func 62) #[] #[ptrV g41, ptrV g2]]).length) c2 108 1 (dx.vs ++ [Value.func (.func 62) #[] #[ptrV g41, ptrV g2]]) :: scel g41 [Value.pointer (some ⟨g57, 0, none⟩)] 104 :: cel g57 [str ([] ++ s), Value.int .i64 0] 106 :: mpS dx.r2 dx.e2 :: filesA dx.gs D.f :: L) w65 := by have z := (hS65.permT [7, 0, 0, 0, 0, 0, 0, 0, 0] (L' := chsA dx.gs D.ch dx.vs :: chgA (dx.gs ++ [g57]) (Chg.mk [] k D.f.length) (Value.func (.func 62) #[] #[ptrV g41, ptrV g2]) :: mpS dx.r1 (applyE (dx.gs ++ [g57]) dx.e1 (Chg.mk [] k D.f.length)) :: cel g [Value.int .i64 D.room, Value.map (some dx.r1), Value.map (some dx.r2), Value.slice a2 ((dx.vs ++ [Value.func (.func 62) #[] #[ptrV g41, ptrV g2]]).length) c2, Value.bool (wDead D.dead D.left), Value.int .i64 (wLeft D.dead D.left)] 103 :: own a2 ((dx.vs ++ [Value.func (.func 62) #[] #[ptrV g41, ptrV g2]]).length) c2 108 1 (dx.vs ++ [Value.func (.func 62) #[] #[ptrV g41, ptrV g2]]) :: scel g41 [Value.pointer (some ⟨g57, 0, none⟩)] 104 :: cel g57 [str ([] ++ s), Value.int .i64 0] 106 :: mpS dx.r2 dx.e2 :: filesA dx.gs D.f :: L) rfl); rw [← chsA_grow (g := g57) (by rw [ok.g]; exact hw.ch)] at z; exact chsA_snoc z
       have hS67 : St B (filesA (dx.gs ++ [g57]) (D.f ++ [(s, 0)]) :: chsA (dx.gs ++ [g57]) (D.ch ++ [(Chg.mk [] k D.f.length)]) (dx.vs ++ [Value.func (.func 62) #[] #[ptrV g41, ptrV g2]]) :: mpS dx.r1 (applyE (dx.gs ++ [g57]) dx.e1 (Chg.mk [] k D.f.length)) :: cel g [Value.int .i64 D.room, Value.map (some dx.r1), Value.map (some dx.r2), Value.slice a2 ((dx.vs ++ [Value.func (.func 62) #[] #[ptrV g41, ptrV g2]]).length) c2, Value.bool (wDead D.dead D.left), Value.int .i64 (wLeft D.dead D.left)] 103 :: own a2 ((dx.vs ++ [Value.func (.func 62) #[] #[ptrV g41, ptrV g2]]).length) c2 108 1 (dx.vs ++ [Value.func (.func 62) #[] #[ptrV g41, ptrV g2]]) :: scel g41 [Value.pointer (some ⟨g57, 0, none⟩)] 104 :: mpS dx.r2 dx.e2 :: L) w65 := filesA_snoc (y := (s, 0)) (hS66.permT [7, 5, 0, 0, 0, 0, 0, 0] (L' := filesA dx.gs D.f :: cel g57 [str ([] ++ s), Value.int .i64 0] 106 :: chsA (dx.gs ++ [g57]) (D.ch ++ [(Chg.mk [] k D.f.length)]) (dx.vs ++ [Value.func (.func 62) #[] #[ptrV g41, ptrV g2]]) :: mpS dx.r1 (applyE (dx.gs ++ [g57]) dx.e1 (Chg.mk [] k D.f.length)) :: cel g [Value.int .i64 D.room, Value.map (some dx.r1), Value.map (some dx.r2), Value.slice a2 ((dx.vs ++ [Value.func (.func 62) #[] #[ptrV g41, ptrV g2]]).length) c2, Value.bool (wDead D.dead D.left), Value.int .i64 (wLeft D.dead D.left)] 103 :: own a2 ((dx.vs ++ [Value.func (.func 62) #[] #[ptrV g41, ptrV g2]]).length) c2 108 1 (dx.vs ++ [Value.func (.func 62) #[] #[ptrV g41, ptrV g2]]) :: scel g41 [Value.pointer (some ⟨g57, 0, none⟩)] 104 :: mpS dx.r2 dx.e2 :: L) rfl)
       refine NX.done (l := [.tmp 6]) rfl rfl ?_
       have e : appendD D k s = ({ changeD { D with dead := wDead D.dead D.left, left := wLeft D.dead D.left, f := D.f ++ [([], 0)] } ⟨[], k, D.f.length⟩ with f := D.f ++ [(s, 0)] }, 0) := by unfold appendD; rw [onWrite_eq, if_pos (by simpa using g10)]; show append1 _ k s = _; unfold append1; rw [if_neg (by rw [hk]; decide), if_neg (show ¬ (D.room - ((usedN D.f D.nm : Nat) : Int) < (s.length : Int) ∨ (findN k D.nm = none ∧ D.nm.length = 64)) from fun h => h.elim g32 (fun h => absurd h.2 (by omega))), show findN k (Dk.nm { D with dead := wDead D.dead D.left, left := wLeft D.dead D.left }) = none from hn]
       rw [e]
       exact ⟨rfl, St.dk_shut (D := { changeD { D with dead := wDead D.dead D.left, left := wLeft D.dead D.left, f := D.f ++ [([], 0)] } ⟨[], k, D.f.length⟩ with f := D.f ++ [(s, 0)] }) (append_ok (D1 := { D with dead := wDead D.dead D.left, left := wLeft D.dead D.left }) (gf := g57) (s := s) (a := a2) (cap := c2) (v := Value.func (.func 62) #[] #[ptrV g41, ptrV g2]) ok hw hk rfl rfl rfl rfl) ((hS67.permT [5, 3, 2, 3, 2, 1, 0] (L' := scel g41 [Value.pointer (some ⟨g57, 0, none⟩)] 104 :: cel g [Value.int .i64 D.room, Value.map (some dx.r1), Value.map (some dx.r2), Value.slice a2 ((dx.vs ++ [Value.func (.func 62) #[] #[ptrV g41, ptrV g2]]).length) c2, Value.bool (wDead D.dead D.left), Value.int .i64 (wLeft D.dead D.left)] 103 :: mpS dx.r1 (applyE (dx.gs ++ [g57]) dx.e1 (Chg.mk [] k D.f.length)) :: mpS dx.r2 dx.e2 :: own a2 ((dx.vs ++ [Value.func (.func 62) #[] #[ptrV g41, ptrV g2]]).length) c2 108 1 (dx.vs ++ [Value.func (.func 62) #[] #[ptrV g41, ptrV g2]]) :: chsA (dx.gs ++ [g57]) (D.ch ++ [(Chg.mk [] k D.f.length)]) (dx.vs ++ [Value.func (.func 62) #[] #[ptrV g41, ptrV g2]]) :: filesA (dx.gs ++ [g57]) (D.f ++ [(s, 0)]) :: L) rfl).drop)⟩
     ·
      obtain ⟨i, hi⟩ := findP_some g35
      obtain ⟨q, hq⟩ : ∃ q, q = dx.gs.getD i 0 := ⟨_, rfl⟩
      have hlt := hw.find hi
      have hfl := fileAt_le hb hlt.1
      have hP : findP dx.gs k D.nm = some ⟨q, 0, none⟩ := by unfold findP; rw [hi, hq]; rfl
      rw [hP] at hS51
      refine WD.off (i := 14) dappend_spec_t6 #[true, true, true, true, true, true, true, true, true, true, true, true, true, true, true, false, false, false, false, false, false, false, false] rfl rfl rfl g35 (by kernel_rfl) (PQ.then (PQ.blk (PQ.then PQ.body))) rfl ?_
      refine WD.off (i := 15) dappend_spec_t6 #[true, true, true, true, true, true, true, true, true, true, true, true, true, true, true, true, false, false, false, false, false, false, false] rfl rfl rfl g35 (by kernel_rfl) (PQ.then (PQ.blk (PQ.then PQ.body))) rfl ?_
      refine WD.off (i := 16) dappend_spec_t6 #[true, true, true, true, true, true, true, true, true, true, true, true, true, true, true, true, true, false, false, false, false, false, false] rfl rfl rfl g35 (by kernel_rfl) (PQ.then (PQ.blk (PQ.then PQ.body))) rfl ?_
      refine WD.off (i := 17) dappend_spec_t6 #[true, true, true, true, true, true, true, true, true, true, true, true, true, true, true, true, true, true, false, false, false, false, false] rfl rfl rfl g35 (by kernel_rfl) (PQ.then (PQ.blk (PQ.then PQ.body))) rfl ?_
      refine WD.off (i := 18) dappend_spec_t6 #[true, true, true, true, true, true, true, true, true, true, true, true, true, true, true, true, true, true, true, false, false, false, false] rfl rfl rfl g35 (by kernel_rfl) (PQ.then (PQ.blk (PQ.then PQ.body))) rfl ?_
      refine WD.off (i := 19) dappend_spec_t6 #[true, true, true, true, true, true, true, true, true, true, true, true, true, true, true, true, true, true, true, true, false, false, false] rfl rfl rfl g35 (by kernel_rfl) (PQ.then (PQ.blk (PQ.then PQ.body))) rfl ?_
      refine WD.pureOn (i := 20) dappend_spec_t6 #[true, true, true, true, true, true, true, true, true, true, true, true, true, true, true, true, true, true, true, true, true, false, false] rfl rfl rfl (decide_eq_false g32) (by kernel_rfl) (PQ.then (PQ.blk (PQ.then PQ.body))) rfl (fun w => run_pickF rfl g35 rfl) ?_
      refine WD.pure (i := 21) dappend_spec_t6 #[true, true, true, true, true, true, true, true, true, true, true, true, true, true, true, true, true, true, true, true, true, true, false] rfl rfl rfl (by kernel_rfl) (PQ.then (PQ.blk (PQ.then PQ.body))) rfl (fun w => run_pickF rfl (decide_eq_false g32) rfl) ?_
      refine WD.pure (i := 22) dappend_spec_t6 #[true, true, true, true, true, true, true, true, true, true, true, true, true, true, true, true, true, true, true, true, true, true, true] rfl rfl rfl (by kernel_rfl) (PQ.then (PQ.blk (PQ.then PQ.body))) rfl (fun w => run_assign rfl) ?_
      refine WD.done dappend_spec_t6 (by kernel_rfl) ?_
      refine NX.go ?_
      refine WP.condF rfl rfl ?_
      refine WP.skip ?_
      refine NX.blk ?_
      refine NX.go ?_
      refine WP.seq ?_
      refine WP.seq ?_
      refine WP.region rfl ?_
      refine WO.val (run_load Ty.ag104 rfl ((hS51.cel_at 6 rfl 0).trans rfl)) rfl rfl rfl ?_
      refine WO.val (run_eqlNilP Tryd.underlying104 rfl rfl) rfl rfl rfl ?_
      refine WO.nil ?_
      refine NX.go ?_
      refine WP.condF rfl rfl ?_
      refine WP.skip ?_
      refine NX.go ?_
      refine WP.seq ?_
      have hS68 : St B (cel q [str ((fileAt D.f i).1), Value.int .i64 ((fileAt D.f i).2 : Int)] 106 :: filesBut i dx.gs D.f :: cel g [Value.int .i64 D.room, Value.map (some dx.r1), Value.map (some dx.r2), Value.slice dx.a dx.vs.length dx.cap, Value.bool (wDead D.dead D.left), Value.int .i64 (wLeft D.dead D.left)] 103 :: mpS dx.r1 dx.e1 :: mpS dx.r2 dx.e2 :: own dx.a dx.vs.length dx.cap 108 1 dx.vs :: chsA dx.gs D.ch dx.vs :: cel g41 [Value.pointer (some ⟨q, 0, none⟩)] 104 :: cel g2 [str k] 9 :: L) w51 := by have z := filesA_pick hlt.1 (hS51.permT [5, 0, 0, 0, 0, 0, 0, 0] (L' := filesA dx.gs D.f :: cel g [Value.int .i64 D.room, Value.map (some dx.r1), Value.map (some dx.r2), Value.slice dx.a dx.vs.length dx.cap, Value.bool (wDead D.dead D.left), Value.int .i64 (wLeft D.dead D.left)] 103 :: mpS dx.r1 dx.e1 :: mpS dx.r2 dx.e2 :: own dx.a dx.vs.length dx.cap 108 1 dx.vs :: chsA dx.gs D.ch dx.vs :: cel g41 [Value.pointer (some ⟨q, 0, none⟩)] 104 :: cel g2 [str k] 9 :: L) rfl); rw [← hq] at z; exact z
      clear hS51
      refine WP.region rfl ?_
      refine WO.val (run_load Ty.ag104 rfl ((hS68.cel_at 7 rfl 0).trans rfl)) rfl rfl rfl ?_
      refine WO.val (run_nilCheck rfl) rfl rfl rfl ?_
      refine WO.val (run_fieldAddr (q := ⟨q, 0, none⟩) (show fieldB Tryd.prog 106 0 = some 0 from by kernel_rfl) rfl rfl) rfl rfl rfl ?_
      refine WO.val (run_load Ty.ag9 rfl ((hS68.cel_at 0 rfl 0).trans rfl)) rfl rfl rfl ?_
      refine WO.val (run_move rfl) rfl rfl rfl ?_
      refine WO.val (run_cat rfl rfl (by first | omega | (simp; omega))) rfl rfl rfl ?_
      refine WO.val (run_nilCheck rfl) rfl rfl rfl ?_
      refine WO.val (run_fieldAddr (q := ⟨q, 0, none⟩) (show fieldB Tryd.prog 106 0 = some 0 from by kernel_rfl) rfl rfl) rfl rfl rfl ?_
      refine WO.store (l' := [str (((fileAt D.f i).1) ++ s), Value.int .i64 ((fileAt D.f i).2 : Int)]) 0 hS68 rfl Ty.sz9 rfl rfl rfl rfl rfl (Nat.le_of_ble_eq_true rfl) rfl (fun w69 (hS69 : St B (cel q [str (((fileAt D.f i).1) ++ s), Value.int .i64 ((fileAt D.f i).2 : Int)] 106 :: filesBut i dx.gs D.f :: cel g [Value.int .i64 D.room, Value.map (some dx.r1), Value.map (some dx.r2), Value.slice dx.a dx.vs.length dx.cap, Value.bool (wDead D.dead D.left), Value.int .i64 (wLeft D.dead D.left)] 103 :: mpS dx.r1 dx.e1 :: mpS dx.r2 dx.e2 :: own dx.a dx.vs.length dx.cap 108 1 dx.vs :: chsA dx.gs D.ch dx.vs :: cel g41 [Value.pointer (some ⟨q, 0, none⟩)] 104 :: cel g2 [str k] 9 :: L) w69) => ?_)
      clear hS68
      refine WO.nil ?_
      refine NX.go ?_
      refine WP.seq ?_
      refine WP.region rfl ?_
      refine WO.val (run_assign rfl) rfl rfl rfl ?_
      refine WO.nil ?_
      refine NX.go ?_
      refine WP.ret ?_
      have hS70 : St B (filesA dx.gs (D.f.set i ((fileAt D.f i).1 ++ s, (fileAt D.f i).2)) :: cel g [Value.int .i64 D.room, Value.map (some dx.r1), Value.map (some dx.r2), Value.slice dx.a dx.vs.length dx.cap, Value.bool (wDead D.dead D.left), Value.int .i64 (wLeft D.dead D.left)] 103 :: mpS dx.r1 dx.e1 :: mpS dx.r2 dx.e2 :: own dx.a dx.vs.length dx.cap 108 1 dx.vs :: chsA dx.gs D.ch dx.vs :: cel g41 [Value.pointer (some ⟨q, 0, none⟩)] 104 :: cel g2 [str k] 9 :: L) w69 := filesA_back (y := ((fileAt D.f i).1 ++ s, (fileAt D.f i).2)) (by rw [← hq]; first | exact hS69 | (unfold cutF; rw [← hkq]; exact hS69))
      refine NX.done (l := [.tmp 6]) rfl rfl ?_
      have e : appendD D k s = ({ D with dead := wDead D.dead D.left, left := wLeft D.dead D.left, f := addTo D.f i s }, 0) := by unfold appendD; rw [onWrite_eq, if_pos (by simpa using g10)]; show append1 _ k s = _; unfold append1; rw [if_neg (by rw [hk]; decide), if_neg (show ¬ (D.room - ((usedN D.f D.nm : Nat) : Int) < (s.length : Int) ∨ (findN k D.nm = none ∧ D.nm.length = 64)) from fun h => h.elim g32 (fun h => (by rw [hi] at h; cases h.1))), show findN k (Dk.nm { D with dead := wDead D.dead D.left, left := wLeft D.dead D.left }) = some i from hi]
      rw [e]
      exact ⟨rfl, St.dk_shut (D := { D with dead := wDead D.dead D.left, left := wLeft D.dead D.left, f := addTo D.f i s }) ⟨by show dx.gs.length = (D.f.set i _).length; rw [List.length_set]; exact ok.g, ok.p1, ok.p2, ok.v⟩ ((hS70.permT [6, 6, 1, 1, 1, 1, 1, 0] (L' := cel g41 [Value.pointer (some ⟨q, 0, none⟩)] 104 :: cel g2 [str k] 9 :: cel g [Value.int .i64 D.room, Value.map (some dx.r1), Value.map (some dx.r2), Value.slice dx.a dx.vs.length dx.cap, Value.bool (wDead D.dead D.left), Value.int .i64 (wLeft D.dead D.left)] 103 :: mpS dx.r1 dx.e1 :: mpS dx.r2 dx.e2 :: own dx.a dx.vs.length dx.cap 108 1 dx.vs :: chsA dx.gs D.ch dx.vs :: filesA dx.gs (D.f.set i ((fileAt D.f i).1 ++ s, (fileAt D.f i).2)) :: L) rfl).drop.drop)⟩
end Go.Proofs.YtcehlnpbdffdhaaDoor.SL
