/- Matchers: which labels are asked for. -/
import Derived.Test.YtogidmceomlkeaaGreatDoorKm3
namespace Go.Proofs.YtogidmceomlkeaaGreatDoor.SL
open Go.RowKit Go.Proofs.YtogidmceomlkeaaGreatDoor
open Go.Proofs.YtogidmceomlkeaaGreatDoorW.PrintLast (rtab opsOf)
set_option linter.unusedVariables false
set_option linter.unusedSimpArgs false
theorem lcheckm_spec {B w : World} {L : List HP} {X : HP} {a : Option Addr} {cap : Nat} {l : List Mt} (hX : ∀ {L : List HP} {w : World}, St B (X :: L) w → Rd w a l.length 3 (l.flatMap mtc)) (hb : SzM l) (hl : l.length ≤ 4398046511104) (hS : St B (X :: L) w) : Does Tryz.prog 26 [Value.slice a l.length cap] w (fun v w1 => v = .int .i64 (mchk l) ∧ St B (X :: L) w1) := by
 refine enter (n := 21) Tryz.func26 rfl rfl [Value.slice a l.length cap] rfl ?_
 refine WP.seq ?_
 refine WP.region rfl ?_
 refine WO.val (run_assign rfl) rfl rfl rfl ?_
 refine WO.nil ?_
 refine NX.go ?_
 refine WP.seq ?_
 refine WP.seq ?_
 refine WP.region rfl ?_
 refine WO.val (run_move rfl) rfl rfl rfl ?_
 refine WO.val (run_len rfl Tryz.underlying28 rfl) rfl rfl rfl ?_
 refine WO.val (run_gtr rfl rfl) rfl rfl rfl ?_
 refine WO.nil ?_
 refine NX.go ?_
 refine WP.condP rfl (fun g8 => ?_) (fun g8 => ?_)
 ·
  refine WP.seq ?_
  refine WP.region rfl ?_
  refine WO.val (run_assign rfl) rfl rfl rfl ?_
  refine WO.nil ?_
  refine NX.go ?_
  refine WP.ret ?_
  refine NX.thenRet ?_
  refine NX.done (l := [.tmp 2]) rfl rfl ?_
  exact ⟨congrArg (Value.int .i64) (if_pos (by omega)).symm, hS⟩
 ·
  refine WP.skip ?_
  refine NX.go ?_
  refine WP.seq ?_
  refine WP.seq ?_
  refine WP.region rfl ?_
  refine WO.val (run_move rfl) rfl rfl rfl ?_
  refine WO.val (run_len rfl Tryz.underlying28 rfl) rfl rfl rfl ?_
  refine WO.val (run_move rfl) rfl rfl rfl ?_
  refine WO.nil ?_
  refine NX.go ?_
  refine WP.block ?_
  refine WP.loop (α := Nat) (fun x => match x with | i => [(0, Value.slice a l.length cap), (9, Value.slice a l.length cap), (10, Value.int .i64 ((l.length : Nat) : Int)), (11, Value.int .i64 (i : Int))]) (fun x w => match x with | i => (i ≤ l.length ∧ mgo (l.drop i) = mgo l) ∧ St B (X :: L) w) (fun x => match x with | i => l.length - i) 0 ⟨⟨Nat.zero_le _, rfl⟩, hS⟩ (Sub.cons rfl (Sub.cons rfl (Sub.cons rfl (Sub.consE rfl (by first | rfl | first | rfl | (congr 1; omega) | (simp; done) | (simp; omega)) (Sub.nil _))))) ?_
  rintro i w1 ⟨⟨hi, hgo⟩, hS1⟩
  clear hS
  refine WP.seq ?_
  refine WP.region rfl ?_
  refine WO.val (run_lss rfl rfl) rfl rfl rfl ?_
  refine WO.nil ?_
  refine NX.go ?_
  refine WP.seq ?_
  refine WP.condP rfl (fun g12 => ?_) (fun g12 => ?_)
  ·
   refine WP.skip ?_
   refine NX.go ?_
   refine WP.seq ?_
   refine WP.block ?_
   refine WP.seq ?_
   refine WP.region rfl ?_
   obtain ⟨m, hm⟩ : ∃ m, l[i]? = some m := ⟨_, List.getElem?_eq_getElem (by omega)⟩
   refine WO.val (run_indexAddr (q := adr a (i * 3)) Tryz.underlying28 Ty.sz37 rfl rfl (by omega) (by omega) ((hX (hS1.focus 0 rfl)).2.1 (by omega)) rfl) rfl rfl rfl ?_
   refine WO.val (run_loadAgg (vs := [Value.int .i64 m.k, str m.n, str m.v]) Ty.ag37 Ty.sz37 rfl ((hX (hS1.focus 0 rfl)).cells (by rw [flat_len mtc_len]; omega) (flat_part mtc_len hm)).1 ((hX (hS1.focus 0 rfl)).cells (by rw [flat_len mtc_len]; omega) (flat_part mtc_len hm)).2) rfl rfl rfl ?_
   refine WO.alloc (l := [Value.int .i64 0, str [], str []]) hS1 Ty.zr37 rfl rfl (fun g3 w2 lg3 hS2 => ?_)
   clear hS1
   refine WO.store (l' := [Value.int .i64 m.k, str m.n, str m.v]) 0 hS2 rfl Ty.sz37 rfl rfl rfl rfl rfl (Nat.le_of_ble_eq_true rfl) rfl (fun w4 (hS4 : St B (cel g3 [Value.int .i64 m.k, str m.n, str m.v] 37 :: X :: L) w4) => ?_)
   clear hS2
   refine WO.nil ?_
   refine NX.go ?_
   refine WP.seq ?_
   refine WP.region rfl ?_
   refine WO.val (run_loadAgg (vs := [Value.int .i64 m.k, str m.n, str m.v]) Ty.ag37 Ty.sz37 rfl rfl (cell_all (hS4.cel_at 0 rfl) 0 rfl)) rfl rfl rfl ?_
   refine WO.call rfl rfl Ty.hd35 rfl (lright_spec m (by have := hb m (List.mem_of_getElem? hm); omega) hS4) (fun v6 w5 pv6 => ?_)
   obtain ⟨rfl, hS5⟩ := pv6
   clear hS4
   refine WO.val (run_assign rfl) rfl rfl rfl ?_
   refine WO.nil ?_
   refine NX.go ?_
   refine WP.seq ?_
   refine WP.region rfl ?_
   refine WO.val (run_move rfl) rfl rfl rfl ?_
   refine WO.val (run_neq rfl rfl) rfl rfl rfl ?_
   refine WO.nil ?_
   refine NX.go ?_
   refine WP.condP rfl (fun g18 => ?_) (fun g18 => ?_)
   ·
    refine WP.seq ?_
    refine WP.region rfl ?_
    refine WO.val (run_move rfl) rfl rfl rfl ?_
    refine WO.val (run_assign rfl) rfl rfl rfl ?_
    refine WO.nil ?_
    refine NX.go ?_
    refine WP.ret ?_
    refine NX.blkRet ?_
    refine NX.thenRet ?_
    refine NX.thenRet ?_
    refine NX.blkRet ?_
    refine NX.thenRet ?_
    refine NX.done (l := [.tmp 2]) rfl rfl ?_
    refine ⟨congrArg (Value.int .i64) ?_, hS5.drop⟩
    rw [drop_cons hm] at hgo
    rw [mchk, if_neg (by omega), ← hgo, mgo, if_pos (by assumption)]
   ·
    refine WP.skip ?_
    refine NX.blk ?_
    refine NX.go ?_
    refine WP.region rfl ?_
    refine WO.val (run_add rfl rfl (IntWalk.i64_in _ (by omega))) rfl rfl rfl ?_
    refine WO.val (run_move rfl) rfl rfl rfl ?_
    refine WO.nil ?_
    exact NX.again (i + 1) ⟨⟨by omega, by rw [drop_cons hm] at hgo; rw [← hgo, mgo, if_neg (by assumption)]⟩, hS5.drop⟩ (by show l.length - (i + 1) < l.length - i; omega) (Sub.cons rfl (Sub.cons rfl (Sub.cons rfl (Sub.consE rfl (by congr 1) (Sub.nil _)))))
  ·
   refine WP.exit ?_
   refine NX.thenExit ?_
   refine NX.thenExit ?_
   refine NX.blkExit ?_
   refine NX.go ?_
   refine WP.seq ?_
   refine WP.region rfl ?_
   refine WO.val (run_assign rfl) rfl rfl rfl ?_
   refine WO.nil ?_
   refine NX.go ?_
   refine WP.ret ?_
   refine NX.done (l := [.tmp 2]) rfl rfl ?_
   exact ⟨congrArg (Value.int .i64) (by rw [mchk, if_neg (by omega), ← hgo, List.drop_of_length_le (by omega)]; rfl), hS1⟩

theorem hasPre_spec {B w : World} {L : List HP} (s p : List UInt8) (hS : St B L w) : Does Tryz.prog 39 [str s, str p] w (fun v w1 => v = .bool (decide (p.length ≤ s.length ∧ s.take p.length = p)) ∧ St B L w1) := by
  refine (Tryz.strings_HasPrefix (bs s) (bs p) w).mono ?_
  rintro e w' ⟨rfl, rfl⟩
  exact ⟨_, rfl, congrArg Value.bool (pre_iff p s), hS⟩
theorem ask1_spec {B w : World} {L : List HP} {g : Nat} (m : Mt) (s : List UInt8) (hS : St B (cel g (mtc m) 37 :: L) w) : Does Tryz.prog 36 [str s, Value.pointer (some ⟨g, 0, none⟩)] w (fun v w1 => v = .bool (decide (s = m.v)) ∧ St B (cel g (mtc m) 37 :: L) w1) := by
 refine enter (n := 8) Tryz.func36 rfl rfl [str s, Value.pointer (some ⟨g, 0, none⟩)] rfl ?_
 refine WP.seq ?_
 refine WP.region rfl ?_
 refine WO.val (run_assign rfl) rfl rfl rfl ?_
 refine WO.nil ?_
 refine NX.go ?_
 refine WP.seq ?_
 refine WP.region rfl ?_
 refine WO.val (run_move rfl) rfl rfl rfl ?_
 refine WO.val (run_fieldAddr (q := ⟨g, 2, none⟩) (show fieldB Tryz.prog 37 2 = some 2 from by kernel_rfl) rfl rfl) rfl rfl rfl ?_
 refine WO.val (run_load Ty.ag9 rfl ((hS.cel_at 0 rfl 2).trans rfl)) rfl rfl rfl ?_
 refine WO.val (run_eqlS rfl rfl) rfl rfl rfl ?_
 refine WO.val (run_assign rfl) rfl rfl rfl ?_
 refine WO.nil ?_
 refine NX.go ?_
 refine WP.ret ?_
 refine NX.done (l := [.tmp 3]) rfl rfl ?_
 exact ⟨rfl, hS⟩
theorem ask2_spec {B w : World} {L : List HP} {g : Nat} (m : Mt) (s : List UInt8) (hS : St B (cel g (mtc m) 37 :: L) w) : Does Tryz.prog 37 [str s, Value.pointer (some ⟨g, 0, none⟩)] w (fun v w1 => v = .bool (decide (¬ s = m.v)) ∧ St B (cel g (mtc m) 37 :: L) w1) := by
 refine enter (n := 8) Tryz.func37 rfl rfl [str s, Value.pointer (some ⟨g, 0, none⟩)] rfl ?_
 refine WP.seq ?_
 refine WP.region rfl ?_
 refine WO.val (run_assign rfl) rfl rfl rfl ?_
 refine WO.nil ?_
 refine NX.go ?_
 refine WP.seq ?_
 refine WP.region rfl ?_
 refine WO.val (run_move rfl) rfl rfl rfl ?_
 refine WO.val (run_fieldAddr (q := ⟨g, 2, none⟩) (show fieldB Tryz.prog 37 2 = some 2 from by kernel_rfl) rfl rfl) rfl rfl rfl ?_
 refine WO.val (run_load Ty.ag9 rfl ((hS.cel_at 0 rfl 2).trans rfl)) rfl rfl rfl ?_
 refine WO.val (run_neqS rfl rfl) rfl rfl rfl ?_
 refine WO.val (run_assign rfl) rfl rfl rfl ?_
 refine WO.nil ?_
 refine NX.go ?_
 refine WP.ret ?_
 refine NX.done (l := [.tmp 3]) rfl rfl ?_
 exact ⟨rfl, hS⟩
theorem ask3_spec {B w : World} {L : List HP} {g : Nat} (m : Mt) (s : List UInt8) (hS : St B (cel g (mtc m) 37 :: L) w) : Does Tryz.prog 38 [str s, Value.pointer (some ⟨g, 0, none⟩)] w (fun v w1 => v = .bool (decide (m.v.length ≤ s.length ∧ s.take m.v.length = m.v)) ∧ St B (cel g (mtc m) 37 :: L) w1) := by
 refine enter (n := 8) Tryz.func38 rfl rfl [str s, Value.pointer (some ⟨g, 0, none⟩)] rfl ?_
 refine WP.seq ?_
 refine WP.region rfl ?_
 refine WO.val (run_assign rfl) rfl rfl rfl ?_
 refine WO.nil ?_
 refine NX.go ?_
 refine WP.seq ?_
 refine WP.region rfl ?_
 refine WO.val (run_move rfl) rfl rfl rfl ?_
 refine WO.val (run_fieldAddr (q := ⟨g, 2, none⟩) (show fieldB Tryz.prog 37 2 = some 2 from by kernel_rfl) rfl rfl) rfl rfl rfl ?_
 refine WO.val (run_load Ty.ag9 rfl ((hS.cel_at 0 rfl 2).trans rfl)) rfl rfl rfl ?_
 refine WO.call rfl rfl Ty.hd39 rfl (hasPre_spec s m.v hS) (fun v2 w1 pv2 => ?_)
 obtain ⟨rfl, hS1⟩ := pv2
 clear hS
 refine WO.val (run_assign rfl) rfl rfl rfl ?_
 refine WO.nil ?_
 refine NX.go ?_
 refine WP.ret ?_
 refine NX.done (l := [.tmp 3]) rfl rfl ?_
 exact ⟨rfl, hS1⟩
theorem ask4_spec {B w : World} {L : List HP} (s : List UInt8) (hS : St B L w) : Does Tryz.prog 40 [str s] w (fun v w1 => v = .bool (decide (¬ s = [])) ∧ St B L w1) := by
 refine enter (n := 5) Tryz.func40 rfl rfl [str s] rfl ?_
 refine WP.seq ?_
 refine WP.region rfl ?_
 refine WO.val (run_assign rfl) rfl rfl rfl ?_
 refine WO.nil ?_
 refine NX.go ?_
 refine WP.seq ?_
 refine WP.region rfl ?_
 refine WO.val (run_move rfl) rfl rfl rfl ?_
 refine WO.val (run_neqS rfl rfl) rfl rfl rfl ?_
 refine WO.val (run_assign rfl) rfl rfl rfl ?_
 refine WO.nil ?_
 refine NX.go ?_
 refine WP.ret ?_
 refine NX.done (l := [.tmp 2]) rfl rfl ?_
 exact ⟨rfl, hS⟩

/-- What a function value answers. -/
def Asks (B : World) (g : Nat) (m : Mt) (k : Nat) (cs : List Value) : Prop := ∀ (s : List UInt8) {L : List HP} {w : World}, St B ((cel g (mtc m) 37) :: L) w → Does Tryz.prog k ([] ++ [str s] ++ cs) w (fun v w1 => v = .bool (hold m s) ∧ St B ((cel g (mtc m) 37) :: L) w1)
theorem asks_1 {B : World} {g : Nat} {m : Mt} (h : m.k = 1) : Asks B g m 36 [.pointer (some ⟨g, 0, none⟩)] := fun s _ _ hS => (ask1_spec m s hS).mono fun v w1 ⟨e, h1⟩ => ⟨by rw [e]; simp [hold, h], h1⟩
theorem asks_2 {B : World} {g : Nat} {m : Mt} (h : m.k = 2) : Asks B g m 37 [.pointer (some ⟨g, 0, none⟩)] := fun s _ _ hS => (ask2_spec m s hS).mono fun v w1 ⟨e, h1⟩ => ⟨by rw [e]; simp [hold, h], h1⟩
theorem asks_3 {B : World} {g : Nat} {m : Mt} (h : m.k = 3) : Asks B g m 38 [.pointer (some ⟨g, 0, none⟩)] := fun s _ _ hS => (ask3_spec m s hS).mono fun v w1 ⟨e, h1⟩ => ⟨by rw [e]; simp [hold, h], h1⟩
theorem asks_4 {B : World} {g : Nat} {m : Mt} (h1 : ¬ m.k = 1) (h2 : ¬ m.k = 2) (h3 : ¬ m.k = 3) : Asks B g m 40 [] := fun s _ _ hS => (ask4_spec s hS).mono fun v w1 ⟨e, h⟩ => ⟨by rw [e]; simp [hold, h1, h2, h3], h⟩
theorem asks_spec {B w : World} {L : List HP} (m : Mt) (hS : St B L w) : Does Tryz.prog 27 [Value.agg #[Value.int .i64 m.k, str m.n, str m.v]] w (fun v w1 => ∃ k cs g, v = .func (.func k) #[] cs.toArray ∧ Has Tryz.prog k ∧ Asks B g m k cs ∧ St B ((cel g (mtc m) 37) :: L) w1) := by
 refine enter (n := 14) Tryz.func27 rfl rfl [Value.agg #[Value.int .i64 m.k, str m.n, str m.v]] rfl ?_
 refine WP.seq ?_
 refine WP.region rfl ?_
 refine WO.box (l := [Value.int .i64 m.k, str m.n, str m.v]) hS rfl rfl rfl (fun g2 w1 lg2 hS1 => ?_)
 clear hS
 refine WO.val (run_assign rfl) rfl rfl rfl ?_
 refine WO.nil ?_
 refine NX.go ?_
 refine WP.seq ?_
 refine WP.seq ?_
 refine WP.region rfl ?_
 refine WO.val (run_fieldAddr (q := ⟨g2, 0, none⟩) (show fieldB Tryz.prog 37 0 = some 0 from by kernel_rfl) rfl rfl) rfl rfl rfl ?_
 refine WO.val (run_load Ty.ag3 rfl ((hS1.cel_at 0 rfl 0).trans rfl)) rfl rfl rfl ?_
 refine WO.nil ?_
 refine NX.go ?_
 refine WP.block ?_
 refine WP.seq ?_
 refine WP.region rfl ?_
 refine WO.val (run_eql rfl rfl) rfl rfl rfl ?_
 refine WO.val (run_assign rfl) rfl rfl rfl ?_
 refine WO.nil ?_
 refine NX.go ?_
 refine WP.condP rfl (fun g5 => ?_) (fun g5 => ?_)
 ·
  refine WP.seq ?_
  refine WP.region rfl ?_
  refine WO.val (run_makeFunc rfl rfl) rfl rfl rfl ?_
  refine WO.val (run_assign rfl) rfl rfl rfl ?_
  refine WO.nil ?_
  refine NX.go ?_
  refine WP.ret ?_
  refine NX.blkRet ?_
  refine NX.thenRet ?_
  refine NX.done (l := [.tmp 2]) rfl rfl ?_
  exact ⟨36, [.pointer (some ⟨g2, 0, none⟩)], g2, rfl, Ty.hd36, asks_1 g5, hS1⟩
 ·
  refine WP.seq ?_
  refine WP.region rfl ?_
  refine WO.val (run_eql rfl rfl) rfl rfl rfl ?_
  refine WO.val (run_assign rfl) rfl rfl rfl ?_
  refine WO.nil ?_
  refine NX.go ?_
  refine WP.condP rfl (fun g8 => ?_) (fun g8 => ?_)
  ·
   refine WP.seq ?_
   refine WP.region rfl ?_
   refine WO.val (run_makeFunc rfl rfl) rfl rfl rfl ?_
   refine WO.val (run_assign rfl) rfl rfl rfl ?_
   refine WO.nil ?_
   refine NX.go ?_
   refine WP.ret ?_
   refine NX.blkRet ?_
   refine NX.thenRet ?_
   refine NX.done (l := [.tmp 2]) rfl rfl ?_
   exact ⟨37, [.pointer (some ⟨g2, 0, none⟩)], g2, rfl, Ty.hd37, asks_2 g8, hS1⟩
  ·
   refine WP.seq ?_
   refine WP.region rfl ?_
   refine WO.val (run_eql rfl rfl) rfl rfl rfl ?_
   refine WO.val (run_assign rfl) rfl rfl rfl ?_
   refine WO.nil ?_
   refine NX.go ?_
   refine WP.condP rfl (fun g11 => ?_) (fun g11 => ?_)
   ·
    refine WP.seq ?_
    refine WP.region rfl ?_
    refine WO.val (run_makeFunc rfl rfl) rfl rfl rfl ?_
    refine WO.val (run_assign rfl) rfl rfl rfl ?_
    refine WO.nil ?_
    refine NX.go ?_
    refine WP.ret ?_
    refine NX.blkRet ?_
    refine NX.thenRet ?_
    refine NX.done (l := [.tmp 2]) rfl rfl ?_
    exact ⟨38, [.pointer (some ⟨g2, 0, none⟩)], g2, rfl, Ty.hd38, asks_3 g11, hS1⟩
   ·
    refine WP.skip ?_
    refine NX.blk ?_
    refine NX.go ?_
    refine WP.seq ?_
    refine WP.region rfl ?_
    refine WO.val (run_assign rfl) rfl rfl rfl ?_
    refine WO.nil ?_
    refine NX.go ?_
    refine WP.ret ?_
    refine NX.done (l := [.tmp 2]) rfl rfl ?_
    exact ⟨40, [], g2, rfl, Ty.hd40, asks_4 g5 g8 g11, hS1⟩
theorem lis_spec_t6 : rtab .any (opsOf Tryz.f20 6) = (true, [([], []), ([0], [0]), ([], []), ([], []), ([3], [3]), ([2, 4, 1], [2, 4]), ([1, 5, 5], [1, 5]), ([6], [6])]) := by kernel_rfl
theorem lis_spec {B w : World} {L : List HP} {X Y : HP} {a b : Option Addr} {cap cap2 : Nat} {l : List Mt} {ps : List Pr} (hX : ∀ {L : List HP} {w : World}, St B (X :: L) w → Rd w a l.length 3 (l.flatMap mtc)) (hY : ∀ {L : List HP} {w : World}, St B (Y :: L) w → Rd w b ps.length 2 (ps.flatMap prc)) (hb : SzM l) (hl : l.length ≤ 4398046511104) (hl2 : ps.length ≤ 4398046511104) (hS : St B (X :: Y :: L) w) : Does Tryz.prog 20 [Value.slice a l.length cap, Value.slice b ps.length cap2] w (fun v w1 => v = .bool (isF l ps) ∧ St B (X :: Y :: L) w1) := by
 refine enter (n := 25) Tryz.func20 rfl rfl [Value.slice a l.length cap, Value.slice b ps.length cap2] rfl ?_
 refine WP.seq ?_
 refine WP.region rfl ?_
 refine WO.val (run_assign rfl) rfl rfl rfl ?_
 refine WO.nil ?_
 refine NX.go ?_
 refine WP.seq ?_
 refine WP.seq ?_
 refine WP.region rfl ?_
 refine WO.val (run_move rfl) rfl rfl rfl ?_
 refine WO.call rfl rfl Ty.hd26 rfl (lcheckm_spec hX hb hl hS) (fun v2 w1 pv2 => ?_)
 obtain ⟨rfl, hS1⟩ := pv2
 clear hS
 refine WO.val (run_neq rfl rfl) rfl rfl rfl ?_
 refine WO.nil ?_
 refine NX.go ?_
 refine WP.condP rfl (fun g9 => ?_) (fun g9 => ?_)
 ·
  refine WP.seq ?_
  refine WP.region rfl ?_
  refine WO.val (run_assign rfl) rfl rfl rfl ?_
  refine WO.nil ?_
  refine NX.go ?_
  refine WP.ret ?_
  refine NX.thenRet ?_
  refine NX.done (l := [.tmp 4]) rfl rfl ?_
  exact ⟨congrArg Value.bool (by unfold isF; rw [decide_eq_false g9]; rfl), hS1⟩
 ·
  refine WP.skip ?_
  refine NX.go ?_
  refine WP.seq ?_
  refine WP.seq ?_
  refine WP.region rfl ?_
  refine WO.val (run_move rfl) rfl rfl rfl ?_
  refine WO.val (run_len rfl Tryz.underlying28 rfl) rfl rfl rfl ?_
  refine WO.val (run_move rfl) rfl rfl rfl ?_
  refine WO.nil ?_
  refine NX.go ?_
  refine WP.block ?_
  refine WP.loop (α := Nat) (fun x => match x with | i => [(0, Value.slice a l.length cap), (1, Value.slice b ps.length cap2), (10, Value.slice a l.length cap), (11, Value.int .i64 ((l.length : Nat) : Int)), (12, Value.int .i64 (i : Int))]) (fun x w => match x with | i => (i ≤ l.length ∧ ((l.drop i).all fun m => hold m (getV m.n ps)) = isF l ps) ∧ St B (X :: Y :: L) w) (fun x => match x with | i => l.length - i) 0 ⟨⟨Nat.zero_le _, by unfold isF; rw [decide_eq_true (Decidable.of_not_not g9)]; rfl⟩, hS1⟩ (Sub.cons rfl (Sub.cons rfl (Sub.cons rfl (Sub.cons rfl (Sub.consE rfl (by first | rfl | first | rfl | (congr 1; omega) | (simp; done) | (simp; omega)) (Sub.nil _)))))) ?_
  rintro i w3 ⟨⟨hi, hgo⟩, hS3⟩
  clear hS1
  refine WP.seq ?_
  refine WP.region rfl ?_
  refine WO.val (run_lss rfl rfl) rfl rfl rfl ?_
  refine WO.nil ?_
  refine NX.go ?_
  refine WP.seq ?_
  refine WP.condP rfl (fun g13 => ?_) (fun g13 => ?_)
  ·
   refine WP.skip ?_
   refine NX.go ?_
   refine WP.seq ?_
   refine WP.block ?_
   refine WP.seq ?_
   refine WP.region rfl ?_
   obtain ⟨m, hm⟩ : ∃ m, l[i]? = some m := ⟨_, List.getElem?_eq_getElem (by omega)⟩
   refine WO.val (run_indexAddr (q := adr a (i * 3)) Tryz.underlying28 Ty.sz37 rfl rfl (by omega) (by omega) ((hX (hS3.focus 0 rfl)).2.1 (by omega)) rfl) rfl rfl rfl ?_
   refine WO.val (run_loadAgg (vs := [Value.int .i64 m.k, str m.n, str m.v]) Ty.ag37 Ty.sz37 rfl ((hX (hS3.focus 0 rfl)).cells (by rw [flat_len mtc_len]; omega) (flat_part mtc_len hm)).1 ((hX (hS3.focus 0 rfl)).cells (by rw [flat_len mtc_len]; omega) (flat_part mtc_len hm)).2) rfl rfl rfl ?_
   refine WO.alloc (l := [Value.int .i64 0, str [], str []]) hS3 Ty.zr37 rfl rfl (fun g5 w4 lg5 hS4 => ?_)
   clear hS3
   refine WO.store (l' := [Value.int .i64 m.k, str m.n, str m.v]) 0 hS4 rfl Ty.sz37 rfl rfl rfl rfl rfl (Nat.le_of_ble_eq_true rfl) rfl (fun w6 (hS6 : St B (cel g5 [Value.int .i64 m.k, str m.n, str m.v] 37 :: X :: Y :: L) w6) => ?_)
   clear hS4
   refine WO.nil ?_
   refine NX.go ?_
   refine WP.seq ?_
   refine WD.start (fun w => (∀ j, World.cell? w ⟨g5, j, none⟩ = [Value.int .i64 m.k, str m.n, str m.v][j]?) ∧ Rd w a l.length 3 (l.flatMap mtc) ∧ Rd w b ps.length 2 (ps.flatMap prc)) [] #[false, false, false, false, false, false, false, false] Ty.mo rfl (by kernel_rfl) hS6 (fun _ h => ⟨h.cel_at 0 rfl, (hX (h.focus 1 rfl)), (hY (h.focus 2 rfl))⟩) (fun w7 hS7 s8 => ?_)
   clear hS6
   refine WD.take (i := 0) lis_spec_t6 #[true, false, false, false, false, false, false, false] s8 rfl rfl rfl (by kernel_rfl) (PQ.then (PQ.blk (PQ.then (PQ.then (PQ.blk (PQ.then PQ.body)))))) rfl (fun w hs => run_loadAgg (vs := [Value.int .i64 m.k, str m.n, str m.v]) Ty.ag37 Ty.sz37 rfl rfl (cell_all (hs.1) 0 rfl)) ?_
   refine WD.pure (i := 2) lis_spec_t6 #[true, false, true, false, false, false, false, false] rfl rfl rfl (by kernel_rfl) (PQ.then (PQ.blk (PQ.then (PQ.then (PQ.blk (PQ.then PQ.body)))))) rfl (fun w => run_move rfl) ?_
   refine WD.pure (i := 3) lis_spec_t6 #[true, false, true, true, false, false, false, false] rfl rfl rfl (by kernel_rfl) (PQ.then (PQ.blk (PQ.then (PQ.then (PQ.blk (PQ.then PQ.body)))))) rfl (fun w => run_fieldAddr (q := ⟨g5, 1, none⟩) (show fieldB Tryz.prog 37 1 = some 1 from by kernel_rfl) rfl rfl) ?_
   refine WD.take (i := 4) lis_spec_t6 #[true, false, true, true, true, false, false, false] s8 rfl rfl rfl (by kernel_rfl) (PQ.then (PQ.blk (PQ.then (PQ.then (PQ.blk (PQ.then PQ.body)))))) rfl (fun w hs => run_load Ty.ag9 rfl ((hs.1 1).trans rfl)) ?_
   refine WD.one (i := 1) lis_spec_t6 #[true, true, true, true, true, false, false, false] rfl (by kernel_rfl) ?_
   refine WO.call rfl rfl Ty.hd27 rfl (asks_spec m hS7) (fun v10 w9 pv10 => ?_)
   obtain ⟨kk, cs, gm, rfl, hk, hask, hS9⟩ := pv10
   clear hS7
   refine WO.nil ?_
   have s11 : (∀ j, World.cell? w9 ⟨g5, j, none⟩ = [Value.int .i64 m.k, str m.n, str m.v][j]?) ∧ Rd w9 a l.length 3 (l.flatMap mtc) ∧ Rd w9 b ps.length 2 (ps.flatMap prc) := ⟨hS9.cel_at 1 rfl, (hX (hS9.focus 2 rfl)), (hY (hS9.focus 3 rfl))⟩
   refine NX.held s11 ?_
   refine WD.one (i := 5) lis_spec_t6 #[true, true, true, true, true, true, false, false] rfl (by kernel_rfl) ?_
   have hS12 := hS9.permT [3, 0, 0, 0] (L' := Y :: cel gm [Value.int .i64 m.k, str m.n, str m.v] 37 :: cel g5 [Value.int .i64 m.k, str m.n, str m.v] 37 :: X :: L) rfl
   clear hS9
   refine WO.call rfl rfl Ty.hd28 rfl (lget_spec hY hl2 m.n hS12) (fun v14 w13 pv14 => ?_)
   obtain ⟨rfl, hS13⟩ := pv14
   clear hS12
   refine WO.nil ?_
   have s15 : (∀ j, World.cell? w13 ⟨g5, j, none⟩ = [Value.int .i64 m.k, str m.n, str m.v][j]?) ∧ Rd w13 a l.length 3 (l.flatMap mtc) ∧ Rd w13 b ps.length 2 (ps.flatMap prc) := ⟨hS13.cel_at 2 rfl, (hX (hS13.focus 3 rfl)), (hY (hS13.focus 0 rfl))⟩
   refine NX.held s15 ?_
   refine WD.one (i := 6) lis_spec_t6 #[true, true, true, true, true, true, true, false] rfl (by kernel_rfl) ?_
   refine WO.callV (us := []) (cs := cs) rfl rfl hk rfl (hask _ (show St B ((cel gm (mtc m) 37) :: Y :: cel g5 [Value.int .i64 m.k, str m.n, str m.v] 37 :: X :: L) w13 from hS13.permT [1] rfl)) (fun v17 w16 pv17 => ?_)
   obtain ⟨rfl, hS16⟩ := pv17
   clear hS13
   replace hS16 : St B (cel gm [Value.int .i64 m.k, str m.n, str m.v] 37 :: Y :: cel g5 [Value.int .i64 m.k, str m.n, str m.v] 37 :: X :: L) w16 := hS16
   refine WO.nil ?_
   have s18 : (∀ j, World.cell? w16 ⟨g5, j, none⟩ = [Value.int .i64 m.k, str m.n, str m.v][j]?) ∧ Rd w16 a l.length 3 (l.flatMap mtc) ∧ Rd w16 b ps.length 2 (ps.flatMap prc) := ⟨hS16.cel_at 2 rfl, (hX (hS16.focus 3 rfl)), (hY (hS16.focus 1 rfl))⟩
   refine NX.held s18 ?_
   refine WD.pure (i := 7) lis_spec_t6 #[true, true, true, true, true, true, true, true] rfl rfl rfl (by kernel_rfl) (PQ.then (PQ.blk (PQ.then (PQ.then (PQ.blk (PQ.then PQ.body)))))) rfl (fun w => run_not rfl rfl) ?_
   refine WD.done lis_spec_t6 (by kernel_rfl) ?_
   refine NX.go ?_
   refine WP.condB rfl (fun g23 => ?_) (fun g23 => ?_)
   ·
    refine WP.seq ?_
    refine WP.region rfl ?_
    refine WO.val (run_assign rfl) rfl rfl rfl ?_
    refine WO.nil ?_
    refine NX.go ?_
    refine WP.ret ?_
    refine NX.blkRet ?_
    refine NX.thenRet ?_
    refine NX.thenRet ?_
    refine NX.blkRet ?_
    refine NX.thenRet ?_
    refine NX.done (l := [.tmp 4]) rfl rfl ?_
    exact ⟨congrArg Value.bool (by rw [← hgo, drop_cons hm, List.all_cons]; simp at g23; rw [g23]; rfl), (hS16.permT [0, 1, 1, 0] (L' := cel gm [Value.int .i64 m.k, str m.n, str m.v] 37 :: cel g5 [Value.int .i64 m.k, str m.n, str m.v] 37 :: X :: Y :: L) rfl).drop.drop⟩
   ·
    refine WP.skip ?_
    refine NX.blk ?_
    refine NX.go ?_
    refine WP.region rfl ?_
    refine WO.val (run_add rfl rfl (IntWalk.i64_in _ (by omega))) rfl rfl rfl ?_
    refine WO.val (run_move rfl) rfl rfl rfl ?_
    refine WO.nil ?_
    exact NX.again (i + 1) ⟨⟨by omega, by rw [drop_cons hm, List.all_cons] at hgo; rw [← hgo]; simp at g23; rw [g23]; rfl⟩, (hS16.permT [0, 1, 1, 0] (L' := cel gm [Value.int .i64 m.k, str m.n, str m.v] 37 :: cel g5 [Value.int .i64 m.k, str m.n, str m.v] 37 :: X :: Y :: L) rfl).drop.drop⟩ (by show l.length - (i + 1) < l.length - i; omega) (Sub.cons rfl (Sub.cons rfl (Sub.cons rfl (Sub.cons rfl (Sub.consE rfl (by congr 1) (Sub.nil _))))))
  ·
   refine WP.exit ?_
   refine NX.thenExit ?_
   refine NX.thenExit ?_
   refine NX.blkExit ?_
   refine NX.go ?_
   refine WP.seq ?_
   refine WP.region rfl ?_
   refine WO.val (run_assign rfl) rfl rfl rfl ?_
   refine WO.nil ?_
   refine NX.go ?_
   refine WP.ret ?_
   refine NX.done (l := [.tmp 4]) rfl rfl ?_
   exact ⟨congrArg Value.bool (by rw [← hgo, List.drop_of_length_le (by omega)]; rfl), hS3⟩
end Go.Proofs.YtogidmceomlkeaaGreatDoor.SL
