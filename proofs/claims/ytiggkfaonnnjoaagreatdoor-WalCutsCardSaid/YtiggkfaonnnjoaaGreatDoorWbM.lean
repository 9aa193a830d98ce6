import Derived.Test.YtiggkfaonnnjoaaGreatDoorWl
import Derived.Test.YtiggkfaonnnjoaaGreatDoorSq
import Derived.Test.YtiggkfaonnnjoaaGreatDoorDrM
import Derived.Test.YtiggkfaonnnjoaaGreatDoorKg
/- The log in memory. -/
namespace Go.Proofs.YtiggkfaonnnjoaaGreatDoor.SL
open Go.RowKit Go.Proofs.YtiggkfaonnnjoaaGreatDoor
open Go.Proofs.YtiggkfaonnnjoaaGreatDoorW.PrintLast (rtab opsOf)
set_option linter.unusedVariables false
set_option linter.unusedSimpArgs false

def sgA (g : Nat) (x : Sg) : HP := .ex fun p : Option Addr × Nat => .sep (cel g [Value.int .i64 (x.first : Int), Value.slice p.1 x.rs.length p.2, Value.int .i64 ((encR x.rs).length : Int), Value.bool x.dirty] 63) (own p.1 x.rs.length p.2 3 1 (pis x.rs))
theorem St.sg_open {B w : World} {L : List HP} {g : Nat} {x : Sg} (h : St B (sgA g x :: L) w) : ∃ p : Option Addr × Nat, St B (cel g [Value.int .i64 (x.first : Int), Value.slice p.1 x.rs.length p.2, Value.int .i64 ((encR x.rs).length : Int), Value.bool x.dirty] 63 :: own p.1 x.rs.length p.2 3 1 (pis x.rs) :: L) w := by
  obtain ⟨p, h1⟩ := h.ex
  exact ⟨p, h1.sep⟩
theorem St.sg_shut {B w : World} {L : List HP} {g : Nat} {x : Sg} (p : Option Addr × Nat) (h : St B (cel g [Value.int .i64 (x.first : Int), Value.slice p.1 x.rs.length p.2, Value.int .i64 ((encR x.rs).length : Int), Value.bool x.dirty] 63 :: own p.1 x.rs.length p.2 3 1 (pis x.rs) :: L) w) : St B (sgA g x :: L) w := h.join.give p
structure LX where
  a : Option Addr
  cap : Nat
  gs : List Nat
def handV (h : Bool) (gs : List Nat) : Value := if h = true then ptrV (gs.getLastD 0) else .pointer none
def lgA (g gd : Nat) (lg : Lg) : HP := .ex fun y : LX => .sep (cel g [Value.pointer (some ⟨gd, 0, none⟩), Value.slice y.a lg.l.length y.cap, handV lg.hand y.gs, Value.bool lg.begun, Value.int .i64 (lg.last : Int), Value.int .i64 (lg.durable : Int)] 49) (.sep (own y.a lg.l.length y.cap 47 1 (y.gs.map ptrV)) (sqA sgA y.gs lg.l))
theorem St.lg_open {B w : World} {L : List HP} {g gd : Nat} {lg : Lg} (h : St B (lgA g gd lg :: L) w) : ∃ y : LX, y.gs.length = lg.l.length ∧ St B (cel g [Value.pointer (some ⟨gd, 0, none⟩), Value.slice y.a lg.l.length y.cap, handV lg.hand y.gs, Value.bool lg.begun, Value.int .i64 (lg.last : Int), Value.int .i64 (lg.durable : Int)] 49 :: own y.a lg.l.length y.cap 47 1 (y.gs.map ptrV) :: sqA sgA y.gs lg.l :: L) w := by
  obtain ⟨y, h1⟩ := h.ex
  have h2 := (h1.sep.permT [1, 0] (L' := .sep (own y.a lg.l.length y.cap 47 1 (y.gs.map ptrV)) (sqA sgA y.gs lg.l) :: cel g [Value.pointer (some ⟨gd, 0, none⟩), Value.slice y.a lg.l.length y.cap, handV lg.hand y.gs, Value.bool lg.begun, Value.int .i64 (lg.last : Int), Value.int .i64 (lg.durable : Int)] 49 :: L) rfl).sep
  have h3 := h2.permT [2, 0, 0] (L' := cel g [Value.pointer (some ⟨gd, 0, none⟩), Value.slice y.a lg.l.length y.cap, handV lg.hand y.gs, Value.bool lg.begun, Value.int .i64 (lg.last : Int), Value.int .i64 (lg.durable : Int)] 49 :: own y.a lg.l.length y.cap 47 1 (y.gs.map ptrV) :: sqA sgA y.gs lg.l :: L) rfl
  exact ⟨y, sqA_len h2.drop, h3⟩
theorem St.lg_shut {B w : World} {L : List HP} {g gd : Nat} {lg : Lg} (y : LX) (h : St B (cel g [Value.pointer (some ⟨gd, 0, none⟩), Value.slice y.a lg.l.length y.cap, handV lg.hand y.gs, Value.bool lg.begun, Value.int .i64 (lg.last : Int), Value.int .i64 (lg.durable : Int)] 49 :: own y.a lg.l.length y.cap 47 1 (y.gs.map ptrV) :: sqA sgA y.gs lg.l :: L) w) : St B (lgA g gd lg :: L) w := by
  have h1 := (h.permT [1, 1, 0] (L' := own y.a lg.l.length y.cap 47 1 (y.gs.map ptrV) :: sqA sgA y.gs lg.l :: cel g [Value.pointer (some ⟨gd, 0, none⟩), Value.slice y.a lg.l.length y.cap, handV lg.hand y.gs, Value.bool lg.begun, Value.int .i64 (lg.last : Int), Value.int .i64 (lg.durable : Int)] 49 :: L) rfl).join
  exact (h1.permT [1, 0] (L' := cel g [Value.pointer (some ⟨gd, 0, none⟩), Value.slice y.a lg.l.length y.cap, handV lg.hand y.gs, Value.bool lg.begun, Value.int .i64 (lg.last : Int), Value.int .i64 (lg.durable : Int)] 49 :: .sep (own y.a lg.l.length y.cap 47 1 (y.gs.map ptrV)) (sqA sgA y.gs lg.l) :: L) rfl).join.give y
end Go.Proofs.YtiggkfaonnnjoaaGreatDoor.SL

/- The log: segments and their names. -/
namespace Go.Proofs.YtiggkfaonnnjoaaGreatDoor.SL
open Go.RowKit Go.Proofs.YtiggkfaonnnjoaaGreatDoor
open Go.Proofs.YtiggkfaonnnjoaaGreatDoorW.PrintLast (rtab opsOf)
set_option linter.unusedVariables false
set_option linter.unusedSimpArgs false
theorem slast_spec_t1 : rtab .any (opsOf Tryz.f36 1) = (true, [([], []), ([0], [0]), ([1], [1]), ([2], [2]), ([], []), ([4], [4]), ([5], [5]), ([6], [6]), ([7], [7]), ([3, 8], [3, 8]), ([9], [9]), ([10, 0, 1, 2, 3, 4, 5, 6, 7, 8, 9, 10], [10])]) := by kernel_rfl
theorem slast_spec {B w : World} {L : List HP} {g pc : Nat} {pa : Option Addr} {x : Sg} (hb : x.first + x.rs.length ≤ 4611686018427387904) (hS : St B (cel g [Value.int .i64 (x.first : Int), Value.slice pa x.rs.length pc, Value.int .i64 ((encR x.rs).length : Int), Value.bool x.dirty] 63 :: L) w) : Does Tryz.prog 36 [Value.pointer (some ⟨g, 0, none⟩)] w (fun v w1 => v = .int .i64 ((x.first : Int) + (x.rs.length : Int) - 1) ∧ St B (cel g [Value.int .i64 (x.first : Int), Value.slice pa x.rs.length pc, Value.int .i64 ((encR x.rs).length : Int), Value.bool x.dirty] 63 :: L) w1) := by
 refine enter (n := 14) Tryz.func36 rfl rfl [Value.pointer (some ⟨g, 0, none⟩)] rfl ?_
 refine WP.seq (WP.region rfl ?_)
 refine WO.asg rfl rfl ?_
 refine WO.nil (NX.go (WP.seq ?_))
 refine WD.start (fun w => (∀ jz, World.cell? w ⟨g, jz, none⟩ = [Value.int .i64 (x.first : Int), Value.slice pa x.rs.length pc, Value.int .i64 ((encR x.rs).length : Int), Value.bool x.dirty][jz]?)) [] (bt 12 0) Ty.mo rfl (by kernel_rfl) hS (fun _ h => h.cel_at 0 rfl) (fun w1 hS1 s2 => ?_)
 clear hS
 refine WD.pure (i := 0) slast_spec_t1 (bt 12 1) rfl rfl rfl (by kernel_rfl) (PQ.then PQ.body) rfl (fun w => run_move rfl) ?_
 refine WD.pure (i := 1) slast_spec_t1 (bt 12 3) rfl rfl rfl (by kernel_rfl) (PQ.then PQ.body) rfl (fun w => run_nilCheck rfl) ?_
 refine WD.pure (i := 2) slast_spec_t1 (bt 12 7) rfl rfl rfl (by kernel_rfl) (PQ.then PQ.body) rfl (fun w => run_fieldAddr (q := ⟨g, 0, none⟩) (show fieldB Tryz.prog 63 0 = some 0 from by kernel_rfl) rfl rfl) ?_
 refine WD.take (i := 3) slast_spec_t1 (bt 12 15) s2 rfl rfl rfl (by kernel_rfl) (PQ.then PQ.body) rfl (fun w hs => run_load Ty.ag3 rfl ((hs 0).trans rfl)) ?_
 refine WD.pure (i := 4) slast_spec_t1 (bt 12 31) rfl rfl rfl (by kernel_rfl) (PQ.then PQ.body) rfl (fun w => run_move rfl) ?_
 refine WD.pure (i := 5) slast_spec_t1 (bt 12 63) rfl rfl rfl (by kernel_rfl) (PQ.then PQ.body) rfl (fun w => run_nilCheck rfl) ?_
 refine WD.pure (i := 6) slast_spec_t1 (bt 12 127) rfl rfl rfl (by kernel_rfl) (PQ.then PQ.body) rfl (fun w => run_fieldAddr (q := ⟨g, 1, none⟩) (show fieldB Tryz.prog 63 1 = some 1 from by kernel_rfl) rfl rfl) ?_
 refine WD.take (i := 7) slast_spec_t1 (bt 12 255) s2 rfl rfl rfl (by kernel_rfl) (PQ.then PQ.body) rfl (fun w hs => run_load Ty.ag22 rfl ((hs 1).trans rfl)) ?_
 refine WD.pure (i := 8) slast_spec_t1 (bt 12 511) rfl rfl rfl (by kernel_rfl) (PQ.then PQ.body) rfl (fun w => run_len rfl Tryz.underlying22 rfl) ?_
 refine WD.pure (i := 9) slast_spec_t1 (bt 12 1023) rfl rfl rfl (by kernel_rfl) (PQ.then PQ.body) rfl (fun w => run_add rfl rfl (IntWalk.i64_in _ (by omega))) ?_
 refine WD.pure (i := 10) slast_spec_t1 (bt 12 2047) rfl rfl rfl (by kernel_rfl) (PQ.then PQ.body) rfl (fun w => run_sub rfl rfl (IntWalk.i64_in _ (by omega))) ?_
 refine WD.pure (i := 11) slast_spec_t1 (bt 12 4095) rfl rfl rfl (by kernel_rfl) (PQ.then PQ.body) rfl (fun w => run_assign rfl) ?_
 refine WD.done slast_spec_t1 (by kernel_rfl) ?_
 refine NX.go (WP.ret ?_)
 refine NX.done (l := [.tmp 2]) rfl rfl ?_
 exact ⟨rfl, hS1⟩
theorem wname_spec {B w : World} {L : List HP} (n : Nat) (hn : n ≤ 9223372036854775807) (hS : St B L w) : Does Tryz.prog 25 [Value.int .i64 (n : Int)] w (fun v w1 => v = str (nameW n) ∧ St B L w1) := by
 refine enter (n := 23) Tryz.func25 rfl rfl [Value.int .i64 (n : Int)] rfl ?_
 refine WP.seq (WP.region rfl ?_)
 refine WO.asg rfl rfl ?_
 refine WO.nil (NX.go (WP.seq (WP.region rfl ?_)))
 refine WO.makeSlice (m := 9) Tryz.underlying33 Ty.by5 Ty.sz5 Ty.zr5 rfl rfl rfl (by omega) (by omega) hS rfl (fun a2 w1 hS1 => ?_)
 clear hS
 refine WO.asg rfl rfl ?_
 refine WO.nil (NX.go (WP.seq (WP.region rfl ?_)))
 refine WO.mv rfl rfl ?_
 refine WO.val (run_indexAddr (q := adr a2 0) Tryz.underlying33 Ty.sz5 rfl rfl (by omega) (by omega) ((hS1.own_rd_i 0 rfl).2.1 (by omega)) (by simp)) rfl rfl rfl ?_
 refine WO.storeOwnAt 0 hS1 rfl Ty.sz5 rfl rfl rfl rfl (by simp) (fun w3 hS3 => ?_)
 replace hS3 : St B (own a2 9 9 5 1 ((List.replicate 9 (Value.int .u8 0)).set 0 (Value.int .u8 119)) :: L) w3 := hS3
 clear hS1
 refine WO.nil (NX.go (WP.seq (WP.seq (WP.region rfl ?_))))
 refine WO.asg rfl rfl ?_
 refine WO.nil (NX.go (WP.block ?_))
 refine WP.loop (α := Nat × Nat) (fun x => match x with | ⟨k, q⟩ => [(0, Value.int .i64 (q : Int)), (3, Value.slice a2 9 9), (4, Value.int .i64 ((8 : Int) - (k : Int)))]) (fun x w => match x with | ⟨k, q⟩ => (k ≤ 8 ∧ q = n / 10 ^ k) ∧ St B (own a2 9 9 5 1 ((nmK k n).map u8v) :: L) w) (fun x => match x with | ⟨k, q⟩ => 8 - k) (0, n) ⟨⟨Nat.zero_le _, by rw [Nat.pow_zero, Nat.div_one]⟩, (show St B (own a2 9 9 5 1 ((nmK 0 n).map u8v) :: L) w3 from hS3)⟩ (Sub.consE rfl (by first | rfl | first | rfl | (congr 1; omega) | (simp; done) | (simp; omega)) (Sub.cons rfl (Sub.consE rfl (by congr 1) (Sub.nil _)))) ?_
 rintro ⟨k, q⟩ w4 ⟨⟨hk, hq⟩, hS4⟩
 clear hS3
 refine WP.seq (WP.seq (WP.region rfl ?_))
 refine WO.mv rfl rfl ?_
 refine WO.val (run_gtr rfl rfl) rfl rfl rfl ?_
 refine WO.nil (NX.go ?_)
 refine WP.condP rfl (fun g9 => ?_) (fun g9 => ?_)
 ·
  refine WP.skip (NX.go (WP.seq (WP.block (WP.seq ?_))))
  have hqn : q ≤ 9223372036854775807 := by have := Nat.div_le_self n (10 ^ k); omega
  refine WP.region rfl ?_
  refine WO.mv rfl rfl ?_
  refine WO.mv rfl rfl ?_
  refine WO.mv rfl rfl ?_
  refine WO.val (run_rem rfl rfl (by omega) (IntWalk.rem_in _ _ (by omega))) rfl rfl rfl ?_
  refine WO.val (run_add rfl rfl (IntWalk.i64_in _ (by omega))) rfl rfl rfl ?_
  refine WO.val (run_convI Tryz.underlying5 (by kernel_rfl) rfl (show IntKind.u8.wrap (48 + (q : Int) % 10) = ((UInt8.ofNat (48 + q % 10)).toNat : Int) from by rw [IntKind.wrap_u8, dig_val]; omega)) rfl rfl rfl ?_
  refine WO.val (run_indexAddr (q := adr a2 (((8 : Int) - (k : Int)).toNat)) Tryz.underlying33 Ty.sz5 rfl rfl (by omega) (by omega) ((hS4.own_rd_i 0 rfl).2.1 (by omega)) (by simp)) rfl rfl rfl ?_
  refine WO.storeOwnAt 0 hS4 rfl Ty.sz5 rfl rfl rfl rfl (by rw [List.length_map, nmK_length n (by omega)]; omega) (fun w5 hS5 => ?_)
  replace hS5 : St B (own a2 9 9 5 1 ((nmK (k + 1) n).map u8v) :: L) w5 := (by have z := hS5; rw [show (Value.int .u8 ((UInt8.ofNat (48 + q % 10)).toNat : Int)) = u8v (UInt8.ofNat (48 + q % 10)) from rfl, set_map, show ((8 : Int) - (k : Int)).toNat = 8 - k by omega, hq, nmK_step (by omega)] at z; exact z)
  clear hS4
  refine WO.nil (NX.go (WP.region rfl ?_))
  refine WO.mv rfl rfl ?_
  refine WO.val (run_quo rfl rfl (by omega) (quo_i64 (by omega))) rfl rfl rfl ?_
  refine WO.asg rfl rfl ?_
  refine WO.nil (NX.blk (NX.go (WP.region rfl ?_)))
  refine WO.mv rfl rfl ?_
  refine WO.val (run_sub rfl rfl (IntWalk.i64_in _ (by omega))) rfl rfl rfl ?_
  refine WO.asg rfl rfl ?_
  refine WO.nil ?_
  exact NX.again (k + 1, q / 10) ⟨⟨by omega, by rw [hq, Nat.pow_succ, Nat.div_div_eq_div_mul]⟩, hS5⟩ (by show 8 - (k + 1) < 8 - k; omega) (Sub.consE rfl (by congr 1) (Sub.cons rfl (Sub.consE rfl (by congr 1; omega) (Sub.nil _))))
 ·
  refine WP.exit (NX.thenExit (NX.thenExit ?_))
  refine NX.blkExit ?_
  refine NX.go (WP.seq (WP.region rfl ?_))
  refine WO.mv rfl rfl ?_
  refine WO.val (run_bytesToStr Tryz.underlying33 Tryz.underlying5 Tryz.underlying9 rfl (by have z := hS4.own_rd_i 0 rfl; rw [show k = 8 by omega, nmK_all] at z; exact z)) rfl rfl rfl ?_
  refine WO.asg rfl rfl ?_
  refine WO.nil (NX.go (WP.ret ?_))
  refine NX.done (l := [.tmp 2]) rfl rfl ?_
  exact ⟨rfl, hS4.drop⟩
end Go.Proofs.YtiggkfaonnnjoaaGreatDoor.SL

/- The log: the number of a name. -/
namespace Go.Proofs.YtiggkfaonnnjoaaGreatDoor.SL
open Go.RowKit Go.Proofs.YtiggkfaonnnjoaaGreatDoor
open Go.Proofs.YtiggkfaonnnjoaaGreatDoorW.PrintLast (rtab opsOf)
set_option linter.unusedVariables false
set_option linter.unusedSimpArgs false

theorem numW_cons (c : UInt8) (r : List UInt8) : numW (c :: r) = if c = 119 ∧ r.length = 8 then valD 0 r else 0 := rfl
theorem numW_len {s : List UInt8} (h : ¬ (s.length : Int) = 9) : numW s = 0 := by
  cases s with
  | nil => rfl
  | cons c r => rw [List.length_cons] at h; rw [numW_cons, if_neg (by omega)]
theorem u8_119 {c : UInt8} (h : (c.toNat : Int) = 119) : c = 119 := UInt8.toNat_inj.1 (show c.toNat = 119 by omega)
theorem wnumber_spec {B w : World} {L : List HP} (s : List UInt8) (hs : s.length ≤ 140737488355328) (hS : St B L w) : Does Tryz.prog 17 [str s] w (fun v w1 => v = .int .i64 ((numW s : Nat) : Int) ∧ St B L w1) := by
 refine enter (n := 36) Tryz.func17 rfl rfl [str s] rfl ?_
 refine WP.seq (WP.region rfl ?_)
 refine WO.asg rfl rfl ?_
 refine WO.nil (NX.go (WP.seq (WP.seq (WP.region rfl ?_))))
 refine WO.mv rfl rfl ?_
 refine WO.val (run_lenS rfl Tryz.underlying9 rfl) rfl rfl rfl ?_
 refine WO.val (run_neq rfl rfl) rfl rfl rfl ?_
 refine WO.mv rfl rfl ?_
 by_cases g9 : ¬ (s.length : Int) = 9
 ·
  refine WO.off rfl rfl (decide_eq_true g9) rfl ?_
  refine WO.off rfl rfl (decide_eq_true g9) rfl ?_
  refine WO.off rfl rfl (decide_eq_true g9) rfl ?_
  refine WO.val (run_pickT rfl (decide_eq_true g9) rfl) rfl rfl rfl ?_
  refine WO.nil (NX.go ?_)
  refine WP.condT rfl rfl ?_
  refine WP.seq (WP.region rfl ?_)
  refine WO.asg rfl rfl ?_
  refine WO.nil (NX.go (WP.ret (NX.thenRet ?_)))
  refine NX.done (l := [.tmp 2]) rfl rfl ?_
  exact ⟨by rw [numW_len g9]; rfl, hS⟩
 ·
  obtain ⟨c, r, hs0⟩ : ∃ c r, s = c :: r := by cases s with | nil => (simp at g9) | cons c r => exact ⟨c, r, rfl⟩
  have hrl : r.length = 8 := by rw [hs0, List.length_cons] at g9; omega
  refine WO.on rfl rfl (decide_eq_false g9) ?_
  refine WO.mv rfl rfl ?_
  refine WO.on rfl rfl (decide_eq_false g9) ?_
  refine WO.val (run_indexS Tryz.underlying9 rfl rfl (by omega) (by rw [hs0]; rfl)) rfl rfl rfl ?_
  refine WO.on rfl rfl (decide_eq_false g9) ?_
  refine WO.val (run_neq rfl rfl) rfl rfl rfl ?_
  refine WO.val (run_pickF rfl (decide_eq_false g9) rfl) rfl rfl rfl ?_
  refine WO.nil (NX.go ?_)
  refine WP.condP rfl (fun g13 => ?_) (fun g13 => ?_)
  ·
   refine WP.seq (WP.region rfl ?_)
   refine WO.asg rfl rfl ?_
   refine WO.nil (NX.go (WP.ret (NX.thenRet ?_)))
   refine NX.done (l := [.tmp 2]) rfl rfl ?_
   exact ⟨by rw [hs0, numW_cons, if_neg (fun h => g13 (by rw [h.1]; rfl))]; rfl, hS⟩
  ·
   refine WP.skip (NX.go (WP.seq (WP.region rfl ?_)))
   refine WO.asg rfl rfl ?_
   refine WO.nil (NX.go (WP.seq (WP.seq (WP.region rfl ?_))))
   refine WO.mv rfl rfl ?_
   refine WO.val (run_sliceS (i := 1) (j := s.length) Tryz.underlying9 rfl ⟨_, rfl⟩ rfl (by omega) (Nat.le_refl _) (show (s.take s.length).drop 1 = r by rw [List.take_length, hs0]; rfl)) rfl rfl rfl ?_
   refine WO.strToBytes Tryz.underlying33 Tryz.underlying5 Tryz.underlying9 rfl hS rfl (fun a2 c3 w1 hS1 => ?_)
   clear hS
   refine WO.val (run_len rfl Tryz.underlying33 rfl) rfl rfl rfl ?_
   refine WO.mv rfl rfl ?_
   refine WO.nil (NX.go (WP.block ?_))
   refine WP.loop (α := Nat × Nat) (fun x => match x with | ⟨i, m⟩ => [(3, Value.int .i64 (m : Int)), (16, Value.slice a2 r.length c3), (17, Value.int .i64 ((r.length : Nat) : Int)), (18, Value.int .i64 (i : Int))]) (fun x w => match x with | ⟨i, m⟩ => (i ≤ 8 ∧ valD 0 r = valD m (r.drop i) ∧ m + 1 ≤ 10 ^ i) ∧ St B (own a2 r.length c3 5 1 (r.map fun b => Value.int .u8 b.toNat) :: L) w) (fun x => match x with | ⟨i, m⟩ => 8 - i) (0, 0) ⟨⟨Nat.zero_le _, rfl, Nat.le_refl _⟩, hS1⟩ (Sub.consE rfl (by first | rfl | first | rfl | (congr 1; omega) | (simp; done) | (simp; omega)) (Sub.cons rfl (Sub.cons rfl (Sub.consE rfl (by first | rfl | first | rfl | (congr 1; omega) | (simp; done) | (simp; omega)) (Sub.nil _))))) ?_
   rintro ⟨i, m⟩ w4 ⟨⟨hi, hv, hm⟩, hS4⟩
   clear hS1
   refine WP.seq (WP.region rfl ?_)
   refine WO.val (run_lss rfl rfl) rfl rfl rfl ?_
   refine WO.nil (NX.go (WP.seq ?_))
   refine WP.condP rfl (fun g19 => ?_) (fun g19 => ?_)
   ·
    refine WP.skip (NX.go (WP.seq (WP.block (WP.seq ?_))))
    obtain ⟨d1, hd1⟩ : ∃ d1, r[i]? = some d1 := ⟨_, List.getElem?_eq_getElem (by omega)⟩
    have hp8 : 10 ^ i ≤ 10 ^ 8 := Nat.pow_le_pow_right (by decide) hi
    have hm9 : m ≤ 100000000 := by have : (10 : Nat) ^ 8 = 100000000 := rfl; omega
    refine WP.region rfl ?_
    refine WO.val (run_indexAddr (q := adr a2 i) Tryz.underlying33 Ty.sz5 rfl rfl (by omega) (by omega) ((hS4.own_rd_i 0 rfl).2.1 (by omega)) (by simp)) rfl rfl rfl ?_
    refine WO.val (run_load Ty.ag5 rfl ((hS4.own_rd_i 0 rfl).cell (by rw [List.getElem?_map, hd1]; rfl))) rfl rfl rfl ?_
    refine WO.asg rfl rfl ?_
    refine WO.nil (NX.go (WP.seq (WP.seq (WP.region rfl ?_))))
    refine WO.mv rfl rfl ?_
    refine WO.val (run_lss rfl rfl) rfl rfl rfl ?_
    refine WO.mv rfl rfl ?_
    by_cases g24 : (d1.toNat : Int) < 48
    ·
     refine WO.off rfl rfl (decide_eq_true g24) rfl ?_
     refine WO.off rfl rfl (decide_eq_true g24) rfl ?_
     refine WO.val (run_pickT rfl (decide_eq_true g24) rfl) rfl rfl rfl ?_
     refine WO.nil (NX.go ?_)
     refine WP.condT rfl rfl ?_
     refine WP.seq (WP.region rfl ?_)
     refine WO.asg rfl rfl ?_
     refine WO.nil (NX.go (WP.ret (NX.thenRet (NX.blkRet (NX.thenRet (NX.thenRet (NX.blkRet (NX.thenRet ?_))))))))
     refine NX.done (l := [.tmp 2]) rfl rfl ?_
     have e0 : numW s = valD 0 r := by rw [hs0, numW_cons, if_pos ⟨u8_119 (Decidable.of_not_not g13), hrl⟩]
     exact ⟨by rw [e0, hv, valD_get hd1, if_neg (by omega)]; rfl, hS4.drop⟩
    ·
     refine WO.on rfl rfl (decide_eq_false g24) ?_
     refine WO.mv rfl rfl ?_
     refine WO.on rfl rfl (decide_eq_false g24) ?_
     refine WO.val (run_gtr rfl rfl) rfl rfl rfl ?_
     refine WO.val (run_pickF rfl (decide_eq_false g24) rfl) rfl rfl rfl ?_
     refine WO.nil (NX.go ?_)
     refine WP.condP rfl (fun g27 => ?_) (fun g27 => ?_)
     ·
      refine WP.seq (WP.region rfl ?_)
      refine WO.asg rfl rfl ?_
      refine WO.nil (NX.go (WP.ret (NX.thenRet (NX.blkRet (NX.thenRet (NX.thenRet (NX.blkRet (NX.thenRet ?_))))))))
      refine NX.done (l := [.tmp 2]) rfl rfl ?_
      have e0 : numW s = valD 0 r := by rw [hs0, numW_cons, if_pos ⟨u8_119 (Decidable.of_not_not g13), hrl⟩]
      exact ⟨by rw [e0, hv, valD_get hd1, if_neg (by omega)]; rfl, hS4.drop⟩
     ·
      refine WP.skip (NX.go ?_)
      have hd9 : 48 ≤ d1.toNat ∧ d1.toNat ≤ 57 := by omega
      refine WP.region rfl ?_
      refine WO.mv rfl rfl ?_
      refine WO.val (run_mul rfl rfl (IntWalk.i64_in _ (by omega))) rfl rfl rfl ?_
      refine WO.mv rfl rfl ?_
      refine WO.val (run_sub rfl rfl (IntWalk.u8_in _ (by omega))) rfl rfl rfl ?_
      refine WO.val (run_convI Tryz.underlying3 (by kernel_rfl) rfl (IntWalk.i64_in _ (by omega))) rfl rfl rfl ?_
      refine WO.val (run_add rfl rfl (IntWalk.i64_in _ (by omega))) rfl rfl rfl ?_
      refine WO.asg rfl rfl ?_
      refine WO.nil (NX.blk (NX.go (WP.region rfl ?_)))
      refine WO.val (run_add rfl rfl (IntWalk.i64_in _ (by omega))) rfl rfl rfl ?_
      refine WO.mv rfl rfl ?_
      refine WO.nil ?_
      exact NX.again (i + 1, 10 * m + (d1.toNat - 48)) ⟨⟨by omega, by rw [hv, valD_get hd1, if_pos (by omega)], by rw [Nat.pow_succ]; generalize 10 ^ i = p at hm; omega⟩, hS4⟩ (by show 8 - (i + 1) < 8 - i; omega) (Sub.consE rfl (by congr 1; omega) (Sub.cons rfl (Sub.cons rfl (Sub.consE rfl (by congr 1) (Sub.nil _)))))
   ·
    refine WP.exit (NX.thenExit (NX.thenExit ?_))
    refine NX.blkExit ?_
    refine NX.go (WP.seq (WP.region rfl ?_))
    refine WO.mv rfl rfl ?_
    refine WO.asg rfl rfl ?_
    refine WO.nil (NX.go (WP.ret ?_))
    refine NX.done (l := [.tmp 2]) rfl rfl ?_
    have e0 : numW s = valD 0 r := by rw [hs0, numW_cons, if_pos ⟨u8_119 (Decidable.of_not_not g13), hrl⟩]
    exact ⟨by rw [e0, hv, List.drop_of_length_le (by omega)]; rfl, hS4.drop⟩
end Go.Proofs.YtiggkfaonnnjoaaGreatDoor.SL

/- The log: a segment of bytes. -/
namespace Go.Proofs.YtiggkfaonnnjoaaGreatDoor.SL
open Go.RowKit Go.Proofs.YtiggkfaonnnjoaaGreatDoor
open Go.Proofs.YtiggkfaonnnjoaaGreatDoorW.PrintLast (rtab opsOf)
set_option linter.unusedVariables false
set_option linter.unusedSimpArgs false
theorem wparse_spec_t5 : rtab .any (opsOf Tryz.f19 5) = (true, [([], []), ([], []), ([1], [1]), ([2], [2]), ([3], [3]), ([], []), ([5], [5]), ([6], [6]), ([7], [7]), ([8], [8]), ([4, 9], [4, 9]), ([0, 0, 1, 2, 3, 4, 5, 6, 7, 8, 9, 10], [0]), ([11, 0, 1, 2, 3, 4, 5, 6, 7, 8, 9, 10], [11]), ([12, 10, 10, 0, 1, 2, 3, 4, 5, 6, 7, 8, 9, 10], [10, 12])]) := by kernel_rfl
theorem wparse_spec {B w : World} {L : List HP} (f0 : Nat) (s : List UInt8) (hs : s.length ≤ 1099511627776) (hS : St B L w) : Does Tryz.prog 19 [Value.int .i64 (f0 : Int), str s] w (fun v w1 => ∃ g, v = .pointer (some ⟨g, 0, none⟩) ∧ St B (sgA g ⟨f0, recsW s, false⟩ :: L) w1) := by
 refine enter (n := 59) Tryz.func19 rfl rfl [Value.int .i64 (f0 : Int), str s] rfl ?_
 refine WP.seq (WP.region rfl ?_)
 refine WO.asg rfl rfl ?_
 refine WO.nil (NX.go (WP.seq (WP.region rfl ?_)))
 refine WO.mv rfl rfl ?_
 refine WO.val (run_build (v := Value.agg #[Value.int .i64 (f0 : Int), Value.slice none 0 0, Value.int .i64 0, Value.bool false]) rfl (fun w => by kernel_rfl)) rfl rfl rfl ?_
 refine WO.box (l := [Value.int .i64 (f0 : Int), Value.slice none 0 0, Value.int .i64 0, Value.bool false]) hS rfl rfl rfl (fun g2 w1 lg2 hS1 => ?_)
 clear hS
 refine WO.asg rfl rfl ?_
 refine WO.nil (NX.go (WP.seq (WP.block ?_)))
 refine WP.loop (α := List (List UInt8) × List UInt8 × Option Addr × Nat) (fun x => match x with | ⟨rs, t1, a1, c1⟩ => [(1, str s), (5, Value.pointer (some ⟨g2, 0, none⟩))]) (fun x w => match x with | ⟨rs, t1, a1, c1⟩ => (s = encR rs ++ t1 ∧ recsW s = rs ++ recsW t1 ∧ OkR rs) ∧ St B (cel g2 [Value.int .i64 (f0 : Int), Value.slice a1 rs.length c1, Value.int .i64 ((encR rs).length : Int), Value.bool false] 63 :: own a1 rs.length c1 3 1 (pis rs) :: L) w) (fun x => match x with | ⟨rs, t1, a1, c1⟩ => t1.length) ([], s, none, 0) ⟨⟨rfl, rfl, fun r h => (by cases h)⟩, (show St B (cel g2 [Value.int .i64 (f0 : Int), Value.slice none ([].length) 0, Value.int .i64 ((encR []).length : Int), Value.bool false] 63 :: own none ([].length) 0 3 1 (pis []) :: L) _ from (hS1.own_nil 3 1).permT [1, 0] (L' := cel g2 [Value.int .i64 (f0 : Int), Value.slice none ([].length) 0, Value.int .i64 ((encR []).length : Int), Value.bool false] 63 :: own none 0 0 3 1 [] :: L) rfl)⟩ (Sub.cons rfl (Sub.cons rfl (Sub.nil _))) ?_
 rintro ⟨rs, t1, a1, c1⟩ w3 ⟨⟨hrs, hrec, hok⟩, hS3⟩
 clear hS1
 refine WP.seq (WP.seq (WP.region rfl ?_))
 refine WO.mv rfl rfl ?_
 refine WO.val (run_nilCheck rfl) rfl rfl rfl ?_
 refine WO.val (run_fieldAddr (q := ⟨g2, 2, none⟩) (show fieldB Tryz.prog 63 2 = some 2 from by kernel_rfl) rfl rfl) rfl rfl rfl ?_
 refine WO.val (run_load Ty.ag3 rfl ((hS3.cel_at 0 rfl 2).trans rfl)) rfl rfl rfl ?_
 refine WO.mv rfl rfl ?_
 refine WO.val (run_lenS rfl Tryz.underlying9 rfl) rfl rfl rfl ?_
 refine WO.val (run_lss rfl rfl) rfl rfl rfl ?_
 refine WO.nil (NX.go ?_)
 refine WP.condP rfl (fun g18 => ?_) (fun g18 => ?_)
 ·
  refine WP.skip (NX.go (WP.block (WP.seq ?_)))
  have hel := encR_len hok
  have hsl : s.length = (encR rs).length + t1.length := by have z := congrArg List.length hrs; rw [List.length_append] at z; exact z
  refine WP.region rfl ?_
  refine WO.mv rfl rfl ?_
  refine WO.mv rfl rfl ?_
  refine WO.val (run_nilCheck rfl) rfl rfl rfl ?_
  refine WO.val (run_fieldAddr (q := ⟨g2, 2, none⟩) (show fieldB Tryz.prog 63 2 = some 2 from by kernel_rfl) rfl rfl) rfl rfl rfl ?_
  refine WO.val (run_load Ty.ag3 rfl ((hS3.cel_at 0 rfl 2).trans rfl)) rfl rfl rfl ?_
  refine WO.val (run_sliceS (i := (encR rs).length) (j := s.length) Tryz.underlying9 rfl ⟨_, rfl⟩ rfl (by omega) (Nat.le_refl _) (show (s.take s.length).drop (encR rs).length = t1 by rw [List.take_length]; rw [hrs]; exact List.drop_left)) rfl rfl rfl ?_
  refine WO.call rfl rfl Ty.hd37 rfl (getFrame_spec t1 (by omega) hS3) (fun v5 w4 pv5 => ?_)
  obtain ⟨rfl, hS4⟩ := pv5
  clear hS3
  refine WO.mv rfl rfl ?_
  refine WO.val (run_extract rfl rfl) rfl rfl rfl ?_
  refine WO.val (run_extract rfl rfl) rfl rfl rfl ?_
  refine WO.val (run_extract rfl rfl) rfl rfl rfl ?_
  refine WO.alloc (l := [Value.int .i64 0, str []]) hS4 Ty.zr61 rfl rfl (fun g7 w6 lg7 hS6 => ?_)
  clear hS4
  refine WO.store (l' := [Value.int .i64 ((getF t1).1.1), str ((getF t1).1.2)]) 0 hS6 rfl Ty.sz61 rfl rfl rfl rfl rfl (Nat.le_of_ble_eq_true rfl) rfl (fun w8 (hS8 : St B (cel g7 [Value.int .i64 ((getF t1).1.1), str ((getF t1).1.2)] 61 :: cel g2 [Value.int .i64 (f0 : Int), Value.slice a1 rs.length c1, Value.int .i64 ((encR rs).length : Int), Value.bool false] 63 :: own a1 rs.length c1 3 1 (pis rs) :: L) w8) => ?_)
  clear hS6
  refine WO.asg rfl rfl ?_
  refine WO.asg rfl rfl ?_
  refine WO.nil (NX.go (WP.seq (WP.seq (WP.region rfl ?_))))
  refine WO.mv rfl rfl ?_
  refine WO.val (run_neq rfl rfl) rfl rfl rfl ?_
  refine WO.mv rfl rfl ?_
  by_cases g32 : ¬ ((getF t1).2.2) = 0
  ·
   refine WO.off rfl rfl (decide_eq_true g32) rfl ?_
   refine WO.off rfl rfl (decide_eq_true g32) rfl ?_
   refine WO.off rfl rfl (decide_eq_true g32) rfl ?_
   refine WO.val (run_pickT rfl (decide_eq_true g32) rfl) rfl rfl rfl ?_
   refine WO.nil (NX.go ?_)
   refine WP.condT rfl rfl ?_
   refine WP.exit (NX.thenExit ?_)
   refine NX.blkPass rfl ?_
   refine NX.thenExit ?_
   refine NX.blkExit ?_
   refine NX.go (WP.seq (WP.region rfl ?_))
   refine WO.mv rfl rfl ?_
   refine WO.asg rfl rfl ?_
   refine WO.nil (NX.go (WP.ret ?_))
   refine NX.done (l := [.tmp 4]) rfl rfl ?_
   have hrw : recsW s = rs := by rw [hrec, recsW_stop (fun h => g32 h.1), List.append_nil]
   rw [hrw]
   exact ⟨_, rfl, St.sg_shut (x := ⟨f0, rs, false⟩) (a1, c1) hS8.drop⟩
  ·
   refine WO.on rfl rfl (decide_eq_false g32) ?_
   refine WO.val (run_fieldAddr (q := ⟨g7, 0, none⟩) (show fieldB Tryz.prog 61 0 = some 0 from by kernel_rfl) rfl rfl) rfl rfl rfl ?_
   refine WO.on rfl rfl (decide_eq_false g32) ?_
   refine WO.val (run_load Ty.ag3 rfl ((hS8.cel_at 0 rfl 0).trans rfl)) rfl rfl rfl ?_
   refine WO.on rfl rfl (decide_eq_false g32) ?_
   refine WO.val (run_neq rfl rfl) rfl rfl rfl ?_
   refine WO.val (run_pickF rfl (decide_eq_false g32) rfl) rfl rfl rfl ?_
   refine WO.nil (NX.go ?_)
   refine WP.condP rfl (fun g36 => ?_) (fun g36 => ?_)
   ·
    refine WP.exit (NX.thenExit ?_)
    refine NX.blkPass rfl ?_
    refine NX.thenExit ?_
    refine NX.blkExit ?_
    refine NX.go (WP.seq (WP.region rfl ?_))
    refine WO.mv rfl rfl ?_
    refine WO.asg rfl rfl ?_
    refine WO.nil (NX.go (WP.ret ?_))
    refine NX.done (l := [.tmp 4]) rfl rfl ?_
    have hrw : recsW s = rs := by rw [hrec, recsW_stop (fun h => g36 h.2), List.append_nil]
    rw [hrw]
    exact ⟨_, rfl, St.sg_shut (x := ⟨f0, rs, false⟩) (a1, c1) hS8.drop⟩
   ·
    refine WP.skip (NX.go (WP.seq ?_))
    have hst := recsW_step (Decidable.of_not_not g32) (Decidable.of_not_not g36)
    refine WD.start (fun w => (∀ jz, World.cell? w ⟨g2, jz, none⟩ = [Value.int .i64 (f0 : Int), Value.slice a1 rs.length c1, Value.int .i64 ((encR rs).length : Int), Value.bool false][jz]?)) [13] (bt 14 0) Ty.mo rfl (by kernel_rfl) hS8 (fun _ h => h.cel_at 1 rfl) (fun w9 hS9 s10 => ?_)
    clear hS8
    refine WD.pure (i := 0) wparse_spec_t5 (bt 14 1) rfl rfl rfl (by kernel_rfl) (PQ.then (PQ.blk (PQ.then (PQ.blk (PQ.then PQ.body))))) rfl (fun w => run_move rfl) ?_
    refine WD.pure (i := 1) wparse_spec_t5 (bt 14 3) rfl rfl rfl (by kernel_rfl) (PQ.then (PQ.blk (PQ.then (PQ.blk (PQ.then PQ.body))))) rfl (fun w => run_move rfl) ?_
    refine WD.pure (i := 2) wparse_spec_t5 (bt 14 7) rfl rfl rfl (by kernel_rfl) (PQ.then (PQ.blk (PQ.then (PQ.blk (PQ.then PQ.body))))) rfl (fun w => run_nilCheck rfl) ?_
    refine WD.pure (i := 3) wparse_spec_t5 (bt 14 15) rfl rfl rfl (by kernel_rfl) (PQ.then (PQ.blk (PQ.then (PQ.blk (PQ.then PQ.body))))) rfl (fun w => run_fieldAddr (q := ⟨g2, 1, none⟩) (show fieldB Tryz.prog 63 1 = some 1 from by kernel_rfl) rfl rfl) ?_
    refine WD.take (i := 4) wparse_spec_t5 (bt 14 31) s10 rfl rfl rfl (by kernel_rfl) (PQ.then (PQ.blk (PQ.then (PQ.blk (PQ.then PQ.body))))) rfl (fun w hs => run_load Ty.ag22 rfl ((hs 1).trans rfl)) ?_
    refine WD.pure (i := 5) wparse_spec_t5 (bt 14 63) rfl rfl rfl (by kernel_rfl) (PQ.then (PQ.blk (PQ.then (PQ.blk (PQ.then PQ.body))))) rfl (fun w => run_move rfl) ?_
    refine WD.pure (i := 6) wparse_spec_t5 (bt 14 127) rfl rfl rfl (by kernel_rfl) (PQ.then (PQ.blk (PQ.then (PQ.blk (PQ.then PQ.body))))) rfl (fun w => run_nilCheck rfl) ?_
    refine WD.pure (i := 7) wparse_spec_t5 (bt 14 255) rfl rfl rfl (by kernel_rfl) (PQ.then (PQ.blk (PQ.then (PQ.blk (PQ.then PQ.body))))) rfl (fun w => run_fieldAddr (q := ⟨g2, 2, none⟩) (show fieldB Tryz.prog 63 2 = some 2 from by kernel_rfl) rfl rfl) ?_
    refine WD.take (i := 8) wparse_spec_t5 (bt 14 511) s10 rfl rfl rfl (by kernel_rfl) (PQ.then (PQ.blk (PQ.then (PQ.blk (PQ.then PQ.body))))) rfl (fun w hs => run_load Ty.ag3 rfl ((hs 2).trans rfl)) ?_
    refine WD.one (i := 9) wparse_spec_t5 (bt 14 1023) rfl (by kernel_rfl) ?_
    refine WO.buildSlice (l := [Value.int .i64 ((encR rs).length : Int)]) hS9 Tryz.underlying22 rfl (fun w => by kernel_rfl) rfl (fun g12 w11 lg12 hS11 => ?_)
    clear hS9
    refine WO.nil ?_
    have s13 : (∀ jz, World.cell? w11 ⟨g2, jz, none⟩ = [Value.int .i64 (f0 : Int), Value.slice a1 rs.length c1, Value.int .i64 ((encR rs).length : Int), Value.bool false][jz]?) := hS11.cel_at 2 rfl
    refine NX.held s13 ?_
    refine WD.one (i := 10) wparse_spec_t5 (bt 14 2047) rfl (by kernel_rfl) ?_
    refine WO.append (news := [Value.int .i64 ((encR rs).length : Int)]) 3 rfl Tryz.underlying22 Tryz.underlying22 (fun _ h => by cases h) Ty.sz3 (by decide) Ty.by3 Ty.zr3 rfl rfl rfl rfl hS11 rfl ((hS11.cel_rd 0 rfl (o := 0) (m := 1) (k := 1) rfl (Nat.le_of_ble_eq_true rfl)).src) rfl (by omega) (by omega) (fun a15 c16 w14 hS14 => ?_)
    replace hS14 : St B (cel g12 [Value.int .i64 ((encR rs).length : Int)] 3 :: cel g7 [Value.int .i64 ((getF t1).1.1), str ((getF t1).1.2)] 61 :: cel g2 [Value.int .i64 (f0 : Int), Value.slice a1 rs.length c1, Value.int .i64 ((encR rs).length : Int), Value.bool false] 63 :: own a15 (rs.length + 1) c16 3 1 ((pis rs) ++ [Value.int .i64 ((encR rs).length : Int)]) :: L) w14 := hS14
    clear hS11
    refine WO.nil ?_
    have s17 : (∀ jz, World.cell? w14 ⟨g2, jz, none⟩ = [Value.int .i64 (f0 : Int), Value.slice a1 rs.length c1, Value.int .i64 ((encR rs).length : Int), Value.bool false][jz]?) := hS14.cel_at 2 rfl
    refine NX.held s17 ?_
    refine WD.pure (i := 11) wparse_spec_t5 (bt 14 4095) rfl rfl rfl (by kernel_rfl) (PQ.then (PQ.blk (PQ.then (PQ.blk (PQ.then PQ.body))))) rfl (fun w => run_nilCheck rfl) ?_
    refine WD.pure (i := 12) wparse_spec_t5 (bt 14 8191) rfl rfl rfl (by kernel_rfl) (PQ.then (PQ.blk (PQ.then (PQ.blk (PQ.then PQ.body))))) rfl (fun w => run_fieldAddr (q := ⟨g2, 1, none⟩) (show fieldB Tryz.prog 63 1 = some 1 from by kernel_rfl) rfl rfl) ?_
    refine WD.one (i := 13) wparse_spec_t5 (bt 14 16383) rfl (by kernel_rfl) ?_
    refine WO.store (l' := [Value.int .i64 (f0 : Int), Value.slice a15 (rs.length + 1) c16, Value.int .i64 ((encR rs).length : Int), Value.bool false]) 2 hS14 rfl Ty.sz22 rfl rfl rfl rfl rfl (Nat.le_of_ble_eq_true rfl) rfl (fun w18 (hS18 : St B (cel g12 [Value.int .i64 ((encR rs).length : Int)] 3 :: cel g7 [Value.int .i64 ((getF t1).1.1), str ((getF t1).1.2)] 61 :: cel g2 [Value.int .i64 (f0 : Int), Value.slice a15 (rs.length + 1) c16, Value.int .i64 ((encR rs).length : Int), Value.bool false] 63 :: own a15 (rs.length + 1) c16 3 1 ((pis rs) ++ [Value.int .i64 ((encR rs).length : Int)]) :: L) w18) => ?_)
    clear hS14
    refine WO.nil ?_
    refine NX.last (by decide) ?_
    refine WD.done wparse_spec_t5 (by kernel_rfl) ?_
    refine NX.go (WP.region rfl ?_)
    refine WO.mv rfl rfl ?_
    refine WO.val (run_nilCheck rfl) rfl rfl rfl ?_
    refine WO.val (run_fieldAddr (q := ⟨g2, 2, none⟩) (show fieldB Tryz.prog 63 2 = some 2 from by kernel_rfl) rfl rfl) rfl rfl rfl ?_
    refine WO.val (run_load Ty.ag3 rfl ((hS18.cel_at 2 rfl 2).trans rfl)) rfl rfl rfl ?_
    refine WO.mv rfl rfl ?_
    refine WO.val (run_add rfl rfl (IntWalk.i64_in _ (by have z := hst.2.2.2; have h6 := (frB_len hst.2.1).2; omega))) rfl rfl rfl ?_
    refine WO.val (run_nilCheck rfl) rfl rfl rfl ?_
    refine WO.val (run_fieldAddr (q := ⟨g2, 2, none⟩) (show fieldB Tryz.prog 63 2 = some 2 from by kernel_rfl) rfl rfl) rfl rfl rfl ?_
    refine WO.store (l' := [Value.int .i64 (f0 : Int), Value.slice a15 (rs.length + 1) c16, Value.int .i64 (((encR rs).length : Int) + ((getF t1).2.1)), Value.bool false]) 2 hS18 rfl Ty.sz3 rfl rfl rfl rfl rfl (Nat.le_of_ble_eq_true rfl) rfl (fun w19 (hS19 : St B (cel g12 [Value.int .i64 ((encR rs).length : Int)] 3 :: cel g7 [Value.int .i64 ((getF t1).1.1), str ((getF t1).1.2)] 61 :: cel g2 [Value.int .i64 (f0 : Int), Value.slice a15 (rs.length + 1) c16, Value.int .i64 (((encR rs).length : Int) + ((getF t1).2.1)), Value.bool false] 63 :: own a15 (rs.length + 1) c16 3 1 ((pis rs) ++ [Value.int .i64 ((encR rs).length : Int)]) :: L) w19) => ?_)
    clear hS18
    refine WO.nil (NX.blk ?_)
    exact NX.again (rs ++ [(getF t1).1.2], t1.drop (getF t1).2.1.toNat, a15, c16) ⟨⟨by rw [encR_snoc, List.append_assoc, ← hst.2.2.1]; exact hrs, by rw [hrec, hst.1, List.append_assoc]; rfl, fun r hr => (List.mem_append.1 hr).elim (hok r) (fun h => by rw [List.mem_singleton.1 h]; exact hst.2.1)⟩, by have z := hS19.drop.drop; rw [← pis_snoc rs (getF t1).1.2, show rs.length + 1 = (rs ++ [(getF t1).1.2]).length by simp, show ((encR rs).length : Int) + (getF t1).2.1 = ((encR (rs ++ [(getF t1).1.2])).length : Int) by rw [encR_snoc, List.length_append, hst.2.2.2]; omega] at z; exact z⟩ (by have h6 := (frB_len hst.2.1).1; have h7 := congrArg List.length hst.2.2.1; rw [List.length_append] at h7; show (t1.drop _).length < t1.length; have h8 := hst.2.2.2; rw [List.length_drop]; omega) (Sub.cons rfl (Sub.cons rfl (Sub.nil _)))
 ·
  refine WP.exit (NX.thenExit (NX.thenExit ?_))
  refine NX.blkExit ?_
  refine NX.go (WP.seq (WP.region rfl ?_))
  refine WO.mv rfl rfl ?_
  refine WO.asg rfl rfl ?_
  refine WO.nil (NX.go (WP.ret ?_))
  refine NX.done (l := [.tmp 4]) rfl rfl ?_
  have hrw : recsW s = rs := by
   have h0 : t1 = [] := List.length_eq_zero_iff.1 (by have z := congrArg List.length hrs; rw [List.length_append] at z; omega)
   rw [hrec, h0, show recsW [] = [] from rfl, List.append_nil]
  rw [hrw]
  exact ⟨_, rfl, St.sg_shut (x := ⟨f0, rs, false⟩) (a1, c1) hS3⟩
end Go.Proofs.YtiggkfaonnnjoaaGreatDoor.SL

/- The log: what it tells. -/
namespace Go.Proofs.YtiggkfaonnnjoaaGreatDoor.SL
open Go.RowKit Go.Proofs.YtiggkfaonnnjoaaGreatDoor
open Go.Proofs.YtiggkfaonnnjoaaGreatDoorW.PrintLast (rtab opsOf)
set_option linter.unusedVariables false
set_option linter.unusedSimpArgs false
theorem llast_spec {B w : World} {L : List HP} {g gd : Nat} {lg : Lg} (hS : St B (lgA g gd lg :: L) w) : Does Tryz.prog 10 [Value.pointer (some ⟨g, 0, none⟩)] w (fun v w1 => v = .int .i64 (lg.last : Int) ∧ St B (lgA g gd lg :: L) w1) := by
 obtain ⟨y, hgl, h0⟩ := hS.lg_open
 clear hS
 refine enter (n := 7) Tryz.func10 rfl rfl [Value.pointer (some ⟨g, 0, none⟩)] rfl ?_
 refine WP.seq (WP.region rfl ?_)
 refine WO.asg rfl rfl ?_
 refine WO.nil (NX.go (WP.seq (WP.region rfl ?_)))
 refine WO.mv rfl rfl ?_
 refine WO.val (run_nilCheck rfl) rfl rfl rfl ?_
 refine WO.val (run_fieldAddr (q := ⟨g, 4, none⟩) (show fieldB Tryz.prog 49 4 = some 4 from by kernel_rfl) rfl rfl) rfl rfl rfl ?_
 refine WO.val (run_load Ty.ag3 rfl ((h0.cel_at 0 rfl 4).trans rfl)) rfl rfl rfl ?_
 refine WO.asg rfl rfl ?_
 refine WO.nil (NX.go (WP.ret ?_))
 refine NX.done (l := [.tmp 2]) rfl rfl ?_
 exact ⟨rfl, (St.lg_shut (lg := lg) ⟨y.a, y.cap, y.gs⟩ h0)⟩
theorem lfirst_spec {B w : World} {L : List HP} {g gd : Nat} {lg : Lg} (hb : lg.last ≤ 4611686018427387904) (hS : St B (lgA g gd lg :: L) w) : Does Tryz.prog 28 [Value.pointer (some ⟨g, 0, none⟩)] w (fun v w1 => v = .int .i64 ((firstL lg : Nat) : Int) ∧ St B (lgA g gd lg :: L) w1) := by
 obtain ⟨y, hgl, h0⟩ := hS.lg_open
 clear hS
 refine enter (n := 23) Tryz.func28 rfl rfl [Value.pointer (some ⟨g, 0, none⟩)] rfl ?_
 refine WP.seq (WP.region rfl ?_)
 refine WO.asg rfl rfl ?_
 refine WO.nil (NX.go (WP.seq (WP.seq (WP.region rfl ?_))))
 refine WO.mv rfl rfl ?_
 refine WO.val (run_nilCheck rfl) rfl rfl rfl ?_
 refine WO.val (run_fieldAddr (q := ⟨g, 1, none⟩) (show fieldB Tryz.prog 49 1 = some 1 from by kernel_rfl) rfl rfl) rfl rfl rfl ?_
 refine WO.val (run_load Ty.ag46 rfl ((h0.cel_at 0 rfl 1).trans rfl)) rfl rfl rfl ?_
 refine WO.val (run_len rfl Tryz.underlying46 rfl) rfl rfl rfl ?_
 refine WO.val (run_eql rfl rfl) rfl rfl rfl ?_
 refine WO.nil (NX.go ?_)
 refine WP.condP rfl (fun g8 => ?_) (fun g8 => ?_)
 ·
  refine WP.seq (WP.region rfl ?_)
  refine WO.mv rfl rfl ?_
  refine WO.val (run_nilCheck rfl) rfl rfl rfl ?_
  refine WO.val (run_fieldAddr (q := ⟨g, 4, none⟩) (show fieldB Tryz.prog 49 4 = some 4 from by kernel_rfl) rfl rfl) rfl rfl rfl ?_
  refine WO.val (run_load Ty.ag3 rfl ((h0.cel_at 0 rfl 4).trans rfl)) rfl rfl rfl ?_
  refine WO.val (run_add rfl rfl (IntWalk.i64_in _ (by omega))) rfl rfl rfl ?_
  refine WO.asg rfl rfl ?_
  refine WO.nil (NX.go (WP.ret (NX.thenRet ?_)))
  refine NX.done (l := [.tmp 2]) rfl rfl ?_
  have e0 : firstL lg = lg.last + 1 := by unfold firstL; cases hl0 : lg.l with | nil => rfl | cons a b => (rw [hl0, List.length_cons] at g8; omega)
  rw [e0]
  exact ⟨by congr 1, (St.lg_shut (lg := lg) ⟨y.a, y.cap, y.gs⟩ h0)⟩
 ·
  refine WP.skip (NX.go (WP.seq ?_))
  obtain ⟨x, hx⟩ : ∃ x, lg.l[0]? = some x := ⟨_, List.getElem?_eq_getElem (by omega)⟩
  obtain ⟨gi, hgi, hS1⟩ := sqA_pick (i := 0) hx (h0.permT [2, 0, 0] (L' := sqA sgA y.gs lg.l :: cel g [Value.pointer (some ⟨gd, 0, none⟩), Value.slice y.a lg.l.length y.cap, handV lg.hand y.gs, Value.bool lg.begun, Value.int .i64 (lg.last : Int), Value.int .i64 (lg.durable : Int)] 49 :: own y.a lg.l.length y.cap 47 1 (y.gs.map ptrV) :: L) rfl)
  clear h0
  obtain ⟨pi, hS2⟩ := hS1.sg_open
  clear hS1
  replace hS2 : St B (cel gi [Value.int .i64 (x.first : Int), Value.slice pi.1 x.rs.length pi.2, Value.int .i64 ((encR x.rs).length : Int), Value.bool x.dirty] 63 :: own pi.1 x.rs.length pi.2 3 1 (pis x.rs) :: sqBut sgA 0 y.gs lg.l :: cel g [Value.pointer (some ⟨gd, 0, none⟩), Value.slice y.a lg.l.length y.cap, handV lg.hand y.gs, Value.bool lg.begun, Value.int .i64 (lg.last : Int), Value.int .i64 (lg.durable : Int)] 49 :: own y.a lg.l.length y.cap 47 1 (y.gs.map ptrV) :: L) w := hS2
  refine WP.region rfl ?_
  refine WO.mv rfl rfl ?_
  refine WO.val (run_nilCheck rfl) rfl rfl rfl ?_
  refine WO.val (run_fieldAddr (q := ⟨g, 1, none⟩) (show fieldB Tryz.prog 49 1 = some 1 from by kernel_rfl) rfl rfl) rfl rfl rfl ?_
  refine WO.val (run_load Ty.ag46 rfl ((hS2.cel_at 3 rfl 1).trans rfl)) rfl rfl rfl ?_
  have hsa : y.a.isSome = true := by obtain ⟨q, hq, _⟩ := (hS2.own_rd_i 4 rfl).2.1 (by omega); rw [hq]; rfl
  refine WO.val (run_indexAddr (q := adr y.a 0) Tryz.underlying46 Ty.sz47 rfl rfl (by omega) (by omega) ((hS2.own_rd_i 4 rfl).2.1 (by omega)) (by simp)) rfl rfl rfl ?_
  refine WO.val (run_load Ty.ag47 rfl ((hS2.own_rd_i 4 rfl).cell (by rw [List.getElem?_map, hgi]; rfl))) rfl rfl rfl ?_
  refine WO.val (run_nilCheck rfl) rfl rfl rfl ?_
  refine WO.val (run_fieldAddr (q := ⟨gi, 0, none⟩) (show fieldB Tryz.prog 63 0 = some 0 from by kernel_rfl) rfl rfl) rfl rfl rfl ?_
  refine WO.val (run_load Ty.ag3 rfl ((hS2.cel_at 0 rfl 0).trans rfl)) rfl rfl rfl ?_
  refine WO.asg rfl rfl ?_
  refine WO.nil (NX.go (WP.ret ?_))
  have hS3 := sqA_same hx hgi (St.sg_shut (x := x) (pi.1, pi.2) hS2)
  clear hS2
  replace hS3 : St B (sqA sgA y.gs lg.l :: cel g [Value.pointer (some ⟨gd, 0, none⟩), Value.slice y.a lg.l.length y.cap, handV lg.hand y.gs, Value.bool lg.begun, Value.int .i64 (lg.last : Int), Value.int .i64 (lg.durable : Int)] 49 :: own y.a lg.l.length y.cap 47 1 (y.gs.map ptrV) :: L) w := hS3
  refine NX.done (l := [.tmp 2]) rfl rfl ?_
  have e0 : firstL lg = x.first := by unfold firstL; cases hl0 : lg.l with | nil => (rw [hl0] at hx; simp at hx) | cons a b => (rw [hl0] at hx; simp at hx; rw [hx])
  rw [e0]
  exact ⟨rfl, (St.lg_shut (lg := lg) ⟨y.a, y.cap, y.gs⟩ (hS3.permT [1, 1, 0] (L' := cel g [Value.pointer (some ⟨gd, 0, none⟩), Value.slice y.a lg.l.length y.cap, handV lg.hand y.gs, Value.bool lg.begun, Value.int .i64 (lg.last : Int), Value.int .i64 (lg.durable : Int)] 49 :: own y.a lg.l.length y.cap 47 1 (y.gs.map ptrV) :: sqA sgA y.gs lg.l :: L) rfl))⟩
end Go.Proofs.YtiggkfaonnnjoaaGreatDoor.SL

/- The log: what belongs to it. -/
namespace Go.Proofs.YtiggkfaonnnjoaaGreatDoor.SL
open Go.RowKit Go.Proofs.YtiggkfaonnnjoaaGreatDoor
open Go.Proofs.YtiggkfaonnnjoaaGreatDoorW.PrintLast (rtab opsOf)
set_option linter.unusedVariables false
set_option linter.unusedSimpArgs false
theorem lend_spec_t3 : rtab .any (opsOf Tryz.f21 3) = (true, [([], []), ([0], [0]), ([1], [1]), ([2], [2]), ([], []), ([4], [4]), ([5], [5]), ([6], [6]), ([7], [7]), ([8], [8]), ([3, 9], [3, 9]), ([10], [10]), ([11], [11]), ([12, 12, 0, 1, 2, 3, 4, 5, 6, 7, 8, 9, 10, 11, 12], [12])]) := by kernel_rfl
theorem lend_spec {B w : World} {L : List HP} {g gd : Nat} {lg : Lg} (hk : OkL lg) (hS : St B (lgA g gd lg :: L) w) : Does Tryz.prog 21 [Value.pointer (some ⟨g, 0, none⟩)] w (fun v w1 => v = .int .i64 ((endL lg.l : Nat) : Int) ∧ St B (lgA g gd lg :: L) w1) := by
 obtain ⟨y, hgl, h0⟩ := hS.lg_open
 clear hS
 have hln := hk.n
 refine enter (n := 22) Tryz.func21 rfl rfl [Value.pointer (some ⟨g, 0, none⟩)] rfl ?_
 refine WP.seq (WP.region rfl ?_)
 refine WO.asg rfl rfl ?_
 refine WO.nil (NX.go (WP.seq (WP.seq (WP.region rfl ?_))))
 refine WO.mv rfl rfl ?_
 refine WO.val (run_nilCheck rfl) rfl rfl rfl ?_
 refine WO.val (run_fieldAddr (q := ⟨g, 1, none⟩) (show fieldB Tryz.prog 49 1 = some 1 from by kernel_rfl) rfl rfl) rfl rfl rfl ?_
 refine WO.val (run_load Ty.ag46 rfl ((h0.cel_at 0 rfl 1).trans rfl)) rfl rfl rfl ?_
 refine WO.val (run_len rfl Tryz.underlying46 rfl) rfl rfl rfl ?_
 refine WO.val (run_eql rfl rfl) rfl rfl rfl ?_
 refine WO.nil (NX.go ?_)
 refine WP.condP rfl (fun g8 => ?_) (fun g8 => ?_)
 ·
  refine WP.seq (WP.region rfl ?_)
  refine WO.asg rfl rfl ?_
  refine WO.nil (NX.go (WP.ret (NX.thenRet ?_)))
  refine NX.done (l := [.tmp 2]) rfl rfl ?_
  have e0 : endL lg.l = 0 := by cases hl0 : lg.l with | nil => rfl | cons a b => (rw [hl0, List.length_cons] at g8; omega)
  rw [e0]
  exact ⟨rfl, (St.lg_shut (lg := lg) ⟨y.a, y.cap, y.gs⟩ h0)⟩
 ·
  refine WP.skip (NX.go (WP.seq ?_))
  obtain ⟨x, hx⟩ : ∃ x, lg.l[lg.l.length - 1]? = some x := ⟨_, List.getElem?_eq_getElem (by omega)⟩
  have hxb := hk.one hx
  obtain ⟨gi, hgi, hS1⟩ := sqA_pick (i := (lg.l.length - 1)) hx (h0.permT [2, 0, 0] (L' := sqA sgA y.gs lg.l :: cel g [Value.pointer (some ⟨gd, 0, none⟩), Value.slice y.a lg.l.length y.cap, handV lg.hand y.gs, Value.bool lg.begun, Value.int .i64 (lg.last : Int), Value.int .i64 (lg.durable : Int)] 49 :: own y.a lg.l.length y.cap 47 1 (y.gs.map ptrV) :: L) rfl)
  clear h0
  obtain ⟨pi, hS2⟩ := hS1.sg_open
  clear hS1
  replace hS2 : St B (cel gi [Value.int .i64 (x.first : Int), Value.slice pi.1 x.rs.length pi.2, Value.int .i64 ((encR x.rs).length : Int), Value.bool x.dirty] 63 :: own pi.1 x.rs.length pi.2 3 1 (pis x.rs) :: sqBut sgA (lg.l.length - 1) y.gs lg.l :: cel g [Value.pointer (some ⟨gd, 0, none⟩), Value.slice y.a lg.l.length y.cap, handV lg.hand y.gs, Value.bool lg.begun, Value.int .i64 (lg.last : Int), Value.int .i64 (lg.durable : Int)] 49 :: own y.a lg.l.length y.cap 47 1 (y.gs.map ptrV) :: L) w := hS2
  have hsay : y.a.isSome = true := by obtain ⟨q, hq, _⟩ := (hS2.own_rd_i 4 rfl).2.1 (by omega); rw [hq]; rfl
  refine WD.start (fun w => (∀ jz, World.cell? w ⟨gi, jz, none⟩ = [Value.int .i64 (x.first : Int), Value.slice pi.1 x.rs.length pi.2, Value.int .i64 ((encR x.rs).length : Int), Value.bool x.dirty][jz]?) ∧ Rd w pi.1 x.rs.length 1 (pis x.rs) ∧ (∀ jz, World.cell? w ⟨g, jz, none⟩ = [Value.pointer (some ⟨gd, 0, none⟩), Value.slice y.a lg.l.length y.cap, handV lg.hand y.gs, Value.bool lg.begun, Value.int .i64 (lg.last : Int), Value.int .i64 (lg.durable : Int)][jz]?) ∧ Rd w y.a lg.l.length 1 (y.gs.map ptrV)) [] (bt 14 0) Ty.mo rfl (by kernel_rfl) hS2 (fun _ h => ⟨h.cel_at 0 rfl, (h.own_rd_i 1 rfl), h.cel_at 3 rfl, (h.own_rd_i 4 rfl)⟩) (fun w3 hS3 s4 => ?_)
  clear hS2
  refine WD.pure (i := 0) lend_spec_t3 (bt 14 1) rfl rfl rfl (by kernel_rfl) (PQ.then PQ.body) rfl (fun w => run_move rfl) ?_
  refine WD.pure (i := 1) lend_spec_t3 (bt 14 3) rfl rfl rfl (by kernel_rfl) (PQ.then PQ.body) rfl (fun w => run_nilCheck rfl) ?_
  refine WD.pure (i := 2) lend_spec_t3 (bt 14 7) rfl rfl rfl (by kernel_rfl) (PQ.then PQ.body) rfl (fun w => run_fieldAddr (q := ⟨g, 1, none⟩) (show fieldB Tryz.prog 49 1 = some 1 from by kernel_rfl) rfl rfl) ?_
  refine WD.take (i := 3) lend_spec_t3 (bt 14 15) s4 rfl rfl rfl (by kernel_rfl) (PQ.then PQ.body) rfl (fun w hs => run_load Ty.ag46 rfl ((hs.2.2.1 1).trans rfl)) ?_
  refine WD.pure (i := 4) lend_spec_t3 (bt 14 31) rfl rfl rfl (by kernel_rfl) (PQ.then PQ.body) rfl (fun w => run_move rfl) ?_
  refine WD.pure (i := 5) lend_spec_t3 (bt 14 63) rfl rfl rfl (by kernel_rfl) (PQ.then PQ.body) rfl (fun w => run_nilCheck rfl) ?_
  refine WD.pure (i := 6) lend_spec_t3 (bt 14 127) rfl rfl rfl (by kernel_rfl) (PQ.then PQ.body) rfl (fun w => run_fieldAddr (q := ⟨g, 1, none⟩) (show fieldB Tryz.prog 49 1 = some 1 from by kernel_rfl) rfl rfl) ?_
  refine WD.take (i := 7) lend_spec_t3 (bt 14 255) s4 rfl rfl rfl (by kernel_rfl) (PQ.then PQ.body) rfl (fun w hs => run_load Ty.ag46 rfl ((hs.2.2.1 1).trans rfl)) ?_
  refine WD.pure (i := 8) lend_spec_t3 (bt 14 511) rfl rfl rfl (by kernel_rfl) (PQ.then PQ.body) rfl (fun w => run_len rfl Tryz.underlying46 rfl) ?_
  refine WD.pure (i := 9) lend_spec_t3 (bt 14 1023) rfl rfl rfl (by kernel_rfl) (PQ.then PQ.body) rfl (fun w => run_sub rfl rfl (show IntKind.i64.wrap ((lg.l.length : Int) - 1) = ((lg.l.length - 1 : Nat) : Int) from by rw [IntWalk.i64_in _ (by omega)]; omega)) ?_
  refine WD.take (i := 10) lend_spec_t3 (bt 14 2047) s4 rfl rfl rfl (by kernel_rfl) (PQ.then PQ.body) rfl (fun w hs => run_indexAddr (q := adr y.a (lg.l.length - 1)) Tryz.underlying46 Ty.sz47 rfl rfl (by omega) (by omega) ((hs.2.2.2).2.1 (by omega)) (by simp)) ?_
  refine WD.take (i := 11) lend_spec_t3 (bt 14 4095) s4 rfl rfl rfl (by kernel_rfl) (PQ.then PQ.body) rfl (fun w hs => run_load Ty.ag47 rfl ((hs.2.2.2).cell (by rw [List.getElem?_map, hgi]; rfl))) ?_
  refine WD.one (i := 12) lend_spec_t3 (bt 14 8191) rfl (by kernel_rfl) ?_
  refine WO.call rfl rfl Ty.hd36 rfl (slast_spec (x := x) (by omega) hS3) (fun v6 w5 pv6 => ?_)
  obtain ⟨rfl, hS5⟩ := pv6
  clear hS3
  refine WO.nil ?_
  have s7 : (∀ jz, World.cell? w5 ⟨gi, jz, none⟩ = [Value.int .i64 (x.first : Int), Value.slice pi.1 x.rs.length pi.2, Value.int .i64 ((encR x.rs).length : Int), Value.bool x.dirty][jz]?) ∧ Rd w5 pi.1 x.rs.length 1 (pis x.rs) ∧ (∀ jz, World.cell? w5 ⟨g, jz, none⟩ = [Value.pointer (some ⟨gd, 0, none⟩), Value.slice y.a lg.l.length y.cap, handV lg.hand y.gs, Value.bool lg.begun, Value.int .i64 (lg.last : Int), Value.int .i64 (lg.durable : Int)][jz]?) ∧ Rd w5 y.a lg.l.length 1 (y.gs.map ptrV) := ⟨hS5.cel_at 0 rfl, (hS5.own_rd_i 1 rfl), hS5.cel_at 3 rfl, (hS5.own_rd_i 4 rfl)⟩
  refine NX.held s7 ?_
  refine WD.pure (i := 13) lend_spec_t3 (bt 14 16383) rfl rfl rfl (by kernel_rfl) (PQ.then PQ.body) rfl (fun w => run_assign rfl) ?_
  refine WD.done lend_spec_t3 (by kernel_rfl) ?_
  refine NX.go (WP.ret ?_)
  have hS8 := sqA_same hx hgi (St.sg_shut (x := x) (pi.1, pi.2) hS5)
  clear hS5
  replace hS8 : St B (sqA sgA y.gs lg.l :: cel g [Value.pointer (some ⟨gd, 0, none⟩), Value.slice y.a lg.l.length y.cap, handV lg.hand y.gs, Value.bool lg.begun, Value.int .i64 (lg.last : Int), Value.int .i64 (lg.durable : Int)] 49 :: own y.a lg.l.length y.cap 47 1 (y.gs.map ptrV) :: L) w5 := hS8
  refine NX.done (l := [.tmp 2]) rfl rfl ?_
  have e0 : endL lg.l = x.first + x.rs.length - 1 := endL_get hx
  rw [e0]
  exact ⟨by show Value.int .i64 _ = Value.int .i64 _; congr 1; omega, (St.lg_shut (lg := lg) ⟨y.a, y.cap, y.gs⟩ (hS8.permT [1, 1, 0] (L' := cel g [Value.pointer (some ⟨gd, 0, none⟩), Value.slice y.a lg.l.length y.cap, handV lg.hand y.gs, Value.bool lg.begun, Value.int .i64 (lg.last : Int), Value.int .i64 (lg.durable : Int)] 49 :: own y.a lg.l.length y.cap 47 1 (y.gs.map ptrV) :: sqA sgA y.gs lg.l :: L) rfl))⟩
theorem lfits_spec_t5 : rtab .any (opsOf Tryz.f20 5) = (true, [([], []), ([0], [0]), ([1], [1]), ([2], [2]), ([], []), ([4], [4]), ([5], [5]), ([3, 6], [3, 6]), ([7, 5, 0, 1, 2, 3, 4, 5, 6, 7], [7])]) := by kernel_rfl
theorem lfits_spec {B w : World} {L : List HP} {g gd gx : Nat} {lg : Lg} {x : Sg} (base : Nat) (hbs : base ≤ 99999999) (hk : OkL lg) (hS : St B (lgA g gd lg :: sgA gx x :: L) w) : Does Tryz.prog 20 [Value.pointer (some ⟨g, 0, none⟩), Value.pointer (some ⟨gx, 0, none⟩), Value.int .i64 (base : Int)] w (fun v w1 => v = .bool (fitsL lg.l x base) ∧ St B (lgA g gd lg :: sgA gx x :: L) w1) := by
 have hln := hk.n
 obtain ⟨px, h1⟩ := (hS.permT [1, 0] (L' := sgA gx x :: lgA g gd lg :: L) rfl).sg_open
 obtain ⟨y, hgl, h0⟩ := (h1.permT [2, 0, 0] (L' := lgA g gd lg :: cel gx [Value.int .i64 (x.first : Int), Value.slice px.1 x.rs.length px.2, Value.int .i64 ((encR x.rs).length : Int), Value.bool x.dirty] 63 :: own px.1 x.rs.length px.2 3 1 (pis x.rs) :: L) rfl).lg_open
 clear hS h1
 refine enter (n := 34) Tryz.func20 rfl rfl [Value.pointer (some ⟨g, 0, none⟩), Value.pointer (some ⟨gx, 0, none⟩), Value.int .i64 (base : Int)] rfl ?_
 refine WP.seq (WP.region rfl ?_)
 refine WO.asg rfl rfl ?_
 refine WO.nil (NX.go (WP.seq (WP.seq (WP.region rfl ?_))))
 refine WO.mv rfl rfl ?_
 refine WO.val (run_nilCheck rfl) rfl rfl rfl ?_
 refine WO.val (run_fieldAddr (q := ⟨gx, 1, none⟩) (show fieldB Tryz.prog 63 1 = some 1 from by kernel_rfl) rfl rfl) rfl rfl rfl ?_
 refine WO.val (run_load Ty.ag22 rfl ((h0.cel_at 3 rfl 1).trans rfl)) rfl rfl rfl ?_
 refine WO.val (run_len rfl Tryz.underlying22 rfl) rfl rfl rfl ?_
 refine WO.val (run_eql rfl rfl) rfl rfl rfl ?_
 refine WO.nil (NX.go ?_)
 refine WP.condP rfl (fun g12 => ?_) (fun g12 => ?_)
 ·
  refine WP.seq (WP.region rfl ?_)
  refine WO.asg rfl rfl ?_
  refine WO.nil (NX.go (WP.ret (NX.thenRet ?_)))
  have hS1 := (St.lg_shut (lg := lg) ⟨y.a, y.cap, y.gs⟩ h0)
  clear h0
  replace hS1 : St B (lgA g gd lg :: cel gx [Value.int .i64 (x.first : Int), Value.slice px.1 x.rs.length px.2, Value.int .i64 ((encR x.rs).length : Int), Value.bool x.dirty] 63 :: own px.1 x.rs.length px.2 3 1 (pis x.rs) :: L) w := hS1
  refine NX.done (l := [.tmp 6]) rfl rfl ?_
  have e0 : fitsL lg.l x base = false := by unfold fitsL; rw [decide_eq_false (show ¬ x.rs ≠ [] from fun h => h (List.length_eq_zero_iff.1 (by omega)))]; rfl
  rw [e0]
  exact ⟨rfl, ((St.sg_shut (x := x) px (hS1.permT [1, 1, 0] (L' := cel gx [Value.int .i64 (x.first : Int), Value.slice px.1 x.rs.length px.2, Value.int .i64 ((encR x.rs).length : Int), Value.bool x.dirty] 63 :: own px.1 x.rs.length px.2 3 1 (pis x.rs) :: lgA g gd lg :: L) rfl)).permT [1, 0] (L' := lgA g gd lg :: sgA gx x :: L) rfl)⟩
 ·
  refine WP.skip (NX.go (WP.seq (WP.seq (WP.region rfl ?_))))
  refine WO.mv rfl rfl ?_
  refine WO.val (run_nilCheck rfl) rfl rfl rfl ?_
  refine WO.val (run_fieldAddr (q := ⟨g, 1, none⟩) (show fieldB Tryz.prog 49 1 = some 1 from by kernel_rfl) rfl rfl) rfl rfl rfl ?_
  refine WO.val (run_load Ty.ag46 rfl ((h0.cel_at 0 rfl 1).trans rfl)) rfl rfl rfl ?_
  refine WO.val (run_len rfl Tryz.underlying46 rfl) rfl rfl rfl ?_
  refine WO.val (run_eql rfl rfl) rfl rfl rfl ?_
  refine WO.nil (NX.go ?_)
  refine WP.condP rfl (fun g18 => ?_) (fun g18 => ?_)
  ·
   refine WP.seq (WP.region rfl ?_)
   refine WO.mv rfl rfl ?_
   refine WO.val (run_nilCheck rfl) rfl rfl rfl ?_
   refine WO.val (run_fieldAddr (q := ⟨gx, 0, none⟩) (show fieldB Tryz.prog 63 0 = some 0 from by kernel_rfl) rfl rfl) rfl rfl rfl ?_
   refine WO.val (run_load Ty.ag3 rfl ((h0.cel_at 3 rfl 0).trans rfl)) rfl rfl rfl ?_
   refine WO.mv rfl rfl ?_
   refine WO.val (run_add rfl rfl (IntWalk.i64_in _ (by omega))) rfl rfl rfl ?_
   refine WO.val (run_leq rfl rfl) rfl rfl rfl ?_
   refine WO.asg rfl rfl ?_
   refine WO.nil (NX.go (WP.ret (NX.thenRet ?_)))
   have hS2 := (St.lg_shut (lg := lg) ⟨y.a, y.cap, y.gs⟩ h0)
   clear h0
   replace hS2 : St B (lgA g gd lg :: cel gx [Value.int .i64 (x.first : Int), Value.slice px.1 x.rs.length px.2, Value.int .i64 ((encR x.rs).length : Int), Value.bool x.dirty] 63 :: own px.1 x.rs.length px.2 3 1 (pis x.rs) :: L) w := hS2
   refine NX.done (l := [.tmp 6]) rfl rfl ?_
   have e0 : fitsL lg.l x base = decide ((x.first : Int) ≤ (base : Int) + 1) := by
    have h1 : lg.l = [] := List.length_eq_zero_iff.1 (by omega)
    unfold fitsL; rw [h1]; rw [decide_eq_true (show x.rs ≠ [] from fun h => by rw [h, List.length_nil] at g12; omega)]
    show (true && decide (x.first ≤ base + 1)) = _; rw [Bool.true_and]; exact decide_eq_decide.2 (by omega)
   rw [e0]
   exact ⟨rfl, ((St.sg_shut (x := x) px (hS2.permT [1, 1, 0] (L' := cel gx [Value.int .i64 (x.first : Int), Value.slice px.1 x.rs.length px.2, Value.int .i64 ((encR x.rs).length : Int), Value.bool x.dirty] 63 :: own px.1 x.rs.length px.2 3 1 (pis x.rs) :: lgA g gd lg :: L) rfl)).permT [1, 0] (L' := lgA g gd lg :: sgA gx x :: L) rfl)⟩
  ·
   refine WP.skip (NX.go (WP.seq ?_))
   have hS3 := (St.lg_shut (lg := lg) ⟨y.a, y.cap, y.gs⟩ h0)
   clear h0
   replace hS3 : St B (lgA g gd lg :: cel gx [Value.int .i64 (x.first : Int), Value.slice px.1 x.rs.length px.2, Value.int .i64 ((encR x.rs).length : Int), Value.bool x.dirty] 63 :: own px.1 x.rs.length px.2 3 1 (pis x.rs) :: L) w := hS3
   have heb : endL lg.l ≤ 1000000000 := by cases hq : lg.l[lg.l.length - 1]? with | none => (rw [List.getElem?_eq_none_iff] at hq; omega) | some z => (rw [endL_get hq]; have := (hk.one hq).1; unfold endS; omega)
   refine WD.start (fun w => (∀ jz, World.cell? w ⟨gx, jz, none⟩ = [Value.int .i64 (x.first : Int), Value.slice px.1 x.rs.length px.2, Value.int .i64 ((encR x.rs).length : Int), Value.bool x.dirty][jz]?) ∧ Rd w px.1 x.rs.length 1 (pis x.rs)) [] (bt 9 0) Ty.mo rfl (by kernel_rfl) hS3 (fun _ h => ⟨h.cel_at 1 rfl, (h.own_rd_i 2 rfl)⟩) (fun w4 hS4 s5 => ?_)
   clear hS3
   refine WD.pure (i := 0) lfits_spec_t5 (bt 9 1) rfl rfl rfl (by kernel_rfl) (PQ.then PQ.body) rfl (fun w => run_move rfl) ?_
   refine WD.pure (i := 1) lfits_spec_t5 (bt 9 3) rfl rfl rfl (by kernel_rfl) (PQ.then PQ.body) rfl (fun w => run_nilCheck rfl) ?_
   refine WD.pure (i := 2) lfits_spec_t5 (bt 9 7) rfl rfl rfl (by kernel_rfl) (PQ.then PQ.body) rfl (fun w => run_fieldAddr (q := ⟨gx, 0, none⟩) (show fieldB Tryz.prog 63 0 = some 0 from by kernel_rfl) rfl rfl) ?_
   refine WD.take (i := 3) lfits_spec_t5 (bt 9 15) s5 rfl rfl rfl (by kernel_rfl) (PQ.then PQ.body) rfl (fun w hs => run_load Ty.ag3 rfl ((hs.1 0).trans rfl)) ?_
   refine WD.pure (i := 4) lfits_spec_t5 (bt 9 31) rfl rfl rfl (by kernel_rfl) (PQ.then PQ.body) rfl (fun w => run_move rfl) ?_
   refine WD.one (i := 5) lfits_spec_t5 (bt 9 63) rfl (by kernel_rfl) ?_
   refine WO.call rfl rfl Ty.hd21 rfl (lend_spec hk hS4) (fun v7 w6 pv7 => ?_)
   obtain ⟨rfl, hS6⟩ := pv7
   clear hS4
   refine WO.nil ?_
   have s8 : (∀ jz, World.cell? w6 ⟨gx, jz, none⟩ = [Value.int .i64 (x.first : Int), Value.slice px.1 x.rs.length px.2, Value.int .i64 ((encR x.rs).length : Int), Value.bool x.dirty][jz]?) ∧ Rd w6 px.1 x.rs.length 1 (pis x.rs) := ⟨hS6.cel_at 1 rfl, (hS6.own_rd_i 2 rfl)⟩
   refine NX.held s8 ?_
   refine WD.pure (i := 6) lfits_spec_t5 (bt 9 127) rfl rfl rfl (by kernel_rfl) (PQ.then PQ.body) rfl (fun w => run_add rfl rfl (IntWalk.i64_in _ (by omega))) ?_
   refine WD.pure (i := 7) lfits_spec_t5 (bt 9 255) rfl rfl rfl (by kernel_rfl) (PQ.then PQ.body) rfl (fun w => run_eql rfl rfl) ?_
   refine WD.pure (i := 8) lfits_spec_t5 (bt 9 511) rfl rfl rfl (by kernel_rfl) (PQ.then PQ.body) rfl (fun w => run_assign rfl) ?_
   refine WD.done lfits_spec_t5 (by kernel_rfl) ?_
   refine NX.go (WP.ret ?_)
   refine NX.done (l := [.tmp 6]) rfl rfl ?_
   have e0 : fitsL lg.l x base = decide ((x.first : Int) = ((endL lg.l : Nat) : Int) + 1) := by
    obtain ⟨z, hz⟩ : ∃ z, lg.l[lg.l.length - 1]? = some z := ⟨_, List.getElem?_eq_getElem (by omega)⟩
    rw [endL_get hz]; unfold fitsL; rw [List.getLast?_eq_getElem?, hz]; rw [decide_eq_true (show x.rs ≠ [] from fun h => by rw [h, List.length_nil] at g12; omega)]
    show (true && decide (x.first = endS z + 1)) = _; rw [Bool.true_and]; exact decide_eq_decide.2 (by omega)
   rw [e0]
   exact ⟨rfl, ((St.sg_shut (x := x) px (hS6.permT [1, 1, 0] (L' := cel gx [Value.int .i64 (x.first : Int), Value.slice px.1 x.rs.length px.2, Value.int .i64 ((encR x.rs).length : Int), Value.bool x.dirty] 63 :: own px.1 x.rs.length px.2 3 1 (pis x.rs) :: lgA g gd lg :: L) rfl)).permT [1, 0] (L' := lgA g gd lg :: sgA gx x :: L) rfl)⟩
end Go.Proofs.YtiggkfaonnnjoaaGreatDoor.SL
