import Derived.Test.YtcehlnpbdffdhaaGreatDoorDk2M
/- The document's disk: its parts. -/
namespace Go.Proofs.YtcehlnpbdffdhaaGreatDoor.SL
open Go.RowKit Go.Proofs.YtcehlnpbdffdhaaGreatDoor
open Go.Proofs.YtcehlnpbdffdhaaGreatDoorW.PrintLast (rtab opsOf)
set_option linter.unusedVariables false
set_option linter.unusedSimpArgs false

def fcl (x : List UInt8 × Nat) : List Value := [str x.1, .int .i64 (x.2 : Int)]
def ccl (c : Chg) : List Value := [str c.fr, str c.tn, .int .i64 (c.fi : Int)]
theorem fcl_len (x : List UInt8 × Nat) : (fcl x).length = 2 := rfl
theorem ccl_len (x : Chg) : (ccl x).length = 3 := rfl
theorem fcl_noAgg : ∀ l : List (List UInt8 × Nat), (l.flatMap fcl).all noAgg = true
  | [] => rfl
  | x :: l => by rw [List.flatMap_cons, List.all_append, fcl_noAgg l]; rfl
structure RX where
  fa : Option Addr
  fc : Nat
  na : Option Addr
  nc : Nat
  la : Option Addr
  lc : Nat
  ca : Option Addr
  cc : Nat
def refA (g : Nat) (D : Dk) : HP := .ex fun rx : RX => .sep (cel g [Value.int .i64 D.room, Value.slice rx.fa D.f.length rx.fc, Value.slice rx.na D.nm.length rx.nc, Value.slice rx.la D.last.length rx.lc, Value.slice rx.ca D.ch.length rx.cc, Value.bool D.dead, Value.int .i64 D.left] 104) (.sep (own rx.fa D.f.length rx.fc 107 2 (D.f.flatMap fcl)) (.sep (ro rx.na D.nm.length 112 2 (D.nm.flatMap fcl)) (.sep (ro rx.la D.last.length 112 2 (D.last.flatMap fcl)) (own rx.ca D.ch.length rx.cc 110 3 (D.ch.flatMap ccl)))))
theorem St.rf_open {B w : World} {L : List HP} {g : Nat} {D : Dk} (h : St B (refA g D :: L) w) : ∃ rx : RX, St B (cel g [Value.int .i64 D.room, Value.slice rx.fa D.f.length rx.fc, Value.slice rx.na D.nm.length rx.nc, Value.slice rx.la D.last.length rx.lc, Value.slice rx.ca D.ch.length rx.cc, Value.bool D.dead, Value.int .i64 D.left] 104 :: own rx.fa D.f.length rx.fc 107 2 (D.f.flatMap fcl) :: ro rx.na D.nm.length 112 2 (D.nm.flatMap fcl) :: ro rx.la D.last.length 112 2 (D.last.flatMap fcl) :: own rx.ca D.ch.length rx.cc 110 3 (D.ch.flatMap ccl) :: L) w := by
  obtain ⟨rx, h1⟩ := h.ex
  have a2 := (h1.sep.permT [1, 0] rfl).sep
  have a3 := (a2.permT [1, 1, 0] (L' := _ :: _ :: _ :: L) rfl).sep
  have a4 := (a3.permT [1, 2, 1, 0] (L' := _ :: _ :: _ :: _ :: L) rfl).sep
  exact ⟨rx, a4.permT [3, 2, 2, 0, 0] rfl⟩
theorem St.rf_shut {B w : World} {L : List HP} {g : Nat} {D : Dk} (rx : RX) (h : St B (cel g [Value.int .i64 D.room, Value.slice rx.fa D.f.length rx.fc, Value.slice rx.na D.nm.length rx.nc, Value.slice rx.la D.last.length rx.lc, Value.slice rx.ca D.ch.length rx.cc, Value.bool D.dead, Value.int .i64 D.left] 104 :: own rx.fa D.f.length rx.fc 107 2 (D.f.flatMap fcl) :: ro rx.na D.nm.length 112 2 (D.nm.flatMap fcl) :: ro rx.la D.last.length 112 2 (D.last.flatMap fcl) :: own rx.ca D.ch.length rx.cc 110 3 (D.ch.flatMap ccl) :: L) w) : St B (refA g D :: L) w := by
  have a4 := (h.permT [3, 3, 2, 1, 0] (L' := ro rx.la D.last.length 112 2 (D.last.flatMap fcl) :: own rx.ca D.ch.length rx.cc 110 3 (D.ch.flatMap ccl) :: ro rx.na D.nm.length 112 2 (D.nm.flatMap fcl) :: own rx.fa D.f.length rx.fc 107 2 (D.f.flatMap fcl) :: cel g [Value.int .i64 D.room, Value.slice rx.fa D.f.length rx.fc, Value.slice rx.na D.nm.length rx.nc, Value.slice rx.la D.last.length rx.lc, Value.slice rx.ca D.ch.length rx.cc, Value.bool D.dead, Value.int .i64 D.left] 104 :: L) rfl).join
  have a3 := (a4.permT [1, 0] (L' := ro rx.na D.nm.length 112 2 (D.nm.flatMap fcl) :: .sep (ro rx.la D.last.length 112 2 (D.last.flatMap fcl)) (own rx.ca D.ch.length rx.cc 110 3 (D.ch.flatMap ccl)) :: own rx.fa D.f.length rx.fc 107 2 (D.f.flatMap fcl) :: cel g [Value.int .i64 D.room, Value.slice rx.fa D.f.length rx.fc, Value.slice rx.na D.nm.length rx.nc, Value.slice rx.la D.last.length rx.lc, Value.slice rx.ca D.ch.length rx.cc, Value.bool D.dead, Value.int .i64 D.left] 104 :: L) rfl).join
  have a2 := (a3.permT [1, 0] (L' := own rx.fa D.f.length rx.fc 107 2 (D.f.flatMap fcl) :: .sep (ro rx.na D.nm.length 112 2 (D.nm.flatMap fcl)) (.sep (ro rx.la D.last.length 112 2 (D.last.flatMap fcl)) (own rx.ca D.ch.length rx.cc 110 3 (D.ch.flatMap ccl))) :: cel g [Value.int .i64 D.room, Value.slice rx.fa D.f.length rx.fc, Value.slice rx.na D.nm.length rx.nc, Value.slice rx.la D.last.length rx.lc, Value.slice rx.ca D.ch.length rx.cc, Value.bool D.dead, Value.int .i64 D.left] 104 :: L) rfl).join
  have a1 := (a2.permT [1, 0] (L' := cel g [Value.int .i64 D.room, Value.slice rx.fa D.f.length rx.fc, Value.slice rx.na D.nm.length rx.nc, Value.slice rx.la D.last.length rx.lc, Value.slice rx.ca D.ch.length rx.cc, Value.bool D.dead, Value.int .i64 D.left] 104 :: .sep (own rx.fa D.f.length rx.fc 107 2 (D.f.flatMap fcl)) (.sep (ro rx.na D.nm.length 112 2 (D.nm.flatMap fcl)) (.sep (ro rx.la D.last.length 112 2 (D.last.flatMap fcl)) (own rx.ca D.ch.length rx.cc 110 3 (D.ch.flatMap ccl)))) :: L) rfl).join
  exact a1.give rx
theorem findN_drop {k : List UInt8} {l : Nm} {i : Nat} {e : List UInt8 × Nat} (h : l[i]? = some e) : findN k (l.drop i) = if k = e.1 then some e.2 else findN k (l.drop (i + 1)) := by
  obtain ⟨hi, he⟩ := List.getElem?_eq_some_iff.1 h
  rw [List.drop_eq_getElem_cons hi, he]; rfl
theorem r4write_spec {B w : World} {L : List HP} {g : Nat} {room left : Int} {vf vn vl vc : Value} {dead : Bool} (hl : -1 ≤ left) (hl2 : left ≤ 9223372036854775807) (hS : St B (cel g [Value.int .i64 room, vf, vn, vl, vc, Value.bool dead, Value.int .i64 left] 104 :: L) w) : Does Tryz.prog 64 [Value.pointer (some ⟨g, 0, none⟩)] w (fun v w1 => v = .bool (wOk dead left) ∧ St B (cel g [Value.int .i64 room, vf, vn, vl, vc, Value.bool (wDead dead left), Value.int .i64 (wLeft dead left)] 104 :: L) w1) := by
 refine enter (n := 27) Tryz.func64 rfl rfl [Value.pointer (some ⟨g, 0, none⟩)] rfl ?_
 refine WP.seq (WP.region rfl ?_)
 refine WO.asg rfl rfl ?_
 refine WO.nil (NX.go (WP.seq (WP.seq (WP.region rfl ?_))))
 refine WO.mv rfl rfl ?_
 refine WO.val (run_nilCheck rfl) rfl rfl rfl ?_
 refine WO.val (run_fieldAddr (q := ⟨g, 6, none⟩) (show fieldB Tryz.prog 104 6 = some 6 from by kernel_rfl) rfl rfl) rfl rfl rfl ?_
 refine WO.val (run_load Ty.ag3 rfl ((hS.cel_at 0 rfl 6).trans rfl)) rfl rfl rfl ?_
 refine WO.val (run_eql rfl rfl) rfl rfl rfl ?_
 refine WO.nil (NX.go ?_)
 refine WP.condP rfl (fun g7 => ?_) (fun g7 => ?_)
 ·
  refine WP.region rfl ?_
  refine WO.mv rfl rfl ?_
  refine WO.val (run_nilCheck rfl) rfl rfl rfl ?_
  refine WO.val (run_fieldAddr (q := ⟨g, 5, none⟩) (show fieldB Tryz.prog 104 5 = some 5 from by kernel_rfl) rfl rfl) rfl rfl rfl ?_
  refine WO.store (l' := [Value.int .i64 room, vf, vn, vl, vc, Value.bool true, Value.int .i64 left]) 0 hS rfl Ty.sz4 rfl rfl rfl rfl rfl (Nat.le_of_ble_eq_true rfl) rfl (fun w1 (hS1 : St B (cel g [Value.int .i64 room, vf, vn, vl, vc, Value.bool true, Value.int .i64 left] 104 :: L) w1) => ?_)
  clear hS
  refine WO.nil (NX.go (WP.seq (WP.seq (WP.region rfl ?_))))
  refine WO.mv rfl rfl ?_
  refine WO.val (run_nilCheck rfl) rfl rfl rfl ?_
  refine WO.val (run_fieldAddr (q := ⟨g, 5, none⟩) (show fieldB Tryz.prog 104 5 = some 5 from by kernel_rfl) rfl rfl) rfl rfl rfl ?_
  refine WO.val (run_load Ty.ag4 rfl ((hS1.cel_at 0 rfl 5).trans rfl)) rfl rfl rfl ?_
  refine WO.nil (NX.go ?_)
  refine WP.condT rfl rfl ?_
  refine WP.seq (WP.region rfl ?_)
  refine WO.asg rfl rfl ?_
  refine WO.nil (NX.go (WP.ret (NX.thenRet ?_)))
  refine NX.done (l := [.tmp 2]) rfl rfl ?_
  have e1 : wOk dead left = false := by unfold wOk; rw [if_pos g7]
  have e2 : wDead dead left = true := by unfold wDead; rw [if_pos g7]
  have e3 : wLeft dead left = left := by unfold wLeft; rw [if_pos g7]
  rw [e1, e2, e3]
  exact ⟨rfl, hS1⟩
 ·
  refine WP.skip (NX.go (WP.seq (WP.seq (WP.region rfl ?_))))
  refine WO.mv rfl rfl ?_
  refine WO.val (run_nilCheck rfl) rfl rfl rfl ?_
  refine WO.val (run_fieldAddr (q := ⟨g, 5, none⟩) (show fieldB Tryz.prog 104 5 = some 5 from by kernel_rfl) rfl rfl) rfl rfl rfl ?_
  refine WO.val (run_load Ty.ag4 rfl ((hS.cel_at 0 rfl 5).trans rfl)) rfl rfl rfl ?_
  refine WO.nil (NX.go ?_)
  refine WP.condB rfl (fun g14 => ?_) (fun g14 => ?_)
  ·
   refine WP.seq (WP.region rfl ?_)
   refine WO.asg rfl rfl ?_
   refine WO.nil (NX.go (WP.ret (NX.thenRet ?_)))
   refine NX.done (l := [.tmp 2]) rfl rfl ?_
   have e1 : wOk dead left = false := by unfold wOk; rw [if_neg g7, g14]; rfl
   have e2 : wDead dead left = dead := by unfold wDead; rw [if_neg g7]
   have e3 : wLeft dead left = left := by unfold wLeft; rw [if_neg g7, if_pos g14]
   rw [e1, e2, e3]
   exact ⟨rfl, hS⟩
  ·
   refine WP.skip (NX.go (WP.seq (WP.seq (WP.region rfl ?_))))
   refine WO.mv rfl rfl ?_
   refine WO.val (run_nilCheck rfl) rfl rfl rfl ?_
   refine WO.val (run_fieldAddr (q := ⟨g, 6, none⟩) (show fieldB Tryz.prog 104 6 = some 6 from by kernel_rfl) rfl rfl) rfl rfl rfl ?_
   refine WO.val (run_load Ty.ag3 rfl ((hS.cel_at 0 rfl 6).trans rfl)) rfl rfl rfl ?_
   refine WO.val (run_gtr rfl rfl) rfl rfl rfl ?_
   refine WO.nil (NX.go ?_)
   refine WP.condP rfl (fun g19 => ?_) (fun g19 => ?_)
   ·
    refine WP.region rfl ?_
    refine WO.mv rfl rfl ?_
    refine WO.val (run_nilCheck rfl) rfl rfl rfl ?_
    refine WO.val (run_fieldAddr (q := ⟨g, 6, none⟩) (show fieldB Tryz.prog 104 6 = some 6 from by kernel_rfl) rfl rfl) rfl rfl rfl ?_
    refine WO.val (run_load Ty.ag3 rfl ((hS.cel_at 0 rfl 6).trans rfl)) rfl rfl rfl ?_
    refine WO.val (run_sub rfl rfl (IntWalk.i64_in _ (by omega))) rfl rfl rfl ?_
    refine WO.val (run_nilCheck rfl) rfl rfl rfl ?_
    refine WO.val (run_fieldAddr (q := ⟨g, 6, none⟩) (show fieldB Tryz.prog 104 6 = some 6 from by kernel_rfl) rfl rfl) rfl rfl rfl ?_
    refine WO.store (l' := [Value.int .i64 room, vf, vn, vl, vc, Value.bool dead, Value.int .i64 (left - 1)]) 0 hS rfl Ty.sz3 rfl rfl rfl rfl rfl (Nat.le_of_ble_eq_true rfl) rfl (fun w2 (hS2 : St B (cel g [Value.int .i64 room, vf, vn, vl, vc, Value.bool dead, Value.int .i64 (left - 1)] 104 :: L) w2) => ?_)
    clear hS
    refine WO.nil (NX.go (WP.seq (WP.region rfl ?_)))
    refine WO.asg rfl rfl ?_
    refine WO.nil (NX.go (WP.ret ?_))
    refine NX.done (l := [.tmp 2]) rfl rfl ?_
    have e1 : wOk dead left = true := by unfold wOk; rw [if_neg g7, g14]; rfl
    have e2 : wDead dead left = dead := by unfold wDead; rw [if_neg g7]
    have e3 : wLeft dead left = left - 1 := by unfold wLeft; rw [if_neg g7, if_neg (by rw [g14]; decide)]; split <;> omega
    rw [e1, e2, e3]
    exact ⟨rfl, hS2⟩
   ·
    refine WP.skip (NX.go (WP.seq (WP.region rfl ?_)))
    refine WO.asg rfl rfl ?_
    refine WO.nil (NX.go (WP.ret ?_))
    refine NX.done (l := [.tmp 2]) rfl rfl ?_
    have e1 : wOk dead left = true := by unfold wOk; rw [if_neg g7, g14]; rfl
    have e2 : wDead dead left = dead := by unfold wDead; rw [if_neg g7]
    have e3 : wLeft dead left = left := by unfold wLeft; rw [if_neg g7, if_neg (by rw [g14]; decide)]; split <;> omega
    rw [e1, e2, e3]
    exact ⟨rfl, hS⟩
theorem r4name_spec {B w : World} {L : List HP} (s : List UInt8) (hs : s.length ≤ 9223372036854775806) (hS : St B L w) : Does Tryz.prog 65 [str s] w (fun v w1 => v = .bool (fileF s) ∧ St B L w1) := by
 refine enter (n := 52) Tryz.func65 rfl rfl [str s] rfl ?_
 refine WP.seq (WP.region rfl ?_)
 refine WO.asg rfl rfl ?_
 refine WO.nil (NX.go (WP.seq (WP.seq (WP.region rfl ?_))))
 refine WO.asg rfl rfl ?_
 refine WO.nil (NX.go (WP.block ?_))
 refine WP.loop (α := Nat) (fun x => match x with | i => [(0, str s), (3, Value.int .i64 (i : Int))]) (fun x w => match x with | i => (i ≤ s.length ∧ ∀ j b, j < i → s[j]? = some b → fileB b) ∧ St B (L) w) (fun x => match x with | i => s.length - i) 0 ⟨⟨Nat.zero_le _, fun j b h => absurd h (by omega)⟩, hS⟩ (Sub.cons rfl (Sub.consE rfl (by first | rfl | first | rfl | (congr 1; omega) | (simp; done) | (simp; omega)) (Sub.nil _))) ?_
 rintro i w1 ⟨⟨hi, hok⟩, hS1⟩
 clear hS
 refine WP.seq (WP.seq (WP.region rfl ?_))
 refine WO.mv rfl rfl ?_
 refine WO.mv rfl rfl ?_
 refine WO.val (run_lenS rfl Tryz.underlying9 rfl) rfl rfl rfl ?_
 refine WO.val (run_lss rfl rfl) rfl rfl rfl ?_
 refine WO.nil (NX.go ?_)
 refine WP.condP rfl (fun g7 => ?_) (fun g7 => ?_)
 ·
  refine WP.skip (NX.go (WP.seq (WP.block (WP.seq (WP.region rfl ?_)))))
  refine WO.mv rfl rfl ?_
  refine WO.mv rfl rfl ?_
  obtain ⟨b, hb⟩ : ∃ b, s[i]? = some b := ⟨_, List.getElem?_eq_getElem (by omega)⟩
  have hb8 := UInt8.toNat_lt b
  refine WO.val (run_indexS Tryz.underlying9 rfl rfl (by omega) (by rw [Int.toNat_natCast]; exact hb)) rfl rfl rfl ?_
  refine WO.val (run_lss rfl rfl) rfl rfl rfl ?_
  refine WO.mv rfl rfl ?_
  by_cases g14 : (b.toNat : Int) < 97
  ·
   refine WO.off rfl rfl (decide_eq_true g14) rfl ?_
   refine WO.off rfl rfl (decide_eq_true g14) rfl ?_
   refine WO.off rfl rfl (decide_eq_true g14) rfl ?_
   refine WO.off rfl rfl (decide_eq_true g14) rfl ?_
   refine WO.val (run_pickT rfl (decide_eq_true g14) rfl) rfl rfl rfl ?_
   refine WO.mv rfl rfl ?_
   refine WO.on rfl rfl rfl ?_
   refine WO.mv rfl rfl ?_
   refine WO.on rfl rfl rfl ?_
   refine WO.mv rfl rfl ?_
   refine WO.on rfl rfl rfl ?_
   refine WO.val (run_indexS Tryz.underlying9 rfl rfl (by omega) (by rw [Int.toNat_natCast]; exact hb)) rfl rfl rfl ?_
   refine WO.on rfl rfl rfl ?_
   refine WO.val (run_lss rfl rfl) rfl rfl rfl ?_
   refine WO.on rfl rfl rfl ?_
   refine WO.mv rfl rfl ?_
   by_cases g25 : (b.toNat : Int) < 48
   ·
    refine WO.off rfl rfl (decide_eq_true g25) rfl ?_
    refine WO.off rfl rfl (decide_eq_true g25) rfl ?_
    refine WO.off rfl rfl (decide_eq_true g25) rfl ?_
    refine WO.off rfl rfl (decide_eq_true g25) rfl ?_
    refine WO.on rfl rfl rfl ?_
    refine WO.val (run_pickT rfl (decide_eq_true g25) rfl) rfl rfl rfl ?_
    refine WO.val (run_pickT rfl rfl rfl) rfl rfl rfl ?_
    refine WO.mv rfl rfl ?_
    refine WO.on rfl rfl rfl ?_
    refine WO.mv rfl rfl ?_
    refine WO.on rfl rfl rfl ?_
    refine WO.mv rfl rfl ?_
    refine WO.on rfl rfl rfl ?_
    refine WO.val (run_indexS Tryz.underlying9 rfl rfl (by omega) (by rw [Int.toNat_natCast]; exact hb)) rfl rfl rfl ?_
    refine WO.on rfl rfl rfl ?_
    refine WO.val (run_neq rfl rfl) rfl rfl rfl ?_
    refine WO.val (run_pickT rfl rfl rfl) rfl rfl rfl ?_
    refine WO.mv rfl rfl ?_
    by_cases g38 : ¬ (b.toNat : Int) = 46
    ·
     refine WO.on rfl rfl (decide_eq_true g38) ?_
     refine WO.mv rfl rfl ?_
     refine WO.on rfl rfl (decide_eq_true g38) ?_
     refine WO.mv rfl rfl ?_
     refine WO.on rfl rfl (decide_eq_true g38) ?_
     refine WO.val (run_indexS Tryz.underlying9 rfl rfl (by omega) (by rw [Int.toNat_natCast]; exact hb)) rfl rfl rfl ?_
     refine WO.on rfl rfl (decide_eq_true g38) ?_
     refine WO.val (run_neq rfl rfl) rfl rfl rfl ?_
     refine WO.val (run_pickT rfl (decide_eq_true g38) rfl) rfl rfl rfl ?_
     refine WO.nil (NX.go ?_)
     refine WP.condP rfl (fun g43 => ?_) (fun g43 => ?_)
     ·
      refine WP.seq (WP.region rfl ?_)
      refine WO.asg rfl rfl ?_
      refine WO.nil (NX.go (WP.ret (NX.blkRet (NX.thenRet (NX.thenRet (NX.blkRet (NX.thenRet ?_)))))))
      refine NX.done (l := [.tmp 2]) rfl rfl ?_
      exact ⟨congrArg Value.bool (decide_eq_false (fun h => absurd (h.2.2 b (List.mem_of_getElem? hb)) (by unfold fileB; omega))).symm, hS1⟩
     ·
      refine WP.skip (NX.blk (NX.go (WP.region rfl ?_)))
      refine WO.mv rfl rfl ?_
      refine WO.val (run_add rfl rfl (IntWalk.i64_in _ (by omega))) rfl rfl rfl ?_
      refine WO.asg rfl rfl ?_
      refine WO.nil ?_
      exact NX.again (i + 1) ⟨⟨by omega, file_next hok hb (by unfold fileB; omega)⟩, hS1⟩ (by show s.length - (i + 1) < s.length - i; omega) (Sub.cons rfl (Sub.consE rfl (by congr 1) (Sub.nil _)))
    ·
     refine WO.off rfl rfl (decide_eq_false g38) rfl ?_
     refine WO.off rfl rfl (decide_eq_false g38) rfl ?_
     refine WO.off rfl rfl (decide_eq_false g38) rfl ?_
     refine WO.off rfl rfl (decide_eq_false g38) rfl ?_
     refine WO.val (run_pickF rfl (decide_eq_false g38) rfl) rfl rfl rfl ?_
     refine WO.nil (NX.go ?_)
     refine WP.condF rfl rfl ?_
     refine WP.skip (NX.blk (NX.go (WP.region rfl ?_)))
     refine WO.mv rfl rfl ?_
     refine WO.val (run_add rfl rfl (IntWalk.i64_in _ (by omega))) rfl rfl rfl ?_
     refine WO.asg rfl rfl ?_
     refine WO.nil ?_
     exact NX.again (i + 1) ⟨⟨by omega, file_next hok hb (by unfold fileB; omega)⟩, hS1⟩ (by show s.length - (i + 1) < s.length - i; omega) (Sub.cons rfl (Sub.consE rfl (by congr 1) (Sub.nil _)))
   ·
    refine WO.on rfl rfl (decide_eq_false g25) ?_
    refine WO.mv rfl rfl ?_
    refine WO.on rfl rfl (decide_eq_false g25) ?_
    refine WO.mv rfl rfl ?_
    refine WO.on rfl rfl (decide_eq_false g25) ?_
    refine WO.val (run_indexS Tryz.underlying9 rfl rfl (by omega) (by rw [Int.toNat_natCast]; exact hb)) rfl rfl rfl ?_
    refine WO.on rfl rfl (decide_eq_false g25) ?_
    refine WO.val (run_gtr rfl rfl) rfl rfl rfl ?_
    refine WO.on rfl rfl rfl ?_
    refine WO.val (run_pickF rfl (decide_eq_false g25) rfl) rfl rfl rfl ?_
    refine WO.val (run_pickT rfl rfl rfl) rfl rfl rfl ?_
    refine WO.mv rfl rfl ?_
    by_cases g32 : 57 < (b.toNat : Int)
    ·
     refine WO.on rfl rfl (decide_eq_true g32) ?_
     refine WO.mv rfl rfl ?_
     refine WO.on rfl rfl (decide_eq_true g32) ?_
     refine WO.mv rfl rfl ?_
     refine WO.on rfl rfl (decide_eq_true g32) ?_
     refine WO.val (run_indexS Tryz.underlying9 rfl rfl (by omega) (by rw [Int.toNat_natCast]; exact hb)) rfl rfl rfl ?_
     refine WO.on rfl rfl (decide_eq_true g32) ?_
     refine WO.val (run_neq rfl rfl) rfl rfl rfl ?_
     refine WO.val (run_pickT rfl (decide_eq_true g32) rfl) rfl rfl rfl ?_
     refine WO.mv rfl rfl ?_
     by_cases g38 : ¬ (b.toNat : Int) = 46
     ·
      refine WO.on rfl rfl (decide_eq_true g38) ?_
      refine WO.mv rfl rfl ?_
      refine WO.on rfl rfl (decide_eq_true g38) ?_
      refine WO.mv rfl rfl ?_
      refine WO.on rfl rfl (decide_eq_true g38) ?_
      refine WO.val (run_indexS Tryz.underlying9 rfl rfl (by omega) (by rw [Int.toNat_natCast]; exact hb)) rfl rfl rfl ?_
      refine WO.on rfl rfl (decide_eq_true g38) ?_
      refine WO.val (run_neq rfl rfl) rfl rfl rfl ?_
      refine WO.val (run_pickT rfl (decide_eq_true g38) rfl) rfl rfl rfl ?_
      refine WO.nil (NX.go ?_)
      refine WP.condP rfl (fun g43 => ?_) (fun g43 => ?_)
      ·
       refine WP.seq (WP.region rfl ?_)
       refine WO.asg rfl rfl ?_
       refine WO.nil (NX.go (WP.ret (NX.blkRet (NX.thenRet (NX.thenRet (NX.blkRet (NX.thenRet ?_)))))))
       refine NX.done (l := [.tmp 2]) rfl rfl ?_
       exact ⟨congrArg Value.bool (decide_eq_false (fun h => absurd (h.2.2 b (List.mem_of_getElem? hb)) (by unfold fileB; omega))).symm, hS1⟩
      ·
       refine WP.skip (NX.blk (NX.go (WP.region rfl ?_)))
       refine WO.mv rfl rfl ?_
       refine WO.val (run_add rfl rfl (IntWalk.i64_in _ (by omega))) rfl rfl rfl ?_
       refine WO.asg rfl rfl ?_
       refine WO.nil ?_
       exact NX.again (i + 1) ⟨⟨by omega, file_next hok hb (by unfold fileB; omega)⟩, hS1⟩ (by show s.length - (i + 1) < s.length - i; omega) (Sub.cons rfl (Sub.consE rfl (by congr 1) (Sub.nil _)))
     ·
      refine WO.off rfl rfl (decide_eq_false g38) rfl ?_
      refine WO.off rfl rfl (decide_eq_false g38) rfl ?_
      refine WO.off rfl rfl (decide_eq_false g38) rfl ?_
      refine WO.off rfl rfl (decide_eq_false g38) rfl ?_
      refine WO.val (run_pickF rfl (decide_eq_false g38) rfl) rfl rfl rfl ?_
      refine WO.nil (NX.go ?_)
      refine WP.condF rfl rfl ?_
      refine WP.skip (NX.blk (NX.go (WP.region rfl ?_)))
      refine WO.mv rfl rfl ?_
      refine WO.val (run_add rfl rfl (IntWalk.i64_in _ (by omega))) rfl rfl rfl ?_
      refine WO.asg rfl rfl ?_
      refine WO.nil ?_
      exact NX.again (i + 1) ⟨⟨by omega, file_next hok hb (by unfold fileB; omega)⟩, hS1⟩ (by show s.length - (i + 1) < s.length - i; omega) (Sub.cons rfl (Sub.consE rfl (by congr 1) (Sub.nil _)))
    ·
     refine WO.off rfl rfl (decide_eq_false g32) rfl ?_
     refine WO.off rfl rfl (decide_eq_false g32) rfl ?_
     refine WO.off rfl rfl (decide_eq_false g32) rfl ?_
     refine WO.off rfl rfl (decide_eq_false g32) rfl ?_
     refine WO.val (run_pickF rfl (decide_eq_false g32) rfl) rfl rfl rfl ?_
     refine WO.mv rfl rfl ?_
     refine WO.off rfl rfl rfl rfl ?_
     refine WO.off rfl rfl rfl rfl ?_
     refine WO.off rfl rfl rfl rfl ?_
     refine WO.off rfl rfl rfl rfl ?_
     refine WO.val (run_pickF rfl rfl rfl) rfl rfl rfl ?_
     refine WO.nil (NX.go ?_)
     refine WP.condF rfl rfl ?_
     refine WP.skip (NX.blk (NX.go (WP.region rfl ?_)))
     refine WO.mv rfl rfl ?_
     refine WO.val (run_add rfl rfl (IntWalk.i64_in _ (by omega))) rfl rfl rfl ?_
     refine WO.asg rfl rfl ?_
     refine WO.nil ?_
     exact NX.again (i + 1) ⟨⟨by omega, file_next hok hb (by unfold fileB; omega)⟩, hS1⟩ (by show s.length - (i + 1) < s.length - i; omega) (Sub.cons rfl (Sub.consE rfl (by congr 1) (Sub.nil _)))
  ·
   refine WO.on rfl rfl (decide_eq_false g14) ?_
   refine WO.mv rfl rfl ?_
   refine WO.on rfl rfl (decide_eq_false g14) ?_
   refine WO.mv rfl rfl ?_
   refine WO.on rfl rfl (decide_eq_false g14) ?_
   refine WO.val (run_indexS Tryz.underlying9 rfl rfl (by omega) (by rw [Int.toNat_natCast]; exact hb)) rfl rfl rfl ?_
   refine WO.on rfl rfl (decide_eq_false g14) ?_
   refine WO.val (run_gtr rfl rfl) rfl rfl rfl ?_
   refine WO.val (run_pickF rfl (decide_eq_false g14) rfl) rfl rfl rfl ?_
   refine WO.mv rfl rfl ?_
   by_cases g20 : 122 < (b.toNat : Int)
   ·
    refine WO.on rfl rfl (decide_eq_true g20) ?_
    refine WO.mv rfl rfl ?_
    refine WO.on rfl rfl (decide_eq_true g20) ?_
    refine WO.mv rfl rfl ?_
    refine WO.on rfl rfl (decide_eq_true g20) ?_
    refine WO.val (run_indexS Tryz.underlying9 rfl rfl (by omega) (by rw [Int.toNat_natCast]; exact hb)) rfl rfl rfl ?_
    refine WO.on rfl rfl (decide_eq_true g20) ?_
    refine WO.val (run_lss rfl rfl) rfl rfl rfl ?_
    refine WO.on rfl rfl (decide_eq_true g20) ?_
    refine WO.mv rfl rfl ?_
    by_cases g25 : (b.toNat : Int) < 48
    ·
     refine WO.off rfl rfl (decide_eq_true g25) rfl ?_
     refine WO.off rfl rfl (decide_eq_true g25) rfl ?_
     refine WO.off rfl rfl (decide_eq_true g25) rfl ?_
     refine WO.off rfl rfl (decide_eq_true g25) rfl ?_
     refine WO.on rfl rfl (decide_eq_true g20) ?_
     refine WO.val (run_pickT rfl (decide_eq_true g25) rfl) rfl rfl rfl ?_
     refine WO.val (run_pickT rfl (decide_eq_true g20) rfl) rfl rfl rfl ?_
     refine WO.mv rfl rfl ?_
     refine WO.on rfl rfl rfl ?_
     refine WO.mv rfl rfl ?_
     refine WO.on rfl rfl rfl ?_
     refine WO.mv rfl rfl ?_
     refine WO.on rfl rfl rfl ?_
     refine WO.val (run_indexS Tryz.underlying9 rfl rfl (by omega) (by rw [Int.toNat_natCast]; exact hb)) rfl rfl rfl ?_
     refine WO.on rfl rfl rfl ?_
     refine WO.val (run_neq rfl rfl) rfl rfl rfl ?_
     refine WO.val (run_pickT rfl rfl rfl) rfl rfl rfl ?_
     refine WO.mv rfl rfl ?_
     by_cases g38 : ¬ (b.toNat : Int) = 46
     ·
      refine WO.on rfl rfl (decide_eq_true g38) ?_
      refine WO.mv rfl rfl ?_
      refine WO.on rfl rfl (decide_eq_true g38) ?_
      refine WO.mv rfl rfl ?_
      refine WO.on rfl rfl (decide_eq_true g38) ?_
      refine WO.val (run_indexS Tryz.underlying9 rfl rfl (by omega) (by rw [Int.toNat_natCast]; exact hb)) rfl rfl rfl ?_
      refine WO.on rfl rfl (decide_eq_true g38) ?_
      refine WO.val (run_neq rfl rfl) rfl rfl rfl ?_
      refine WO.val (run_pickT rfl (decide_eq_true g38) rfl) rfl rfl rfl ?_
      refine WO.nil (NX.go ?_)
      refine WP.condP rfl (fun g43 => ?_) (fun g43 => ?_)
      ·
       refine WP.seq (WP.region rfl ?_)
       refine WO.asg rfl rfl ?_
       refine WO.nil (NX.go (WP.ret (NX.blkRet (NX.thenRet (NX.thenRet (NX.blkRet (NX.thenRet ?_)))))))
       refine NX.done (l := [.tmp 2]) rfl rfl ?_
       exact ⟨congrArg Value.bool (decide_eq_false (fun h => absurd (h.2.2 b (List.mem_of_getElem? hb)) (by unfold fileB; omega))).symm, hS1⟩
      ·
       refine WP.skip (NX.blk (NX.go (WP.region rfl ?_)))
       refine WO.mv rfl rfl ?_
       refine WO.val (run_add rfl rfl (IntWalk.i64_in _ (by omega))) rfl rfl rfl ?_
       refine WO.asg rfl rfl ?_
       refine WO.nil ?_
       exact NX.again (i + 1) ⟨⟨by omega, file_next hok hb (by unfold fileB; omega)⟩, hS1⟩ (by show s.length - (i + 1) < s.length - i; omega) (Sub.cons rfl (Sub.consE rfl (by congr 1) (Sub.nil _)))
     ·
      refine WO.off rfl rfl (decide_eq_false g38) rfl ?_
      refine WO.off rfl rfl (decide_eq_false g38) rfl ?_
      refine WO.off rfl rfl (decide_eq_false g38) rfl ?_
      refine WO.off rfl rfl (decide_eq_false g38) rfl ?_
      refine WO.val (run_pickF rfl (decide_eq_false g38) rfl) rfl rfl rfl ?_
      refine WO.nil (NX.go ?_)
      refine WP.condF rfl rfl ?_
      refine WP.skip (NX.blk (NX.go (WP.region rfl ?_)))
      refine WO.mv rfl rfl ?_
      refine WO.val (run_add rfl rfl (IntWalk.i64_in _ (by omega))) rfl rfl rfl ?_
      refine WO.asg rfl rfl ?_
      refine WO.nil ?_
      exact NX.again (i + 1) ⟨⟨by omega, file_next hok hb (by unfold fileB; omega)⟩, hS1⟩ (by show s.length - (i + 1) < s.length - i; omega) (Sub.cons rfl (Sub.consE rfl (by congr 1) (Sub.nil _)))
    ·
     refine WO.on rfl rfl (decide_eq_false g25) ?_
     refine WO.mv rfl rfl ?_
     refine WO.on rfl rfl (decide_eq_false g25) ?_
     refine WO.mv rfl rfl ?_
     refine WO.on rfl rfl (decide_eq_false g25) ?_
     refine WO.val (run_indexS Tryz.underlying9 rfl rfl (by omega) (by rw [Int.toNat_natCast]; exact hb)) rfl rfl rfl ?_
     refine WO.on rfl rfl (decide_eq_false g25) ?_
     refine WO.val (run_gtr rfl rfl) rfl rfl rfl ?_
     refine WO.on rfl rfl (decide_eq_true g20) ?_
     refine WO.val (run_pickF rfl (decide_eq_false g25) rfl) rfl rfl rfl ?_
     refine WO.val (run_pickT rfl (decide_eq_true g20) rfl) rfl rfl rfl ?_
     refine WO.mv rfl rfl ?_
     by_cases g32 : 57 < (b.toNat : Int)
     ·
      refine WO.on rfl rfl (decide_eq_true g32) ?_
      refine WO.mv rfl rfl ?_
      refine WO.on rfl rfl (decide_eq_true g32) ?_
      refine WO.mv rfl rfl ?_
      refine WO.on rfl rfl (decide_eq_true g32) ?_
      refine WO.val (run_indexS Tryz.underlying9 rfl rfl (by omega) (by rw [Int.toNat_natCast]; exact hb)) rfl rfl rfl ?_
      refine WO.on rfl rfl (decide_eq_true g32) ?_
      refine WO.val (run_neq rfl rfl) rfl rfl rfl ?_
      refine WO.val (run_pickT rfl (decide_eq_true g32) rfl) rfl rfl rfl ?_
      refine WO.mv rfl rfl ?_
      by_cases g38 : ¬ (b.toNat : Int) = 46
      ·
       refine WO.on rfl rfl (decide_eq_true g38) ?_
       refine WO.mv rfl rfl ?_
       refine WO.on rfl rfl (decide_eq_true g38) ?_
       refine WO.mv rfl rfl ?_
       refine WO.on rfl rfl (decide_eq_true g38) ?_
       refine WO.val (run_indexS Tryz.underlying9 rfl rfl (by omega) (by rw [Int.toNat_natCast]; exact hb)) rfl rfl rfl ?_
       refine WO.on rfl rfl (decide_eq_true g38) ?_
       refine WO.val (run_neq rfl rfl) rfl rfl rfl ?_
       refine WO.val (run_pickT rfl (decide_eq_true g38) rfl) rfl rfl rfl ?_
       refine WO.nil (NX.go ?_)
       refine WP.condP rfl (fun g43 => ?_) (fun g43 => ?_)
       ·
        refine WP.seq (WP.region rfl ?_)
        refine WO.asg rfl rfl ?_
        refine WO.nil (NX.go (WP.ret (NX.blkRet (NX.thenRet (NX.thenRet (NX.blkRet (NX.thenRet ?_)))))))
        refine NX.done (l := [.tmp 2]) rfl rfl ?_
        exact ⟨congrArg Value.bool (decide_eq_false (fun h => absurd (h.2.2 b (List.mem_of_getElem? hb)) (by unfold fileB; omega))).symm, hS1⟩
       ·
        refine WP.skip (NX.blk (NX.go (WP.region rfl ?_)))
        refine WO.mv rfl rfl ?_
        refine WO.val (run_add rfl rfl (IntWalk.i64_in _ (by omega))) rfl rfl rfl ?_
        refine WO.asg rfl rfl ?_
        refine WO.nil ?_
        exact NX.again (i + 1) ⟨⟨by omega, file_next hok hb (by unfold fileB; omega)⟩, hS1⟩ (by show s.length - (i + 1) < s.length - i; omega) (Sub.cons rfl (Sub.consE rfl (by congr 1) (Sub.nil _)))
      ·
       refine WO.off rfl rfl (decide_eq_false g38) rfl ?_
       refine WO.off rfl rfl (decide_eq_false g38) rfl ?_
       refine WO.off rfl rfl (decide_eq_false g38) rfl ?_
       refine WO.off rfl rfl (decide_eq_false g38) rfl ?_
       refine WO.val (run_pickF rfl (decide_eq_false g38) rfl) rfl rfl rfl ?_
       refine WO.nil (NX.go ?_)
       refine WP.condF rfl rfl ?_
       refine WP.skip (NX.blk (NX.go (WP.region rfl ?_)))
       refine WO.mv rfl rfl ?_
       refine WO.val (run_add rfl rfl (IntWalk.i64_in _ (by omega))) rfl rfl rfl ?_
       refine WO.asg rfl rfl ?_
       refine WO.nil ?_
       exact NX.again (i + 1) ⟨⟨by omega, file_next hok hb (by unfold fileB; omega)⟩, hS1⟩ (by show s.length - (i + 1) < s.length - i; omega) (Sub.cons rfl (Sub.consE rfl (by congr 1) (Sub.nil _)))
     ·
      refine WO.off rfl rfl (decide_eq_false g32) rfl ?_
      refine WO.off rfl rfl (decide_eq_false g32) rfl ?_
      refine WO.off rfl rfl (decide_eq_false g32) rfl ?_
      refine WO.off rfl rfl (decide_eq_false g32) rfl ?_
      refine WO.val (run_pickF rfl (decide_eq_false g32) rfl) rfl rfl rfl ?_
      refine WO.mv rfl rfl ?_
      refine WO.off rfl rfl rfl rfl ?_
      refine WO.off rfl rfl rfl rfl ?_
      refine WO.off rfl rfl rfl rfl ?_
      refine WO.off rfl rfl rfl rfl ?_
      refine WO.val (run_pickF rfl rfl rfl) rfl rfl rfl ?_
      refine WO.nil (NX.go ?_)
      refine WP.condF rfl rfl ?_
      refine WP.skip (NX.blk (NX.go (WP.region rfl ?_)))
      refine WO.mv rfl rfl ?_
      refine WO.val (run_add rfl rfl (IntWalk.i64_in _ (by omega))) rfl rfl rfl ?_
      refine WO.asg rfl rfl ?_
      refine WO.nil ?_
      exact NX.again (i + 1) ⟨⟨by omega, file_next hok hb (by unfold fileB; omega)⟩, hS1⟩ (by show s.length - (i + 1) < s.length - i; omega) (Sub.cons rfl (Sub.consE rfl (by congr 1) (Sub.nil _)))
   ·
    refine WO.off rfl rfl (decide_eq_false g20) rfl ?_
    refine WO.off rfl rfl (decide_eq_false g20) rfl ?_
    refine WO.off rfl rfl (decide_eq_false g20) rfl ?_
    refine WO.off rfl rfl (decide_eq_false g20) rfl ?_
    refine WO.off rfl rfl (decide_eq_false g20) rfl ?_
    refine WO.offU rfl rfl rfl ?_
    refine WO.offU rfl rfl rfl ?_
    refine WO.offU rfl rfl rfl ?_
    refine WO.offU rfl rfl rfl ?_
    refine WO.off rfl rfl (decide_eq_false g20) rfl ?_
    refine WO.val (run_pickF rfl (decide_eq_false g20) rfl) rfl rfl rfl ?_
    refine WO.mv rfl rfl ?_
    refine WO.off rfl rfl rfl rfl ?_
    refine WO.off rfl rfl rfl rfl ?_
    refine WO.off rfl rfl rfl rfl ?_
    refine WO.off rfl rfl rfl rfl ?_
    refine WO.val (run_pickF rfl rfl rfl) rfl rfl rfl ?_
    refine WO.mv rfl rfl ?_
    refine WO.off rfl rfl rfl rfl ?_
    refine WO.off rfl rfl rfl rfl ?_
    refine WO.off rfl rfl rfl rfl ?_
    refine WO.off rfl rfl rfl rfl ?_
    refine WO.val (run_pickF rfl rfl rfl) rfl rfl rfl ?_
    refine WO.nil (NX.go ?_)
    refine WP.condF rfl rfl ?_
    refine WP.skip (NX.blk (NX.go (WP.region rfl ?_)))
    refine WO.mv rfl rfl ?_
    refine WO.val (run_add rfl rfl (IntWalk.i64_in _ (by omega))) rfl rfl rfl ?_
    refine WO.asg rfl rfl ?_
    refine WO.nil ?_
    exact NX.again (i + 1) ⟨⟨by omega, file_next hok hb (by unfold fileB; omega)⟩, hS1⟩ (by show s.length - (i + 1) < s.length - i; omega) (Sub.cons rfl (Sub.consE rfl (by congr 1) (Sub.nil _)))
 ·
  refine WP.exit (NX.thenExit (NX.thenExit ?_))
  refine NX.blkExit ?_
  refine NX.go (WP.seq (WP.region rfl ?_))
  refine WO.mv rfl rfl ?_
  refine WO.val (run_lenS rfl Tryz.underlying9 rfl) rfl rfl rfl ?_
  refine WO.val (run_geq rfl rfl) rfl rfl rfl ?_
  refine WO.mv rfl rfl ?_
  by_cases g47 : 1 ≤ (s.length : Int)
  ·
   refine WO.on rfl rfl (decide_eq_true g47) ?_
   refine WO.mv rfl rfl ?_
   refine WO.on rfl rfl (decide_eq_true g47) ?_
   refine WO.val (run_lenS rfl Tryz.underlying9 rfl) rfl rfl rfl ?_
   refine WO.on rfl rfl (decide_eq_true g47) ?_
   refine WO.val (run_leq rfl rfl) rfl rfl rfl ?_
   refine WO.val (run_pickT rfl (decide_eq_true g47) rfl) rfl rfl rfl ?_
   refine WO.asg rfl rfl ?_
   refine WO.nil (NX.go (WP.ret ?_))
   refine NX.done (l := [.tmp 2]) rfl rfl ?_
   exact ⟨congrArg Value.bool (decide_eq_decide.2 ⟨fun h => ⟨List.length_pos_iff.1 (by omega), by omega, all_of hok (by omega)⟩, fun h => by have := h.2.1; omega⟩), hS1⟩
  ·
   refine WO.off rfl rfl (decide_eq_false g47) rfl ?_
   refine WO.off rfl rfl (decide_eq_false g47) rfl ?_
   refine WO.off rfl rfl (decide_eq_false g47) rfl ?_
   refine WO.val (run_pickF rfl (decide_eq_false g47) rfl) rfl rfl rfl ?_
   refine WO.asg rfl rfl ?_
   refine WO.nil (NX.go (WP.ret ?_))
   refine NX.done (l := [.tmp 2]) rfl rfl ?_
   exact ⟨congrArg Value.bool (decide_eq_false (fun h => absurd (List.length_pos_iff.2 h.1) (by omega))).symm, hS1⟩
theorem r4at_spec {B w : World} {L : List HP} {X : HP} {a : Option Addr} {c : Nat} {l : Nm} (hX : ∀ {L : List HP} {w : World}, St B (X :: L) w → Rd w a l.length 2 (l.flatMap fcl)) (k : List UInt8) (hl : l.length ≤ 4294967296) (hS : St B (X :: L) w) : Does Tryz.prog 63 [Value.slice a l.length c, str k] w (fun v w1 => ∃ r : Int, v = .int .i64 r ∧ ((findN k l = none ∧ r = -1) ∨ ∃ i e, r = ((i : Nat) : Int) ∧ l[i]? = some e ∧ e.1 = k ∧ findN k l = some e.2) ∧ St B (X :: L) w1) := by
 refine enter (n := 20) Tryz.func63 rfl rfl [Value.slice a l.length c, str k] rfl ?_
 refine WP.seq (WP.region rfl ?_)
 refine WO.asg rfl rfl ?_
 refine WO.nil (NX.go (WP.seq (WP.seq (WP.region rfl ?_))))
 refine WO.asg rfl rfl ?_
 refine WO.nil (NX.go (WP.block ?_))
 refine WP.loop (α := Nat) (fun x => match x with | i => [(0, Value.slice a l.length c), (1, str k), (5, Value.int .i64 (i : Int))]) (fun x w => match x with | i => (i ≤ l.length ∧ findN k l = findN k (l.drop i)) ∧ St B (X :: L) w) (fun x => match x with | i => l.length - i) 0 ⟨⟨Nat.zero_le _, rfl⟩, hS⟩ (Sub.cons rfl (Sub.cons rfl (Sub.consE rfl (by first | rfl | first | rfl | (congr 1; omega) | (simp; done) | (simp; omega)) (Sub.nil _)))) ?_
 rintro i w1 ⟨⟨hi, hf⟩, hS1⟩
 clear hS
 refine WP.seq (WP.seq (WP.region rfl ?_))
 refine WO.mv rfl rfl ?_
 refine WO.mv rfl rfl ?_
 refine WO.val (run_len rfl Tryz.underlying101 rfl) rfl rfl rfl ?_
 refine WO.val (run_lss rfl rfl) rfl rfl rfl ?_
 refine WO.nil (NX.go ?_)
 refine WP.condP rfl (fun g9 => ?_) (fun g9 => ?_)
 ·
  refine WP.skip (NX.go (WP.seq (WP.block (WP.seq (WP.region rfl ?_)))))
  obtain ⟨e, he⟩ : ∃ e, l[i]? = some e := ⟨_, List.getElem?_eq_getElem (by omega)⟩
  have hsa : a.isSome = true := by obtain ⟨q, hq, _⟩ := (hX hS1).2.1 (by omega); rw [hq]; rfl
  refine WO.mv rfl rfl ?_
  refine WO.mv rfl rfl ?_
  refine WO.val (run_indexAddr (q := adr a (i * 2)) Tryz.underlying101 Ty.sz112 rfl rfl (by omega) (by omega) ((hX (hS1.focus 0 rfl)).2.1 (by omega)) rfl) rfl rfl rfl ?_
  refine WO.val (run_fieldAddr (q := (adr a (i * 2 + 0))) (show fieldB Tryz.prog 112 0 = some 0 from by kernel_rfl) rfl (adr_add _ (by assumption) _ _)) rfl rfl rfl ?_
  refine WO.val (run_load Ty.ag9 rfl ((hX (hS1.focus 0 rfl)).cell ((flat_get fcl_len he (j := 0) (by decide)).trans rfl))) rfl rfl rfl ?_
  refine WO.mv rfl rfl ?_
  refine WO.val (run_eqlS rfl rfl) rfl rfl rfl ?_
  refine WO.nil (NX.go ?_)
  refine WP.condP rfl (fun g18 => ?_) (fun g18 => ?_)
  ·
   refine WP.seq (WP.region rfl ?_)
   refine WO.mv rfl rfl ?_
   refine WO.asg rfl rfl ?_
   refine WO.nil (NX.go (WP.ret (NX.blkRet (NX.thenRet (NX.thenRet (NX.blkRet (NX.thenRet ?_)))))))
   refine NX.done (l := [.tmp 4]) rfl rfl ?_
   exact ⟨_, rfl, .inr ⟨i, e, rfl, he, g18, by rw [hf, findN_drop he, if_pos g18.symm]⟩, hS1⟩
  ·
   refine WP.skip (NX.blk (NX.go (WP.region rfl ?_)))
   refine WO.mv rfl rfl ?_
   refine WO.val (run_add rfl rfl (IntWalk.i64_in _ (by omega))) rfl rfl rfl ?_
   refine WO.asg rfl rfl ?_
   refine WO.nil ?_
   exact NX.again (i + 1) ⟨⟨by omega, by rw [hf, findN_drop he, if_neg fun h => g18 h.symm]⟩, hS1⟩ (by show l.length - (i + 1) < l.length - i; omega) (Sub.cons rfl (Sub.cons rfl (Sub.consE rfl (by congr 1) (Sub.nil _))))
 ·
  refine WP.exit (NX.thenExit (NX.thenExit ?_))
  refine NX.blkExit ?_
  refine NX.go (WP.seq (WP.region rfl ?_))
  refine WO.asg rfl rfl ?_
  refine WO.nil (NX.go (WP.ret ?_))
  refine NX.done (l := [.tmp 4]) rfl rfl ?_
  exact ⟨_, rfl, .inl ⟨by rw [hf, List.drop_of_length_le (by omega)]; rfl, rfl⟩, hS1⟩
theorem r4new_spec {B w : World} {L : List HP} (room : Int) (hS : St B L w) : Does Tryz.prog 24 [Value.int .i64 room] w (fun v w1 => ∃ g, v = .pointer (some ⟨g, 0, none⟩) ∧ St B (refA g (newD room) :: L) w1) := by
 refine enter (n := 6) Tryz.func24 rfl rfl [Value.int .i64 room] rfl ?_
 refine WP.seq (WP.region rfl ?_)
 refine WO.asg rfl rfl ?_
 refine WO.nil (NX.go (WP.seq (WP.region rfl ?_)))
 refine WO.mv rfl rfl ?_
 refine WO.val (run_build (v := Value.agg #[Value.int .i64 room, Value.slice none 0 0, Value.slice none 0 0, Value.slice none 0 0, Value.slice none 0 0, Value.bool false, Value.int .i64 (-1)]) rfl (fun w => by kernel_rfl)) rfl rfl rfl ?_
 refine WO.box (l := [Value.int .i64 room, Value.slice none 0 0, Value.slice none 0 0, Value.slice none 0 0, Value.slice none 0 0, Value.bool false, Value.int .i64 (-1)]) hS rfl rfl rfl (fun g2 w1 lg2 hS1 => ?_)
 clear hS
 refine WO.asg rfl rfl ?_
 refine WO.nil (NX.go (WP.ret ?_))
 refine NX.done (l := [.tmp 2]) rfl rfl ?_
 have hc := (hS1.own_nil 110 3).permT [1, 0] rfl
 have hf := (hc.own_nil 107 2).permT [1, 0] rfl
 have hn := hf.own_nil 112 2
 have hn1 := hn.own_seal
 have hl := (hn1.own_nil 112 2).own_seal
 exact ⟨g2, rfl, St.rf_shut ⟨none, 0, none, 0, none, 0, none, 0⟩ (hl.permT [2, 2, 1, 0, 0] rfl)⟩
theorem r4fuse_spec {B w : World} {L : List HP} {g : Nat} {D : Dk} (n : Int) (hS : St B (refA g D :: L) w) : Does Tryz.prog 26 [Value.pointer (some ⟨g, 0, none⟩), Value.int .i64 n] w (fun v w1 => v = .tuple #[] ∧ St B (refA g (fuseD D n) :: L) w1) := by
 obtain ⟨rx, h0⟩ := hS.rf_open
 clear hS
 refine enter (n := 14) Tryz.func26 rfl rfl [Value.pointer (some ⟨g, 0, none⟩), Value.int .i64 n] rfl ?_
 refine WP.seq (WP.region rfl ?_)
 refine WO.mv rfl rfl ?_
 refine WO.val (run_nilCheck rfl) rfl rfl rfl ?_
 refine WO.val (run_fieldAddr (q := ⟨g, 5, none⟩) (show fieldB Tryz.prog 104 5 = some 5 from by kernel_rfl) rfl rfl) rfl rfl rfl ?_
 refine WO.val (run_load Ty.ag4 rfl ((h0.cel_at 0 rfl 5).trans rfl)) rfl rfl rfl ?_
 refine WO.val (run_not rfl rfl) rfl rfl rfl ?_
 refine WO.nil (NX.go ?_)
 refine WP.condB rfl (fun g8 => ?_) (fun g8 => ?_)
 ·
  refine WP.region rfl ?_
  refine WO.mv rfl rfl ?_
  refine WO.mv rfl rfl ?_
  refine WO.val (run_max rfl rfl) rfl rfl rfl ?_
  refine WO.val (run_nilCheck rfl) rfl rfl rfl ?_
  refine WO.val (run_fieldAddr (q := ⟨g, 6, none⟩) (show fieldB Tryz.prog 104 6 = some 6 from by kernel_rfl) rfl rfl) rfl rfl rfl ?_
  refine WO.store (l' := [Value.int .i64 D.room, Value.slice rx.fa D.f.length rx.fc, Value.slice rx.na D.nm.length rx.nc, Value.slice rx.la D.last.length rx.lc, Value.slice rx.ca D.ch.length rx.cc, Value.bool D.dead, Value.int .i64 (if n > -1 then n else -1)]) 0 h0 rfl Ty.sz3 rfl rfl rfl rfl rfl (Nat.le_of_ble_eq_true rfl) rfl (fun w1 (hS1 : St B (cel g [Value.int .i64 D.room, Value.slice rx.fa D.f.length rx.fc, Value.slice rx.na D.nm.length rx.nc, Value.slice rx.la D.last.length rx.lc, Value.slice rx.ca D.ch.length rx.cc, Value.bool D.dead, Value.int .i64 (if n > -1 then n else -1)] 104 :: own rx.fa D.f.length rx.fc 107 2 (D.f.flatMap fcl) :: ro rx.na D.nm.length 112 2 (D.nm.flatMap fcl) :: ro rx.la D.last.length 112 2 (D.last.flatMap fcl) :: own rx.ca D.ch.length rx.cc 110 3 (D.ch.flatMap ccl) :: L) w1) => ?_)
  clear h0
  refine WO.nil ?_
  refine NX.ended (l := []) rfl rfl ?_
  have e : fuseD D n = { D with left := if -1 > n then -1 else n } := by unfold fuseD; rw [if_neg (by simpa using g8)]
  rw [e]
  have e2 : (if n > -1 then n else -1) = (if -1 > n then -1 else n) := by split <;> split <;> omega
  rw [e2] at hS1
  exact ⟨rfl, St.rf_shut (D := { D with left := if -1 > n then -1 else n }) rx hS1⟩
 ·
  refine WP.skip ?_
  refine NX.ended (l := []) rfl rfl ?_
  have e : fuseD D n = D := by unfold fuseD; rw [if_pos (by simpa using g8)]
  rw [e]
  exact ⟨rfl, h0.rf_shut rx⟩
theorem r4kept_spec {B w : World} {L : List HP} {X : HP} {c : Nat} {a : Option Addr} {zs : List Int} (hX : ∀ {L : List HP} {w : World}, St B (X :: L) w → Rd w a zs.length 1 (ri zs)) (i n : Nat) (hi : i ≤ 4611686018427387904) (hn : n ≤ 4611686018427387904) (hS : St B (X :: L) w) : Does Tryz.prog 67 [Value.slice a zs.length c, Value.int .i64 (i : Int), Value.int .i64 (n : Int)] w (fun v w1 => v = .int .i64 ((keptF zs i n : Nat) : Int) ∧ St B (X :: L) w1) := by
 refine enter (n := 21) Tryz.func67 rfl rfl [Value.slice a zs.length c, Value.int .i64 (i : Int), Value.int .i64 (n : Int)] rfl ?_
 refine WP.seq (WP.region rfl ?_)
 refine WO.asg rfl rfl ?_
 refine WO.nil (NX.go (WP.seq (WP.seq (WP.region rfl ?_))))
 refine WO.mv rfl rfl ?_
 refine WO.mv rfl rfl ?_
 refine WO.val (run_len rfl Tryz.underlying37 rfl) rfl rfl rfl ?_
 refine WO.val (run_geq rfl rfl) rfl rfl rfl ?_
 refine WO.nil (NX.go ?_)
 refine WP.condP rfl (fun g10 => ?_) (fun g10 => ?_)
 ·
  refine WP.seq (WP.region rfl ?_)
  refine WO.asg rfl rfl ?_
  refine WO.nil (NX.go (WP.ret (NX.thenRet ?_)))
  refine NX.done (l := [.tmp 6]) rfl rfl ?_
  have hz : keptF zs i n = 0 := by unfold keptF; rw [List.getElem?_eq_none (by omega)]
  rw [hz]
  exact ⟨rfl, hS⟩
 ·
  refine WP.skip (NX.go (WP.seq (WP.region rfl ?_)))
  refine WO.mv rfl rfl ?_
  refine WO.mv rfl rfl ?_
  obtain ⟨z, hz⟩ : ∃ z, zs[i]? = some z := ⟨_, List.getElem?_eq_getElem (by omega)⟩
  refine WO.val (run_indexAddr (q := adr a i) Tryz.underlying37 Ty.sz3 rfl rfl (by omega) (by omega) ((hX (hS.focus 0 rfl)).2.1 (by omega)) (by simp)) rfl rfl rfl ?_
  refine WO.val (run_load Ty.ag3 rfl ((hX (hS.focus 0 rfl)).cell (ri_get hz))) rfl rfl rfl ?_
  refine WO.val (run_convI Tryz.underlying43 (by kernel_rfl) rfl (IntKind.wrap_u64 _)) rfl rfl rfl ?_
  refine WO.mv rfl rfl ?_
  refine WO.val (run_add rfl rfl (IntWalk.i64_in _ (by omega))) rfl rfl rfl ?_
  refine WO.val (run_convI Tryz.underlying43 (by kernel_rfl) rfl (IntWalk.u64_in _ (by omega))) rfl rfl rfl ?_
  refine WO.val (run_rem rfl rfl (by omega) (IntWalk.rem_in _ _ (by omega))) rfl rfl rfl ?_
  refine WO.val (run_convI Tryz.underlying3 (by kernel_rfl) rfl (show IntKind.i64.wrap ((z % 18446744073709551616) % ((n : Int) + 1)) = ((keptF zs i n : Nat) : Int) by unfold keptF; rw [hz]; have h1 := Int.emod_nonneg (z % 18446744073709551616) (show ((n : Int) + 1) ≠ 0 by omega); have h2 := Int.emod_lt_of_pos (z % 18446744073709551616) (show 0 < ((n : Int) + 1) by omega); rw [IntWalk.i64_in _ (by omega)]; simp only []; omega)) rfl rfl rfl ?_
  refine WO.asg rfl rfl ?_
  refine WO.nil (NX.go (WP.ret ?_))
  refine NX.done (l := [.tmp 6]) rfl rfl ?_
  exact ⟨rfl, hS⟩
end Go.Proofs.YtcehlnpbdffdhaaGreatDoor.SL

/- The document's disk: a change of names. -/
namespace Go.Proofs.YtcehlnpbdffdhaaGreatDoor.SL
open Go.RowKit Go.Proofs.YtcehlnpbdffdhaaGreatDoor
open Go.Proofs.YtcehlnpbdffdhaaGreatDoorW.PrintLast (rtab opsOf)
set_option linter.unusedVariables false
set_option linter.unusedSimpArgs false

theorem own_eq {B w : World} {L : List HP} {a : Option Addr} {n n' cap t k : Nat} {l l' : List Value} (h : St B (own a n cap t k l :: L) w) (e : n = n') (e2 : l = l') : St B (own a n' cap t k l' :: L) w := by subst e; subst e2; exact h
theorem all_take' {p : Value → Bool} {l : List Value} {n : Nat} (h : l.all p = true) : (l.take n).all p = true := List.all_eq_true.2 fun x hx => List.all_eq_true.1 h x (List.mem_of_mem_take hx)
theorem all_drop' {p : Value → Bool} {l : List Value} {n : Nat} (h : l.all p = true) : (l.drop n).all p = true := List.all_eq_true.2 fun x hx => List.all_eq_true.1 h x (List.mem_of_mem_drop hx)
theorem Rd.dropk {w : World} {a : Option Addr} {n i c k : Nat} {l : List Value} (hk : 0 < k) (h : Rd w a n k l) (hi : i ≤ n) (hc : n ≤ c) : Rd w (if c = i then a else a.map (·.add (i * k))) (n - i) k (l.drop (i * k)) := by
  have e : (n - i) * k = n * k - i * k := Nat.sub_mul ..
  have hle : i * k ≤ n * k := Nat.mul_le_mul_right _ hi
  refine ⟨by rw [List.length_drop, h.1, e], fun hp => ?_, fun j hj => ?_⟩
  · obtain ⟨⟨b, o, sp⟩, rfl, hs⟩ := h.2.1 (by omega)
    simp only at hs; subst hs
    rw [if_neg (by omega), Option.map_some, Go.WideShapes.add_plain]
    exact ⟨_, rfl, rfl⟩
  · have hn : 0 < n - i := Nat.pos_of_ne_zero fun h0 => by rw [h0, Nat.zero_mul] at hj; exact absurd hj (Nat.not_lt_zero _)
    obtain ⟨⟨b, o, sp⟩, rfl, hs⟩ := h.2.1 (by omega)
    simp only at hs; subst hs
    rw [if_neg (by omega), List.getElem?_drop, ← h.2.2 (i * k + j) (by omega), Option.map_some, Go.WideShapes.add_plain]
    show w.cell? ⟨b, o + i * k + j, none⟩ = w.cell? ⟨b, o + (i * k + j), none⟩
    rw [Nat.add_assoc]
theorem keepN_take {c : Chg} {l : Nm} {i : Nat} {e : List UInt8 × Nat} (h : l[i]? = some e) : keepN c (l.take (i + 1)) = if ¬ e.1 = c.fr ∧ ¬ e.1 = c.tn then keepN c (l.take i) ++ [e] else keepN c (l.take i) := by
  unfold keepN
  rw [List.take_add_one, h, Option.toList_some, List.filter_append, List.filter_cons, List.filter_nil]
  by_cases hc : ¬ e.1 = c.fr ∧ ¬ e.1 = c.tn
  · rw [if_pos hc, if_pos (decide_eq_true hc)]
  · rw [if_neg hc, if_neg (by rw [decide_eq_false hc]; exact Bool.noConfusion), List.append_nil]
theorem insN_step {x e : List UInt8 × Nat} {l : Nm} {i : Nat} (h : l[i]? = some e) (hlt : strLt e.1 x.1 = true) (hr : insN x l = l.take i ++ insN x (l.drop i)) : insN x l = l.take (i + 1) ++ insN x (l.drop (i + 1)) := by
  obtain ⟨hi, he⟩ := List.getElem?_eq_some_iff.1 h
  rw [hr, List.take_add_one, h, Option.toList_some, List.drop_eq_getElem_cons hi, he]
  show _ ++ (if strLt e.1 x.1 = true then e :: insN x (l.drop (i + 1)) else _) = _
  rw [if_pos hlt]; simp
theorem insN_stop {x e : List UInt8 × Nat} {l : Nm} {i : Nat} (h : l[i]? = some e) (hlt : strLt e.1 x.1 = false) (hr : insN x l = l.take i ++ insN x (l.drop i)) : insN x l = l.take i ++ x :: l.drop i := by
  obtain ⟨hi, he⟩ := List.getElem?_eq_some_iff.1 h
  rw [hr, List.drop_eq_getElem_cons hi, he]
  show _ ++ (if strLt e.1 x.1 = true then _ else x :: e :: l.drop (i + 1)) = _
  rw [if_neg (by rw [hlt]; exact Bool.noConfusion)]
theorem insN_end {x : List UInt8 × Nat} {l : Nm} {i : Nat} (h : l.length ≤ i) (hr : insN x l = l.take i ++ insN x (l.drop i)) : insN x l = l.take i ++ x :: l.drop i := by
  rw [hr, List.drop_of_length_le h]; rfl
theorem r4apply_spec_t5 : rtab .any (opsOf Tryz.f68 5) = (true, [([], []), ([], []), ([0, 1], [0, 1]), ([2], [2]), ([3], [3]), ([], []), ([5], [5]), ([4, 6], [4, 6]), ([7], [7]), ([8], [8]), ([8], [8]), ([9, 10, 8], [8, 9, 10]), ([11, 8], [8, 11]), ([12, 8], [8, 12]), ([8], [8]), ([14, 8], [8, 14]), ([13, 15, 8], [8, 13, 15]), ([8, 16], [8, 16])]) := by kernel_rfl
theorem r4apply_spec_t12 : rtab .any (opsOf Tryz.f68 12) = (true, [([], []), ([], []), ([], []), ([1, 2], [1, 2]), ([0, 3], [0, 3]), ([], []), ([5], [5]), ([], []), ([7], [7]), ([6, 8], [6, 8]), ([9], [9]), ([4, 10, 4], [4, 10]), ([], []), ([], []), ([12, 13], [12, 13]), ([11, 14, 11], [11, 14]), ([15, 15, 0, 1, 2, 3, 4, 5, 6, 7, 8, 9, 10, 11, 12, 13, 14, 15], [15])]) := by kernel_rfl
theorem r4apply_spec_t10 : rtab .any (opsOf Tryz.f68 10) = (true, [([], []), ([], []), ([1], [1]), ([0, 2], [0, 2]), ([3], [3]), ([4], [4]), ([4], [4]), ([5, 6, 4], [4, 5, 6]), ([7, 4], [4, 7]), ([8, 4], [4, 8]), ([4], [4]), ([10, 4], [4, 10]), ([9, 11, 4], [4, 9, 11]), ([4, 12], [4, 12])]) := by kernel_rfl
theorem r4apply_spec {B w : World} {L : List HP} {X : HP} {a : Option Addr} {cp : Nat} {l : Nm} (hX : ∀ {L : List HP} {w : World}, St B (X :: L) w → Rd w a l.length 2 (l.flatMap fcl)) (c : Chg) (hl : l.length ≤ 4294967296) (hS : St B (X :: L) w) : Does Tryz.prog 68 [Value.slice a l.length cp, Value.agg #[str c.fr, str c.tn, Value.int .i64 (c.fi : Int)]] w (fun v w1 => ∃ a1 c1, v = .slice a1 (applyN l c).length c1 ∧ St B (own a1 ((applyN l c).length) c1 112 2 ((applyN l c).flatMap fcl) :: X :: L) w1) := by
 refine enter (n := 75) Tryz.func68 rfl rfl [Value.slice a l.length cp, Value.agg #[str c.fr, str c.tn, Value.int .i64 (c.fi : Int)]] rfl ?_
 refine WP.seq (WP.region rfl ?_)
 refine WO.box (l := [str c.fr, str c.tn, Value.int .i64 (c.fi : Int)]) hS rfl rfl rfl (fun g2 w1 lg2 hS1 => ?_)
 clear hS
 refine WO.asg rfl rfl ?_
 refine WO.nil (NX.go (WP.seq (WP.region rfl ?_)))
 refine WO.asg rfl rfl ?_
 refine WO.nil (NX.go (WP.seq (WP.seq (WP.region rfl ?_))))
 refine WO.asg rfl rfl ?_
 refine WO.nil (NX.go (WP.block ?_))
 replace hS1 := hS1.own_nil 112 2
 refine WP.loop (α := Nat × Nm × Option Addr × Nat) (fun x => match x with | ⟨i, o, oa, oc⟩ => [(0, Value.slice a l.length cp), (3, Value.pointer (some ⟨g2, 0, none⟩)), (5, Value.slice oa o.length oc), (6, Value.int .i64 (i : Int))]) (fun x w => match x with | ⟨i, o, oa, oc⟩ => (i ≤ l.length ∧ o = keepN c (l.take i) ∧ o.length ≤ i) ∧ St B (own oa o.length oc 112 2 (o.flatMap fcl) :: cel g2 [str c.fr, str c.tn, Value.int .i64 (c.fi : Int)] 110 :: X :: L) w) (fun x => match x with | ⟨i, o, oa, oc⟩ => l.length - i) (0, [], none, 0) ⟨⟨Nat.zero_le _, rfl, Nat.le_refl _⟩, hS1⟩ (Sub.cons rfl (Sub.cons rfl (Sub.consE rfl (by first | rfl | first | rfl | (congr 1; omega) | (simp; done) | (simp; omega)) (Sub.consE rfl (by first | rfl | first | rfl | (congr 1; omega) | (simp; done) | (simp; omega)) (Sub.nil _))))) ?_
 rintro ⟨i, o, oa, oc⟩ w3 ⟨⟨hi, ho, hol⟩, hS3⟩
 clear hS1
 refine WP.seq (WP.seq (WP.region rfl ?_))
 refine WO.mv rfl rfl ?_
 refine WO.mv rfl rfl ?_
 refine WO.val (run_len rfl Tryz.underlying101 rfl) rfl rfl rfl ?_
 refine WO.val (run_lss rfl rfl) rfl rfl rfl ?_
 refine WO.nil (NX.go ?_)
 refine WP.condP rfl (fun g11 => ?_) (fun g11 => ?_)
 ·
  refine WP.skip (NX.go (WP.seq (WP.block (WP.seq ?_))))
  obtain ⟨e, he⟩ : ∃ e, l[i]? = some e := ⟨_, List.getElem?_eq_getElem (by omega)⟩
  have hsa : a.isSome = true := by obtain ⟨q, hq, _⟩ := (hX (hS3.focus 2 rfl)).2.1 (by omega); rw [hq]; rfl
  refine WD.start (fun w => Rd w oa o.length 2 (o.flatMap fcl) ∧ (∀ j, World.cell? w ⟨g2, j, none⟩ = [str c.fr, str c.tn, Value.int .i64 (c.fi : Int)][j]?) ∧ Rd w a l.length 2 (l.flatMap fcl)) [] (bt 18 0) Ty.mo rfl (by kernel_rfl) hS3 (fun _ h => ⟨(h.own_rd_i 0 rfl), h.cel_at 1 rfl, (hX (h.focus 2 rfl))⟩) (fun w4 hS4 s5 => ?_)
  clear hS3
  refine WD.pure (i := 0) r4apply_spec_t5 (bt 18 1) rfl rfl rfl (by kernel_rfl) (PQ.then (PQ.blk (PQ.then (PQ.then (PQ.blk (PQ.then PQ.body)))))) rfl (fun w => run_move rfl) ?_
  refine WD.pure (i := 1) r4apply_spec_t5 (bt 18 3) rfl rfl rfl (by kernel_rfl) (PQ.then (PQ.blk (PQ.then (PQ.then (PQ.blk (PQ.then PQ.body)))))) rfl (fun w => run_move rfl) ?_
  refine WD.take (i := 2) r4apply_spec_t5 (bt 18 7) s5 rfl rfl rfl (by kernel_rfl) (PQ.then (PQ.blk (PQ.then (PQ.then (PQ.blk (PQ.then PQ.body)))))) rfl (fun w hs => run_indexAddr (q := adr a (i * 2)) Tryz.underlying101 Ty.sz112 rfl rfl (by omega) (by omega) ((hs.2.2).2.1 (by omega)) rfl) ?_
  refine WD.pure (i := 3) r4apply_spec_t5 (bt 18 15) rfl rfl rfl (by kernel_rfl) (PQ.then (PQ.blk (PQ.then (PQ.then (PQ.blk (PQ.then PQ.body)))))) rfl (fun w => run_fieldAddr (q := (adr a (i * 2 + 0))) (show fieldB Tryz.prog 112 0 = some 0 from by kernel_rfl) rfl (adr_add _ (by assumption) _ _)) ?_
  refine WD.take (i := 4) r4apply_spec_t5 (bt 18 31) s5 rfl rfl rfl (by kernel_rfl) (PQ.then (PQ.blk (PQ.then (PQ.then (PQ.blk (PQ.then PQ.body)))))) rfl (fun w hs => run_load Ty.ag9 rfl ((hs.2.2).cell ((flat_get fcl_len he (j := 0) (by decide)).trans rfl))) ?_
  refine WD.pure (i := 5) r4apply_spec_t5 (bt 18 63) rfl rfl rfl (by kernel_rfl) (PQ.then (PQ.blk (PQ.then (PQ.then (PQ.blk (PQ.then PQ.body)))))) rfl (fun w => run_fieldAddr (q := ⟨g2, 0, none⟩) (show fieldB Tryz.prog 110 0 = some 0 from by kernel_rfl) rfl rfl) ?_
  refine WD.take (i := 6) r4apply_spec_t5 (bt 18 127) s5 rfl rfl rfl (by kernel_rfl) (PQ.then (PQ.blk (PQ.then (PQ.then (PQ.blk (PQ.then PQ.body)))))) rfl (fun w hs => run_load Ty.ag9 rfl ((hs.2.1 0).trans rfl)) ?_
  refine WD.pure (i := 7) r4apply_spec_t5 (bt 18 255) rfl rfl rfl (by kernel_rfl) (PQ.then (PQ.blk (PQ.then (PQ.then (PQ.blk (PQ.then PQ.body)))))) rfl (fun w => run_neqS rfl rfl) ?_
  refine WD.pure (i := 8) r4apply_spec_t5 (bt 18 511) rfl rfl rfl (by kernel_rfl) (PQ.then (PQ.blk (PQ.then (PQ.then (PQ.blk (PQ.then PQ.body)))))) rfl (fun w => run_move rfl) ?_
  by_cases g22 : ¬ e.1 = c.fr
  ·
   refine WD.pureOn (i := 9) r4apply_spec_t5 (bt 18 1023) rfl rfl rfl (decide_eq_true g22) (by kernel_rfl) (PQ.then (PQ.blk (PQ.then (PQ.then (PQ.blk (PQ.then PQ.body)))))) rfl (fun w => run_move rfl) ?_
   refine WD.pureOn (i := 10) r4apply_spec_t5 (bt 18 2047) rfl rfl rfl (decide_eq_true g22) (by kernel_rfl) (PQ.then (PQ.blk (PQ.then (PQ.then (PQ.blk (PQ.then PQ.body)))))) rfl (fun w => run_move rfl) ?_
   refine WD.takeOn (i := 11) r4apply_spec_t5 (bt 18 4095) s5 rfl rfl rfl (decide_eq_true g22) (by kernel_rfl) (PQ.then (PQ.blk (PQ.then (PQ.then (PQ.blk (PQ.then PQ.body)))))) rfl (fun w hs => run_indexAddr (q := adr a (i * 2)) Tryz.underlying101 Ty.sz112 rfl rfl (by omega) (by omega) ((hs.2.2).2.1 (by omega)) rfl) ?_
   refine WD.pureOn (i := 12) r4apply_spec_t5 (bt 18 8191) rfl rfl rfl (decide_eq_true g22) (by kernel_rfl) (PQ.then (PQ.blk (PQ.then (PQ.then (PQ.blk (PQ.then PQ.body)))))) rfl (fun w => run_fieldAddr (q := (adr a (i * 2 + 0))) (show fieldB Tryz.prog 112 0 = some 0 from by kernel_rfl) rfl (adr_add _ (by assumption) _ _)) ?_
   refine WD.takeOn (i := 13) r4apply_spec_t5 (bt 18 16383) s5 rfl rfl rfl (decide_eq_true g22) (by kernel_rfl) (PQ.then (PQ.blk (PQ.then (PQ.then (PQ.blk (PQ.then PQ.body)))))) rfl (fun w hs => run_load Ty.ag9 rfl ((hs.2.2).cell ((flat_get fcl_len he (j := 0) (by decide)).trans rfl))) ?_
   refine WD.pureOn (i := 14) r4apply_spec_t5 (bt 18 32767) rfl rfl rfl (decide_eq_true g22) (by kernel_rfl) (PQ.then (PQ.blk (PQ.then (PQ.then (PQ.blk (PQ.then PQ.body)))))) rfl (fun w => run_fieldAddr (q := ⟨g2, 1, none⟩) (show fieldB Tryz.prog 110 1 = some 1 from by kernel_rfl) rfl rfl) ?_
   refine WD.takeOn (i := 15) r4apply_spec_t5 (bt 18 65535) s5 rfl rfl rfl (decide_eq_true g22) (by kernel_rfl) (PQ.then (PQ.blk (PQ.then (PQ.then (PQ.blk (PQ.then PQ.body)))))) rfl (fun w hs => run_load Ty.ag9 rfl ((hs.2.1 1).trans rfl)) ?_
   refine WD.pureOn (i := 16) r4apply_spec_t5 (bt 18 131071) rfl rfl rfl (decide_eq_true g22) (by kernel_rfl) (PQ.then (PQ.blk (PQ.then (PQ.then (PQ.blk (PQ.then PQ.body)))))) rfl (fun w => run_neqS rfl rfl) ?_
   refine WD.pure (i := 17) r4apply_spec_t5 (bt 18 262143) rfl rfl rfl (by kernel_rfl) (PQ.then (PQ.blk (PQ.then (PQ.then (PQ.blk (PQ.then PQ.body)))))) rfl (fun w => run_pickT rfl (decide_eq_true g22) rfl) ?_
   refine WD.done r4apply_spec_t5 (by kernel_rfl) ?_
   refine NX.go ?_
   refine WP.condP rfl (fun g31 => ?_) (fun g31 => ?_)
   ·
    refine WP.region rfl ?_
    refine WO.mv rfl rfl ?_
    refine WO.mv rfl rfl ?_
    refine WO.mv rfl rfl ?_
    refine WO.val (run_indexAddr (q := adr a (i * 2)) Tryz.underlying101 Ty.sz112 rfl rfl (by omega) (by omega) ((hX (hS4.focus 2 rfl)).2.1 (by omega)) rfl) rfl rfl rfl ?_
    refine WO.val (run_loadAgg (vs := [str e.1, Value.int .i64 (e.2 : Int)]) Ty.ag112 Ty.sz112 rfl ((hX (hS4.focus 2 rfl)).cells (by rw [flat_len fcl_len]; omega) (flat_part fcl_len he)).1 ((hX (hS4.focus 2 rfl)).cells (by rw [flat_len fcl_len]; omega) (flat_part fcl_len he)).2) rfl rfl rfl ?_
    refine WO.buildSlice (l := [str e.1, Value.int .i64 (e.2 : Int)]) hS4 Tryz.underlying101 rfl (fun w => by kernel_rfl) rfl (fun g7 w6 lg7 hS6 => ?_)
    clear hS4
    refine WO.append (news := [str e.1, Value.int .i64 (e.2 : Int)]) 1 rfl Tryz.underlying101 Tryz.underlying101 (fun _ h => by cases h) Ty.sz112 (by decide) Ty.by112 Ty.zr112 rfl rfl rfl rfl hS6 rfl ((hS6.cel_rd 0 rfl (o := 0) (m := 1) (k := 2) rfl (Nat.le_of_ble_eq_true rfl)).src) rfl (by omega) (by omega) (fun a9 c10 w8 hS8 => ?_)
    replace hS8 : St B (cel g7 [str e.1, Value.int .i64 (e.2 : Int)] 112 :: own a9 (o.length + 1) c10 112 2 ((o.flatMap fcl) ++ [str e.1, Value.int .i64 (e.2 : Int)]) :: cel g2 [str c.fr, str c.tn, Value.int .i64 (c.fi : Int)] 110 :: X :: L) w8 := hS8
    clear hS6
    refine WO.asg rfl rfl ?_
    refine WO.nil (NX.blk (NX.go (WP.region rfl ?_)))
    refine WO.mv rfl rfl ?_
    refine WO.val (run_add rfl rfl (IntWalk.i64_in _ (by omega))) rfl rfl rfl ?_
    refine WO.asg rfl rfl ?_
    refine WO.nil ?_
    exact NX.again (i + 1, o ++ [e], a9, c10) ⟨⟨by omega, by rw [keepN_take he, if_pos ⟨g22, g31⟩, ← ho], by rw [List.length_append]; simp; omega⟩, own_eq (hS8.drop) (by rw [List.length_append]; rfl) (by rw [flat_snoc]; rfl)⟩ (by show l.length - (i + 1) < l.length - i; omega) (Sub.cons rfl (Sub.cons rfl (Sub.consE rfl (by rw [List.length_append]; rfl) (Sub.consE rfl (by congr 1) (Sub.nil _)))))
   ·
    refine WP.skip (NX.blk (NX.go (WP.region rfl ?_)))
    refine WO.mv rfl rfl ?_
    refine WO.val (run_add rfl rfl (IntWalk.i64_in _ (by omega))) rfl rfl rfl ?_
    refine WO.asg rfl rfl ?_
    refine WO.nil ?_
    exact NX.again (i + 1, o, oa, oc) ⟨⟨by omega, by rw [keepN_take he, if_neg (fun h => g31 h.2), ← ho], by omega⟩, hS4⟩ (by show l.length - (i + 1) < l.length - i; omega) (Sub.cons rfl (Sub.cons rfl (Sub.consE rfl (by first | rfl | (congr 1; omega) | (simp; done) | (simp; omega)) (Sub.consE rfl (by congr 1) (Sub.nil _)))))
  ·
   refine WD.off (i := 9) r4apply_spec_t5 (bt 18 1023) rfl rfl rfl (decide_eq_false g22) (by kernel_rfl) (PQ.then (PQ.blk (PQ.then (PQ.then (PQ.blk (PQ.then PQ.body)))))) rfl ?_
   refine WD.off (i := 10) r4apply_spec_t5 (bt 18 2047) rfl rfl rfl (decide_eq_false g22) (by kernel_rfl) (PQ.then (PQ.blk (PQ.then (PQ.then (PQ.blk (PQ.then PQ.body)))))) rfl ?_
   refine WD.off (i := 11) r4apply_spec_t5 (bt 18 4095) rfl rfl rfl (decide_eq_false g22) (by kernel_rfl) (PQ.then (PQ.blk (PQ.then (PQ.then (PQ.blk (PQ.then PQ.body)))))) rfl ?_
   refine WD.off (i := 12) r4apply_spec_t5 (bt 18 8191) rfl rfl rfl (decide_eq_false g22) (by kernel_rfl) (PQ.then (PQ.blk (PQ.then (PQ.then (PQ.blk (PQ.then PQ.body)))))) rfl ?_
   refine WD.off (i := 13) r4apply_spec_t5 (bt 18 16383) rfl rfl rfl (decide_eq_false g22) (by kernel_rfl) (PQ.then (PQ.blk (PQ.then (PQ.then (PQ.blk (PQ.then PQ.body)))))) rfl ?_
   refine WD.off (i := 14) r4apply_spec_t5 (bt 18 32767) rfl rfl rfl (decide_eq_false g22) (by kernel_rfl) (PQ.then (PQ.blk (PQ.then (PQ.then (PQ.blk (PQ.then PQ.body)))))) rfl ?_
   refine WD.off (i := 15) r4apply_spec_t5 (bt 18 65535) rfl rfl rfl (decide_eq_false g22) (by kernel_rfl) (PQ.then (PQ.blk (PQ.then (PQ.then (PQ.blk (PQ.then PQ.body)))))) rfl ?_
   refine WD.off (i := 16) r4apply_spec_t5 (bt 18 131071) rfl rfl rfl (decide_eq_false g22) (by kernel_rfl) (PQ.then (PQ.blk (PQ.then (PQ.then (PQ.blk (PQ.then PQ.body)))))) rfl ?_
   refine WD.pure (i := 17) r4apply_spec_t5 (bt 18 262143) rfl rfl rfl (by kernel_rfl) (PQ.then (PQ.blk (PQ.then (PQ.then (PQ.blk (PQ.then PQ.body)))))) rfl (fun w => run_pickF rfl (decide_eq_false g22) rfl) ?_
   refine WD.done r4apply_spec_t5 (by kernel_rfl) ?_
   refine NX.go ?_
   refine WP.condF rfl rfl ?_
   refine WP.skip (NX.blk (NX.go (WP.region rfl ?_)))
   refine WO.mv rfl rfl ?_
   refine WO.val (run_add rfl rfl (IntWalk.i64_in _ (by omega))) rfl rfl rfl ?_
   refine WO.asg rfl rfl ?_
   refine WO.nil ?_
   exact NX.again (i + 1, o, oa, oc) ⟨⟨by omega, by rw [keepN_take he, if_neg (fun h => g22 h.1), ← ho], by omega⟩, hS4⟩ (by show l.length - (i + 1) < l.length - i; omega) (Sub.cons rfl (Sub.cons rfl (Sub.consE rfl (by first | rfl | (congr 1; omega) | (simp; done) | (simp; omega)) (Sub.consE rfl (by congr 1) (Sub.nil _)))))
 ·
  refine WP.exit (NX.thenExit (NX.thenExit ?_))
  refine NX.blkExit ?_
  refine NX.go (WP.seq (WP.seq ?_))
  have hil : i = l.length := by omega
  subst hil
  rw [List.take_length] at ho
  refine WP.region rfl ?_
  refine WO.val (run_fieldAddr (q := ⟨g2, 1, none⟩) (show fieldB Tryz.prog 110 1 = some 1 from by kernel_rfl) rfl rfl) rfl rfl rfl ?_
  refine WO.val (run_load Ty.ag9 rfl ((hS3.cel_at 1 rfl 1).trans rfl)) rfl rfl rfl ?_
  refine WO.val (run_eqlS rfl rfl) rfl rfl rfl ?_
  refine WO.nil (NX.go ?_)
  refine WP.condP rfl (fun g41 => ?_) (fun g41 => ?_)
  ·
   refine WP.seq (WP.region rfl ?_)
   refine WO.mv rfl rfl ?_
   refine WO.asg rfl rfl ?_
   refine WO.nil (NX.go (WP.ret (NX.thenRet ?_)))
   refine NX.done (l := [.tmp 4]) rfl rfl ?_
   have ha : applyN l c = o := by unfold applyN; rw [if_pos g41, ho]
   rw [ha]
   exact ⟨oa, oc, rfl, (hS3.permT [1, 0, 0] (L' := cel g2 [str c.fr, str c.tn, Value.int .i64 (c.fi : Int)] 110 :: own oa o.length oc 112 2 (o.flatMap fcl) :: X :: L) rfl).drop⟩
  ·
   refine WP.skip (NX.go (WP.seq (WP.region rfl ?_)))
   refine WO.asg rfl rfl ?_
   refine WO.nil (NX.go (WP.seq ?_))
   refine WP.meet (α := Nat) (fun x => match x with | kk => [(0, Value.slice a l.length cp), (3, Value.pointer (some ⟨g2, 0, none⟩)), (5, Value.slice oa o.length oc), (7, Value.int .i64 (kk : Int))]) (fun x w => match x with | kk => (kk ≤ o.length ∧ insN (c.tn, c.fi) o = o.take kk ++ (c.tn, c.fi) :: o.drop kk) ∧ St B (own oa o.length oc 112 2 (o.flatMap fcl) :: cel g2 [str c.fr, str c.tn, Value.int .i64 (c.fi : Int)] 110 :: X :: L) w) ?_ (fun K11 => ?_)
   ·
    rintro kk w12 ⟨⟨hk, hout⟩, hS12⟩
    clear hS3
    refine NX.go (WP.seq ?_)
    have hoc := hS12.own_le_i 0 rfl
    refine WD.start (fun w => Rd w oa o.length 2 (o.flatMap fcl) ∧ (∀ j, World.cell? w ⟨g2, j, none⟩ = [str c.fr, str c.tn, Value.int .i64 (c.fi : Int)][j]?) ∧ Rd w a l.length 2 (l.flatMap fcl)) [] (bt 17 0) Ty.mo rfl (by kernel_rfl) hS12 (fun _ h => ⟨(h.own_rd_i 0 rfl), h.cel_at 1 rfl, (hX (h.focus 2 rfl))⟩) (fun w13 hS13 s14 => ?_)
    clear hS12
    refine WD.pure (i := 1) r4apply_spec_t12 (bt 17 2) rfl rfl rfl (by kernel_rfl) (PQ.then PQ.body) rfl (fun w => run_move rfl) ?_
    refine WD.pure (i := 2) r4apply_spec_t12 (bt 17 6) rfl rfl rfl (by kernel_rfl) (PQ.then PQ.body) rfl (fun w => run_move rfl) ?_
    refine WD.pure (i := 3) r4apply_spec_t12 (bt 17 14) rfl rfl rfl (by kernel_rfl) (PQ.then PQ.body) rfl (fun w => run_sliceTo (j := kk) Tryz.underlying101 Ty.sz112 rfl ⟨_, rfl⟩ (by omega)) ?_
    refine WD.pure (i := 5) r4apply_spec_t12 (bt 17 46) rfl rfl rfl (by kernel_rfl) (PQ.then PQ.body) rfl (fun w => run_fieldAddr (q := ⟨g2, 1, none⟩) (show fieldB Tryz.prog 110 1 = some 1 from by kernel_rfl) rfl rfl) ?_
    refine WD.take (i := 6) r4apply_spec_t12 (bt 17 110) s14 rfl rfl rfl (by kernel_rfl) (PQ.then PQ.body) rfl (fun w hs => run_load Ty.ag9 rfl ((hs.2.1 1).trans rfl)) ?_
    refine WD.pure (i := 7) r4apply_spec_t12 (bt 17 238) rfl rfl rfl (by kernel_rfl) (PQ.then PQ.body) rfl (fun w => run_fieldAddr (q := ⟨g2, 2, none⟩) (show fieldB Tryz.prog 110 2 = some 2 from by kernel_rfl) rfl rfl) ?_
    refine WD.take (i := 8) r4apply_spec_t12 (bt 17 494) s14 rfl rfl rfl (by kernel_rfl) (PQ.then PQ.body) rfl (fun w hs => run_load Ty.ag3 rfl ((hs.2.1 2).trans rfl)) ?_
    refine WD.pure (i := 9) r4apply_spec_t12 (bt 17 1006) rfl rfl rfl (by kernel_rfl) (PQ.then PQ.body) rfl (fun w => run_build (v := Value.agg #[str c.tn, Value.int .i64 (c.fi : Int)]) rfl (fun w => by kernel_rfl)) ?_
    refine WD.pure (i := 12) r4apply_spec_t12 (bt 17 5102) rfl rfl rfl (by kernel_rfl) (PQ.then PQ.body) rfl (fun w => run_move rfl) ?_
    refine WD.pure (i := 13) r4apply_spec_t12 (bt 17 13294) rfl rfl rfl (by kernel_rfl) (PQ.then PQ.body) rfl (fun w => run_move rfl) ?_
    refine WD.pure (i := 14) r4apply_spec_t12 (bt 17 29678) rfl rfl rfl (by kernel_rfl) (PQ.then PQ.body) rfl (fun w => run_sliceL (i := kk) (j := o.length) Tryz.underlying101 Ty.sz112 rfl ⟨_, rfl⟩ rfl (by omega) (by omega)) ?_
    refine WD.two (i := 0) (k := 10) r4apply_spec_t12 (bt 17 29679) (bt 17 30702) rfl rfl (by kernel_rfl) ?_ ?_
    ·
     refine WO.buildSlice (l := []) hS13 Tryz.underlying101 rfl (fun w => by kernel_rfl) rfl (fun g16 w15 lg16 hS15 => ?_)
     clear hS13
     have hS15 := hS15.own_of_cel (m := 0) (k := 2) rfl
     refine WO.nil ?_
     have s17 : Rd w15 oa o.length 2 (o.flatMap fcl) ∧ (∀ j, World.cell? w15 ⟨g2, j, none⟩ = [str c.fr, str c.tn, Value.int .i64 (c.fi : Int)][j]?) ∧ Rd w15 a l.length 2 (l.flatMap fcl) := ⟨(hS15.own_rd_i 1 rfl), hS15.cel_at 2 rfl, (hX (hS15.focus 3 rfl))⟩
     refine NX.held s17 ?_
     refine WD.two (i := 4) (k := 10) r4apply_spec_t12 (bt 17 29695) (bt 17 30703) rfl rfl (by kernel_rfl) ?_ ?_
     ·
      refine WO.append (news := ((o.flatMap fcl).take (kk * 2))) 0 rfl Tryz.underlying101 Tryz.underlying101 (fun _ h => by cases h) Ty.sz112 (by decide) Ty.by112 Ty.zr112 rfl rfl rfl rfl hS15 rfl (Rd.src (((hS15.own_rd_i 1 rfl)).take (m := kk) hk)) (all_take' (fcl_noAgg _)) (by omega) (by omega) (fun a19 c20 w18 hS18 => ?_)
      replace hS18 : St B (own a19 (0 + kk) c20 112 2 ([] ++ ((o.flatMap fcl).take (kk * 2))) :: own oa o.length oc 112 2 (o.flatMap fcl) :: cel g2 [str c.fr, str c.tn, Value.int .i64 (c.fi : Int)] 110 :: X :: L) w18 := hS18
      clear hS15
      refine WO.nil ?_
      have s21 : Rd w18 oa o.length 2 (o.flatMap fcl) ∧ (∀ j, World.cell? w18 ⟨g2, j, none⟩ = [str c.fr, str c.tn, Value.int .i64 (c.fi : Int)][j]?) ∧ Rd w18 a l.length 2 (l.flatMap fcl) := ⟨(hS18.own_rd_i 1 rfl), hS18.cel_at 2 rfl, (hX (hS18.focus 3 rfl))⟩
      refine NX.held s21 ?_
      refine WD.one (i := 10) r4apply_spec_t12 (bt 17 30719) rfl (by kernel_rfl) ?_
      refine WO.buildSlice (l := [str c.tn, Value.int .i64 (c.fi : Int)]) hS18 Tryz.underlying101 rfl (fun w => by kernel_rfl) rfl (fun g23 w22 lg23 hS22 => ?_)
      clear hS18
      refine WO.nil ?_
      have s24 : Rd w22 oa o.length 2 (o.flatMap fcl) ∧ (∀ j, World.cell? w22 ⟨g2, j, none⟩ = [str c.fr, str c.tn, Value.int .i64 (c.fi : Int)][j]?) ∧ Rd w22 a l.length 2 (l.flatMap fcl) := ⟨(hS22.own_rd_i 2 rfl), hS22.cel_at 3 rfl, (hX (hS22.focus 4 rfl))⟩
      refine NX.held s24 ?_
      refine WD.one (i := 11) r4apply_spec_t12 (bt 17 32767) rfl (by kernel_rfl) ?_
      refine WO.append (news := [str c.tn, Value.int .i64 (c.fi : Int)]) 1 rfl Tryz.underlying101 Tryz.underlying101 (fun _ h => by cases h) Ty.sz112 (by decide) Ty.by112 Ty.zr112 rfl rfl rfl rfl hS22 rfl ((hS22.cel_rd 0 rfl (o := 0) (m := 1) (k := 2) rfl (Nat.le_of_ble_eq_true rfl)).src) rfl (by omega) (by omega) (fun a26 c27 w25 hS25 => ?_)
      replace hS25 : St B (cel g23 [str c.tn, Value.int .i64 (c.fi : Int)] 112 :: own a26 ((0 + kk) + 1) c27 112 2 (([] ++ ((o.flatMap fcl).take (kk * 2))) ++ [str c.tn, Value.int .i64 (c.fi : Int)]) :: own oa o.length oc 112 2 (o.flatMap fcl) :: cel g2 [str c.fr, str c.tn, Value.int .i64 (c.fi : Int)] 110 :: X :: L) w25 := hS25
      clear hS22
      refine WO.nil ?_
      have s28 : Rd w25 oa o.length 2 (o.flatMap fcl) ∧ (∀ j, World.cell? w25 ⟨g2, j, none⟩ = [str c.fr, str c.tn, Value.int .i64 (c.fi : Int)][j]?) ∧ Rd w25 a l.length 2 (l.flatMap fcl) := ⟨(hS25.own_rd_i 2 rfl), hS25.cel_at 3 rfl, (hX (hS25.focus 4 rfl))⟩
      refine NX.held s28 ?_
      refine WD.one (i := 15) r4apply_spec_t12 (bt 17 65535) rfl (by kernel_rfl) ?_
      refine WO.append (news := ((o.flatMap fcl).drop (kk * 2))) 1 rfl Tryz.underlying101 Tryz.underlying101 (fun _ h => by cases h) Ty.sz112 (by decide) Ty.by112 Ty.zr112 rfl rfl rfl rfl hS25 rfl (Rd.src (Rd.dropk (by decide) ((hS25.own_rd_i 2 rfl)) (i := kk) hk hoc)) (all_drop' (fcl_noAgg _)) (by omega) (by omega) (fun a30 c31 w29 hS29 => ?_)
      replace hS29 : St B (cel g23 [str c.tn, Value.int .i64 (c.fi : Int)] 112 :: own a30 (((0 + kk) + 1) + (o.length - kk)) c31 112 2 ((([] ++ ((o.flatMap fcl).take (kk * 2))) ++ [str c.tn, Value.int .i64 (c.fi : Int)]) ++ ((o.flatMap fcl).drop (kk * 2))) :: own oa o.length oc 112 2 (o.flatMap fcl) :: cel g2 [str c.fr, str c.tn, Value.int .i64 (c.fi : Int)] 110 :: X :: L) w29 := hS29
      clear hS25
      refine WO.nil ?_
      have s32 : Rd w29 oa o.length 2 (o.flatMap fcl) ∧ (∀ j, World.cell? w29 ⟨g2, j, none⟩ = [str c.fr, str c.tn, Value.int .i64 (c.fi : Int)][j]?) ∧ Rd w29 a l.length 2 (l.flatMap fcl) := ⟨(hS29.own_rd_i 2 rfl), hS29.cel_at 3 rfl, (hX (hS29.focus 4 rfl))⟩
      refine NX.held s32 ?_
      refine WD.pure (i := 16) r4apply_spec_t12 (bt 17 131071) rfl rfl rfl (by kernel_rfl) (PQ.then PQ.body) rfl (fun w => run_assign rfl) ?_
      refine WD.done r4apply_spec_t12 (by kernel_rfl) ?_
      refine NX.go (WP.ret ?_)
      refine NX.done (l := [.tmp 4]) rfl rfl ?_
      have ha : applyN l c = o.take kk ++ (c.tn, c.fi) :: o.drop kk := by unfold applyN; rw [if_neg g41, ← ho, hout]
      rw [ha]
      exact ⟨a30, c31, congrArg (fun z => Value.slice a30 z c31) (by simp; omega), own_eq ((hS29.permT [0, 1, 1, 0, 0] (L' := cel g23 [str c.tn, Value.int .i64 (c.fi : Int)] 112 :: own oa o.length oc 112 2 (o.flatMap fcl) :: cel g2 [str c.fr, str c.tn, Value.int .i64 (c.fi : Int)] 110 :: own a30 (((0 + kk) + 1) + (o.length - kk)) c31 112 2 ((([] ++ ((o.flatMap fcl).take (kk * 2))) ++ [str c.tn, Value.int .i64 (c.fi : Int)]) ++ ((o.flatMap fcl).drop (kk * 2))) :: X :: L) rfl).drop.drop.drop) (by simp; omega) (by rw [flat_take fcl_len, flat_drop fcl_len]; simp [fcl])⟩
     ·
      refine WO.buildSlice (l := [str c.tn, Value.int .i64 (c.fi : Int)]) hS15 Tryz.underlying101 rfl (fun w => by kernel_rfl) rfl (fun g34 w33 lg34 hS33 => ?_)
      clear hS15
      refine WO.nil ?_
      have s35 : Rd w33 oa o.length 2 (o.flatMap fcl) ∧ (∀ j, World.cell? w33 ⟨g2, j, none⟩ = [str c.fr, str c.tn, Value.int .i64 (c.fi : Int)][j]?) ∧ Rd w33 a l.length 2 (l.flatMap fcl) := ⟨(hS33.own_rd_i 2 rfl), hS33.cel_at 3 rfl, (hX (hS33.focus 4 rfl))⟩
      refine NX.held s35 ?_
      refine WD.one (i := 4) r4apply_spec_t12 (bt 17 30719) rfl (by kernel_rfl) ?_
      refine WO.append (news := ((o.flatMap fcl).take (kk * 2))) 1 rfl Tryz.underlying101 Tryz.underlying101 (fun _ h => by cases h) Ty.sz112 (by decide) Ty.by112 Ty.zr112 rfl rfl rfl rfl hS33 rfl (Rd.src (((hS33.own_rd_i 2 rfl)).take (m := kk) hk)) (all_take' (fcl_noAgg _)) (by omega) (by omega) (fun a37 c38 w36 hS36 => ?_)
      replace hS36 : St B (cel g34 [str c.tn, Value.int .i64 (c.fi : Int)] 112 :: own a37 (0 + kk) c38 112 2 ([] ++ ((o.flatMap fcl).take (kk * 2))) :: own oa o.length oc 112 2 (o.flatMap fcl) :: cel g2 [str c.fr, str c.tn, Value.int .i64 (c.fi : Int)] 110 :: X :: L) w36 := hS36
      clear hS33
      refine WO.nil ?_
      have s39 : Rd w36 oa o.length 2 (o.flatMap fcl) ∧ (∀ j, World.cell? w36 ⟨g2, j, none⟩ = [str c.fr, str c.tn, Value.int .i64 (c.fi : Int)][j]?) ∧ Rd w36 a l.length 2 (l.flatMap fcl) := ⟨(hS36.own_rd_i 2 rfl), hS36.cel_at 3 rfl, (hX (hS36.focus 4 rfl))⟩
      refine NX.held s39 ?_
      refine WD.one (i := 11) r4apply_spec_t12 (bt 17 32767) rfl (by kernel_rfl) ?_
      refine WO.append (news := [str c.tn, Value.int .i64 (c.fi : Int)]) 1 rfl Tryz.underlying101 Tryz.underlying101 (fun _ h => by cases h) Ty.sz112 (by decide) Ty.by112 Ty.zr112 rfl rfl rfl rfl hS36 rfl ((hS36.cel_rd 0 rfl (o := 0) (m := 1) (k := 2) rfl (Nat.le_of_ble_eq_true rfl)).src) rfl (by omega) (by omega) (fun a41 c42 w40 hS40 => ?_)
      replace hS40 : St B (cel g34 [str c.tn, Value.int .i64 (c.fi : Int)] 112 :: own a41 ((0 + kk) + 1) c42 112 2 (([] ++ ((o.flatMap fcl).take (kk * 2))) ++ [str c.tn, Value.int .i64 (c.fi : Int)]) :: own oa o.length oc 112 2 (o.flatMap fcl) :: cel g2 [str c.fr, str c.tn, Value.int .i64 (c.fi : Int)] 110 :: X :: L) w40 := hS40
      clear hS36
      refine WO.nil ?_
      have s43 : Rd w40 oa o.length 2 (o.flatMap fcl) ∧ (∀ j, World.cell? w40 ⟨g2, j, none⟩ = [str c.fr, str c.tn, Value.int .i64 (c.fi : Int)][j]?) ∧ Rd w40 a l.length 2 (l.flatMap fcl) := ⟨(hS40.own_rd_i 2 rfl), hS40.cel_at 3 rfl, (hX (hS40.focus 4 rfl))⟩
      refine NX.held s43 ?_
      refine WD.one (i := 15) r4apply_spec_t12 (bt 17 65535) rfl (by kernel_rfl) ?_
      refine WO.append (news := ((o.flatMap fcl).drop (kk * 2))) 1 rfl Tryz.underlying101 Tryz.underlying101 (fun _ h => by cases h) Ty.sz112 (by decide) Ty.by112 Ty.zr112 rfl rfl rfl rfl hS40 rfl (Rd.src (Rd.dropk (by decide) ((hS40.own_rd_i 2 rfl)) (i := kk) hk hoc)) (all_drop' (fcl_noAgg _)) (by omega) (by omega) (fun a45 c46 w44 hS44 => ?_)
      replace hS44 : St B (cel g34 [str c.tn, Value.int .i64 (c.fi : Int)] 112 :: own a45 (((0 + kk) + 1) + (o.length - kk)) c46 112 2 ((([] ++ ((o.flatMap fcl).take (kk * 2))) ++ [str c.tn, Value.int .i64 (c.fi : Int)]) ++ ((o.flatMap fcl).drop (kk * 2))) :: own oa o.length oc 112 2 (o.flatMap fcl) :: cel g2 [str c.fr, str c.tn, Value.int .i64 (c.fi : Int)] 110 :: X :: L) w44 := hS44
      clear hS40
      refine WO.nil ?_
      have s47 : Rd w44 oa o.length 2 (o.flatMap fcl) ∧ (∀ j, World.cell? w44 ⟨g2, j, none⟩ = [str c.fr, str c.tn, Value.int .i64 (c.fi : Int)][j]?) ∧ Rd w44 a l.length 2 (l.flatMap fcl) := ⟨(hS44.own_rd_i 2 rfl), hS44.cel_at 3 rfl, (hX (hS44.focus 4 rfl))⟩
      refine NX.held s47 ?_
      refine WD.pure (i := 16) r4apply_spec_t12 (bt 17 131071) rfl rfl rfl (by kernel_rfl) (PQ.then PQ.body) rfl (fun w => run_assign rfl) ?_
      refine WD.done r4apply_spec_t12 (by kernel_rfl) ?_
      refine NX.go (WP.ret ?_)
      refine NX.done (l := [.tmp 4]) rfl rfl ?_
      have ha : applyN l c = o.take kk ++ (c.tn, c.fi) :: o.drop kk := by unfold applyN; rw [if_neg g41, ← ho, hout]
      rw [ha]
      exact ⟨a45, c46, congrArg (fun z => Value.slice a45 z c46) (by simp; omega), own_eq ((hS44.permT [0, 1, 1, 0, 0] (L' := cel g34 [str c.tn, Value.int .i64 (c.fi : Int)] 112 :: own oa o.length oc 112 2 (o.flatMap fcl) :: cel g2 [str c.fr, str c.tn, Value.int .i64 (c.fi : Int)] 110 :: own a45 (((0 + kk) + 1) + (o.length - kk)) c46 112 2 ((([] ++ ((o.flatMap fcl).take (kk * 2))) ++ [str c.tn, Value.int .i64 (c.fi : Int)]) ++ ((o.flatMap fcl).drop (kk * 2))) :: X :: L) rfl).drop.drop.drop) (by simp; omega) (by rw [flat_take fcl_len, flat_drop fcl_len]; simp [fcl])⟩
    ·
     refine WO.buildSlice (l := [str c.tn, Value.int .i64 (c.fi : Int)]) hS13 Tryz.underlying101 rfl (fun w => by kernel_rfl) rfl (fun g49 w48 lg49 hS48 => ?_)
     clear hS13
     refine WO.nil ?_
     have s50 : Rd w48 oa o.length 2 (o.flatMap fcl) ∧ (∀ j, World.cell? w48 ⟨g2, j, none⟩ = [str c.fr, str c.tn, Value.int .i64 (c.fi : Int)][j]?) ∧ Rd w48 a l.length 2 (l.flatMap fcl) := ⟨(hS48.own_rd_i 1 rfl), hS48.cel_at 2 rfl, (hX (hS48.focus 3 rfl))⟩
     refine NX.held s50 ?_
     refine WD.one (i := 0) r4apply_spec_t12 (bt 17 30703) rfl (by kernel_rfl) ?_
     refine WO.buildSlice (l := []) hS48 Tryz.underlying101 rfl (fun w => by kernel_rfl) rfl (fun g52 w51 lg52 hS51 => ?_)
     clear hS48
     have hS51 := hS51.own_of_cel (m := 0) (k := 2) rfl
     refine WO.nil ?_
     have s53 : Rd w51 oa o.length 2 (o.flatMap fcl) ∧ (∀ j, World.cell? w51 ⟨g2, j, none⟩ = [str c.fr, str c.tn, Value.int .i64 (c.fi : Int)][j]?) ∧ Rd w51 a l.length 2 (l.flatMap fcl) := ⟨(hS51.own_rd_i 2 rfl), hS51.cel_at 3 rfl, (hX (hS51.focus 4 rfl))⟩
     refine NX.held s53 ?_
     refine WD.one (i := 4) r4apply_spec_t12 (bt 17 30719) rfl (by kernel_rfl) ?_
     refine WO.append (news := ((o.flatMap fcl).take (kk * 2))) 0 rfl Tryz.underlying101 Tryz.underlying101 (fun _ h => by cases h) Ty.sz112 (by decide) Ty.by112 Ty.zr112 rfl rfl rfl rfl hS51 rfl (Rd.src (((hS51.own_rd_i 2 rfl)).take (m := kk) hk)) (all_take' (fcl_noAgg _)) (by omega) (by omega) (fun a55 c56 w54 hS54 => ?_)
     replace hS54 : St B (own a55 (0 + kk) c56 112 2 ([] ++ ((o.flatMap fcl).take (kk * 2))) :: cel g49 [str c.tn, Value.int .i64 (c.fi : Int)] 112 :: own oa o.length oc 112 2 (o.flatMap fcl) :: cel g2 [str c.fr, str c.tn, Value.int .i64 (c.fi : Int)] 110 :: X :: L) w54 := hS54
     clear hS51
     refine WO.nil ?_
     have s57 : Rd w54 oa o.length 2 (o.flatMap fcl) ∧ (∀ j, World.cell? w54 ⟨g2, j, none⟩ = [str c.fr, str c.tn, Value.int .i64 (c.fi : Int)][j]?) ∧ Rd w54 a l.length 2 (l.flatMap fcl) := ⟨(hS54.own_rd_i 2 rfl), hS54.cel_at 3 rfl, (hX (hS54.focus 4 rfl))⟩
     refine NX.held s57 ?_
     refine WD.one (i := 11) r4apply_spec_t12 (bt 17 32767) rfl (by kernel_rfl) ?_
     refine WO.append (news := [str c.tn, Value.int .i64 (c.fi : Int)]) 0 rfl Tryz.underlying101 Tryz.underlying101 (fun _ h => by cases h) Ty.sz112 (by decide) Ty.by112 Ty.zr112 rfl rfl rfl rfl hS54 rfl ((hS54.cel_rd 1 rfl (o := 0) (m := 1) (k := 2) rfl (Nat.le_of_ble_eq_true rfl)).src) rfl (by omega) (by omega) (fun a59 c60 w58 hS58 => ?_)
     replace hS58 : St B (own a59 ((0 + kk) + 1) c60 112 2 (([] ++ ((o.flatMap fcl).take (kk * 2))) ++ [str c.tn, Value.int .i64 (c.fi : Int)]) :: cel g49 [str c.tn, Value.int .i64 (c.fi : Int)] 112 :: own oa o.length oc 112 2 (o.flatMap fcl) :: cel g2 [str c.fr, str c.tn, Value.int .i64 (c.fi : Int)] 110 :: X :: L) w58 := hS58
     clear hS54
     refine WO.nil ?_
     have s61 : Rd w58 oa o.length 2 (o.flatMap fcl) ∧ (∀ j, World.cell? w58 ⟨g2, j, none⟩ = [str c.fr, str c.tn, Value.int .i64 (c.fi : Int)][j]?) ∧ Rd w58 a l.length 2 (l.flatMap fcl) := ⟨(hS58.own_rd_i 2 rfl), hS58.cel_at 3 rfl, (hX (hS58.focus 4 rfl))⟩
     refine NX.held s61 ?_
     refine WD.one (i := 15) r4apply_spec_t12 (bt 17 65535) rfl (by kernel_rfl) ?_
     refine WO.append (news := ((o.flatMap fcl).drop (kk * 2))) 0 rfl Tryz.underlying101 Tryz.underlying101 (fun _ h => by cases h) Ty.sz112 (by decide) Ty.by112 Ty.zr112 rfl rfl rfl rfl hS58 rfl (Rd.src (Rd.dropk (by decide) ((hS58.own_rd_i 2 rfl)) (i := kk) hk hoc)) (all_drop' (fcl_noAgg _)) (by omega) (by omega) (fun a63 c64 w62 hS62 => ?_)
     replace hS62 : St B (own a63 (((0 + kk) + 1) + (o.length - kk)) c64 112 2 ((([] ++ ((o.flatMap fcl).take (kk * 2))) ++ [str c.tn, Value.int .i64 (c.fi : Int)]) ++ ((o.flatMap fcl).drop (kk * 2))) :: cel g49 [str c.tn, Value.int .i64 (c.fi : Int)] 112 :: own oa o.length oc 112 2 (o.flatMap fcl) :: cel g2 [str c.fr, str c.tn, Value.int .i64 (c.fi : Int)] 110 :: X :: L) w62 := hS62
     clear hS58
     refine WO.nil ?_
     have s65 : Rd w62 oa o.length 2 (o.flatMap fcl) ∧ (∀ j, World.cell? w62 ⟨g2, j, none⟩ = [str c.fr, str c.tn, Value.int .i64 (c.fi : Int)][j]?) ∧ Rd w62 a l.length 2 (l.flatMap fcl) := ⟨(hS62.own_rd_i 2 rfl), hS62.cel_at 3 rfl, (hX (hS62.focus 4 rfl))⟩
     refine NX.held s65 ?_
     refine WD.pure (i := 16) r4apply_spec_t12 (bt 17 131071) rfl rfl rfl (by kernel_rfl) (PQ.then PQ.body) rfl (fun w => run_assign rfl) ?_
     refine WD.done r4apply_spec_t12 (by kernel_rfl) ?_
     refine NX.go (WP.ret ?_)
     refine NX.done (l := [.tmp 4]) rfl rfl ?_
     have ha : applyN l c = o.take kk ++ (c.tn, c.fi) :: o.drop kk := by unfold applyN; rw [if_neg g41, ← ho, hout]
     rw [ha]
     exact ⟨a63, c64, congrArg (fun z => Value.slice a63 z c64) (by simp; omega), own_eq ((hS62.permT [1, 1, 1, 0, 0] (L' := cel g49 [str c.tn, Value.int .i64 (c.fi : Int)] 112 :: own oa o.length oc 112 2 (o.flatMap fcl) :: cel g2 [str c.fr, str c.tn, Value.int .i64 (c.fi : Int)] 110 :: own a63 (((0 + kk) + 1) + (o.length - kk)) c64 112 2 ((([] ++ ((o.flatMap fcl).take (kk * 2))) ++ [str c.tn, Value.int .i64 (c.fi : Int)]) ++ ((o.flatMap fcl).drop (kk * 2))) :: X :: L) rfl).drop.drop.drop) (by simp; omega) (by rw [flat_take fcl_len, flat_drop fcl_len]; simp [fcl])⟩
   ·
    refine WP.block ?_
    refine WP.loop (α := Nat) (fun x => match x with | kk => [(0, Value.slice a l.length cp), (3, Value.pointer (some ⟨g2, 0, none⟩)), (5, Value.slice oa o.length oc), (7, Value.int .i64 (kk : Int))]) (fun x w => match x with | kk => (kk ≤ o.length ∧ insN (c.tn, c.fi) o = o.take kk ++ insN (c.tn, c.fi) (o.drop kk)) ∧ St B (own oa o.length oc 112 2 (o.flatMap fcl) :: cel g2 [str c.fr, str c.tn, Value.int .i64 (c.fi : Int)] 110 :: X :: L) w) (fun x => match x with | kk => o.length - kk) 0 ⟨⟨Nat.zero_le _, rfl⟩, hS3⟩ (Sub.cons rfl (Sub.cons rfl (Sub.cons rfl (Sub.consE rfl (by first | rfl | first | rfl | (congr 1; omega) | (simp; done) | (simp; omega)) (Sub.nil _))))) ?_
    rintro kk w66 ⟨⟨hk, hin⟩, hS66⟩
    clear hS3
    refine WP.seq (WP.seq ?_)
    have hosa : kk < o.length → oa.isSome = true := fun hlt => by obtain ⟨q, hq, _⟩ := ((hS66.own_rd_i 0 rfl)).2.1 (by omega); rw [hq]; rfl
    refine WD.start (fun w => Rd w oa o.length 2 (o.flatMap fcl) ∧ (∀ j, World.cell? w ⟨g2, j, none⟩ = [str c.fr, str c.tn, Value.int .i64 (c.fi : Int)][j]?) ∧ Rd w a l.length 2 (l.flatMap fcl)) [] (bt 14 0) Ty.mo rfl (by kernel_rfl) hS66 (fun _ h => ⟨(h.own_rd_i 0 rfl), h.cel_at 1 rfl, (hX (h.focus 2 rfl))⟩) (fun w67 hS67 s68 => ?_)
    clear hS66
    refine WD.pure (i := 0) r4apply_spec_t10 (bt 14 1) rfl rfl rfl (by kernel_rfl) (PQ.then (PQ.then (PQ.then (PQ.blk (PQ.then PQ.body))))) rfl (fun w => run_move rfl) ?_
    refine WD.pure (i := 1) r4apply_spec_t10 (bt 14 3) rfl rfl rfl (by kernel_rfl) (PQ.then (PQ.then (PQ.then (PQ.blk (PQ.then PQ.body))))) rfl (fun w => run_move rfl) ?_
    refine WD.pure (i := 2) r4apply_spec_t10 (bt 14 7) rfl rfl rfl (by kernel_rfl) (PQ.then (PQ.then (PQ.then (PQ.blk (PQ.then PQ.body))))) rfl (fun w => run_len rfl Tryz.underlying101 rfl) ?_
    refine WD.pure (i := 3) r4apply_spec_t10 (bt 14 15) rfl rfl rfl (by kernel_rfl) (PQ.then (PQ.then (PQ.then (PQ.blk (PQ.then PQ.body))))) rfl (fun w => run_lss rfl rfl) ?_
    refine WD.pure (i := 4) r4apply_spec_t10 (bt 14 31) rfl rfl rfl (by kernel_rfl) (PQ.then (PQ.then (PQ.then (PQ.blk (PQ.then PQ.body))))) rfl (fun w => run_move rfl) ?_
    by_cases g47 : (kk : Int) < ((o.length : Nat) : Int)
    ·
     have hosa1 : oa.isSome = true := hosa (by omega)
     obtain ⟨y, hy⟩ : ∃ y, o[kk]? = some y := ⟨_, List.getElem?_eq_getElem (by omega)⟩
     refine WD.pureOn (i := 5) r4apply_spec_t10 (bt 14 63) rfl rfl rfl (decide_eq_true g47) (by kernel_rfl) (PQ.then (PQ.then (PQ.then (PQ.blk (PQ.then PQ.body))))) rfl (fun w => run_move rfl) ?_
     refine WD.pureOn (i := 6) r4apply_spec_t10 (bt 14 127) rfl rfl rfl (decide_eq_true g47) (by kernel_rfl) (PQ.then (PQ.then (PQ.then (PQ.blk (PQ.then PQ.body))))) rfl (fun w => run_move rfl) ?_
     refine WD.takeOn (i := 7) r4apply_spec_t10 (bt 14 255) s68 rfl rfl rfl (decide_eq_true g47) (by kernel_rfl) (PQ.then (PQ.then (PQ.then (PQ.blk (PQ.then PQ.body))))) rfl (fun w hs => run_indexAddr (q := adr oa (kk * 2)) Tryz.underlying101 Ty.sz112 rfl rfl (by omega) (by omega) ((hs.1).2.1 (by omega)) rfl) ?_
     refine WD.pureOn (i := 8) r4apply_spec_t10 (bt 14 511) rfl rfl rfl (decide_eq_true g47) (by kernel_rfl) (PQ.then (PQ.then (PQ.then (PQ.blk (PQ.then PQ.body))))) rfl (fun w => run_fieldAddr (q := (adr oa (kk * 2 + 0))) (show fieldB Tryz.prog 112 0 = some 0 from by kernel_rfl) rfl (adr_add _ (by assumption) _ _)) ?_
     refine WD.takeOn (i := 9) r4apply_spec_t10 (bt 14 1023) s68 rfl rfl rfl (decide_eq_true g47) (by kernel_rfl) (PQ.then (PQ.then (PQ.then (PQ.blk (PQ.then PQ.body))))) rfl (fun w hs => run_load Ty.ag9 rfl ((hs.1).cell ((flat_get fcl_len hy (j := 0) (by decide)).trans rfl))) ?_
     refine WD.pureOn (i := 10) r4apply_spec_t10 (bt 14 2047) rfl rfl rfl (decide_eq_true g47) (by kernel_rfl) (PQ.then (PQ.then (PQ.then (PQ.blk (PQ.then PQ.body))))) rfl (fun w => run_fieldAddr (q := ⟨g2, 1, none⟩) (show fieldB Tryz.prog 110 1 = some 1 from by kernel_rfl) rfl rfl) ?_
     refine WD.takeOn (i := 11) r4apply_spec_t10 (bt 14 4095) s68 rfl rfl rfl (decide_eq_true g47) (by kernel_rfl) (PQ.then (PQ.then (PQ.then (PQ.blk (PQ.then PQ.body))))) rfl (fun w hs => run_load Ty.ag9 rfl ((hs.2.1 1).trans rfl)) ?_
     refine WD.pureOn (i := 12) r4apply_spec_t10 (bt 14 8191) rfl rfl rfl (decide_eq_true g47) (by kernel_rfl) (PQ.then (PQ.then (PQ.then (PQ.blk (PQ.then PQ.body))))) rfl (fun w => run_lssS rfl rfl) ?_
     refine WD.pure (i := 13) r4apply_spec_t10 (bt 14 16383) rfl rfl rfl (by kernel_rfl) (PQ.then (PQ.then (PQ.then (PQ.blk (PQ.then PQ.body))))) rfl (fun w => run_pickT rfl (decide_eq_true g47) rfl) ?_
     refine WD.done r4apply_spec_t10 (by kernel_rfl) ?_
     refine NX.go ?_
     refine WP.condB rfl (fun g56 => ?_) (fun g56 => ?_)
     ·
      refine WP.skip (NX.go (WP.block (WP.region rfl ?_)))
      refine WO.mv rfl rfl ?_
      refine WO.val (run_add rfl rfl (IntWalk.i64_in _ (by omega))) rfl rfl rfl ?_
      refine WO.asg rfl rfl ?_
      refine WO.nil (NX.blk ?_)
      exact NX.again (kk + 1) ⟨⟨by omega, insN_step hy g56 hin⟩, hS67⟩ (by show o.length - (kk + 1) < o.length - kk; omega) (Sub.cons rfl (Sub.cons rfl (Sub.cons rfl (Sub.consE rfl (by congr 1) (Sub.nil _)))))
     ·
      refine WP.exit (NX.thenExit (NX.thenExit ?_))
      refine NX.blkExit ?_
      exact K11 kk _ _ ⟨⟨hk, insN_stop hy g56 hin⟩, hS67⟩ (Sub.cons rfl (Sub.cons rfl (Sub.cons rfl (Sub.cons rfl (Sub.nil _)))))
    ·
     refine WD.off (i := 5) r4apply_spec_t10 (bt 14 63) rfl rfl rfl (decide_eq_false g47) (by kernel_rfl) (PQ.then (PQ.then (PQ.then (PQ.blk (PQ.then PQ.body))))) rfl ?_
     refine WD.off (i := 6) r4apply_spec_t10 (bt 14 127) rfl rfl rfl (decide_eq_false g47) (by kernel_rfl) (PQ.then (PQ.then (PQ.then (PQ.blk (PQ.then PQ.body))))) rfl ?_
     refine WD.off (i := 7) r4apply_spec_t10 (bt 14 255) rfl rfl rfl (decide_eq_false g47) (by kernel_rfl) (PQ.then (PQ.then (PQ.then (PQ.blk (PQ.then PQ.body))))) rfl ?_
     refine WD.off (i := 8) r4apply_spec_t10 (bt 14 511) rfl rfl rfl (decide_eq_false g47) (by kernel_rfl) (PQ.then (PQ.then (PQ.then (PQ.blk (PQ.then PQ.body))))) rfl ?_
     refine WD.off (i := 9) r4apply_spec_t10 (bt 14 1023) rfl rfl rfl (decide_eq_false g47) (by kernel_rfl) (PQ.then (PQ.then (PQ.then (PQ.blk (PQ.then PQ.body))))) rfl ?_
     refine WD.off (i := 10) r4apply_spec_t10 (bt 14 2047) rfl rfl rfl (decide_eq_false g47) (by kernel_rfl) (PQ.then (PQ.then (PQ.then (PQ.blk (PQ.then PQ.body))))) rfl ?_
     refine WD.off (i := 11) r4apply_spec_t10 (bt 14 4095) rfl rfl rfl (decide_eq_false g47) (by kernel_rfl) (PQ.then (PQ.then (PQ.then (PQ.blk (PQ.then PQ.body))))) rfl ?_
     refine WD.off (i := 12) r4apply_spec_t10 (bt 14 8191) rfl rfl rfl (decide_eq_false g47) (by kernel_rfl) (PQ.then (PQ.then (PQ.then (PQ.blk (PQ.then PQ.body))))) rfl ?_
     refine WD.pure (i := 13) r4apply_spec_t10 (bt 14 16383) rfl rfl rfl (by kernel_rfl) (PQ.then (PQ.then (PQ.then (PQ.blk (PQ.then PQ.body))))) rfl (fun w => run_pickF rfl (decide_eq_false g47) rfl) ?_
     refine WD.done r4apply_spec_t10 (by kernel_rfl) ?_
     refine NX.go ?_
     refine WP.condF rfl rfl ?_
     refine WP.exit (NX.thenExit (NX.thenExit ?_))
     refine NX.blkExit ?_
     exact K11 kk _ _ ⟨⟨hk, insN_end (by omega) hin⟩, hS67⟩ (Sub.cons rfl (Sub.cons rfl (Sub.cons rfl (Sub.cons rfl (Sub.nil _)))))
end Go.Proofs.YtcehlnpbdffdhaaGreatDoor.SL

/- The document's disk: what it holds. -/
namespace Go.Proofs.YtcehlnpbdffdhaaGreatDoor.SL
open Go.RowKit Go.Proofs.YtcehlnpbdffdhaaGreatDoor
open Go.Proofs.YtcehlnpbdffdhaaGreatDoorW.PrintLast (rtab opsOf)
set_option linter.unusedVariables false
set_option linter.unusedSimpArgs false
theorem r4change_spec_t1 : rtab .any (opsOf Tryz.f66 1) = (true, [([], []), ([], []), ([1], [1]), ([2], [2]), ([3], [3]), ([], []), ([4, 5], [4, 5]), ([0, 0, 1, 2, 3, 4, 5, 6], [0]), ([7, 0, 1, 2, 3, 4, 5, 6], [7]), ([8, 6, 6, 0, 1, 2, 3, 4, 5, 6], [6, 8])]) := by kernel_rfl
theorem r4change_spec_t2 : rtab .any (opsOf Tryz.f66 2) = (true, [([], []), ([], []), ([1], [1]), ([2], [2]), ([3], [3]), ([], []), ([5], [5]), ([4, 6], [4, 6]), ([0, 0, 1, 2, 3, 4, 5, 6, 7], [0]), ([8, 0, 1, 2, 3, 4, 5, 6, 7], [8]), ([9, 7, 7, 0, 1, 2, 3, 4, 5, 6, 7], [7, 9])]) := by kernel_rfl
theorem r4change_spec {B w : World} {L : List HP} {g : Nat} {D : Dk} {rx : RX} (c : Chg) (hl : D.nm.length ≤ 4294967296) (hcl : D.ch.length ≤ 1099511627776) (hS : St B (cel g [Value.int .i64 D.room, Value.slice rx.fa D.f.length rx.fc, Value.slice rx.na D.nm.length rx.nc, Value.slice rx.la D.last.length rx.lc, Value.slice rx.ca D.ch.length rx.cc, Value.bool D.dead, Value.int .i64 D.left] 104 :: own rx.fa D.f.length rx.fc 107 2 (D.f.flatMap fcl) :: ro rx.na D.nm.length 112 2 (D.nm.flatMap fcl) :: ro rx.la D.last.length 112 2 (D.last.flatMap fcl) :: own rx.ca D.ch.length rx.cc 110 3 (D.ch.flatMap ccl) :: L) w) : Does Tryz.prog 66 [Value.pointer (some ⟨g, 0, none⟩), Value.agg #[str c.fr, str c.tn, Value.int .i64 (c.fi : Int)]] w (fun v w1 => ∃ rx2 : RX, v = .tuple #[] ∧ St B (cel g [Value.int .i64 ((changeD D c).room), Value.slice rx2.fa ((changeD D c).f.length) rx2.fc, Value.slice rx2.na ((changeD D c).nm.length) rx2.nc, Value.slice rx2.la ((changeD D c).last.length) rx2.lc, Value.slice rx2.ca ((changeD D c).ch.length) rx2.cc, Value.bool ((changeD D c).dead), Value.int .i64 ((changeD D c).left)] 104 :: own rx2.fa ((changeD D c).f.length) rx2.fc 107 2 ((changeD D c).f.flatMap fcl) :: ro rx2.na ((changeD D c).nm.length) 112 2 ((changeD D c).nm.flatMap fcl) :: ro rx2.la ((changeD D c).last.length) 112 2 ((changeD D c).last.flatMap fcl) :: own rx2.ca ((changeD D c).ch.length) rx2.cc 110 3 ((changeD D c).ch.flatMap ccl) :: L) w1) := by
 refine enter (n := 23) Tryz.func66 rfl rfl [Value.pointer (some ⟨g, 0, none⟩), Value.agg #[str c.fr, str c.tn, Value.int .i64 (c.fi : Int)]] rfl ?_
 refine WP.seq (WP.region rfl ?_)
 refine WO.box (l := [str c.fr, str c.tn, Value.int .i64 (c.fi : Int)]) hS rfl rfl rfl (fun g2 w1 lg2 hS1 => ?_)
 clear hS
 refine WO.nil (NX.go (WP.seq ?_))
 refine WD.start (fun w => (∀ j, World.cell? w ⟨g2, j, none⟩ = [str c.fr, str c.tn, Value.int .i64 (c.fi : Int)][j]?) ∧ (∀ j, World.cell? w ⟨g, j, none⟩ = [Value.int .i64 D.room, Value.slice rx.fa D.f.length rx.fc, Value.slice rx.na D.nm.length rx.nc, Value.slice rx.la D.last.length rx.lc, Value.slice rx.ca D.ch.length rx.cc, Value.bool D.dead, Value.int .i64 D.left][j]?)) [9] (bt 10 0) Ty.mo rfl (by kernel_rfl) hS1 (fun _ h => ⟨h.cel_at 0 rfl, h.cel_at 1 rfl⟩) (fun w3 hS3 s4 => ?_)
 clear hS1
 refine WD.pure (i := 0) r4change_spec_t1 (bt 10 1) rfl rfl rfl (by kernel_rfl) (PQ.then PQ.body) rfl (fun w => run_move rfl) ?_
 refine WD.pure (i := 1) r4change_spec_t1 (bt 10 3) rfl rfl rfl (by kernel_rfl) (PQ.then PQ.body) rfl (fun w => run_move rfl) ?_
 refine WD.pure (i := 2) r4change_spec_t1 (bt 10 7) rfl rfl rfl (by kernel_rfl) (PQ.then PQ.body) rfl (fun w => run_nilCheck rfl) ?_
 refine WD.pure (i := 3) r4change_spec_t1 (bt 10 15) rfl rfl rfl (by kernel_rfl) (PQ.then PQ.body) rfl (fun w => run_fieldAddr (q := ⟨g, 2, none⟩) (show fieldB Tryz.prog 104 2 = some 2 from by kernel_rfl) rfl rfl) ?_
 refine WD.take (i := 4) r4change_spec_t1 (bt 10 31) s4 rfl rfl rfl (by kernel_rfl) (PQ.then PQ.body) rfl (fun w hs => run_load Ty.ag101 rfl ((hs.2 2).trans rfl)) ?_
 refine WD.take (i := 5) r4change_spec_t1 (bt 10 63) s4 rfl rfl rfl (by kernel_rfl) (PQ.then PQ.body) rfl (fun w hs => run_loadAgg (vs := [str c.fr, str c.tn, Value.int .i64 (c.fi : Int)]) Ty.ag110 Ty.sz110 rfl rfl (cell_all (hs.1) 0 rfl)) ?_
 refine WD.one (i := 6) r4change_spec_t1 (bt 10 127) rfl (by kernel_rfl) ?_
 have hS5 := hS3.permT [3, 0, 0, 0, 0, 0] (L' := ro rx.na D.nm.length 112 2 (D.nm.flatMap fcl) :: cel g2 [str c.fr, str c.tn, Value.int .i64 (c.fi : Int)] 110 :: cel g [Value.int .i64 D.room, Value.slice rx.fa D.f.length rx.fc, Value.slice rx.na D.nm.length rx.nc, Value.slice rx.la D.last.length rx.lc, Value.slice rx.ca D.ch.length rx.cc, Value.bool D.dead, Value.int .i64 D.left] 104 :: own rx.fa D.f.length rx.fc 107 2 (D.f.flatMap fcl) :: ro rx.la D.last.length 112 2 (D.last.flatMap fcl) :: own rx.ca D.ch.length rx.cc 110 3 (D.ch.flatMap ccl) :: L) rfl
 clear hS3
 refine WO.call rfl rfl Ty.hd68 rfl (r4apply_spec (fun h => h.ro_rd) c hl hS5) (fun v7 w6 pv7 => ?_)
 obtain ⟨a1, c1, rfl, hS6⟩ := pv7
 clear hS5
 refine WO.nil ?_
 have s8 : (∀ j, World.cell? w6 ⟨g2, j, none⟩ = [str c.fr, str c.tn, Value.int .i64 (c.fi : Int)][j]?) ∧ (∀ j, World.cell? w6 ⟨g, j, none⟩ = [Value.int .i64 D.room, Value.slice rx.fa D.f.length rx.fc, Value.slice rx.na D.nm.length rx.nc, Value.slice rx.la D.last.length rx.lc, Value.slice rx.ca D.ch.length rx.cc, Value.bool D.dead, Value.int .i64 D.left][j]?) := ⟨hS6.cel_at 2 rfl, hS6.cel_at 3 rfl⟩
 refine NX.held s8 ?_
 refine WD.pure (i := 7) r4change_spec_t1 (bt 10 255) rfl rfl rfl (by kernel_rfl) (PQ.then PQ.body) rfl (fun w => run_nilCheck rfl) ?_
 refine WD.pure (i := 8) r4change_spec_t1 (bt 10 511) rfl rfl rfl (by kernel_rfl) (PQ.then PQ.body) rfl (fun w => run_fieldAddr (q := ⟨g, 2, none⟩) (show fieldB Tryz.prog 104 2 = some 2 from by kernel_rfl) rfl rfl) ?_
 refine WD.one (i := 9) r4change_spec_t1 (bt 10 1023) rfl (by kernel_rfl) ?_
 refine WO.store (l' := [Value.int .i64 D.room, Value.slice rx.fa D.f.length rx.fc, Value.slice a1 ((applyN D.nm c).length) c1, Value.slice rx.la D.last.length rx.lc, Value.slice rx.ca D.ch.length rx.cc, Value.bool D.dead, Value.int .i64 D.left]) 3 hS6 rfl Ty.sz101 rfl rfl rfl rfl rfl (Nat.le_of_ble_eq_true rfl) rfl (fun w9 (hS9 : St B (own a1 ((applyN D.nm c).length) c1 112 2 ((applyN D.nm c).flatMap fcl) :: ro rx.na D.nm.length 112 2 (D.nm.flatMap fcl) :: cel g2 [str c.fr, str c.tn, Value.int .i64 (c.fi : Int)] 110 :: cel g [Value.int .i64 D.room, Value.slice rx.fa D.f.length rx.fc, Value.slice a1 ((applyN D.nm c).length) c1, Value.slice rx.la D.last.length rx.lc, Value.slice rx.ca D.ch.length rx.cc, Value.bool D.dead, Value.int .i64 D.left] 104 :: own rx.fa D.f.length rx.fc 107 2 (D.f.flatMap fcl) :: ro rx.la D.last.length 112 2 (D.last.flatMap fcl) :: own rx.ca D.ch.length rx.cc 110 3 (D.ch.flatMap ccl) :: L) w9) => ?_)
 clear hS6
 refine WO.nil ?_
 refine NX.last (by decide) ?_
 refine WD.done r4change_spec_t1 (by kernel_rfl) ?_
 refine NX.go ?_
 refine WD.start (fun w => (∀ j, World.cell? w ⟨g2, j, none⟩ = [str c.fr, str c.tn, Value.int .i64 (c.fi : Int)][j]?) ∧ (∀ j, World.cell? w ⟨g, j, none⟩ = [Value.int .i64 D.room, Value.slice rx.fa D.f.length rx.fc, Value.slice a1 ((applyN D.nm c).length) c1, Value.slice rx.la D.last.length rx.lc, Value.slice rx.ca D.ch.length rx.cc, Value.bool D.dead, Value.int .i64 D.left][j]?)) [10] (bt 11 0) Ty.mo rfl (by kernel_rfl) hS9 (fun _ h => ⟨h.cel_at 2 rfl, h.cel_at 3 rfl⟩) (fun w10 hS10 s11 => ?_)
 clear hS9
 refine WD.pure (i := 0) r4change_spec_t2 (bt 11 1) rfl rfl rfl (by kernel_rfl) PQ.body rfl (fun w => run_move rfl) ?_
 refine WD.pure (i := 1) r4change_spec_t2 (bt 11 3) rfl rfl rfl (by kernel_rfl) PQ.body rfl (fun w => run_move rfl) ?_
 refine WD.pure (i := 2) r4change_spec_t2 (bt 11 7) rfl rfl rfl (by kernel_rfl) PQ.body rfl (fun w => run_nilCheck rfl) ?_
 refine WD.pure (i := 3) r4change_spec_t2 (bt 11 15) rfl rfl rfl (by kernel_rfl) PQ.body rfl (fun w => run_fieldAddr (q := ⟨g, 4, none⟩) (show fieldB Tryz.prog 104 4 = some 4 from by kernel_rfl) rfl rfl) ?_
 refine WD.take (i := 4) r4change_spec_t2 (bt 11 31) s11 rfl rfl rfl (by kernel_rfl) PQ.body rfl (fun w hs => run_load Ty.ag102 rfl ((hs.2 4).trans rfl)) ?_
 refine WD.take (i := 5) r4change_spec_t2 (bt 11 63) s11 rfl rfl rfl (by kernel_rfl) PQ.body rfl (fun w hs => run_loadAgg (vs := [str c.fr, str c.tn, Value.int .i64 (c.fi : Int)]) Ty.ag110 Ty.sz110 rfl rfl (cell_all (hs.1) 0 rfl)) ?_
 refine WD.one (i := 6) r4change_spec_t2 (bt 11 127) rfl (by kernel_rfl) ?_
 refine WO.buildSlice (l := [str c.fr, str c.tn, Value.int .i64 (c.fi : Int)]) hS10 Tryz.underlying102 rfl (fun w => by kernel_rfl) rfl (fun g13 w12 lg13 hS12 => ?_)
 clear hS10
 refine WO.nil ?_
 have s14 : (∀ j, World.cell? w12 ⟨g2, j, none⟩ = [str c.fr, str c.tn, Value.int .i64 (c.fi : Int)][j]?) ∧ (∀ j, World.cell? w12 ⟨g, j, none⟩ = [Value.int .i64 D.room, Value.slice rx.fa D.f.length rx.fc, Value.slice a1 ((applyN D.nm c).length) c1, Value.slice rx.la D.last.length rx.lc, Value.slice rx.ca D.ch.length rx.cc, Value.bool D.dead, Value.int .i64 D.left][j]?) := ⟨hS12.cel_at 3 rfl, hS12.cel_at 4 rfl⟩
 refine NX.held s14 ?_
 refine WD.one (i := 7) r4change_spec_t2 (bt 11 255) rfl (by kernel_rfl) ?_
 refine WO.append (news := [str c.fr, str c.tn, Value.int .i64 (c.fi : Int)]) 7 rfl Tryz.underlying102 Tryz.underlying102 (fun _ h => by cases h) Ty.sz110 (by decide) Ty.by110 Ty.zr110 rfl rfl rfl rfl hS12 rfl ((hS12.cel_rd 0 rfl (o := 0) (m := 1) (k := 3) rfl (Nat.le_of_ble_eq_true rfl)).src) rfl (by omega) (by omega) (fun a16 c17 w15 hS15 => ?_)
 replace hS15 : St B (cel g13 [str c.fr, str c.tn, Value.int .i64 (c.fi : Int)] 110 :: own a1 ((applyN D.nm c).length) c1 112 2 ((applyN D.nm c).flatMap fcl) :: ro rx.na D.nm.length 112 2 (D.nm.flatMap fcl) :: cel g2 [str c.fr, str c.tn, Value.int .i64 (c.fi : Int)] 110 :: cel g [Value.int .i64 D.room, Value.slice rx.fa D.f.length rx.fc, Value.slice a1 ((applyN D.nm c).length) c1, Value.slice rx.la D.last.length rx.lc, Value.slice rx.ca D.ch.length rx.cc, Value.bool D.dead, Value.int .i64 D.left] 104 :: own rx.fa D.f.length rx.fc 107 2 (D.f.flatMap fcl) :: ro rx.la D.last.length 112 2 (D.last.flatMap fcl) :: own a16 (D.ch.length + 1) c17 110 3 ((D.ch.flatMap ccl) ++ [str c.fr, str c.tn, Value.int .i64 (c.fi : Int)]) :: L) w15 := hS15
 clear hS12
 refine WO.nil ?_
 have s18 : (∀ j, World.cell? w15 ⟨g2, j, none⟩ = [str c.fr, str c.tn, Value.int .i64 (c.fi : Int)][j]?) ∧ (∀ j, World.cell? w15 ⟨g, j, none⟩ = [Value.int .i64 D.room, Value.slice rx.fa D.f.length rx.fc, Value.slice a1 ((applyN D.nm c).length) c1, Value.slice rx.la D.last.length rx.lc, Value.slice rx.ca D.ch.length rx.cc, Value.bool D.dead, Value.int .i64 D.left][j]?) := ⟨hS15.cel_at 3 rfl, hS15.cel_at 4 rfl⟩
 refine NX.held s18 ?_
 refine WD.pure (i := 8) r4change_spec_t2 (bt 11 511) rfl rfl rfl (by kernel_rfl) PQ.body rfl (fun w => run_nilCheck rfl) ?_
 refine WD.pure (i := 9) r4change_spec_t2 (bt 11 1023) rfl rfl rfl (by kernel_rfl) PQ.body rfl (fun w => run_fieldAddr (q := ⟨g, 4, none⟩) (show fieldB Tryz.prog 104 4 = some 4 from by kernel_rfl) rfl rfl) ?_
 refine WD.one (i := 10) r4change_spec_t2 (bt 11 2047) rfl (by kernel_rfl) ?_
 refine WO.store (l' := [Value.int .i64 D.room, Value.slice rx.fa D.f.length rx.fc, Value.slice a1 ((applyN D.nm c).length) c1, Value.slice rx.la D.last.length rx.lc, Value.slice a16 (D.ch.length + 1) c17, Value.bool D.dead, Value.int .i64 D.left]) 4 hS15 rfl Ty.sz102 rfl rfl rfl rfl rfl (Nat.le_of_ble_eq_true rfl) rfl (fun w19 (hS19 : St B (cel g13 [str c.fr, str c.tn, Value.int .i64 (c.fi : Int)] 110 :: own a1 ((applyN D.nm c).length) c1 112 2 ((applyN D.nm c).flatMap fcl) :: ro rx.na D.nm.length 112 2 (D.nm.flatMap fcl) :: cel g2 [str c.fr, str c.tn, Value.int .i64 (c.fi : Int)] 110 :: cel g [Value.int .i64 D.room, Value.slice rx.fa D.f.length rx.fc, Value.slice a1 ((applyN D.nm c).length) c1, Value.slice rx.la D.last.length rx.lc, Value.slice a16 (D.ch.length + 1) c17, Value.bool D.dead, Value.int .i64 D.left] 104 :: own rx.fa D.f.length rx.fc 107 2 (D.f.flatMap fcl) :: ro rx.la D.last.length 112 2 (D.last.flatMap fcl) :: own a16 (D.ch.length + 1) c17 110 3 ((D.ch.flatMap ccl) ++ [str c.fr, str c.tn, Value.int .i64 (c.fi : Int)]) :: L) w19) => ?_)
 clear hS15
 refine WO.nil ?_
 refine NX.last (by decide) ?_
 refine WD.done r4change_spec_t2 (by kernel_rfl) ?_
 refine NX.ended (l := []) rfl rfl ?_
 have e1 : (changeD D c).ch.length = D.ch.length + 1 := by show (D.ch ++ [c]).length = _; simp
 have e2 : (changeD D c).ch.flatMap ccl = D.ch.flatMap ccl ++ ccl c := flat_snoc ..
 refine ⟨⟨rx.fa, rx.fc, a1, c1, rx.la, rx.lc, a16, c17⟩, rfl, ?_⟩
 rw [e1, e2]
 have hx := ((hS19.permT [0, 1, 1, 1, 1, 0, 0, 0] (L' := cel g13 [str c.fr, str c.tn, Value.int .i64 (c.fi : Int)] 110 :: ro rx.na D.nm.length 112 2 (D.nm.flatMap fcl) :: cel g2 [str c.fr, str c.tn, Value.int .i64 (c.fi : Int)] 110 :: cel g [Value.int .i64 D.room, Value.slice rx.fa D.f.length rx.fc, Value.slice a1 ((applyN D.nm c).length) c1, Value.slice rx.la D.last.length rx.lc, Value.slice a16 (D.ch.length + 1) c17, Value.bool D.dead, Value.int .i64 D.left] 104 :: own rx.fa D.f.length rx.fc 107 2 (D.f.flatMap fcl) :: own a1 ((applyN D.nm c).length) c1 112 2 ((applyN D.nm c).flatMap fcl) :: ro rx.la D.last.length 112 2 (D.last.flatMap fcl) :: own a16 (D.ch.length + 1) c17 110 3 ((D.ch.flatMap ccl) ++ [str c.fr, str c.tn, Value.int .i64 (c.fi : Int)]) :: L) rfl).drop.drop.drop)
 exact (((hx.permT [2] rfl).own_seal).permT [1, 1] rfl)
theorem r4used_spec_t5 : rtab .any (opsOf Tryz.f33 5) = (true, [([], []), ([], []), ([1], [1]), ([2], [2]), ([3], [3]), ([], []), ([5], [5]), ([6], [6]), ([7], [7]), ([], []), ([8, 9], [8, 9]), ([10], [10]), ([11], [11]), ([4, 12], [4, 12]), ([13], [13]), ([14], [14]), ([15], [15]), ([0, 16], [0, 16]), ([17, 0, 1, 2, 3, 4, 5, 6, 7, 8, 9, 10, 11, 12, 13, 14, 15, 16, 17], [0, 17])]) := by kernel_rfl
theorem r4used_spec {B w : World} {L : List HP} {g : Nat} {D : Dk} {rx : RX} {n t : Nat} (hw : WFD D) (hb : Bnd D n t) (ht : t ≤ 1099511627776) (hS : St B (cel g [Value.int .i64 D.room, Value.slice rx.fa D.f.length rx.fc, Value.slice rx.na D.nm.length rx.nc, Value.slice rx.la D.last.length rx.lc, Value.slice rx.ca D.ch.length rx.cc, Value.bool D.dead, Value.int .i64 D.left] 104 :: own rx.fa D.f.length rx.fc 107 2 (D.f.flatMap fcl) :: ro rx.na D.nm.length 112 2 (D.nm.flatMap fcl) :: ro rx.la D.last.length 112 2 (D.last.flatMap fcl) :: own rx.ca D.ch.length rx.cc 110 3 (D.ch.flatMap ccl) :: L) w) : Does Tryz.prog 33 [Value.pointer (some ⟨g, 0, none⟩)] w (fun v w1 => v = .int .i64 ((usedN D.f D.nm : Nat) : Int) ∧ St B (cel g [Value.int .i64 D.room, Value.slice rx.fa D.f.length rx.fc, Value.slice rx.na D.nm.length rx.nc, Value.slice rx.la D.last.length rx.lc, Value.slice rx.ca D.ch.length rx.cc, Value.bool D.dead, Value.int .i64 D.left] 104 :: own rx.fa D.f.length rx.fc 107 2 (D.f.flatMap fcl) :: ro rx.na D.nm.length 112 2 (D.nm.flatMap fcl) :: ro rx.la D.last.length 112 2 (D.last.flatMap fcl) :: own rx.ca D.ch.length rx.cc 110 3 (D.ch.flatMap ccl) :: L) w1) := by
 have h64 := hw.nm64
 refine enter (n := 33) Tryz.func33 rfl rfl [Value.pointer (some ⟨g, 0, none⟩)] rfl ?_
 refine WP.seq (WP.region rfl ?_)
 refine WO.asg rfl rfl ?_
 refine WO.nil (NX.go (WP.seq (WP.region rfl ?_)))
 refine WO.asg rfl rfl ?_
 refine WO.nil (NX.go (WP.seq (WP.seq (WP.region rfl ?_))))
 refine WO.asg rfl rfl ?_
 refine WO.nil (NX.go (WP.block ?_))
 refine WP.loop (α := Nat) (fun x => match x with | i => [(0, Value.pointer (some ⟨g, 0, none⟩)), (3, Value.int .i64 ((usedN D.f (D.nm.take i) : Nat) : Int)), (4, Value.int .i64 (i : Int))]) (fun x w => match x with | i => (i ≤ D.nm.length ∧ usedN D.f (D.nm.take i) ≤ i * t) ∧ St B (cel g [Value.int .i64 D.room, Value.slice rx.fa D.f.length rx.fc, Value.slice rx.na D.nm.length rx.nc, Value.slice rx.la D.last.length rx.lc, Value.slice rx.ca D.ch.length rx.cc, Value.bool D.dead, Value.int .i64 D.left] 104 :: own rx.fa D.f.length rx.fc 107 2 (D.f.flatMap fcl) :: ro rx.na D.nm.length 112 2 (D.nm.flatMap fcl) :: ro rx.la D.last.length 112 2 (D.last.flatMap fcl) :: own rx.ca D.ch.length rx.cc 110 3 (D.ch.flatMap ccl) :: L) w) (fun x => match x with | i => D.nm.length - i) 0 ⟨⟨Nat.zero_le _, Nat.zero_le _⟩, hS⟩ (Sub.cons rfl (Sub.consE rfl (by first | rfl | first | rfl | (congr 1; omega) | (simp; done) | (simp; omega)) (Sub.consE rfl (by first | rfl | first | rfl | (congr 1; omega) | (simp; done) | (simp; omega)) (Sub.nil _)))) ?_
 rintro i w1 ⟨⟨hi, hu⟩, hS1⟩
 clear hS
 refine WP.seq (WP.seq (WP.region rfl ?_))
 refine WO.mv rfl rfl ?_
 refine WO.mv rfl rfl ?_
 refine WO.val (run_nilCheck rfl) rfl rfl rfl ?_
 refine WO.val (run_fieldAddr (q := ⟨g, 2, none⟩) (show fieldB Tryz.prog 104 2 = some 2 from by kernel_rfl) rfl rfl) rfl rfl rfl ?_
 refine WO.val (run_load Ty.ag101 rfl ((hS1.cel_at 0 rfl 2).trans rfl)) rfl rfl rfl ?_
 refine WO.val (run_len rfl Tryz.underlying101 rfl) rfl rfl rfl ?_
 refine WO.val (run_lss rfl rfl) rfl rfl rfl ?_
 refine WO.nil (NX.go ?_)
 refine WP.condP rfl (fun g11 => ?_) (fun g11 => ?_)
 ·
  refine WP.skip (NX.go (WP.seq (WP.block ?_)))
  obtain ⟨e, he⟩ : ∃ e, D.nm[i]? = some e := ⟨_, List.getElem?_eq_getElem (by omega)⟩
  have hlt : e.2 < D.f.length := (hw.good.f e (List.mem_of_getElem? he)).2
  have hfe := fileAt_get hlt
  have hft := hb.t _ (fileAt_mem hlt)
  have hun : usedN D.f (D.nm.take (i + 1)) = usedN D.f (D.nm.take i) + (fileAt D.f e.2).1.length := by unfold usedN; rw [List.take_add_one, he, Option.toList_some, List.map_append, List.sum_append]; simp
  have hit : i * t ≤ 64 * t := Nat.mul_le_mul_right _ (by omega)
  have hsrxna : rx.na.isSome = true := by obtain ⟨q, hq, _⟩ := ((hS1.ro_rd_i 2 rfl)).2.1 (by omega); rw [hq]; rfl
  have hsrxfa : rx.fa.isSome = true := by obtain ⟨q, hq, _⟩ := ((hS1.own_rd_i 1 rfl)).2.1 (by omega); rw [hq]; rfl
  refine WD.start (fun w => (∀ j, World.cell? w ⟨g, j, none⟩ = [Value.int .i64 D.room, Value.slice rx.fa D.f.length rx.fc, Value.slice rx.na D.nm.length rx.nc, Value.slice rx.la D.last.length rx.lc, Value.slice rx.ca D.ch.length rx.cc, Value.bool D.dead, Value.int .i64 D.left][j]?) ∧ Rd w rx.fa D.f.length 2 (D.f.flatMap fcl) ∧ Rd w rx.na D.nm.length 2 (D.nm.flatMap fcl) ∧ Rd w rx.la D.last.length 2 (D.last.flatMap fcl) ∧ Rd w rx.ca D.ch.length 3 (D.ch.flatMap ccl)) [] (bt 19 0) Ty.mo rfl (by kernel_rfl) hS1 (fun _ h => ⟨h.cel_at 0 rfl, (h.own_rd_i 1 rfl), (h.ro_rd_i 2 rfl), (h.ro_rd_i 3 rfl), (h.own_rd_i 4 rfl)⟩) (fun w2 hS2 s3 => ?_)
  clear hS1
  refine WD.pure (i := 0) r4used_spec_t5 (bt 19 1) rfl rfl rfl (by kernel_rfl) (PQ.blk (PQ.then (PQ.then (PQ.blk (PQ.then PQ.body))))) rfl (fun w => run_move rfl) ?_
  refine WD.pure (i := 1) r4used_spec_t5 (bt 19 3) rfl rfl rfl (by kernel_rfl) (PQ.blk (PQ.then (PQ.then (PQ.blk (PQ.then PQ.body))))) rfl (fun w => run_move rfl) ?_
  refine WD.pure (i := 2) r4used_spec_t5 (bt 19 7) rfl rfl rfl (by kernel_rfl) (PQ.blk (PQ.then (PQ.then (PQ.blk (PQ.then PQ.body))))) rfl (fun w => run_nilCheck rfl) ?_
  refine WD.pure (i := 3) r4used_spec_t5 (bt 19 15) rfl rfl rfl (by kernel_rfl) (PQ.blk (PQ.then (PQ.then (PQ.blk (PQ.then PQ.body))))) rfl (fun w => run_fieldAddr (q := ⟨g, 1, none⟩) (show fieldB Tryz.prog 104 1 = some 1 from by kernel_rfl) rfl rfl) ?_
  refine WD.take (i := 4) r4used_spec_t5 (bt 19 31) s3 rfl rfl rfl (by kernel_rfl) (PQ.blk (PQ.then (PQ.then (PQ.blk (PQ.then PQ.body))))) rfl (fun w hs => run_load Ty.ag100 rfl ((hs.1 1).trans rfl)) ?_
  refine WD.pure (i := 5) r4used_spec_t5 (bt 19 63) rfl rfl rfl (by kernel_rfl) (PQ.blk (PQ.then (PQ.then (PQ.blk (PQ.then PQ.body))))) rfl (fun w => run_move rfl) ?_
  refine WD.pure (i := 6) r4used_spec_t5 (bt 19 127) rfl rfl rfl (by kernel_rfl) (PQ.blk (PQ.then (PQ.then (PQ.blk (PQ.then PQ.body))))) rfl (fun w => run_nilCheck rfl) ?_
  refine WD.pure (i := 7) r4used_spec_t5 (bt 19 255) rfl rfl rfl (by kernel_rfl) (PQ.blk (PQ.then (PQ.then (PQ.blk (PQ.then PQ.body))))) rfl (fun w => run_fieldAddr (q := ⟨g, 2, none⟩) (show fieldB Tryz.prog 104 2 = some 2 from by kernel_rfl) rfl rfl) ?_
  refine WD.take (i := 8) r4used_spec_t5 (bt 19 511) s3 rfl rfl rfl (by kernel_rfl) (PQ.blk (PQ.then (PQ.then (PQ.blk (PQ.then PQ.body))))) rfl (fun w hs => run_load Ty.ag101 rfl ((hs.1 2).trans rfl)) ?_
  refine WD.pure (i := 9) r4used_spec_t5 (bt 19 1023) rfl rfl rfl (by kernel_rfl) (PQ.blk (PQ.then (PQ.then (PQ.blk (PQ.then PQ.body))))) rfl (fun w => run_move rfl) ?_
  refine WD.take (i := 10) r4used_spec_t5 (bt 19 2047) s3 rfl rfl rfl (by kernel_rfl) (PQ.blk (PQ.then (PQ.then (PQ.blk (PQ.then PQ.body))))) rfl (fun w hs => run_indexAddr (q := adr rx.na (i * 2)) Tryz.underlying101 Ty.sz112 rfl rfl (by omega) (by omega) ((hs.2.2.1).2.1 (by omega)) rfl) ?_
  refine WD.pure (i := 11) r4used_spec_t5 (bt 19 4095) rfl rfl rfl (by kernel_rfl) (PQ.blk (PQ.then (PQ.then (PQ.blk (PQ.then PQ.body))))) rfl (fun w => run_fieldAddr (q := (adr rx.na (i * 2 + 1))) (show fieldB Tryz.prog 112 1 = some 1 from by kernel_rfl) rfl (adr_add _ (by assumption) _ _)) ?_
  refine WD.take (i := 12) r4used_spec_t5 (bt 19 8191) s3 rfl rfl rfl (by kernel_rfl) (PQ.blk (PQ.then (PQ.then (PQ.blk (PQ.then PQ.body))))) rfl (fun w hs => run_load Ty.ag3 rfl ((hs.2.2.1).cell ((flat_get fcl_len he (j := 1) (by decide)).trans rfl))) ?_
  refine WD.take (i := 13) r4used_spec_t5 (bt 19 16383) s3 rfl rfl rfl (by kernel_rfl) (PQ.blk (PQ.then (PQ.then (PQ.blk (PQ.then PQ.body))))) rfl (fun w hs => run_indexAddr (q := adr rx.fa (e.2 * 2)) Tryz.underlying100 Ty.sz107 rfl rfl (by omega) (by omega) ((hs.2.1).2.1 (by omega)) rfl) ?_
  refine WD.pure (i := 14) r4used_spec_t5 (bt 19 32767) rfl rfl rfl (by kernel_rfl) (PQ.blk (PQ.then (PQ.then (PQ.blk (PQ.then PQ.body))))) rfl (fun w => run_fieldAddr (q := (adr rx.fa (e.2 * 2 + 0))) (show fieldB Tryz.prog 107 0 = some 0 from by kernel_rfl) rfl (adr_add _ (by assumption) _ _)) ?_
  refine WD.take (i := 15) r4used_spec_t5 (bt 19 65535) s3 rfl rfl rfl (by kernel_rfl) (PQ.blk (PQ.then (PQ.then (PQ.blk (PQ.then PQ.body))))) rfl (fun w hs => run_load Ty.ag9 rfl ((hs.2.1).cell ((flat_get fcl_len hfe (j := 0) (by decide)).trans rfl))) ?_
  refine WD.pure (i := 16) r4used_spec_t5 (bt 19 131071) rfl rfl rfl (by kernel_rfl) (PQ.blk (PQ.then (PQ.then (PQ.blk (PQ.then PQ.body))))) rfl (fun w => run_lenS rfl Tryz.underlying9 rfl) ?_
  refine WD.pure (i := 17) r4used_spec_t5 (bt 19 262143) rfl rfl rfl (by kernel_rfl) (PQ.blk (PQ.then (PQ.then (PQ.blk (PQ.then PQ.body))))) rfl (fun w => run_add rfl rfl (show IntKind.i64.wrap (((usedN D.f (D.nm.take i) : Nat) : Int) + (((fileAt D.f e.2).1.length : Nat) : Int)) = ((usedN D.f (D.nm.take (i + 1)) : Nat) : Int) by rw [hun, IntWalk.i64_in _ (by omega)]; omega)) ?_
  refine WD.pure (i := 18) r4used_spec_t5 (bt 19 524287) rfl rfl rfl (by kernel_rfl) (PQ.blk (PQ.then (PQ.then (PQ.blk (PQ.then PQ.body))))) rfl (fun w => run_assign rfl) ?_
  refine WD.done r4used_spec_t5 (by kernel_rfl) ?_
  refine NX.blk (NX.go (WP.region rfl ?_))
  refine WO.mv rfl rfl ?_
  refine WO.val (run_add rfl rfl (IntWalk.i64_in _ (by omega))) rfl rfl rfl ?_
  refine WO.asg rfl rfl ?_
  refine WO.nil ?_
  exact NX.again (i + 1) ⟨⟨by omega, by rw [hun, Nat.add_mul]; omega⟩, hS2⟩ (by show D.nm.length - (i + 1) < D.nm.length - i; omega) (Sub.cons rfl (Sub.consE rfl rfl (Sub.consE rfl (by congr 1) (Sub.nil _))))
 ·
  refine WP.exit (NX.thenExit (NX.thenExit ?_))
  refine NX.blkExit ?_
  refine NX.go (WP.seq (WP.region rfl ?_))
  refine WO.mv rfl rfl ?_
  refine WO.asg rfl rfl ?_
  refine WO.nil (NX.go (WP.ret ?_))
  refine NX.done (l := [.tmp 2]) rfl rfl ?_
  have hil : i = D.nm.length := by omega
  subst hil
  rw [List.take_length]
  exact ⟨rfl, hS1⟩
end Go.Proofs.YtcehlnpbdffdhaaGreatDoor.SL

/- The document's disk: what it does. -/
namespace Go.Proofs.YtcehlnpbdffdhaaGreatDoor.SL
open Go.RowKit Go.Proofs.YtcehlnpbdffdhaaGreatDoor
open Go.Proofs.YtcehlnpbdffdhaaGreatDoorW.PrintLast (rtab opsOf)
set_option linter.unusedVariables false
set_option linter.unusedSimpArgs false

theorem findN_insN {k : List UInt8} {x : Nat} : ∀ {l : Nm}, findN k l = none → findN k (insN (k, x) l) = some x
  | [], _ => by show (if k = k then some x else none) = _; rw [if_pos rfl]
  | e :: l, h => by
    unfold findN at h
    split at h
    · cases h
    · rename_i hne
      unfold insN
      split
      · show (if k = e.1 then some e.2 else findN k (insN (k, x) l)) = _
        rw [if_neg hne]; exact findN_insN h
      · show (if k = k then some x else _) = _
        rw [if_pos rfl]
theorem addTo_last (f : List (List UInt8 × Nat)) (s : List UInt8) : addTo (f ++ [([], 0)]) f.length s = f ++ [(s, 0)] := by
  unfold addTo fileAt
  rw [List.getD_eq_getElem?_getD, List.getElem?_append_right (Nat.le_refl _), Nat.sub_self]
  show (f ++ [([], 0)]).set f.length ([] ++ s, 0) = _
  rw [List.set_append_right _ _ (Nat.le_refl _), Nat.sub_self]; rfl
theorem names_at {D : Dk} {i : Nat} (hi : i ≤ D.nm.length) (h0 : D.dead = true → i = 0) (h : D.dead = true ∨ D.nm.length ≤ i) : namesD D = (D.nm.take i).map (·.1) := by
  unfold namesD
  cases hd : D.dead with
  | true => rw [if_pos rfl, h0 hd]; rfl
  | false =>
    rw [hd] at h
    have hle : D.nm.length ≤ i := h.resolve_left Bool.noConfusion
    rw [if_neg Bool.noConfusion, List.take_of_length_le hle]
theorem onWrite_of {D D1 : Dk} {b : Bool} (e1 : D1 = (writeD D).1) (e2 : (writeD D).2 = b) (k : Dk → Dk × Int) : onWrite D k = if b = true then k D1 else (D1, 11) := by
  unfold onWrite; rw [e2, e1]
theorem r4syncNames_spec {B w : World} {L : List HP} {g : Nat} {D : Dk} {n t : Nat} (hk : OkD D n t) (hS : St B (refA g D :: L) w) : Does Tryz.prog 74 [Value.pointer (some ⟨g, 0, none⟩)] w (fun v w1 => v = .int .i64 (syncNamesD D).2 ∧ St B (refA g (syncNamesD D).1 :: L) w1) := by
 obtain ⟨rx, h0⟩ := hS.rf_open
 clear hS
 have hw := hk.w
 have hcb := hk.b.ch
 have hfb := hk.b.f
 have h64 := hw.nm64
 refine enter (n := 16) Tryz.func74 rfl rfl [Value.pointer (some ⟨g, 0, none⟩)] rfl ?_
 refine WP.seq (WP.region rfl ?_)
 refine WO.asg rfl rfl ?_
 refine WO.nil (NX.go (WP.seq (WP.seq (WP.region rfl ?_))))
 refine WO.mv rfl rfl ?_
 refine WO.call rfl rfl Ty.hd64 rfl (r4write_spec hw.left hw.lrng h0) (fun v2 w1 pv2 => ?_)
 obtain ⟨hv, hS1⟩ := pv2
 clear h0
 obtain ⟨D1, eD1⟩ : ∃ qq, qq = (writeD D).1 := ⟨_, rfl⟩
 have q1 : D1 = { D with dead := wDead D.dead D.left, left := wLeft D.dead D.left } := by rw [eD1, writeD_eq]
 obtain ⟨b1, eb1⟩ : ∃ qq, qq = wOk D.dead D.left := ⟨_, rfl⟩
 have qb : (writeD D).2 = b1 := by rw [eb1, writeD_eq]
 rw [← eb1] at hv
 subst hv
 have k1 : OkD D1 n t := by rw [eD1]; exact hk.write
 have ew := onWrite_of eD1 qb
 have en : D1.nm = D.nm := by rw [q1]
 have hw1 := k1.w
 have hcb1 := k1.b.ch
 have hfb1 := k1.b.f
 have h641 := hw1.nm64
 have hS3 : St B (cel g [Value.int .i64 D1.room, Value.slice rx.fa D1.f.length rx.fc, Value.slice rx.na D1.nm.length rx.nc, Value.slice rx.la D1.last.length rx.lc, Value.slice rx.ca D1.ch.length rx.cc, Value.bool D1.dead, Value.int .i64 D1.left] 104 :: own rx.fa D1.f.length rx.fc 107 2 (D1.f.flatMap fcl) :: ro rx.na D1.nm.length 112 2 (D1.nm.flatMap fcl) :: ro rx.la D1.last.length 112 2 (D1.last.flatMap fcl) :: own rx.ca D1.ch.length rx.cc 110 3 (D1.ch.flatMap ccl) :: L) w1 := by rw [q1]; exact hS1
 clear hS1
 refine WO.val (run_not rfl rfl) rfl rfl rfl ?_
 refine WO.nil (NX.go ?_)
 refine WP.condB rfl (fun g5 => ?_) (fun g5 => ?_)
 ·
  have hb1 : b1 = false := by simpa using g5
  refine WP.seq (WP.region rfl ?_)
  refine WO.asg rfl rfl ?_
  refine WO.nil (NX.go (WP.ret (NX.thenRet ?_)))
  refine NX.done (l := [.tmp 2]) rfl rfl ?_
  have e0 : syncNamesD D = (D1, 11) := by unfold syncNamesD; rw [ew, if_neg (by rw [hb1]; exact Bool.noConfusion)]
  rw [e0]
  exact ⟨rfl, St.rf_shut rx (hS3.permT [0, 0, 0, 0, 0] (L' := cel g [Value.int .i64 D1.room, Value.slice rx.fa D1.f.length rx.fc, Value.slice rx.na D1.nm.length rx.nc, Value.slice rx.la D1.last.length rx.lc, Value.slice rx.ca D1.ch.length rx.cc, Value.bool D1.dead, Value.int .i64 D1.left] 104 :: own rx.fa D1.f.length rx.fc 107 2 (D1.f.flatMap fcl) :: ro rx.na D1.nm.length 112 2 (D1.nm.flatMap fcl) :: ro rx.la D1.last.length 112 2 (D1.last.flatMap fcl) :: own rx.ca D1.ch.length rx.cc 110 3 (D1.ch.flatMap ccl) :: L) rfl)⟩
 ·
  have hb1 : b1 = true := by simpa using g5
  refine WP.skip (NX.go (WP.seq (WP.region rfl ?_)))
  refine WO.mv rfl rfl ?_
  refine WO.mv rfl rfl ?_
  refine WO.val (run_nilCheck rfl) rfl rfl rfl ?_
  refine WO.val (run_fieldAddr (q := ⟨g, 2, none⟩) (show fieldB Tryz.prog 104 2 = some 2 from by kernel_rfl) rfl rfl) rfl rfl rfl ?_
  refine WO.val (run_load Ty.ag101 rfl ((hS3.cel_at 0 rfl 2).trans rfl)) rfl rfl rfl ?_
  refine WO.val (run_nilCheck rfl) rfl rfl rfl ?_
  refine WO.val (run_fieldAddr (q := ⟨g, 3, none⟩) (show fieldB Tryz.prog 104 3 = some 3 from by kernel_rfl) rfl rfl) rfl rfl rfl ?_
  refine WO.store (l' := [Value.int .i64 D1.room, Value.slice rx.fa D1.f.length rx.fc, Value.slice rx.na D1.nm.length rx.nc, Value.slice rx.na D1.nm.length rx.nc, Value.slice rx.ca D1.ch.length rx.cc, Value.bool D1.dead, Value.int .i64 D1.left]) 0 hS3 rfl Ty.sz101 rfl rfl rfl rfl rfl (Nat.le_of_ble_eq_true rfl) rfl (fun w4 (hS4 : St B (cel g [Value.int .i64 D1.room, Value.slice rx.fa D1.f.length rx.fc, Value.slice rx.na D1.nm.length rx.nc, Value.slice rx.na D1.nm.length rx.nc, Value.slice rx.ca D1.ch.length rx.cc, Value.bool D1.dead, Value.int .i64 D1.left] 104 :: own rx.fa D1.f.length rx.fc 107 2 (D1.f.flatMap fcl) :: ro rx.na D1.nm.length 112 2 (D1.nm.flatMap fcl) :: ro rx.la D1.last.length 112 2 (D1.last.flatMap fcl) :: own rx.ca D1.ch.length rx.cc 110 3 (D1.ch.flatMap ccl) :: L) w4) => ?_)
  clear hS3
  refine WO.nil (NX.go (WP.seq (WP.region rfl ?_)))
  refine WO.mv rfl rfl ?_
  refine WO.val (run_nilCheck rfl) rfl rfl rfl ?_
  refine WO.val (run_fieldAddr (q := ⟨g, 4, none⟩) (show fieldB Tryz.prog 104 4 = some 4 from by kernel_rfl) rfl rfl) rfl rfl rfl ?_
  refine WO.store (l' := [Value.int .i64 D1.room, Value.slice rx.fa D1.f.length rx.fc, Value.slice rx.na D1.nm.length rx.nc, Value.slice rx.na D1.nm.length rx.nc, Value.slice none 0 0, Value.bool D1.dead, Value.int .i64 D1.left]) 0 hS4 rfl Ty.sz102 rfl rfl rfl rfl rfl (Nat.le_of_ble_eq_true rfl) rfl (fun w5 (hS5 : St B (cel g [Value.int .i64 D1.room, Value.slice rx.fa D1.f.length rx.fc, Value.slice rx.na D1.nm.length rx.nc, Value.slice rx.na D1.nm.length rx.nc, Value.slice none 0 0, Value.bool D1.dead, Value.int .i64 D1.left] 104 :: own rx.fa D1.f.length rx.fc 107 2 (D1.f.flatMap fcl) :: ro rx.na D1.nm.length 112 2 (D1.nm.flatMap fcl) :: ro rx.la D1.last.length 112 2 (D1.last.flatMap fcl) :: own rx.ca D1.ch.length rx.cc 110 3 (D1.ch.flatMap ccl) :: L) w5) => ?_)
  clear hS4
  refine WO.nil (NX.go (WP.seq (WP.region rfl ?_)))
  refine WO.asg rfl rfl ?_
  refine WO.nil (NX.go (WP.ret ?_))
  have hd := St.dup (ro_pers _ _ _ _ _) (hS5.permT [2] rfl)
  have hd2 := (hd.own_nil 110 3)
  refine NX.done (l := [.tmp 2]) rfl rfl ?_
  have e0 : syncNamesD D = ({ D1 with last := D1.nm, ch := [] }, 0) := by unfold syncNamesD; rw [ew, if_pos hb1]; rfl
  rw [e0]
  exact ⟨rfl, St.rf_shut (D := { D1 with last := D1.nm, ch := [] }) ⟨rx.fa, rx.fc, rx.na, rx.nc, rx.na, rx.nc, none, 0⟩ (hd2.permT [5, 5, 3, 3, 1, 1, 0] (L' := ro rx.la D1.last.length 112 2 (D1.last.flatMap fcl) :: own rx.ca D1.ch.length rx.cc 110 3 (D1.ch.flatMap ccl) :: cel g [Value.int .i64 D1.room, Value.slice rx.fa D1.f.length rx.fc, Value.slice rx.na D1.nm.length rx.nc, Value.slice rx.na D1.nm.length rx.nc, Value.slice none 0 0, Value.bool D1.dead, Value.int .i64 D1.left] 104 :: own rx.fa D1.f.length rx.fc 107 2 (D1.f.flatMap fcl) :: ro rx.na D1.nm.length 112 2 (D1.nm.flatMap fcl) :: ro rx.na D1.nm.length 112 2 (D1.nm.flatMap fcl) :: own none 0 0 110 3 [] :: L) rfl).drop.drop⟩
theorem r4sync_spec_t7 : rtab .any (opsOf Tryz.f72 7) = (true, [([], []), ([0], [0]), ([1], [1]), ([2], [2]), ([], []), ([], []), ([5], [5]), ([6], [6]), ([7], [7]), ([], []), ([8, 9], [8, 9]), ([10], [10]), ([11], [11]), ([12], [12]), ([3, 4, 0, 1, 2, 3, 4, 5, 6, 7, 8, 9, 10, 11, 12, 13], [3, 4]), ([14, 0, 1, 2, 3, 4, 5, 6, 7, 8, 9, 10, 11, 12, 13], [14]), ([15, 13, 0, 1, 2, 3, 4, 5, 6, 7, 8, 9, 10, 11, 12, 13], [13, 15])]) := by kernel_rfl
theorem r4sync_spec {B w : World} {L : List HP} {g : Nat} {D : Dk} {n t : Nat} (hk : OkD D n t) (hn1 : n ≤ 1000000000) (ht : t ≤ 1099511627776) (k : List UInt8) (hS : St B (refA g D :: L) w) : Does Tryz.prog 72 [Value.pointer (some ⟨g, 0, none⟩), str k] w (fun v w1 => v = .int .i64 (syncD D k).2 ∧ St B (refA g (syncD D k).1 :: L) w1) := by
 obtain ⟨rx, h0⟩ := hS.rf_open
 clear hS
 have hw := hk.w
 have hcb := hk.b.ch
 have hfb := hk.b.f
 have h64 := hw.nm64
 refine enter (n := 44) Tryz.func72 rfl rfl [Value.pointer (some ⟨g, 0, none⟩), str k] rfl ?_
 refine WP.seq (WP.region rfl ?_)
 refine WO.asg rfl rfl ?_
 refine WO.nil (NX.go (WP.seq (WP.region rfl ?_)))
 refine WO.mv rfl rfl ?_
 refine WO.val (run_nilCheck rfl) rfl rfl rfl ?_
 refine WO.val (run_fieldAddr (q := ⟨g, 2, none⟩) (show fieldB Tryz.prog 104 2 = some 2 from by kernel_rfl) rfl rfl) rfl rfl rfl ?_
 refine WO.val (run_load Ty.ag101 rfl ((h0.cel_at 0 rfl 2).trans rfl)) rfl rfl rfl ?_
 refine WO.mv rfl rfl ?_
 have hS1 := h0.permT [2, 0, 0, 0, 0] (L' := ro rx.na D.nm.length 112 2 (D.nm.flatMap fcl) :: cel g [Value.int .i64 D.room, Value.slice rx.fa D.f.length rx.fc, Value.slice rx.na D.nm.length rx.nc, Value.slice rx.la D.last.length rx.lc, Value.slice rx.ca D.ch.length rx.cc, Value.bool D.dead, Value.int .i64 D.left] 104 :: own rx.fa D.f.length rx.fc 107 2 (D.f.flatMap fcl) :: ro rx.la D.last.length 112 2 (D.last.flatMap fcl) :: own rx.ca D.ch.length rx.cc 110 3 (D.ch.flatMap ccl) :: L) rfl
 clear h0
 refine WO.call rfl rfl Ty.hd63 rfl (r4at_spec (fun h => h.ro_rd) k (by omega) hS1) (fun v3 w2 pv3 => ?_)
 obtain ⟨r, rfl, hat, hS2⟩ := pv3
 clear hS1
 refine WO.asg rfl rfl ?_
 refine WO.nil (NX.go (WP.seq (WP.block (WP.seq (WP.region rfl ?_)))))
 refine WO.mv rfl rfl ?_
 have hS4 := hS2.permT [1, 0, 0, 0, 0] (L' := cel g [Value.int .i64 D.room, Value.slice rx.fa D.f.length rx.fc, Value.slice rx.na D.nm.length rx.nc, Value.slice rx.la D.last.length rx.lc, Value.slice rx.ca D.ch.length rx.cc, Value.bool D.dead, Value.int .i64 D.left] 104 :: ro rx.na D.nm.length 112 2 (D.nm.flatMap fcl) :: own rx.fa D.f.length rx.fc 107 2 (D.f.flatMap fcl) :: ro rx.la D.last.length 112 2 (D.last.flatMap fcl) :: own rx.ca D.ch.length rx.cc 110 3 (D.ch.flatMap ccl) :: L) rfl
 clear hS2
 refine WO.call rfl rfl Ty.hd64 rfl (r4write_spec hw.left hw.lrng hS4) (fun v6 w5 pv6 => ?_)
 obtain ⟨hv, hS5⟩ := pv6
 clear hS4
 obtain ⟨D1, eD1⟩ : ∃ qq, qq = (writeD D).1 := ⟨_, rfl⟩
 have q1 : D1 = { D with dead := wDead D.dead D.left, left := wLeft D.dead D.left } := by rw [eD1, writeD_eq]
 obtain ⟨b1, eb1⟩ : ∃ qq, qq = wOk D.dead D.left := ⟨_, rfl⟩
 have qb : (writeD D).2 = b1 := by rw [eb1, writeD_eq]
 rw [← eb1] at hv
 subst hv
 have k1 : OkD D1 n t := by rw [eD1]; exact hk.write
 have ew := onWrite_of eD1 qb
 have en : D1.nm = D.nm := by rw [q1]
 have hw1 := k1.w
 have hcb1 := k1.b.ch
 have hfb1 := k1.b.f
 have h641 := hw1.nm64
 have hS7 : St B (cel g [Value.int .i64 D1.room, Value.slice rx.fa D1.f.length rx.fc, Value.slice rx.na D1.nm.length rx.nc, Value.slice rx.la D1.last.length rx.lc, Value.slice rx.ca D1.ch.length rx.cc, Value.bool D1.dead, Value.int .i64 D1.left] 104 :: own rx.fa D1.f.length rx.fc 107 2 (D1.f.flatMap fcl) :: ro rx.na D1.nm.length 112 2 (D1.nm.flatMap fcl) :: ro rx.la D1.last.length 112 2 (D1.last.flatMap fcl) :: own rx.ca D1.ch.length rx.cc 110 3 (D1.ch.flatMap ccl) :: L) w5 := by rw [q1]; exact (hS5.permT [0, 1, 0, 0, 0] (L' := cel g [Value.int .i64 D.room, Value.slice rx.fa D.f.length rx.fc, Value.slice rx.na D.nm.length rx.nc, Value.slice rx.la D.last.length rx.lc, Value.slice rx.ca D.ch.length rx.cc, Value.bool (wDead D.dead D.left), Value.int .i64 (wLeft D.dead D.left)] 104 :: own rx.fa D.f.length rx.fc 107 2 (D.f.flatMap fcl) :: ro rx.na D.nm.length 112 2 (D.nm.flatMap fcl) :: ro rx.la D.last.length 112 2 (D.last.flatMap fcl) :: own rx.ca D.ch.length rx.cc 110 3 (D.ch.flatMap ccl) :: L) rfl)
 clear hS5
 rw [← en] at hat
 refine WO.val (run_not rfl rfl) rfl rfl rfl ?_
 refine WO.asg rfl rfl ?_
 refine WO.nil (NX.go ?_)
 refine WP.condB rfl (fun g13 => ?_) (fun g13 => ?_)
 ·
  have hb1 : b1 = false := by simpa using g13
  refine WP.seq (WP.region rfl ?_)
  refine WO.asg rfl rfl ?_
  refine WO.nil (NX.go (WP.ret (NX.blkRet (NX.thenRet ?_))))
  refine NX.done (l := [.tmp 4]) rfl rfl ?_
  have e0 : syncD D k = (D1, 11) := by unfold syncD; rw [ew, if_neg (by rw [hb1]; exact Bool.noConfusion)]
  rw [e0]
  exact ⟨rfl, St.rf_shut rx (hS7.permT [0, 0, 0, 0, 0] (L' := cel g [Value.int .i64 D1.room, Value.slice rx.fa D1.f.length rx.fc, Value.slice rx.na D1.nm.length rx.nc, Value.slice rx.la D1.last.length rx.lc, Value.slice rx.ca D1.ch.length rx.cc, Value.bool D1.dead, Value.int .i64 D1.left] 104 :: own rx.fa D1.f.length rx.fc 107 2 (D1.f.flatMap fcl) :: ro rx.na D1.nm.length 112 2 (D1.nm.flatMap fcl) :: ro rx.la D1.last.length 112 2 (D1.last.flatMap fcl) :: own rx.ca D1.ch.length rx.cc 110 3 (D1.ch.flatMap ccl) :: L) rfl)⟩
 ·
  have hb1 : b1 = true := by simpa using g13
  refine WP.seq (WP.region rfl ?_)
  refine WO.mv rfl rfl ?_
  refine WO.val (run_lss rfl rfl) rfl rfl rfl ?_
  refine WO.asg rfl rfl ?_
  refine WO.nil (NX.go ?_)
  refine WP.condP rfl (fun g17 => ?_) (fun g17 => ?_)
  ·
   have hnone : findN k D1.nm = none := by rcases hat with h | ⟨i, e, h, _⟩; exact h.1; omega
   refine WP.seq (WP.region rfl ?_)
   refine WO.asg rfl rfl ?_
   refine WO.nil (NX.go (WP.ret (NX.blkRet (NX.thenRet ?_))))
   refine NX.done (l := [.tmp 4]) rfl rfl ?_
   have e0 : syncD D k = (D1, 12) := by unfold syncD; rw [ew, if_pos hb1]; unfold sync1; rw [hnone]
   rw [e0]
   exact ⟨rfl, St.rf_shut rx (hS7.permT [0, 0, 0, 0, 0] (L' := cel g [Value.int .i64 D1.room, Value.slice rx.fa D1.f.length rx.fc, Value.slice rx.na D1.nm.length rx.nc, Value.slice rx.la D1.last.length rx.lc, Value.slice rx.ca D1.ch.length rx.cc, Value.bool D1.dead, Value.int .i64 D1.left] 104 :: own rx.fa D1.f.length rx.fc 107 2 (D1.f.flatMap fcl) :: ro rx.na D1.nm.length 112 2 (D1.nm.flatMap fcl) :: ro rx.la D1.last.length 112 2 (D1.last.flatMap fcl) :: own rx.ca D1.ch.length rx.cc 110 3 (D1.ch.flatMap ccl) :: L) rfl)⟩
  ·
   obtain ⟨i, e, hri, he, hek, hfi⟩ : ∃ i e, r = ((i : Nat) : Int) ∧ D1.nm[i]? = some e ∧ e.1 = k ∧ findN k D1.nm = some e.2 := by rcases hat with ⟨_, h⟩ | h; omega; exact h
   have hil := (List.getElem?_eq_some_iff.1 he).1
   clear hat
   subst hri
   refine WP.skip (NX.blk (NX.go (WP.seq ?_)))
   have hsrxna : rx.na.isSome = true := by obtain ⟨q, hq, _⟩ := ((hS7.ro_rd_i 2 rfl)).2.1 (by omega); rw [hq]; rfl
   refine WP.region rfl ?_
   refine WO.mv rfl rfl ?_
   refine WO.val (run_nilCheck rfl) rfl rfl rfl ?_
   refine WO.val (run_fieldAddr (q := ⟨g, 2, none⟩) (show fieldB Tryz.prog 104 2 = some 2 from by kernel_rfl) rfl rfl) rfl rfl rfl ?_
   refine WO.val (run_load Ty.ag101 rfl ((hS7.cel_at 0 rfl 2).trans rfl)) rfl rfl rfl ?_
   refine WO.mv rfl rfl ?_
   refine WO.val (run_indexAddr (q := adr rx.na (i * 2)) Tryz.underlying101 Ty.sz112 rfl rfl (by omega) (by omega) ((hS7.ro_rd_i 2 rfl).2.1 (by omega)) rfl) rfl rfl rfl ?_
   refine WO.val (run_fieldAddr (q := (adr rx.na (i * 2 + 1))) (show fieldB Tryz.prog 112 1 = some 1 from by kernel_rfl) rfl (adr_add _ (by assumption) _ _)) rfl rfl rfl ?_
   refine WO.val (run_load Ty.ag3 rfl ((hS7.ro_rd_i 2 rfl).cell ((flat_get fcl_len he (j := 1) (by decide)).trans rfl))) rfl rfl rfl ?_
   refine WO.asg rfl rfl ?_
   refine WO.nil (NX.go (WP.seq ?_))
   have hlt : e.2 < D1.f.length := (hw1.good.f e (List.mem_of_getElem? he)).2
   have hfe := fileAt_get hlt
   have hft := k1.b.t _ (fileAt_mem hlt)
   have hsrxfa : rx.fa.isSome = true := by obtain ⟨q, hq, _⟩ := ((hS7.own_rd_i 1 rfl)).2.1 (by omega); rw [hq]; rfl
   refine WD.start (fun w => (∀ j, World.cell? w ⟨g, j, none⟩ = [Value.int .i64 D1.room, Value.slice rx.fa D1.f.length rx.fc, Value.slice rx.na D1.nm.length rx.nc, Value.slice rx.la D1.last.length rx.lc, Value.slice rx.ca D1.ch.length rx.cc, Value.bool D1.dead, Value.int .i64 D1.left][j]?) ∧ Rd w rx.fa D1.f.length 2 (D1.f.flatMap fcl)) [16] (bt 17 0) Ty.mo rfl (by kernel_rfl) hS7 (fun _ h => ⟨h.cel_at 0 rfl, (h.own_rd_i 1 rfl)⟩) (fun w8 hS8 s9 => ?_)
   clear hS7
   refine WD.pure (i := 0) r4sync_spec_t7 (bt 17 1) rfl rfl rfl (by kernel_rfl) (PQ.then PQ.body) rfl (fun w => run_move rfl) ?_
   refine WD.pure (i := 1) r4sync_spec_t7 (bt 17 3) rfl rfl rfl (by kernel_rfl) (PQ.then PQ.body) rfl (fun w => run_nilCheck rfl) ?_
   refine WD.pure (i := 2) r4sync_spec_t7 (bt 17 7) rfl rfl rfl (by kernel_rfl) (PQ.then PQ.body) rfl (fun w => run_fieldAddr (q := ⟨g, 1, none⟩) (show fieldB Tryz.prog 104 1 = some 1 from by kernel_rfl) rfl rfl) ?_
   refine WD.take (i := 3) r4sync_spec_t7 (bt 17 15) s9 rfl rfl rfl (by kernel_rfl) (PQ.then PQ.body) rfl (fun w hs => run_load Ty.ag100 rfl ((hs.1 1).trans rfl)) ?_
   refine WD.pure (i := 4) r4sync_spec_t7 (bt 17 31) rfl rfl rfl (by kernel_rfl) (PQ.then PQ.body) rfl (fun w => run_move rfl) ?_
   refine WD.pure (i := 5) r4sync_spec_t7 (bt 17 63) rfl rfl rfl (by kernel_rfl) (PQ.then PQ.body) rfl (fun w => run_move rfl) ?_
   refine WD.pure (i := 6) r4sync_spec_t7 (bt 17 127) rfl rfl rfl (by kernel_rfl) (PQ.then PQ.body) rfl (fun w => run_nilCheck rfl) ?_
   refine WD.pure (i := 7) r4sync_spec_t7 (bt 17 255) rfl rfl rfl (by kernel_rfl) (PQ.then PQ.body) rfl (fun w => run_fieldAddr (q := ⟨g, 1, none⟩) (show fieldB Tryz.prog 104 1 = some 1 from by kernel_rfl) rfl rfl) ?_
   refine WD.take (i := 8) r4sync_spec_t7 (bt 17 511) s9 rfl rfl rfl (by kernel_rfl) (PQ.then PQ.body) rfl (fun w hs => run_load Ty.ag100 rfl ((hs.1 1).trans rfl)) ?_
   refine WD.pure (i := 9) r4sync_spec_t7 (bt 17 1023) rfl rfl rfl (by kernel_rfl) (PQ.then PQ.body) rfl (fun w => run_move rfl) ?_
   refine WD.take (i := 10) r4sync_spec_t7 (bt 17 2047) s9 rfl rfl rfl (by kernel_rfl) (PQ.then PQ.body) rfl (fun w hs => run_indexAddr (q := adr rx.fa (e.2 * 2)) Tryz.underlying100 Ty.sz107 rfl rfl (by omega) (by omega) ((hs.2).2.1 (by omega)) rfl) ?_
   refine WD.pure (i := 11) r4sync_spec_t7 (bt 17 4095) rfl rfl rfl (by kernel_rfl) (PQ.then PQ.body) rfl (fun w => run_fieldAddr (q := (adr rx.fa (e.2 * 2 + 0))) (show fieldB Tryz.prog 107 0 = some 0 from by kernel_rfl) rfl (adr_add _ (by assumption) _ _)) ?_
   refine WD.take (i := 12) r4sync_spec_t7 (bt 17 8191) s9 rfl rfl rfl (by kernel_rfl) (PQ.then PQ.body) rfl (fun w hs => run_load Ty.ag9 rfl ((hs.2).cell ((flat_get fcl_len hfe (j := 0) (by decide)).trans rfl))) ?_
   refine WD.pure (i := 13) r4sync_spec_t7 (bt 17 16383) rfl rfl rfl (by kernel_rfl) (PQ.then PQ.body) rfl (fun w => run_lenS rfl Tryz.underlying9 rfl) ?_
   refine WD.take (i := 14) r4sync_spec_t7 (bt 17 32767) s9 rfl rfl rfl (by kernel_rfl) (PQ.then PQ.body) rfl (fun w hs => run_indexAddr (q := adr rx.fa (e.2 * 2)) Tryz.underlying100 Ty.sz107 rfl rfl (by omega) (by omega) ((hs.2).2.1 (by omega)) rfl) ?_
   refine WD.pure (i := 15) r4sync_spec_t7 (bt 17 65535) rfl rfl rfl (by kernel_rfl) (PQ.then PQ.body) rfl (fun w => run_fieldAddr (q := (adr rx.fa (e.2 * 2 + 1))) (show fieldB Tryz.prog 107 1 = some 1 from by kernel_rfl) rfl (adr_add _ (by assumption) _ _)) ?_
   refine WD.one (i := 16) r4sync_spec_t7 (bt 17 131071) rfl (by kernel_rfl) ?_
   refine WO.storeOwnAt 1 hS8 rfl Ty.sz3 rfl rfl rfl rfl (by rw [flat_len fcl_len]; omega) (fun w10 hS10 => ?_)
   replace hS10 : St B (cel g [Value.int .i64 D1.room, Value.slice rx.fa D1.f.length rx.fc, Value.slice rx.na D1.nm.length rx.nc, Value.slice rx.la D1.last.length rx.lc, Value.slice rx.ca D1.ch.length rx.cc, Value.bool D1.dead, Value.int .i64 D1.left] 104 :: own rx.fa D1.f.length rx.fc 107 2 ((D1.f.set e.2 ((fileAt D1.f e.2).1, (fileAt D1.f e.2).1.length)).flatMap fcl) :: ro rx.na D1.nm.length 112 2 (D1.nm.flatMap fcl) :: ro rx.la D1.last.length 112 2 (D1.last.flatMap fcl) :: own rx.ca D1.ch.length rx.cc 110 3 (D1.ch.flatMap ccl) :: L) w10 := (by have z := hS10; rw [flat_set fcl_len hfe (j := 1) (y := ((fileAt D1.f e.2).1, (fileAt D1.f e.2).1.length)) (by decide) rfl] at z; exact z)
   clear hS8
   refine WO.nil ?_
   refine NX.last (by decide) ?_
   refine WD.done r4sync_spec_t7 (by kernel_rfl) ?_
   refine NX.go (WP.seq (WP.region rfl ?_))
   refine WO.asg rfl rfl ?_
   refine WO.nil (NX.go (WP.ret ?_))
   have el : (D1.f.set e.2 ((fileAt D1.f e.2).1, (fileAt D1.f e.2).1.length)).length = D1.f.length := List.length_set
   refine NX.done (l := [.tmp 4]) rfl rfl ?_
   have e0 : syncD D k = ({ D1 with f := D1.f.set e.2 ((fileAt D1.f e.2).1, (fileAt D1.f e.2).1.length) }, 0) := by unfold syncD; rw [ew, if_pos hb1]; unfold sync1; rw [hfi]
   rw [e0]
   refine ⟨rfl, St.rf_shut (D := { D1 with f := D1.f.set e.2 ((fileAt D1.f e.2).1, (fileAt D1.f e.2).1.length) }) rx ?_⟩
   show St B (_ :: _) _
   have hz := (hS10.permT [0, 0, 0, 0, 0] (L' := cel g [Value.int .i64 D1.room, Value.slice rx.fa D1.f.length rx.fc, Value.slice rx.na D1.nm.length rx.nc, Value.slice rx.la D1.last.length rx.lc, Value.slice rx.ca D1.ch.length rx.cc, Value.bool D1.dead, Value.int .i64 D1.left] 104 :: own rx.fa D1.f.length rx.fc 107 2 ((D1.f.set e.2 ((fileAt D1.f e.2).1, (fileAt D1.f e.2).1.length)).flatMap fcl) :: ro rx.na D1.nm.length 112 2 (D1.nm.flatMap fcl) :: ro rx.la D1.last.length 112 2 (D1.last.flatMap fcl) :: own rx.ca D1.ch.length rx.cc 110 3 (D1.ch.flatMap ccl) :: L) rfl)
   rw [← el] at hz
   exact hz
end Go.Proofs.YtcehlnpbdffdhaaGreatDoor.SL

/- The document's disk: names are changed, and told. -/
namespace Go.Proofs.YtcehlnpbdffdhaaGreatDoor.SL
open Go.RowKit Go.Proofs.YtcehlnpbdffdhaaGreatDoor
open Go.Proofs.YtcehlnpbdffdhaaGreatDoorW.PrintLast (rtab opsOf)
set_option linter.unusedVariables false
set_option linter.unusedSimpArgs false
theorem r4rename_spec {B w : World} {L : List HP} {g : Nat} {D : Dk} {n t : Nat} (hk : OkD D n t) (hn1 : n ≤ 1000000000) (ht : t ≤ 1099511627776) (k u : List UInt8) (hu : u.length ≤ 140737488355328) (hS : St B (refA g D :: L) w) : Does Tryz.prog 73 [Value.pointer (some ⟨g, 0, none⟩), str k, str u] w (fun v w1 => v = .int .i64 (renameD D k u).2 ∧ St B (refA g (renameD D k u).1 :: L) w1) := by
 obtain ⟨rx, h0⟩ := hS.rf_open
 clear hS
 have hw := hk.w
 have hcb := hk.b.ch
 have hfb := hk.b.f
 have h64 := hw.nm64
 refine enter (n := 38) Tryz.func73 rfl rfl [Value.pointer (some ⟨g, 0, none⟩), str k, str u] rfl ?_
 refine WP.seq (WP.region rfl ?_)
 refine WO.asg rfl rfl ?_
 refine WO.nil (NX.go (WP.seq (WP.region rfl ?_)))
 refine WO.mv rfl rfl ?_
 refine WO.val (run_nilCheck rfl) rfl rfl rfl ?_
 refine WO.val (run_fieldAddr (q := ⟨g, 2, none⟩) (show fieldB Tryz.prog 104 2 = some 2 from by kernel_rfl) rfl rfl) rfl rfl rfl ?_
 refine WO.val (run_load Ty.ag101 rfl ((h0.cel_at 0 rfl 2).trans rfl)) rfl rfl rfl ?_
 refine WO.mv rfl rfl ?_
 have hS1 := h0.permT [2, 0, 0, 0, 0] (L' := ro rx.na D.nm.length 112 2 (D.nm.flatMap fcl) :: cel g [Value.int .i64 D.room, Value.slice rx.fa D.f.length rx.fc, Value.slice rx.na D.nm.length rx.nc, Value.slice rx.la D.last.length rx.lc, Value.slice rx.ca D.ch.length rx.cc, Value.bool D.dead, Value.int .i64 D.left] 104 :: own rx.fa D.f.length rx.fc 107 2 (D.f.flatMap fcl) :: ro rx.la D.last.length 112 2 (D.last.flatMap fcl) :: own rx.ca D.ch.length rx.cc 110 3 (D.ch.flatMap ccl) :: L) rfl
 clear h0
 refine WO.call rfl rfl Ty.hd63 rfl (r4at_spec (fun h => h.ro_rd) k (by omega) hS1) (fun v3 w2 pv3 => ?_)
 obtain ⟨r, rfl, hat, hS2⟩ := pv3
 clear hS1
 refine WO.asg rfl rfl ?_
 refine WO.nil (NX.go (WP.seq (WP.block (WP.seq (WP.region rfl ?_)))))
 refine WO.mv rfl rfl ?_
 have hS4 := hS2.permT [1, 0, 0, 0, 0] (L' := cel g [Value.int .i64 D.room, Value.slice rx.fa D.f.length rx.fc, Value.slice rx.na D.nm.length rx.nc, Value.slice rx.la D.last.length rx.lc, Value.slice rx.ca D.ch.length rx.cc, Value.bool D.dead, Value.int .i64 D.left] 104 :: ro rx.na D.nm.length 112 2 (D.nm.flatMap fcl) :: own rx.fa D.f.length rx.fc 107 2 (D.f.flatMap fcl) :: ro rx.la D.last.length 112 2 (D.last.flatMap fcl) :: own rx.ca D.ch.length rx.cc 110 3 (D.ch.flatMap ccl) :: L) rfl
 clear hS2
 refine WO.call rfl rfl Ty.hd64 rfl (r4write_spec hw.left hw.lrng hS4) (fun v6 w5 pv6 => ?_)
 obtain ⟨hv, hS5⟩ := pv6
 clear hS4
 obtain ⟨D1, eD1⟩ : ∃ qq, qq = (writeD D).1 := ⟨_, rfl⟩
 have q1 : D1 = { D with dead := wDead D.dead D.left, left := wLeft D.dead D.left } := by rw [eD1, writeD_eq]
 obtain ⟨b1, eb1⟩ : ∃ qq, qq = wOk D.dead D.left := ⟨_, rfl⟩
 have qb : (writeD D).2 = b1 := by rw [eb1, writeD_eq]
 rw [← eb1] at hv
 subst hv
 have k1 : OkD D1 n t := by rw [eD1]; exact hk.write
 have ew := onWrite_of eD1 qb
 have en : D1.nm = D.nm := by rw [q1]
 have hw1 := k1.w
 have hcb1 := k1.b.ch
 have hfb1 := k1.b.f
 have h641 := hw1.nm64
 have hS7 : St B (cel g [Value.int .i64 D1.room, Value.slice rx.fa D1.f.length rx.fc, Value.slice rx.na D1.nm.length rx.nc, Value.slice rx.la D1.last.length rx.lc, Value.slice rx.ca D1.ch.length rx.cc, Value.bool D1.dead, Value.int .i64 D1.left] 104 :: own rx.fa D1.f.length rx.fc 107 2 (D1.f.flatMap fcl) :: ro rx.na D1.nm.length 112 2 (D1.nm.flatMap fcl) :: ro rx.la D1.last.length 112 2 (D1.last.flatMap fcl) :: own rx.ca D1.ch.length rx.cc 110 3 (D1.ch.flatMap ccl) :: L) w5 := by rw [q1]; exact (hS5.permT [0, 1, 0, 0, 0] (L' := cel g [Value.int .i64 D.room, Value.slice rx.fa D.f.length rx.fc, Value.slice rx.na D.nm.length rx.nc, Value.slice rx.la D.last.length rx.lc, Value.slice rx.ca D.ch.length rx.cc, Value.bool (wDead D.dead D.left), Value.int .i64 (wLeft D.dead D.left)] 104 :: own rx.fa D.f.length rx.fc 107 2 (D.f.flatMap fcl) :: ro rx.na D.nm.length 112 2 (D.nm.flatMap fcl) :: ro rx.la D.last.length 112 2 (D.last.flatMap fcl) :: own rx.ca D.ch.length rx.cc 110 3 (D.ch.flatMap ccl) :: L) rfl)
 clear hS5
 rw [← en] at hat
 refine WO.val (run_not rfl rfl) rfl rfl rfl ?_
 refine WO.asg rfl rfl ?_
 refine WO.nil (NX.go ?_)
 refine WP.condB rfl (fun g14 => ?_) (fun g14 => ?_)
 ·
  have hb1 : b1 = false := by simpa using g14
  refine WP.seq (WP.region rfl ?_)
  refine WO.asg rfl rfl ?_
  refine WO.nil (NX.go (WP.ret (NX.blkRet (NX.thenRet ?_))))
  refine NX.done (l := [.tmp 6]) rfl rfl ?_
  have e0 : renameD D k u = (D1, 11) := by unfold renameD; rw [ew, if_neg (by rw [hb1]; exact Bool.noConfusion)]
  rw [e0]
  exact ⟨rfl, St.rf_shut rx (hS7.permT [0, 0, 0, 0, 0] (L' := cel g [Value.int .i64 D1.room, Value.slice rx.fa D1.f.length rx.fc, Value.slice rx.na D1.nm.length rx.nc, Value.slice rx.la D1.last.length rx.lc, Value.slice rx.ca D1.ch.length rx.cc, Value.bool D1.dead, Value.int .i64 D1.left] 104 :: own rx.fa D1.f.length rx.fc 107 2 (D1.f.flatMap fcl) :: ro rx.na D1.nm.length 112 2 (D1.nm.flatMap fcl) :: ro rx.la D1.last.length 112 2 (D1.last.flatMap fcl) :: own rx.ca D1.ch.length rx.cc 110 3 (D1.ch.flatMap ccl) :: L) rfl)⟩
 ·
  have hb1 : b1 = true := by simpa using g14
  refine WP.seq (WP.region rfl ?_)
  refine WO.mv rfl rfl ?_
  refine WO.val (run_lss rfl rfl) rfl rfl rfl ?_
  refine WO.asg rfl rfl ?_
  refine WO.nil (NX.go ?_)
  refine WP.condP rfl (fun g18 => ?_) (fun g18 => ?_)
  ·
   have hnone : findN k D1.nm = none := by rcases hat with h | ⟨i, e, h, _⟩; exact h.1; omega
   refine WP.seq (WP.region rfl ?_)
   refine WO.asg rfl rfl ?_
   refine WO.nil (NX.go (WP.ret (NX.blkRet (NX.thenRet ?_))))
   refine NX.done (l := [.tmp 6]) rfl rfl ?_
   have e0 : renameD D k u = (D1, 12) := by unfold renameD; rw [ew, if_pos hb1]; unfold rename1; rw [hnone]
   rw [e0]
   exact ⟨rfl, St.rf_shut rx (hS7.permT [0, 0, 0, 0, 0] (L' := cel g [Value.int .i64 D1.room, Value.slice rx.fa D1.f.length rx.fc, Value.slice rx.na D1.nm.length rx.nc, Value.slice rx.la D1.last.length rx.lc, Value.slice rx.ca D1.ch.length rx.cc, Value.bool D1.dead, Value.int .i64 D1.left] 104 :: own rx.fa D1.f.length rx.fc 107 2 (D1.f.flatMap fcl) :: ro rx.na D1.nm.length 112 2 (D1.nm.flatMap fcl) :: ro rx.la D1.last.length 112 2 (D1.last.flatMap fcl) :: own rx.ca D1.ch.length rx.cc 110 3 (D1.ch.flatMap ccl) :: L) rfl)⟩
  ·
   obtain ⟨i, e, hri, he, hek, hfi⟩ : ∃ i e, r = ((i : Nat) : Int) ∧ D1.nm[i]? = some e ∧ e.1 = k ∧ findN k D1.nm = some e.2 := by rcases hat with ⟨_, h⟩ | h; omega; exact h
   have hil := (List.getElem?_eq_some_iff.1 he).1
   clear hat
   subst hri
   refine WP.seq (WP.region rfl ?_)
   refine WO.mv rfl rfl ?_
   refine WO.call rfl rfl Ty.hd65 rfl (r4name_spec u (by omega) hS7) (fun v9 w8 pv9 => ?_)
   obtain ⟨rfl, hS8⟩ := pv9
   clear hS7
   refine WO.val (run_not rfl rfl) rfl rfl rfl ?_
   refine WO.asg rfl rfl ?_
   refine WO.nil (NX.go ?_)
   refine WP.condB rfl (fun g21 => ?_) (fun g21 => ?_)
   ·
    have hf : fileF u = false := by simpa using g21
    refine WP.seq (WP.region rfl ?_)
    refine WO.asg rfl rfl ?_
    refine WO.nil (NX.go (WP.ret (NX.blkRet (NX.thenRet ?_))))
    refine NX.done (l := [.tmp 6]) rfl rfl ?_
    have e0 : renameD D k u = (D1, 3) := by unfold renameD; rw [ew, if_pos hb1]; unfold rename1; rw [hfi]; simp only []; rw [if_pos hf]
    rw [e0]
    exact ⟨rfl, St.rf_shut rx (hS8.permT [0, 0, 0, 0, 0] (L' := cel g [Value.int .i64 D1.room, Value.slice rx.fa D1.f.length rx.fc, Value.slice rx.na D1.nm.length rx.nc, Value.slice rx.la D1.last.length rx.lc, Value.slice rx.ca D1.ch.length rx.cc, Value.bool D1.dead, Value.int .i64 D1.left] 104 :: own rx.fa D1.f.length rx.fc 107 2 (D1.f.flatMap fcl) :: ro rx.na D1.nm.length 112 2 (D1.nm.flatMap fcl) :: ro rx.la D1.last.length 112 2 (D1.last.flatMap fcl) :: own rx.ca D1.ch.length rx.cc 110 3 (D1.ch.flatMap ccl) :: L) rfl)⟩
   ·
    have hf : ¬ fileF u = false := by simpa using g21
    refine WP.skip (NX.blk (NX.go (WP.seq ?_)))
    have hsrxna : rx.na.isSome = true := by obtain ⟨q, hq, _⟩ := ((hS8.ro_rd_i 2 rfl)).2.1 (by omega); rw [hq]; rfl
    refine WP.region rfl ?_
    refine WO.mv rfl rfl ?_
    refine WO.mv rfl rfl ?_
    refine WO.mv rfl rfl ?_
    refine WO.mv rfl rfl ?_
    refine WO.val (run_nilCheck rfl) rfl rfl rfl ?_
    refine WO.val (run_fieldAddr (q := ⟨g, 2, none⟩) (show fieldB Tryz.prog 104 2 = some 2 from by kernel_rfl) rfl rfl) rfl rfl rfl ?_
    refine WO.val (run_load Ty.ag101 rfl ((hS8.cel_at 0 rfl 2).trans rfl)) rfl rfl rfl ?_
    refine WO.mv rfl rfl ?_
    refine WO.val (run_indexAddr (q := adr rx.na (i * 2)) Tryz.underlying101 Ty.sz112 rfl rfl (by omega) (by omega) ((hS8.ro_rd_i 2 rfl).2.1 (by omega)) rfl) rfl rfl rfl ?_
    refine WO.val (run_fieldAddr (q := (adr rx.na (i * 2 + 1))) (show fieldB Tryz.prog 112 1 = some 1 from by kernel_rfl) rfl (adr_add _ (by assumption) _ _)) rfl rfl rfl ?_
    refine WO.val (run_load Ty.ag3 rfl ((hS8.ro_rd_i 2 rfl).cell ((flat_get fcl_len he (j := 1) (by decide)).trans rfl))) rfl rfl rfl ?_
    refine WO.val (run_build (v := Value.agg #[str k, str u, Value.int .i64 (e.2 : Int)]) rfl (fun w => by kernel_rfl)) rfl rfl rfl ?_
    refine WO.call rfl rfl Ty.hd66 rfl (r4change_spec ⟨k, u, e.2⟩ (by omega) (by omega) hS8) (fun v11 w10 pv11 => ?_)
    obtain ⟨rx2, rfl, hS10⟩ := pv11
    clear hS8
    refine WO.nil (NX.go (WP.seq (WP.region rfl ?_)))
    refine WO.asg rfl rfl ?_
    refine WO.nil (NX.go (WP.ret ?_))
    refine NX.done (l := [.tmp 6]) rfl rfl ?_
    have e0 : renameD D k u = (changeD D1 ⟨k, u, e.2⟩, 0) := by unfold renameD; rw [ew, if_pos hb1]; unfold rename1; rw [hfi]; simp only []; rw [if_neg hf]
    rw [e0]
    exact ⟨rfl, St.rf_shut rx2 (hS10.permT [0, 0, 0, 0, 0] (L' := cel g [Value.int .i64 ((changeD D1 ⟨k, u, e.2⟩).room), Value.slice rx2.fa ((changeD D1 ⟨k, u, e.2⟩).f.length) rx2.fc, Value.slice rx2.na ((changeD D1 ⟨k, u, e.2⟩).nm.length) rx2.nc, Value.slice rx2.la ((changeD D1 ⟨k, u, e.2⟩).last.length) rx2.lc, Value.slice rx2.ca ((changeD D1 ⟨k, u, e.2⟩).ch.length) rx2.cc, Value.bool ((changeD D1 ⟨k, u, e.2⟩).dead), Value.int .i64 ((changeD D1 ⟨k, u, e.2⟩).left)] 104 :: own rx2.fa ((changeD D1 ⟨k, u, e.2⟩).f.length) rx2.fc 107 2 ((changeD D1 ⟨k, u, e.2⟩).f.flatMap fcl) :: ro rx2.na ((changeD D1 ⟨k, u, e.2⟩).nm.length) 112 2 ((changeD D1 ⟨k, u, e.2⟩).nm.flatMap fcl) :: ro rx2.la ((changeD D1 ⟨k, u, e.2⟩).last.length) 112 2 ((changeD D1 ⟨k, u, e.2⟩).last.flatMap fcl) :: own rx2.ca ((changeD D1 ⟨k, u, e.2⟩).ch.length) rx2.cc 110 3 ((changeD D1 ⟨k, u, e.2⟩).ch.flatMap ccl) :: L) rfl)⟩
theorem r4remove_spec {B w : World} {L : List HP} {g : Nat} {D : Dk} {n t : Nat} (hk : OkD D n t) (hn1 : n ≤ 1000000000) (ht : t ≤ 1099511627776) (k : List UInt8) (hS : St B (refA g D :: L) w) : Does Tryz.prog 71 [Value.pointer (some ⟨g, 0, none⟩), str k] w (fun v w1 => v = .int .i64 (removeD D k).2 ∧ St B (refA g (removeD D k).1 :: L) w1) := by
 obtain ⟨rx, h0⟩ := hS.rf_open
 clear hS
 have hw := hk.w
 have hcb := hk.b.ch
 have hfb := hk.b.f
 have h64 := hw.nm64
 refine enter (n := 21) Tryz.func71 rfl rfl [Value.pointer (some ⟨g, 0, none⟩), str k] rfl ?_
 refine WP.seq (WP.region rfl ?_)
 refine WO.asg rfl rfl ?_
 refine WO.nil (NX.go (WP.seq (WP.block (WP.seq (WP.region rfl ?_)))))
 refine WO.mv rfl rfl ?_
 refine WO.call rfl rfl Ty.hd64 rfl (r4write_spec hw.left hw.lrng h0) (fun v2 w1 pv2 => ?_)
 obtain ⟨hv, hS1⟩ := pv2
 clear h0
 obtain ⟨D1, eD1⟩ : ∃ qq, qq = (writeD D).1 := ⟨_, rfl⟩
 have q1 : D1 = { D with dead := wDead D.dead D.left, left := wLeft D.dead D.left } := by rw [eD1, writeD_eq]
 obtain ⟨b1, eb1⟩ : ∃ qq, qq = wOk D.dead D.left := ⟨_, rfl⟩
 have qb : (writeD D).2 = b1 := by rw [eb1, writeD_eq]
 rw [← eb1] at hv
 subst hv
 have k1 : OkD D1 n t := by rw [eD1]; exact hk.write
 have ew := onWrite_of eD1 qb
 have en : D1.nm = D.nm := by rw [q1]
 have hw1 := k1.w
 have hcb1 := k1.b.ch
 have hfb1 := k1.b.f
 have h641 := hw1.nm64
 have hS3 : St B (cel g [Value.int .i64 D1.room, Value.slice rx.fa D1.f.length rx.fc, Value.slice rx.na D1.nm.length rx.nc, Value.slice rx.la D1.last.length rx.lc, Value.slice rx.ca D1.ch.length rx.cc, Value.bool D1.dead, Value.int .i64 D1.left] 104 :: own rx.fa D1.f.length rx.fc 107 2 (D1.f.flatMap fcl) :: ro rx.na D1.nm.length 112 2 (D1.nm.flatMap fcl) :: ro rx.la D1.last.length 112 2 (D1.last.flatMap fcl) :: own rx.ca D1.ch.length rx.cc 110 3 (D1.ch.flatMap ccl) :: L) w1 := by rw [q1]; exact hS1
 clear hS1
 refine WO.val (run_not rfl rfl) rfl rfl rfl ?_
 refine WO.asg rfl rfl ?_
 refine WO.nil (NX.go ?_)
 refine WP.condB rfl (fun g5 => ?_) (fun g5 => ?_)
 ·
  have hb1 : b1 = false := by simpa using g5
  refine WP.seq (WP.region rfl ?_)
  refine WO.asg rfl rfl ?_
  refine WO.nil (NX.go (WP.ret (NX.blkRet (NX.thenRet ?_))))
  refine NX.done (l := [.tmp 4]) rfl rfl ?_
  have e0 : removeD D k = (D1, 11) := by unfold removeD; rw [ew, if_neg (by rw [hb1]; exact Bool.noConfusion)]
  rw [e0]
  exact ⟨rfl, St.rf_shut rx (hS3.permT [0, 0, 0, 0, 0] (L' := cel g [Value.int .i64 D1.room, Value.slice rx.fa D1.f.length rx.fc, Value.slice rx.na D1.nm.length rx.nc, Value.slice rx.la D1.last.length rx.lc, Value.slice rx.ca D1.ch.length rx.cc, Value.bool D1.dead, Value.int .i64 D1.left] 104 :: own rx.fa D1.f.length rx.fc 107 2 (D1.f.flatMap fcl) :: ro rx.na D1.nm.length 112 2 (D1.nm.flatMap fcl) :: ro rx.la D1.last.length 112 2 (D1.last.flatMap fcl) :: own rx.ca D1.ch.length rx.cc 110 3 (D1.ch.flatMap ccl) :: L) rfl)⟩
 ·
  have hb1 : b1 = true := by simpa using g5
  refine WP.seq (WP.region rfl ?_)
  refine WO.mv rfl rfl ?_
  refine WO.val (run_nilCheck rfl) rfl rfl rfl ?_
  refine WO.val (run_fieldAddr (q := ⟨g, 2, none⟩) (show fieldB Tryz.prog 104 2 = some 2 from by kernel_rfl) rfl rfl) rfl rfl rfl ?_
  refine WO.val (run_load Ty.ag101 rfl ((hS3.cel_at 0 rfl 2).trans rfl)) rfl rfl rfl ?_
  refine WO.mv rfl rfl ?_
  have hS4 := hS3.permT [2, 0, 0, 0, 0] (L' := ro rx.na D1.nm.length 112 2 (D1.nm.flatMap fcl) :: cel g [Value.int .i64 D1.room, Value.slice rx.fa D1.f.length rx.fc, Value.slice rx.na D1.nm.length rx.nc, Value.slice rx.la D1.last.length rx.lc, Value.slice rx.ca D1.ch.length rx.cc, Value.bool D1.dead, Value.int .i64 D1.left] 104 :: own rx.fa D1.f.length rx.fc 107 2 (D1.f.flatMap fcl) :: ro rx.la D1.last.length 112 2 (D1.last.flatMap fcl) :: own rx.ca D1.ch.length rx.cc 110 3 (D1.ch.flatMap ccl) :: L) rfl
  clear hS3
  refine WO.call rfl rfl Ty.hd63 rfl (r4at_spec (fun h => h.ro_rd) k (by omega) hS4) (fun v6 w5 pv6 => ?_)
  obtain ⟨r, rfl, hat, hS5⟩ := pv6
  clear hS4
  refine WO.val (run_lss rfl rfl) rfl rfl rfl ?_
  refine WO.asg rfl rfl ?_
  refine WO.nil (NX.go ?_)
  refine WP.condP rfl (fun g9 => ?_) (fun g9 => ?_)
  ·
   have hnone : findN k D1.nm = none := by rcases hat with h | ⟨i, e, h, _⟩; exact h.1; omega
   refine WP.seq (WP.region rfl ?_)
   refine WO.asg rfl rfl ?_
   refine WO.nil (NX.go (WP.ret (NX.blkRet (NX.thenRet ?_))))
   refine NX.done (l := [.tmp 4]) rfl rfl ?_
   have e0 : removeD D k = (D1, 12) := by unfold removeD; rw [ew, if_pos hb1]; unfold remove1; rw [hnone]
   rw [e0]
   exact ⟨rfl, St.rf_shut rx (hS5.permT [1, 1, 0, 0, 0] (L' := cel g [Value.int .i64 D1.room, Value.slice rx.fa D1.f.length rx.fc, Value.slice rx.na D1.nm.length rx.nc, Value.slice rx.la D1.last.length rx.lc, Value.slice rx.ca D1.ch.length rx.cc, Value.bool D1.dead, Value.int .i64 D1.left] 104 :: own rx.fa D1.f.length rx.fc 107 2 (D1.f.flatMap fcl) :: ro rx.na D1.nm.length 112 2 (D1.nm.flatMap fcl) :: ro rx.la D1.last.length 112 2 (D1.last.flatMap fcl) :: own rx.ca D1.ch.length rx.cc 110 3 (D1.ch.flatMap ccl) :: L) rfl)⟩
  ·
   obtain ⟨i, e, hri, he, hek, hfi⟩ : ∃ i e, r = ((i : Nat) : Int) ∧ D1.nm[i]? = some e ∧ e.1 = k ∧ findN k D1.nm = some e.2 := by rcases hat with ⟨_, h⟩ | h; omega; exact h
   have hil := (List.getElem?_eq_some_iff.1 he).1
   clear hat
   subst hri
   refine WP.skip (NX.blk (NX.go (WP.seq (WP.region rfl ?_))))
   refine WO.mv rfl rfl ?_
   refine WO.mv rfl rfl ?_
   refine WO.val (run_build (v := Value.agg #[str k, str [], Value.int .i64 0]) rfl (fun w => by kernel_rfl)) rfl rfl rfl ?_
   have hS7 := hS5.permT [1, 1, 0, 0, 0] (L' := cel g [Value.int .i64 D1.room, Value.slice rx.fa D1.f.length rx.fc, Value.slice rx.na D1.nm.length rx.nc, Value.slice rx.la D1.last.length rx.lc, Value.slice rx.ca D1.ch.length rx.cc, Value.bool D1.dead, Value.int .i64 D1.left] 104 :: own rx.fa D1.f.length rx.fc 107 2 (D1.f.flatMap fcl) :: ro rx.na D1.nm.length 112 2 (D1.nm.flatMap fcl) :: ro rx.la D1.last.length 112 2 (D1.last.flatMap fcl) :: own rx.ca D1.ch.length rx.cc 110 3 (D1.ch.flatMap ccl) :: L) rfl
   clear hS5
   refine WO.call rfl rfl Ty.hd66 rfl (r4change_spec ⟨k, [], 0⟩ (by omega) (by omega) hS7) (fun v9 w8 pv9 => ?_)
   obtain ⟨rx2, rfl, hS8⟩ := pv9
   clear hS7
   refine WO.nil (NX.go (WP.seq (WP.region rfl ?_)))
   refine WO.asg rfl rfl ?_
   refine WO.nil (NX.go (WP.ret ?_))
   refine NX.done (l := [.tmp 4]) rfl rfl ?_
   have e0 : removeD D k = (changeD D1 ⟨k, [], 0⟩, 0) := by unfold removeD; rw [ew, if_pos hb1]; unfold remove1; rw [hfi]
   rw [e0]
   exact ⟨rfl, St.rf_shut rx2 (hS8.permT [0, 0, 0, 0, 0] (L' := cel g [Value.int .i64 ((changeD D1 ⟨k, [], 0⟩).room), Value.slice rx2.fa ((changeD D1 ⟨k, [], 0⟩).f.length) rx2.fc, Value.slice rx2.na ((changeD D1 ⟨k, [], 0⟩).nm.length) rx2.nc, Value.slice rx2.la ((changeD D1 ⟨k, [], 0⟩).last.length) rx2.lc, Value.slice rx2.ca ((changeD D1 ⟨k, [], 0⟩).ch.length) rx2.cc, Value.bool ((changeD D1 ⟨k, [], 0⟩).dead), Value.int .i64 ((changeD D1 ⟨k, [], 0⟩).left)] 104 :: own rx2.fa ((changeD D1 ⟨k, [], 0⟩).f.length) rx2.fc 107 2 ((changeD D1 ⟨k, [], 0⟩).f.flatMap fcl) :: ro rx2.na ((changeD D1 ⟨k, [], 0⟩).nm.length) 112 2 ((changeD D1 ⟨k, [], 0⟩).nm.flatMap fcl) :: ro rx2.la ((changeD D1 ⟨k, [], 0⟩).last.length) 112 2 ((changeD D1 ⟨k, [], 0⟩).last.flatMap fcl) :: own rx2.ca ((changeD D1 ⟨k, [], 0⟩).ch.length) rx2.cc 110 3 ((changeD D1 ⟨k, [], 0⟩).ch.flatMap ccl) :: L) rfl)⟩
theorem r4read_spec_t6 : rtab .any (opsOf Tryz.f70 6) = (true, [([], []), ([0], [0]), ([1], [1]), ([2], [2]), ([], []), ([4], [4]), ([5], [5]), ([6], [6]), ([], []), ([7, 8], [7, 8]), ([9], [9]), ([10], [10]), ([3, 11], [3, 11]), ([12], [12]), ([13], [13]), ([14, 0, 1, 2, 3, 4, 5, 6, 7, 8, 9, 10, 11, 12, 13, 14], [14]), ([15, 0, 1, 2, 3, 4, 5, 6, 7, 8, 9, 10, 11, 12, 13, 14, 15], [])]) := by kernel_rfl
theorem r4read_spec {B w : World} {L : List HP} {g : Nat} {D : Dk} {n t : Nat} (hk : OkD D n t) (hn1 : n ≤ 1000000000) (ht : t ≤ 1099511627776) (k : List UInt8) (hS : St B (refA g D :: L) w) : Does Tryz.prog 70 [Value.pointer (some ⟨g, 0, none⟩), str k] w (fun v w1 => v = .tuple #[str (readD D k).1, .int .i64 (readD D k).2] ∧ St B (refA g D :: L) w1) := by
 obtain ⟨rx, h0⟩ := hS.rf_open
 clear hS
 have hw := hk.w
 have hcb := hk.b.ch
 have hfb := hk.b.f
 have h64 := hw.nm64
 refine enter (n := 36) Tryz.func70 rfl rfl [Value.pointer (some ⟨g, 0, none⟩), str k] rfl ?_
 refine WP.seq (WP.region rfl ?_)
 refine WO.asg rfl rfl ?_
 refine WO.asg rfl rfl ?_
 refine WO.nil (NX.go (WP.seq (WP.region rfl ?_)))
 refine WO.mv rfl rfl ?_
 refine WO.val (run_nilCheck rfl) rfl rfl rfl ?_
 refine WO.val (run_fieldAddr (q := ⟨g, 2, none⟩) (show fieldB Tryz.prog 104 2 = some 2 from by kernel_rfl) rfl rfl) rfl rfl rfl ?_
 refine WO.val (run_load Ty.ag101 rfl ((h0.cel_at 0 rfl 2).trans rfl)) rfl rfl rfl ?_
 refine WO.mv rfl rfl ?_
 have hS1 := h0.permT [2, 0, 0, 0, 0] (L' := ro rx.na D.nm.length 112 2 (D.nm.flatMap fcl) :: cel g [Value.int .i64 D.room, Value.slice rx.fa D.f.length rx.fc, Value.slice rx.na D.nm.length rx.nc, Value.slice rx.la D.last.length rx.lc, Value.slice rx.ca D.ch.length rx.cc, Value.bool D.dead, Value.int .i64 D.left] 104 :: own rx.fa D.f.length rx.fc 107 2 (D.f.flatMap fcl) :: ro rx.la D.last.length 112 2 (D.last.flatMap fcl) :: own rx.ca D.ch.length rx.cc 110 3 (D.ch.flatMap ccl) :: L) rfl
 clear h0
 refine WO.call rfl rfl Ty.hd63 rfl (r4at_spec (fun h => h.ro_rd) k (by omega) hS1) (fun v3 w2 pv3 => ?_)
 obtain ⟨r, rfl, hat, hS2⟩ := pv3
 clear hS1
 refine WO.asg rfl rfl ?_
 refine WO.nil (NX.go (WP.seq (WP.block (WP.seq (WP.region rfl ?_)))))
 refine WO.mv rfl rfl ?_
 refine WO.val (run_nilCheck rfl) rfl rfl rfl ?_
 refine WO.val (run_fieldAddr (q := ⟨g, 5, none⟩) (show fieldB Tryz.prog 104 5 = some 5 from by kernel_rfl) rfl rfl) rfl rfl rfl ?_
 refine WO.val (run_load Ty.ag4 rfl ((hS2.cel_at 1 rfl 5).trans rfl)) rfl rfl rfl ?_
 refine WO.asg rfl rfl ?_
 refine WO.nil (NX.go ?_)
 refine WP.condB rfl (fun g13 => ?_) (fun g13 => ?_)
 ·
  refine WP.seq (WP.region rfl ?_)
  refine WO.asg rfl rfl ?_
  refine WO.asg rfl rfl ?_
  refine WO.nil (NX.go (WP.ret (NX.blkRet (NX.thenRet ?_))))
  refine NX.done (l := [.tmp 4, .tmp 5]) rfl rfl ?_
  have e0 : readD D k = ([], 11) := by unfold readD; rw [if_pos g13]
  rw [e0]
  exact ⟨rfl, St.rf_shut rx (hS2.permT [1, 1, 0, 0, 0] (L' := cel g [Value.int .i64 D.room, Value.slice rx.fa D.f.length rx.fc, Value.slice rx.na D.nm.length rx.nc, Value.slice rx.la D.last.length rx.lc, Value.slice rx.ca D.ch.length rx.cc, Value.bool D.dead, Value.int .i64 D.left] 104 :: own rx.fa D.f.length rx.fc 107 2 (D.f.flatMap fcl) :: ro rx.na D.nm.length 112 2 (D.nm.flatMap fcl) :: ro rx.la D.last.length 112 2 (D.last.flatMap fcl) :: own rx.ca D.ch.length rx.cc 110 3 (D.ch.flatMap ccl) :: L) rfl)⟩
 ·
  refine WP.seq (WP.region rfl ?_)
  refine WO.mv rfl rfl ?_
  refine WO.val (run_lss rfl rfl) rfl rfl rfl ?_
  refine WO.asg rfl rfl ?_
  refine WO.nil (NX.go ?_)
  refine WP.condP rfl (fun g18 => ?_) (fun g18 => ?_)
  ·
   have hnone : findN k D.nm = none := by rcases hat with h | ⟨i, e, h, _⟩; exact h.1; omega
   refine WP.seq (WP.region rfl ?_)
   refine WO.asg rfl rfl ?_
   refine WO.asg rfl rfl ?_
   refine WO.nil (NX.go (WP.ret (NX.blkRet (NX.thenRet ?_))))
   refine NX.done (l := [.tmp 4, .tmp 5]) rfl rfl ?_
   have e0 : readD D k = ([], 12) := by unfold readD; rw [if_neg (by rw [g13]; exact Bool.noConfusion), hnone]
   rw [e0]
   exact ⟨rfl, St.rf_shut rx (hS2.permT [1, 1, 0, 0, 0] (L' := cel g [Value.int .i64 D.room, Value.slice rx.fa D.f.length rx.fc, Value.slice rx.na D.nm.length rx.nc, Value.slice rx.la D.last.length rx.lc, Value.slice rx.ca D.ch.length rx.cc, Value.bool D.dead, Value.int .i64 D.left] 104 :: own rx.fa D.f.length rx.fc 107 2 (D.f.flatMap fcl) :: ro rx.na D.nm.length 112 2 (D.nm.flatMap fcl) :: ro rx.la D.last.length 112 2 (D.last.flatMap fcl) :: own rx.ca D.ch.length rx.cc 110 3 (D.ch.flatMap ccl) :: L) rfl)⟩
  ·
   obtain ⟨i, e, hri, he, hek, hfi⟩ : ∃ i e, r = ((i : Nat) : Int) ∧ D.nm[i]? = some e ∧ e.1 = k ∧ findN k D.nm = some e.2 := by rcases hat with ⟨_, h⟩ | h; omega; exact h
   have hil := (List.getElem?_eq_some_iff.1 he).1
   clear hat
   subst hri
   refine WP.skip (NX.blk (NX.go (WP.seq ?_)))
   have hlt : e.2 < D.f.length := (hw.good.f e (List.mem_of_getElem? he)).2
   have hfe := fileAt_get hlt
   have hsrxfa : rx.fa.isSome = true := by obtain ⟨q, hq, _⟩ := ((hS2.own_rd_i 2 rfl)).2.1 (by omega); rw [hq]; rfl
   have hsrxna : rx.na.isSome = true := by obtain ⟨q, hq, _⟩ := ((hS2.ro_rd_i 0 rfl)).2.1 (by omega); rw [hq]; rfl
   refine WD.start (fun w => Rd w rx.na D.nm.length 2 (D.nm.flatMap fcl) ∧ (∀ j, World.cell? w ⟨g, j, none⟩ = [Value.int .i64 D.room, Value.slice rx.fa D.f.length rx.fc, Value.slice rx.na D.nm.length rx.nc, Value.slice rx.la D.last.length rx.lc, Value.slice rx.ca D.ch.length rx.cc, Value.bool D.dead, Value.int .i64 D.left][j]?) ∧ Rd w rx.fa D.f.length 2 (D.f.flatMap fcl) ∧ Rd w rx.la D.last.length 2 (D.last.flatMap fcl) ∧ Rd w rx.ca D.ch.length 3 (D.ch.flatMap ccl)) [] (bt 17 0) Ty.mo rfl (by kernel_rfl) hS2 (fun _ h => ⟨(h.ro_rd_i 0 rfl), h.cel_at 1 rfl, (h.own_rd_i 2 rfl), (h.ro_rd_i 3 rfl), (h.own_rd_i 4 rfl)⟩) (fun w4 hS4 s5 => ?_)
   clear hS2
   refine WD.pure (i := 0) r4read_spec_t6 (bt 17 1) rfl rfl rfl (by kernel_rfl) (PQ.then PQ.body) rfl (fun w => run_move rfl) ?_
   refine WD.pure (i := 1) r4read_spec_t6 (bt 17 3) rfl rfl rfl (by kernel_rfl) (PQ.then PQ.body) rfl (fun w => run_nilCheck rfl) ?_
   refine WD.pure (i := 2) r4read_spec_t6 (bt 17 7) rfl rfl rfl (by kernel_rfl) (PQ.then PQ.body) rfl (fun w => run_fieldAddr (q := ⟨g, 1, none⟩) (show fieldB Tryz.prog 104 1 = some 1 from by kernel_rfl) rfl rfl) ?_
   refine WD.take (i := 3) r4read_spec_t6 (bt 17 15) s5 rfl rfl rfl (by kernel_rfl) (PQ.then PQ.body) rfl (fun w hs => run_load Ty.ag100 rfl ((hs.2.1 1).trans rfl)) ?_
   refine WD.pure (i := 4) r4read_spec_t6 (bt 17 31) rfl rfl rfl (by kernel_rfl) (PQ.then PQ.body) rfl (fun w => run_move rfl) ?_
   refine WD.pure (i := 5) r4read_spec_t6 (bt 17 63) rfl rfl rfl (by kernel_rfl) (PQ.then PQ.body) rfl (fun w => run_nilCheck rfl) ?_
   refine WD.pure (i := 6) r4read_spec_t6 (bt 17 127) rfl rfl rfl (by kernel_rfl) (PQ.then PQ.body) rfl (fun w => run_fieldAddr (q := ⟨g, 2, none⟩) (show fieldB Tryz.prog 104 2 = some 2 from by kernel_rfl) rfl rfl) ?_
   refine WD.take (i := 7) r4read_spec_t6 (bt 17 255) s5 rfl rfl rfl (by kernel_rfl) (PQ.then PQ.body) rfl (fun w hs => run_load Ty.ag101 rfl ((hs.2.1 2).trans rfl)) ?_
   refine WD.pure (i := 8) r4read_spec_t6 (bt 17 511) rfl rfl rfl (by kernel_rfl) (PQ.then PQ.body) rfl (fun w => run_move rfl) ?_
   refine WD.take (i := 9) r4read_spec_t6 (bt 17 1023) s5 rfl rfl rfl (by kernel_rfl) (PQ.then PQ.body) rfl (fun w hs => run_indexAddr (q := adr rx.na (i * 2)) Tryz.underlying101 Ty.sz112 rfl rfl (by omega) (by omega) ((hs.1).2.1 (by omega)) rfl) ?_
   refine WD.pure (i := 10) r4read_spec_t6 (bt 17 2047) rfl rfl rfl (by kernel_rfl) (PQ.then PQ.body) rfl (fun w => run_fieldAddr (q := (adr rx.na (i * 2 + 1))) (show fieldB Tryz.prog 112 1 = some 1 from by kernel_rfl) rfl (adr_add _ (by assumption) _ _)) ?_
   refine WD.take (i := 11) r4read_spec_t6 (bt 17 4095) s5 rfl rfl rfl (by kernel_rfl) (PQ.then PQ.body) rfl (fun w hs => run_load Ty.ag3 rfl ((hs.1).cell ((flat_get fcl_len he (j := 1) (by decide)).trans rfl))) ?_
   refine WD.take (i := 12) r4read_spec_t6 (bt 17 8191) s5 rfl rfl rfl (by kernel_rfl) (PQ.then PQ.body) rfl (fun w hs => run_indexAddr (q := adr rx.fa (e.2 * 2)) Tryz.underlying100 Ty.sz107 rfl rfl (by omega) (by omega) ((hs.2.2.1).2.1 (by omega)) rfl) ?_
   refine WD.pure (i := 13) r4read_spec_t6 (bt 17 16383) rfl rfl rfl (by kernel_rfl) (PQ.then PQ.body) rfl (fun w => run_fieldAddr (q := (adr rx.fa (e.2 * 2 + 0))) (show fieldB Tryz.prog 107 0 = some 0 from by kernel_rfl) rfl (adr_add _ (by assumption) _ _)) ?_
   refine WD.take (i := 14) r4read_spec_t6 (bt 17 32767) s5 rfl rfl rfl (by kernel_rfl) (PQ.then PQ.body) rfl (fun w hs => run_load Ty.ag9 rfl ((hs.2.2.1).cell ((flat_get fcl_len hfe (j := 0) (by decide)).trans rfl))) ?_
   refine WD.pure (i := 15) r4read_spec_t6 (bt 17 65535) rfl rfl rfl (by kernel_rfl) (PQ.then PQ.body) rfl (fun w => run_assign rfl) ?_
   refine WD.pure (i := 16) r4read_spec_t6 (bt 17 131071) rfl rfl rfl (by kernel_rfl) (PQ.then PQ.body) rfl (fun w => run_assign rfl) ?_
   refine WD.done r4read_spec_t6 (by kernel_rfl) ?_
   refine NX.go (WP.ret ?_)
   refine NX.done (l := [.tmp 4, .tmp 5]) rfl rfl ?_
   have e0 : readD D k = ((fileAt D.f e.2).1, 0) := by unfold readD; rw [if_neg (by rw [g13]; exact Bool.noConfusion), hfi]
   rw [e0]
   exact ⟨rfl, St.rf_shut rx (hS4.permT [1, 1, 0, 0, 0] (L' := cel g [Value.int .i64 D.room, Value.slice rx.fa D.f.length rx.fc, Value.slice rx.na D.nm.length rx.nc, Value.slice rx.la D.last.length rx.lc, Value.slice rx.ca D.ch.length rx.cc, Value.bool D.dead, Value.int .i64 D.left] 104 :: own rx.fa D.f.length rx.fc 107 2 (D.f.flatMap fcl) :: ro rx.na D.nm.length 112 2 (D.nm.flatMap fcl) :: ro rx.la D.last.length 112 2 (D.last.flatMap fcl) :: own rx.ca D.ch.length rx.cc 110 3 (D.ch.flatMap ccl) :: L) rfl)⟩
theorem r4list_spec {B w : World} {L : List HP} {g : Nat} {D : Dk} {n t : Nat} (hk : OkD D n t) (hn1 : n ≤ 1000000000) (ht : t ≤ 1099511627776) (hS : St B (refA g D :: L) w) : Does Tryz.prog 31 [Value.pointer (some ⟨g, 0, none⟩)] w (fun v w1 => ∃ a c, v = .slice a (namesD D).length c ∧ St B (own a (namesD D).length c 9 1 ((namesD D).map str) :: refA g D :: L) w1) := by
 obtain ⟨rx, h0⟩ := hS.rf_open
 clear hS
 have hw := hk.w
 have hcb := hk.b.ch
 have hfb := hk.b.f
 have h64 := hw.nm64
 refine enter (n := 33) Tryz.func31 rfl rfl [Value.pointer (some ⟨g, 0, none⟩)] rfl ?_
 refine WP.seq (WP.region rfl ?_)
 refine WO.asg rfl rfl ?_
 refine WO.nil (NX.go (WP.seq (WP.region rfl ?_)))
 refine WO.asg rfl rfl ?_
 refine WO.nil (NX.go (WP.seq (WP.seq (WP.region rfl ?_))))
 refine WO.asg rfl rfl ?_
 refine WO.nil (NX.go (WP.block ?_))
 replace h0 := h0.own_nil 9 1
 refine WP.loop (α := Nat × Option Addr × Nat) (fun x => match x with | ⟨i, oa, oc⟩ => [(0, Value.pointer (some ⟨g, 0, none⟩)), (3, Value.slice oa i oc), (4, Value.int .i64 (i : Int))]) (fun x w => match x with | ⟨i, oa, oc⟩ => (i ≤ D.nm.length ∧ (D.dead = true → i = 0)) ∧ St B (own oa i oc 9 1 ((D.nm.take i).map fun e => str e.1) :: cel g [Value.int .i64 D.room, Value.slice rx.fa D.f.length rx.fc, Value.slice rx.na D.nm.length rx.nc, Value.slice rx.la D.last.length rx.lc, Value.slice rx.ca D.ch.length rx.cc, Value.bool D.dead, Value.int .i64 D.left] 104 :: own rx.fa D.f.length rx.fc 107 2 (D.f.flatMap fcl) :: ro rx.na D.nm.length 112 2 (D.nm.flatMap fcl) :: ro rx.la D.last.length 112 2 (D.last.flatMap fcl) :: own rx.ca D.ch.length rx.cc 110 3 (D.ch.flatMap ccl) :: L) w) (fun x => match x with | ⟨i, oa, oc⟩ => D.nm.length - i) (0, none, 0) ⟨⟨Nat.zero_le _, fun _ => rfl⟩, h0⟩ (Sub.cons rfl (Sub.consE rfl (by first | rfl | first | rfl | (congr 1; omega) | (simp; done) | (simp; omega)) (Sub.consE rfl (by first | rfl | first | rfl | (congr 1; omega) | (simp; done) | (simp; omega)) (Sub.nil _)))) ?_
 rintro ⟨i, oa, oc⟩ w1 ⟨⟨hi, hd0⟩, hS1⟩
 clear h0
 refine WP.seq (WP.seq (WP.region rfl ?_))
 refine WO.mv rfl rfl ?_
 refine WO.mv rfl rfl ?_
 refine WO.val (run_nilCheck rfl) rfl rfl rfl ?_
 refine WO.val (run_fieldAddr (q := ⟨g, 2, none⟩) (show fieldB Tryz.prog 104 2 = some 2 from by kernel_rfl) rfl rfl) rfl rfl rfl ?_
 refine WO.val (run_load Ty.ag101 rfl ((hS1.cel_at 1 rfl 2).trans rfl)) rfl rfl rfl ?_
 refine WO.val (run_len rfl Tryz.underlying101 rfl) rfl rfl rfl ?_
 refine WO.val (run_lss rfl rfl) rfl rfl rfl ?_
 refine WO.mv rfl rfl ?_
 by_cases g12 : (i : Int) < ((D.nm.length : Nat) : Int)
 ·
  refine WO.on rfl rfl (decide_eq_true g12) ?_
  refine WO.mv rfl rfl ?_
  refine WO.on rfl rfl (decide_eq_true g12) ?_
  refine WO.val (run_nilCheck rfl) rfl rfl rfl ?_
  refine WO.on rfl rfl (decide_eq_true g12) ?_
  refine WO.val (run_fieldAddr (q := ⟨g, 5, none⟩) (show fieldB Tryz.prog 104 5 = some 5 from by kernel_rfl) rfl rfl) rfl rfl rfl ?_
  refine WO.on rfl rfl (decide_eq_true g12) ?_
  refine WO.val (run_load Ty.ag4 rfl ((hS1.cel_at 1 rfl 5).trans rfl)) rfl rfl rfl ?_
  refine WO.on rfl rfl (decide_eq_true g12) ?_
  refine WO.val (run_not rfl rfl) rfl rfl rfl ?_
  refine WO.val (run_pickT rfl (decide_eq_true g12) rfl) rfl rfl rfl ?_
  refine WO.nil (NX.go ?_)
  refine WP.condB rfl (fun g18 => ?_) (fun g18 => ?_)
  ·
   refine WP.skip (NX.go (WP.seq (WP.block ?_)))
   obtain ⟨e, he⟩ : ∃ e, D.nm[i]? = some e := ⟨_, List.getElem?_eq_getElem (by omega)⟩
   have hsrxna : rx.na.isSome = true := by obtain ⟨q, hq, _⟩ := ((hS1.ro_rd_i 3 rfl)).2.1 (by omega); rw [hq]; rfl
   refine WP.region rfl ?_
   refine WO.mv rfl rfl ?_
   refine WO.mv rfl rfl ?_
   refine WO.val (run_nilCheck rfl) rfl rfl rfl ?_
   refine WO.val (run_fieldAddr (q := ⟨g, 2, none⟩) (show fieldB Tryz.prog 104 2 = some 2 from by kernel_rfl) rfl rfl) rfl rfl rfl ?_
   refine WO.val (run_load Ty.ag101 rfl ((hS1.cel_at 1 rfl 2).trans rfl)) rfl rfl rfl ?_
   refine WO.mv rfl rfl ?_
   refine WO.val (run_indexAddr (q := adr rx.na (i * 2)) Tryz.underlying101 Ty.sz112 rfl rfl (by omega) (by omega) ((hS1.ro_rd_i 3 rfl).2.1 (by omega)) rfl) rfl rfl rfl ?_
   refine WO.val (run_fieldAddr (q := (adr rx.na (i * 2 + 0))) (show fieldB Tryz.prog 112 0 = some 0 from by kernel_rfl) rfl (adr_add _ (by assumption) _ _)) rfl rfl rfl ?_
   refine WO.val (run_load Ty.ag9 rfl ((hS1.ro_rd_i 3 rfl).cell ((flat_get fcl_len he (j := 0) (by decide)).trans rfl))) rfl rfl rfl ?_
   refine WO.buildSlice (l := [str e.1]) hS1 Tryz.underlying22 rfl (fun w => by kernel_rfl) rfl (fun g3 w2 lg3 hS2 => ?_)
   clear hS1
   refine WO.append (news := [str e.1]) 1 rfl Tryz.underlying22 Tryz.underlying22 (fun _ h => by cases h) Ty.sz9 (by decide) Ty.by9 Ty.zr9 rfl rfl rfl rfl hS2 rfl ((hS2.cel_rd 0 rfl (o := 0) (m := 1) (k := 1) rfl (Nat.le_of_ble_eq_true rfl)).src) rfl (by omega) (by omega) (fun a5 c6 w4 hS4 => ?_)
   replace hS4 : St B (cel g3 [str e.1] 9 :: own a5 (i + 1) c6 9 1 (((D.nm.take i).map fun e => str e.1) ++ [str e.1]) :: cel g [Value.int .i64 D.room, Value.slice rx.fa D.f.length rx.fc, Value.slice rx.na D.nm.length rx.nc, Value.slice rx.la D.last.length rx.lc, Value.slice rx.ca D.ch.length rx.cc, Value.bool D.dead, Value.int .i64 D.left] 104 :: own rx.fa D.f.length rx.fc 107 2 (D.f.flatMap fcl) :: ro rx.na D.nm.length 112 2 (D.nm.flatMap fcl) :: ro rx.la D.last.length 112 2 (D.last.flatMap fcl) :: own rx.ca D.ch.length rx.cc 110 3 (D.ch.flatMap ccl) :: L) w4 := hS4
   clear hS2
   refine WO.asg rfl rfl ?_
   refine WO.nil (NX.blk (NX.go (WP.region rfl ?_)))
   refine WO.mv rfl rfl ?_
   refine WO.val (run_add rfl rfl (IntWalk.i64_in _ (by omega))) rfl rfl rfl ?_
   refine WO.asg rfl rfl ?_
   refine WO.nil ?_
   exact NX.again (i + 1, a5, c6) ⟨⟨by omega, fun h => by rw [h] at g18; cases g18⟩, own_eq (hS4.drop) rfl (by rw [List.take_add_one, he]; simp)⟩ (by show D.nm.length - (i + 1) < D.nm.length - i; omega) (Sub.cons rfl (Sub.consE rfl (by first | rfl | (congr 1; omega) | (simp; done) | (simp; omega)) (Sub.consE rfl (by congr 1) (Sub.nil _))))
  ·
   refine WP.exit (NX.thenExit (NX.thenExit ?_))
   refine NX.blkExit ?_
   refine NX.go (WP.seq (WP.region rfl ?_))
   refine WO.mv rfl rfl ?_
   refine WO.asg rfl rfl ?_
   refine WO.nil (NX.go (WP.ret ?_))
   have hN := names_at hi hd0 (.inl (by simpa using g18))
   refine NX.done (l := [.tmp 2]) rfl rfl ?_
   have hz := St.rf_shut rx (hS1.permT [1, 1, 1, 1, 1, 0] (L' := cel g [Value.int .i64 D.room, Value.slice rx.fa D.f.length rx.fc, Value.slice rx.na D.nm.length rx.nc, Value.slice rx.la D.last.length rx.lc, Value.slice rx.ca D.ch.length rx.cc, Value.bool D.dead, Value.int .i64 D.left] 104 :: own rx.fa D.f.length rx.fc 107 2 (D.f.flatMap fcl) :: ro rx.na D.nm.length 112 2 (D.nm.flatMap fcl) :: ro rx.la D.last.length 112 2 (D.last.flatMap fcl) :: own rx.ca D.ch.length rx.cc 110 3 (D.ch.flatMap ccl) :: own oa i oc 9 1 ((D.nm.take i).map fun e => str e.1) :: L) rfl)
   exact ⟨oa, oc, congrArg (fun z => Value.slice oa z oc) (by rw [hN]; simp; omega), own_eq (hz.permT [1, 0] rfl) (by rw [hN]; simp; omega) (by rw [hN, List.map_map]; rfl)⟩
 ·
  refine WO.off rfl rfl (decide_eq_false g12) rfl ?_
  refine WO.off rfl rfl (decide_eq_false g12) rfl ?_
  refine WO.off rfl rfl (decide_eq_false g12) rfl ?_
  refine WO.off rfl rfl (decide_eq_false g12) rfl ?_
  refine WO.off rfl rfl (decide_eq_false g12) rfl ?_
  refine WO.val (run_pickF rfl (decide_eq_false g12) rfl) rfl rfl rfl ?_
  refine WO.nil (NX.go ?_)
  refine WP.condF rfl rfl ?_
  refine WP.exit (NX.thenExit (NX.thenExit ?_))
  refine NX.blkExit ?_
  refine NX.go (WP.seq (WP.region rfl ?_))
  refine WO.mv rfl rfl ?_
  refine WO.asg rfl rfl ?_
  refine WO.nil (NX.go (WP.ret ?_))
  have hN := names_at hi hd0 (.inr (by omega))
  refine NX.done (l := [.tmp 2]) rfl rfl ?_
  have hz := St.rf_shut rx (hS1.permT [1, 1, 1, 1, 1, 0] (L' := cel g [Value.int .i64 D.room, Value.slice rx.fa D.f.length rx.fc, Value.slice rx.na D.nm.length rx.nc, Value.slice rx.la D.last.length rx.lc, Value.slice rx.ca D.ch.length rx.cc, Value.bool D.dead, Value.int .i64 D.left] 104 :: own rx.fa D.f.length rx.fc 107 2 (D.f.flatMap fcl) :: ro rx.na D.nm.length 112 2 (D.nm.flatMap fcl) :: ro rx.la D.last.length 112 2 (D.last.flatMap fcl) :: own rx.ca D.ch.length rx.cc 110 3 (D.ch.flatMap ccl) :: own oa i oc 9 1 ((D.nm.take i).map fun e => str e.1) :: L) rfl)
  exact ⟨oa, oc, congrArg (fun z => Value.slice oa z oc) (by rw [hN]; simp; omega), own_eq (hz.permT [1, 0] rfl) (by rw [hN]; simp; omega) (by rw [hN, List.map_map]; rfl)⟩
end Go.Proofs.YtcehlnpbdffdhaaGreatDoor.SL

/- The document's disk: bytes are added. -/
namespace Go.Proofs.YtcehlnpbdffdhaaGreatDoor.SL
open Go.RowKit Go.Proofs.YtcehlnpbdffdhaaGreatDoor
open Go.Proofs.YtcehlnpbdffdhaaGreatDoorW.PrintLast (rtab opsOf)
set_option linter.unusedVariables false
set_option linter.unusedSimpArgs false

theorem new_nm {D D2 D3 : Dk} {n t : Nat} {k : List UInt8} (hk : OkD D n t) (hf : fileF k = true) (hn : findN k D.nm = none) (q2 : D2 = { D with f := D.f ++ [([], 0)] }) (q3 : D3 = changeD D2 ⟨[], k, D.f.length⟩) : D3.nm = insN (k, D.f.length) D.nm ∧ findN k D3.nm = some D.f.length := by
  have hkp : keepN ⟨[], k, D.f.length⟩ D.nm = D.nm := keepN_none (fun e he => fileF_ne (hk.w.good.f e he).1) (findN_none' hn)
  have ha : D3.nm = insN (k, D.f.length) D.nm := by
    rw [q3, q2]
    show applyN D.nm ⟨[], k, D.f.length⟩ = _
    unfold applyN; rw [if_neg (fileF_ne hf)]
    show insN _ (keepN _ _) = _
    rw [hkp]
  exact ⟨ha, by rw [ha]; exact findN_insN hn⟩
theorem append1_found {D : Dk} {k s : List UInt8} {i : Nat} (hf : fileF k = true) (hr : ¬ D.room - usedN D.f D.nm < s.length) (h : findN k D.nm = some i) : append1 D k s = ({ D with f := addTo D.f i s }, 0) := by
  unfold append1
  rw [if_neg (by rw [hf]; exact Bool.noConfusion), if_neg (by rintro (h2 | ⟨h2, _⟩); exact hr h2; rw [h] at h2; cases h2), h]
theorem append1_new {D D2 D3 : Dk} {k s : List UInt8} (hf : fileF k = true) (hr : ¬ D.room - usedN D.f D.nm < s.length) (h : findN k D.nm = none) (h64 : ¬ 64 ≤ D.nm.length) (q2 : D2 = { D with f := D.f ++ [([], 0)] }) (q3 : D3 = changeD D2 ⟨[], k, D.f.length⟩) : append1 D k s = ({ D3 with f := addTo D3.f D.f.length s }, 0) := by
  have e : D3.f = D.f ++ [([], 0)] := by rw [q3, q2]; rfl
  unfold append1
  rw [if_neg (by rw [hf]; exact Bool.noConfusion), if_neg (by rintro (h2 | ⟨_, h2⟩); exact hr h2; omega), h, e, addTo_last, q3, q2]
theorem r4append_spec_t6 : rtab .any (opsOf Tryz.f25 6) = (true, [([], []), ([0], [0]), ([], []), ([2], [2]), ([3], [3]), ([4], [4]), ([], []), ([6], [6]), ([5, 7], [5, 7]), ([1, 8], [1, 8]), ([9, 7], [9]), ([10], [10]), ([11, 10], [10, 11]), ([12, 10, 10], [10, 12]), ([13], [13]), ([14, 13], [13, 14]), ([15, 13], [13, 15]), ([16, 13], [13, 16]), ([17, 13], [13, 17]), ([18, 13], [13, 18]), ([13, 19, 10], [10, 13, 19]), ([10, 20], [10, 20]), ([21, 13], [21])]) := by kernel_rfl
theorem r4append_spec_t13 : rtab .any (opsOf Tryz.f25 13) = (true, [([], []), ([0], [0]), ([1], [1]), ([2], [2]), ([], []), ([], []), ([5], [5]), ([6], [6]), ([7], [7]), ([], []), ([8, 9], [8, 9]), ([10], [10]), ([11], [11]), ([], []), ([12, 13], [12, 13]), ([3, 4, 0, 1, 2, 3, 4, 5, 6, 7, 8, 9, 10, 11, 12, 13, 14], [3, 4]), ([15, 0, 1, 2, 3, 4, 5, 6, 7, 8, 9, 10, 11, 12, 13, 14], [15]), ([16, 14, 0, 1, 2, 3, 4, 5, 6, 7, 8, 9, 10, 11, 12, 13, 14], [14, 16])]) := by kernel_rfl
theorem r4append_spec {B w : World} {L : List HP} {g : Nat} {D : Dk} {n t : Nat} (hk : OkD D n t) (hn1 : n ≤ 1000000000) (ht : t ≤ 1099511627776) (k s : List UInt8) (hkl : k.length ≤ 140737488355328) (hsl : s.length ≤ 140737488355328) (hS : St B (refA g D :: L) w) : Does Tryz.prog 25 [Value.pointer (some ⟨g, 0, none⟩), str k, str s] w (fun v w1 => v = .int .i64 (appendD D k s).2 ∧ St B (refA g (appendD D k s).1 :: L) w1) := by
 obtain ⟨rx, h0⟩ := hS.rf_open
 clear hS
 have hw := hk.w
 have hcb := hk.b.ch
 have hfb := hk.b.f
 have h64 := hw.nm64
 refine enter (n := 99) Tryz.func25 rfl rfl [Value.pointer (some ⟨g, 0, none⟩), str k, str s] rfl ?_
 refine WP.seq (WP.region rfl ?_)
 refine WO.asg rfl rfl ?_
 refine WO.nil (NX.go (WP.seq (WP.region rfl ?_)))
 refine WO.mv rfl rfl ?_
 refine WO.val (run_nilCheck rfl) rfl rfl rfl ?_
 refine WO.val (run_fieldAddr (q := ⟨g, 2, none⟩) (show fieldB Tryz.prog 104 2 = some 2 from by kernel_rfl) rfl rfl) rfl rfl rfl ?_
 refine WO.val (run_load Ty.ag101 rfl ((h0.cel_at 0 rfl 2).trans rfl)) rfl rfl rfl ?_
 refine WO.mv rfl rfl ?_
 have hS1 := h0.permT [2, 0, 0, 0, 0] (L' := ro rx.na D.nm.length 112 2 (D.nm.flatMap fcl) :: cel g [Value.int .i64 D.room, Value.slice rx.fa D.f.length rx.fc, Value.slice rx.na D.nm.length rx.nc, Value.slice rx.la D.last.length rx.lc, Value.slice rx.ca D.ch.length rx.cc, Value.bool D.dead, Value.int .i64 D.left] 104 :: own rx.fa D.f.length rx.fc 107 2 (D.f.flatMap fcl) :: ro rx.la D.last.length 112 2 (D.last.flatMap fcl) :: own rx.ca D.ch.length rx.cc 110 3 (D.ch.flatMap ccl) :: L) rfl
 clear h0
 refine WO.call rfl rfl Ty.hd63 rfl (r4at_spec (fun h => h.ro_rd) k (by omega) hS1) (fun v3 w2 pv3 => ?_)
 obtain ⟨r, rfl, hat, hS2⟩ := pv3
 clear hS1
 refine WO.asg rfl rfl ?_
 refine WO.nil (NX.go (WP.seq (WP.block (WP.seq (WP.region rfl ?_)))))
 refine WO.mv rfl rfl ?_
 have hS4 := hS2.permT [1, 0, 0, 0, 0] (L' := cel g [Value.int .i64 D.room, Value.slice rx.fa D.f.length rx.fc, Value.slice rx.na D.nm.length rx.nc, Value.slice rx.la D.last.length rx.lc, Value.slice rx.ca D.ch.length rx.cc, Value.bool D.dead, Value.int .i64 D.left] 104 :: ro rx.na D.nm.length 112 2 (D.nm.flatMap fcl) :: own rx.fa D.f.length rx.fc 107 2 (D.f.flatMap fcl) :: ro rx.la D.last.length 112 2 (D.last.flatMap fcl) :: own rx.ca D.ch.length rx.cc 110 3 (D.ch.flatMap ccl) :: L) rfl
 clear hS2
 refine WO.call rfl rfl Ty.hd64 rfl (r4write_spec hw.left hw.lrng hS4) (fun v6 w5 pv6 => ?_)
 obtain ⟨hv, hS5⟩ := pv6
 clear hS4
 obtain ⟨D1, eD1⟩ : ∃ qq, qq = (writeD D).1 := ⟨_, rfl⟩
 have q1 : D1 = { D with dead := wDead D.dead D.left, left := wLeft D.dead D.left } := by rw [eD1, writeD_eq]
 obtain ⟨b1, eb1⟩ : ∃ qq, qq = wOk D.dead D.left := ⟨_, rfl⟩
 have qb : (writeD D).2 = b1 := by rw [eb1, writeD_eq]
 rw [← eb1] at hv
 subst hv
 have k1 : OkD D1 n t := by rw [eD1]; exact hk.write
 have ew := onWrite_of eD1 qb
 have en : D1.nm = D.nm := by rw [q1]
 have hw1 := k1.w
 have hcb1 := k1.b.ch
 have hfb1 := k1.b.f
 have h641 := hw1.nm64
 have hS7 : St B (cel g [Value.int .i64 D1.room, Value.slice rx.fa D1.f.length rx.fc, Value.slice rx.na D1.nm.length rx.nc, Value.slice rx.la D1.last.length rx.lc, Value.slice rx.ca D1.ch.length rx.cc, Value.bool D1.dead, Value.int .i64 D1.left] 104 :: own rx.fa D1.f.length rx.fc 107 2 (D1.f.flatMap fcl) :: ro rx.na D1.nm.length 112 2 (D1.nm.flatMap fcl) :: ro rx.la D1.last.length 112 2 (D1.last.flatMap fcl) :: own rx.ca D1.ch.length rx.cc 110 3 (D1.ch.flatMap ccl) :: L) w5 := by rw [q1]; exact (hS5.permT [0, 1, 0, 0, 0] (L' := cel g [Value.int .i64 D.room, Value.slice rx.fa D.f.length rx.fc, Value.slice rx.na D.nm.length rx.nc, Value.slice rx.la D.last.length rx.lc, Value.slice rx.ca D.ch.length rx.cc, Value.bool (wDead D.dead D.left), Value.int .i64 (wLeft D.dead D.left)] 104 :: own rx.fa D.f.length rx.fc 107 2 (D.f.flatMap fcl) :: ro rx.na D.nm.length 112 2 (D.nm.flatMap fcl) :: ro rx.la D.last.length 112 2 (D.last.flatMap fcl) :: own rx.ca D.ch.length rx.cc 110 3 (D.ch.flatMap ccl) :: L) rfl)
 clear hS5
 rw [← en] at hat
 refine WO.val (run_not rfl rfl) rfl rfl rfl ?_
 refine WO.asg rfl rfl ?_
 refine WO.nil (NX.go ?_)
 refine WP.condB rfl (fun g15 => ?_) (fun g15 => ?_)
 ·
  have hb1 : b1 = false := by simpa using g15
  refine WP.seq (WP.region rfl ?_)
  refine WO.asg rfl rfl ?_
  refine WO.nil (NX.go (WP.ret (NX.blkRet (NX.thenRet ?_))))
  refine NX.done (l := [.tmp 6]) rfl rfl ?_
  have e0 : appendD D k s = (D1, 11) := by unfold appendD; rw [ew, if_neg (by rw [hb1]; exact Bool.noConfusion)]
  rw [e0]
  exact ⟨rfl, St.rf_shut rx (hS7.permT [0, 0, 0, 0, 0] (L' := cel g [Value.int .i64 D1.room, Value.slice rx.fa D1.f.length rx.fc, Value.slice rx.na D1.nm.length rx.nc, Value.slice rx.la D1.last.length rx.lc, Value.slice rx.ca D1.ch.length rx.cc, Value.bool D1.dead, Value.int .i64 D1.left] 104 :: own rx.fa D1.f.length rx.fc 107 2 (D1.f.flatMap fcl) :: ro rx.na D1.nm.length 112 2 (D1.nm.flatMap fcl) :: ro rx.la D1.last.length 112 2 (D1.last.flatMap fcl) :: own rx.ca D1.ch.length rx.cc 110 3 (D1.ch.flatMap ccl) :: L) rfl)⟩
 ·
  have hb1 : b1 = true := by simpa using g15
  refine WP.seq (WP.region rfl ?_)
  refine WO.mv rfl rfl ?_
  refine WO.call rfl rfl Ty.hd65 rfl (r4name_spec k (by omega) hS7) (fun v9 w8 pv9 => ?_)
  obtain ⟨rfl, hS8⟩ := pv9
  clear hS7
  refine WO.val (run_not rfl rfl) rfl rfl rfl ?_
  refine WO.asg rfl rfl ?_
  refine WO.nil (NX.go ?_)
  refine WP.condB rfl (fun g19 => ?_) (fun g19 => ?_)
  ·
   have hff : fileF k = false := by simpa using g19
   refine WP.seq (WP.region rfl ?_)
   refine WO.asg rfl rfl ?_
   refine WO.nil (NX.go (WP.ret (NX.blkRet (NX.thenRet ?_))))
   refine NX.done (l := [.tmp 6]) rfl rfl ?_
   have e0 : appendD D k s = (D1, 3) := by unfold appendD; rw [ew, if_pos hb1]; unfold append1; rw [if_pos hff]
   rw [e0]
   exact ⟨rfl, St.rf_shut rx (hS8.permT [0, 0, 0, 0, 0] (L' := cel g [Value.int .i64 D1.room, Value.slice rx.fa D1.f.length rx.fc, Value.slice rx.na D1.nm.length rx.nc, Value.slice rx.la D1.last.length rx.lc, Value.slice rx.ca D1.ch.length rx.cc, Value.bool D1.dead, Value.int .i64 D1.left] 104 :: own rx.fa D1.f.length rx.fc 107 2 (D1.f.flatMap fcl) :: ro rx.na D1.nm.length 112 2 (D1.nm.flatMap fcl) :: ro rx.la D1.last.length 112 2 (D1.last.flatMap fcl) :: own rx.ca D1.ch.length rx.cc 110 3 (D1.ch.flatMap ccl) :: L) rfl)⟩
  ·
   have hf : fileF k = true := by simpa using g19
   refine WP.seq ?_
   have hrg := hw1.rng
   have hru : D1.room < 0 → usedN D1.f D1.nm = 0 := fun h => by have := usedN_le (D := D1) (n := n) (t := 0) ⟨k1.b.ch, k1.b.f, by rw [hw1.neg h]; intro x hx; cases hx⟩ D1.nm; omega
   have hul := k1.used
   refine WD.start (fun w => (∀ j, World.cell? w ⟨g, j, none⟩ = [Value.int .i64 D1.room, Value.slice rx.fa D1.f.length rx.fc, Value.slice rx.na D1.nm.length rx.nc, Value.slice rx.la D1.last.length rx.lc, Value.slice rx.ca D1.ch.length rx.cc, Value.bool D1.dead, Value.int .i64 D1.left][j]?) ∧ Rd w rx.fa D1.f.length 2 (D1.f.flatMap fcl) ∧ Rd w rx.na D1.nm.length 2 (D1.nm.flatMap fcl) ∧ Rd w rx.la D1.last.length 2 (D1.last.flatMap fcl) ∧ Rd w rx.ca D1.ch.length 3 (D1.ch.flatMap ccl)) [] (bt 23 0) Ty.mo rfl (by kernel_rfl) hS8 (fun _ h => ⟨h.cel_at 0 rfl, (h.own_rd_i 1 rfl), (h.ro_rd_i 2 rfl), (h.ro_rd_i 3 rfl), (h.own_rd_i 4 rfl)⟩) (fun w10 hS10 s11 => ?_)
   clear hS8
   refine WD.pure (i := 0) r4append_spec_t6 (bt 23 1) rfl rfl rfl (by kernel_rfl) (PQ.then (PQ.blk (PQ.then PQ.body))) rfl (fun w => run_move rfl) ?_
   refine WD.pure (i := 1) r4append_spec_t6 (bt 23 3) rfl rfl rfl (by kernel_rfl) (PQ.then (PQ.blk (PQ.then PQ.body))) rfl (fun w => run_lenS rfl Tryz.underlying9 rfl) ?_
   refine WD.pure (i := 2) r4append_spec_t6 (bt 23 7) rfl rfl rfl (by kernel_rfl) (PQ.then (PQ.blk (PQ.then PQ.body))) rfl (fun w => run_move rfl) ?_
   refine WD.pure (i := 3) r4append_spec_t6 (bt 23 15) rfl rfl rfl (by kernel_rfl) (PQ.then (PQ.blk (PQ.then PQ.body))) rfl (fun w => run_nilCheck rfl) ?_
   refine WD.pure (i := 4) r4append_spec_t6 (bt 23 31) rfl rfl rfl (by kernel_rfl) (PQ.then (PQ.blk (PQ.then PQ.body))) rfl (fun w => run_fieldAddr (q := ⟨g, 0, none⟩) (show fieldB Tryz.prog 104 0 = some 0 from by kernel_rfl) rfl rfl) ?_
   refine WD.take (i := 5) r4append_spec_t6 (bt 23 63) s11 rfl rfl rfl (by kernel_rfl) (PQ.then (PQ.blk (PQ.then PQ.body))) rfl (fun w hs => run_load Ty.ag3 rfl ((hs.1 0).trans rfl)) ?_
   refine WD.pure (i := 6) r4append_spec_t6 (bt 23 127) rfl rfl rfl (by kernel_rfl) (PQ.then (PQ.blk (PQ.then PQ.body))) rfl (fun w => run_move rfl) ?_
   refine WD.one (i := 7) r4append_spec_t6 (bt 23 255) rfl (by kernel_rfl) ?_
   refine WO.call rfl rfl Ty.hd33 rfl (r4used_spec hw1 k1.b ht hS10) (fun v13 w12 pv13 => ?_)
   obtain ⟨rfl, hS12⟩ := pv13
   clear hS10
   refine WO.nil ?_
   have s14 : (∀ j, World.cell? w12 ⟨g, j, none⟩ = [Value.int .i64 D1.room, Value.slice rx.fa D1.f.length rx.fc, Value.slice rx.na D1.nm.length rx.nc, Value.slice rx.la D1.last.length rx.lc, Value.slice rx.ca D1.ch.length rx.cc, Value.bool D1.dead, Value.int .i64 D1.left][j]?) ∧ Rd w12 rx.fa D1.f.length 2 (D1.f.flatMap fcl) ∧ Rd w12 rx.na D1.nm.length 2 (D1.nm.flatMap fcl) ∧ Rd w12 rx.la D1.last.length 2 (D1.last.flatMap fcl) ∧ Rd w12 rx.ca D1.ch.length 3 (D1.ch.flatMap ccl) := ⟨hS12.cel_at 0 rfl, (hS12.own_rd_i 1 rfl), (hS12.ro_rd_i 2 rfl), (hS12.ro_rd_i 3 rfl), (hS12.own_rd_i 4 rfl)⟩
   refine NX.held s14 ?_
   refine WD.pure (i := 8) r4append_spec_t6 (bt 23 511) rfl rfl rfl (by kernel_rfl) (PQ.then (PQ.blk (PQ.then PQ.body))) rfl (fun w => run_sub rfl rfl (IntWalk.i64_in _ (by omega))) ?_
   refine WD.pure (i := 9) r4append_spec_t6 (bt 23 1023) rfl rfl rfl (by kernel_rfl) (PQ.then (PQ.blk (PQ.then PQ.body))) rfl (fun w => run_gtr rfl rfl) ?_
   refine WD.pure (i := 10) r4append_spec_t6 (bt 23 2047) rfl rfl rfl (by kernel_rfl) (PQ.then (PQ.blk (PQ.then PQ.body))) rfl (fun w => run_move rfl) ?_
   by_cases g34 : (D1.room - ((usedN D1.f D1.nm : Nat) : Int)) < (s.length : Int)
   ·
    refine WD.off (i := 11) r4append_spec_t6 (bt 23 4095) rfl rfl rfl (decide_eq_true g34) (by kernel_rfl) (PQ.then (PQ.blk (PQ.then PQ.body))) rfl ?_
    refine WD.off (i := 12) r4append_spec_t6 (bt 23 8191) rfl rfl rfl (decide_eq_true g34) (by kernel_rfl) (PQ.then (PQ.blk (PQ.then PQ.body))) rfl ?_
    refine WD.off (i := 13) r4append_spec_t6 (bt 23 16383) rfl rfl rfl (decide_eq_true g34) (by kernel_rfl) (PQ.then (PQ.blk (PQ.then PQ.body))) rfl ?_
    refine WD.offU (i := 14) r4append_spec_t6 (bt 23 32767) rfl rfl rfl (by kernel_rfl) (PQ.then (PQ.blk (PQ.then PQ.body))) rfl ?_
    refine WD.offU (i := 15) r4append_spec_t6 (bt 23 65535) rfl rfl rfl (by kernel_rfl) (PQ.then (PQ.blk (PQ.then PQ.body))) rfl ?_
    refine WD.offU (i := 16) r4append_spec_t6 (bt 23 131071) rfl rfl rfl (by kernel_rfl) (PQ.then (PQ.blk (PQ.then PQ.body))) rfl ?_
    refine WD.offU (i := 17) r4append_spec_t6 (bt 23 262143) rfl rfl rfl (by kernel_rfl) (PQ.then (PQ.blk (PQ.then PQ.body))) rfl ?_
    refine WD.offU (i := 18) r4append_spec_t6 (bt 23 524287) rfl rfl rfl (by kernel_rfl) (PQ.then (PQ.blk (PQ.then PQ.body))) rfl ?_
    refine WD.offU (i := 19) r4append_spec_t6 (bt 23 1048575) rfl rfl rfl (by kernel_rfl) (PQ.then (PQ.blk (PQ.then PQ.body))) rfl ?_
    refine WD.off (i := 20) r4append_spec_t6 (bt 23 2097151) rfl rfl rfl (decide_eq_true g34) (by kernel_rfl) (PQ.then (PQ.blk (PQ.then PQ.body))) rfl ?_
    refine WD.pure (i := 21) r4append_spec_t6 (bt 23 4194303) rfl rfl rfl (by kernel_rfl) (PQ.then (PQ.blk (PQ.then PQ.body))) rfl (fun w => run_pickT rfl (decide_eq_true g34) rfl) ?_
    refine WD.pure (i := 22) r4append_spec_t6 (bt 23 8388607) rfl rfl rfl (by kernel_rfl) (PQ.then (PQ.blk (PQ.then PQ.body))) rfl (fun w => run_assign rfl) ?_
    refine WD.done r4append_spec_t6 (by kernel_rfl) ?_
    refine NX.go ?_
    refine WP.condT rfl rfl ?_
    refine WP.seq (WP.region rfl ?_)
    refine WO.asg rfl rfl ?_
    refine WO.nil (NX.go (WP.ret (NX.blkRet (NX.thenRet ?_))))
    refine NX.done (l := [.tmp 6]) rfl rfl ?_
    have e0 : appendD D k s = (D1, 4) := by unfold appendD; rw [ew, if_pos hb1]; unfold append1; rw [if_neg (by rw [hf]; exact Bool.noConfusion), if_pos (.inl (by omega))]
    rw [e0]
    exact ⟨rfl, St.rf_shut rx (hS12.permT [0, 0, 0, 0, 0] (L' := cel g [Value.int .i64 D1.room, Value.slice rx.fa D1.f.length rx.fc, Value.slice rx.na D1.nm.length rx.nc, Value.slice rx.la D1.last.length rx.lc, Value.slice rx.ca D1.ch.length rx.cc, Value.bool D1.dead, Value.int .i64 D1.left] 104 :: own rx.fa D1.f.length rx.fc 107 2 (D1.f.flatMap fcl) :: ro rx.na D1.nm.length 112 2 (D1.nm.flatMap fcl) :: ro rx.la D1.last.length 112 2 (D1.last.flatMap fcl) :: own rx.ca D1.ch.length rx.cc 110 3 (D1.ch.flatMap ccl) :: L) rfl)⟩
   ·
    refine WD.pureOn (i := 11) r4append_spec_t6 (bt 23 4095) rfl rfl rfl (decide_eq_false g34) (by kernel_rfl) (PQ.then (PQ.blk (PQ.then PQ.body))) rfl (fun w => run_move rfl) ?_
    refine WD.pureOn (i := 12) r4append_spec_t6 (bt 23 8191) rfl rfl rfl (decide_eq_false g34) (by kernel_rfl) (PQ.then (PQ.blk (PQ.then PQ.body))) rfl (fun w => run_lss rfl rfl) ?_
    refine WD.pureOn (i := 13) r4append_spec_t6 (bt 23 16383) rfl rfl rfl (decide_eq_false g34) (by kernel_rfl) (PQ.then (PQ.blk (PQ.then PQ.body))) rfl (fun w => run_move rfl) ?_
    by_cases g37 : r < 0
    ·
     have hnone : findN k D1.nm = none := by rcases hat with h | ⟨i, e, h, _⟩; exact h.1; omega
     refine WD.pureOn (i := 14) r4append_spec_t6 (bt 23 32767) rfl rfl rfl (decide_eq_true g37) (by kernel_rfl) (PQ.then (PQ.blk (PQ.then PQ.body))) rfl (fun w => run_move rfl) ?_
     refine WD.pureOn (i := 15) r4append_spec_t6 (bt 23 65535) rfl rfl rfl (decide_eq_true g37) (by kernel_rfl) (PQ.then (PQ.blk (PQ.then PQ.body))) rfl (fun w => run_nilCheck rfl) ?_
     refine WD.pureOn (i := 16) r4append_spec_t6 (bt 23 131071) rfl rfl rfl (decide_eq_true g37) (by kernel_rfl) (PQ.then (PQ.blk (PQ.then PQ.body))) rfl (fun w => run_fieldAddr (q := ⟨g, 2, none⟩) (show fieldB Tryz.prog 104 2 = some 2 from by kernel_rfl) rfl rfl) ?_
     refine WD.takeOn (i := 17) r4append_spec_t6 (bt 23 262143) s14 rfl rfl rfl (decide_eq_true g37) (by kernel_rfl) (PQ.then (PQ.blk (PQ.then PQ.body))) rfl (fun w hs => run_load Ty.ag101 rfl ((hs.1 2).trans rfl)) ?_
     refine WD.pureOn (i := 18) r4append_spec_t6 (bt 23 524287) rfl rfl rfl (decide_eq_true g37) (by kernel_rfl) (PQ.then (PQ.blk (PQ.then PQ.body))) rfl (fun w => run_len rfl Tryz.underlying101 rfl) ?_
     refine WD.pureOn (i := 19) r4append_spec_t6 (bt 23 1048575) rfl rfl rfl (decide_eq_true g37) (by kernel_rfl) (PQ.then (PQ.blk (PQ.then PQ.body))) rfl (fun w => run_geq rfl rfl) ?_
     refine WD.pureOn (i := 20) r4append_spec_t6 (bt 23 2097151) rfl rfl rfl (decide_eq_false g34) (by kernel_rfl) (PQ.then (PQ.blk (PQ.then PQ.body))) rfl (fun w => run_pickT rfl (decide_eq_true g37) rfl) ?_
     refine WD.pure (i := 21) r4append_spec_t6 (bt 23 4194303) rfl rfl rfl (by kernel_rfl) (PQ.then (PQ.blk (PQ.then PQ.body))) rfl (fun w => run_pickF rfl (decide_eq_false g34) rfl) ?_
     refine WD.pure (i := 22) r4append_spec_t6 (bt 23 8388607) rfl rfl rfl (by kernel_rfl) (PQ.then (PQ.blk (PQ.then PQ.body))) rfl (fun w => run_assign rfl) ?_
     refine WD.done r4append_spec_t6 (by kernel_rfl) ?_
     refine NX.go ?_
     refine WP.condP rfl (fun g23 => ?_) (fun g23 => ?_)
     ·
      refine WP.seq (WP.region rfl ?_)
      refine WO.asg rfl rfl ?_
      refine WO.nil (NX.go (WP.ret (NX.blkRet (NX.thenRet ?_))))
      refine NX.done (l := [.tmp 6]) rfl rfl ?_
      have e0 : appendD D k s = (D1, 4) := by unfold appendD; rw [ew, if_pos hb1]; unfold append1; rw [if_neg (by rw [hf]; exact Bool.noConfusion), if_pos (.inr ⟨hnone, by omega⟩)]
      rw [e0]
      exact ⟨rfl, St.rf_shut rx (hS12.permT [0, 0, 0, 0, 0] (L' := cel g [Value.int .i64 D1.room, Value.slice rx.fa D1.f.length rx.fc, Value.slice rx.na D1.nm.length rx.nc, Value.slice rx.la D1.last.length rx.lc, Value.slice rx.ca D1.ch.length rx.cc, Value.bool D1.dead, Value.int .i64 D1.left] 104 :: own rx.fa D1.f.length rx.fc 107 2 (D1.f.flatMap fcl) :: ro rx.na D1.nm.length 112 2 (D1.nm.flatMap fcl) :: ro rx.la D1.last.length 112 2 (D1.last.flatMap fcl) :: own rx.ca D1.ch.length rx.cc 110 3 (D1.ch.flatMap ccl) :: L) rfl)⟩
     ·
      refine WP.skip (NX.blk (NX.go (WP.seq (WP.seq (WP.region rfl ?_)))))
      refine WO.mv rfl rfl ?_
      refine WO.val (run_lss rfl rfl) rfl rfl rfl ?_
      refine WO.nil (NX.go ?_)
      refine WP.condP rfl (fun g47 => ?_) (fun g47 => ?_)
      ·
       refine WP.seq (WP.region rfl ?_)
       refine WO.mv rfl rfl ?_
       refine WO.mv rfl rfl ?_
       refine WO.val (run_nilCheck rfl) rfl rfl rfl ?_
       refine WO.val (run_fieldAddr (q := ⟨g, 1, none⟩) (show fieldB Tryz.prog 104 1 = some 1 from by kernel_rfl) rfl rfl) rfl rfl rfl ?_
       refine WO.val (run_load Ty.ag100 rfl ((hS12.cel_at 0 rfl 1).trans rfl)) rfl rfl rfl ?_
       refine WO.val (run_build (v := Value.agg #[str [], Value.int .i64 0]) rfl (fun w => by kernel_rfl)) rfl rfl rfl ?_
       refine WO.buildSlice (l := [str [], Value.int .i64 0]) hS12 Tryz.underlying100 rfl (fun w => by kernel_rfl) rfl (fun g16 w15 lg16 hS15 => ?_)
       clear hS12
       refine WO.append (news := [str [], Value.int .i64 0]) 2 rfl Tryz.underlying100 Tryz.underlying100 (fun _ h => by cases h) Ty.sz107 (by decide) Ty.by107 Ty.zr107 rfl rfl rfl rfl hS15 rfl ((hS15.cel_rd 0 rfl (o := 0) (m := 1) (k := 2) rfl (Nat.le_of_ble_eq_true rfl)).src) rfl (by omega) (by omega) (fun a18 c19 w17 hS17 => ?_)
       replace hS17 : St B (cel g16 [str [], Value.int .i64 0] 107 :: cel g [Value.int .i64 D1.room, Value.slice rx.fa D1.f.length rx.fc, Value.slice rx.na D1.nm.length rx.nc, Value.slice rx.la D1.last.length rx.lc, Value.slice rx.ca D1.ch.length rx.cc, Value.bool D1.dead, Value.int .i64 D1.left] 104 :: own a18 (D1.f.length + 1) c19 107 2 ((D1.f.flatMap fcl) ++ [str [], Value.int .i64 0]) :: ro rx.na D1.nm.length 112 2 (D1.nm.flatMap fcl) :: ro rx.la D1.last.length 112 2 (D1.last.flatMap fcl) :: own rx.ca D1.ch.length rx.cc 110 3 (D1.ch.flatMap ccl) :: L) w17 := hS17
       clear hS15
       refine WO.val (run_nilCheck rfl) rfl rfl rfl ?_
       refine WO.val (run_fieldAddr (q := ⟨g, 1, none⟩) (show fieldB Tryz.prog 104 1 = some 1 from by kernel_rfl) rfl rfl) rfl rfl rfl ?_
       refine WO.store (l' := [Value.int .i64 D1.room, Value.slice a18 (D1.f.length + 1) c19, Value.slice rx.na D1.nm.length rx.nc, Value.slice rx.la D1.last.length rx.lc, Value.slice rx.ca D1.ch.length rx.cc, Value.bool D1.dead, Value.int .i64 D1.left]) 1 hS17 rfl Ty.sz100 rfl rfl rfl rfl rfl (Nat.le_of_ble_eq_true rfl) rfl (fun w20 (hS20 : St B (cel g16 [str [], Value.int .i64 0] 107 :: cel g [Value.int .i64 D1.room, Value.slice a18 (D1.f.length + 1) c19, Value.slice rx.na D1.nm.length rx.nc, Value.slice rx.la D1.last.length rx.lc, Value.slice rx.ca D1.ch.length rx.cc, Value.bool D1.dead, Value.int .i64 D1.left] 104 :: own a18 (D1.f.length + 1) c19 107 2 ((D1.f.flatMap fcl) ++ [str [], Value.int .i64 0]) :: ro rx.na D1.nm.length 112 2 (D1.nm.flatMap fcl) :: ro rx.la D1.last.length 112 2 (D1.last.flatMap fcl) :: own rx.ca D1.ch.length rx.cc 110 3 (D1.ch.flatMap ccl) :: L) w20) => ?_)
       clear hS17
       refine WO.nil (NX.go (WP.seq ?_))
       obtain ⟨D2, q2⟩ : ∃ qq : Dk, qq = { D1 with f := D1.f ++ [([], 0)] } := ⟨_, rfl⟩
       obtain ⟨rxb, erx⟩ : ∃ qq : RX, qq = ⟨a18, c19, rx.na, rx.nc, rx.la, rx.lc, rx.ca, rx.cc⟩ := ⟨_, rfl⟩
       have el2 : D2.f.length = D1.f.length + 1 := by rw [q2]; simp
       have ef2 : D2.f.flatMap fcl = D1.f.flatMap fcl ++ [str [], Value.int .i64 0] := by rw [q2]; exact flat_snoc ..
       have en2 : D2.nm = D1.nm := by rw [q2]
       have ec2 : D2.ch = D1.ch := by rw [q2]
       have hn2 : D2.nm.length ≤ 64 := by rw [en2]; exact h641
       have hc2 : D2.ch.length ≤ n := by rw [ec2]; exact hcb1
       have hS21 : St B (cel g [Value.int .i64 D2.room, Value.slice rxb.fa D2.f.length rxb.fc, Value.slice rxb.na D2.nm.length rxb.nc, Value.slice rxb.la D2.last.length rxb.lc, Value.slice rxb.ca D2.ch.length rxb.cc, Value.bool D2.dead, Value.int .i64 D2.left] 104 :: own rxb.fa D2.f.length rxb.fc 107 2 (D2.f.flatMap fcl) :: ro rxb.na D2.nm.length 112 2 (D2.nm.flatMap fcl) :: ro rxb.la D2.last.length 112 2 (D2.last.flatMap fcl) :: own rxb.ca D2.ch.length rxb.cc 110 3 (D2.ch.flatMap ccl) :: cel g16 [str [], Value.int .i64 0] 107 :: L) w20 := by rw [el2, ef2, erx, q2]; exact (hS20.permT [1, 1, 1, 1, 1, 0] (L' := cel g [Value.int .i64 D1.room, Value.slice a18 (D1.f.length + 1) c19, Value.slice rx.na D1.nm.length rx.nc, Value.slice rx.la D1.last.length rx.lc, Value.slice rx.ca D1.ch.length rx.cc, Value.bool D1.dead, Value.int .i64 D1.left] 104 :: own a18 (D1.f.length + 1) c19 107 2 ((D1.f.flatMap fcl) ++ [str [], Value.int .i64 0]) :: ro rx.na D1.nm.length 112 2 (D1.nm.flatMap fcl) :: ro rx.la D1.last.length 112 2 (D1.last.flatMap fcl) :: own rx.ca D1.ch.length rx.cc 110 3 (D1.ch.flatMap ccl) :: cel g16 [str [], Value.int .i64 0] 107 :: L) rfl)
       clear hS20
       refine WP.region rfl ?_
       refine WO.mv rfl rfl ?_
       refine WO.mv rfl rfl ?_
       refine WO.mv rfl rfl ?_
       refine WO.val (run_nilCheck rfl) rfl rfl rfl ?_
       refine WO.val (run_fieldAddr (q := ⟨g, 1, none⟩) (show fieldB Tryz.prog 104 1 = some 1 from by kernel_rfl) rfl rfl) rfl rfl rfl ?_
       refine WO.val (run_load Ty.ag100 rfl ((hS21.cel_at 0 rfl 1).trans rfl)) rfl rfl rfl ?_
       refine WO.val (run_len rfl Tryz.underlying100 rfl) rfl rfl rfl ?_
       refine WO.val (run_sub rfl rfl (show IntKind.i64.wrap (((D2.f.length : Nat) : Int) - 1) = (D1.f.length : Int) by rw [el2, IntWalk.i64_in _ (by omega)]; omega)) rfl rfl rfl ?_
       refine WO.val (run_build (v := Value.agg #[str [], str k, Value.int .i64 (D1.f.length : Int)]) rfl (fun w => by kernel_rfl)) rfl rfl rfl ?_
       refine WO.call rfl rfl Ty.hd66 rfl (r4change_spec ⟨[], k, D1.f.length⟩ (by omega) (by omega) hS21) (fun v23 w22 pv23 => ?_)
       obtain ⟨rx3, rfl, hS22⟩ := pv23
       clear hS21
       obtain ⟨D3, q3⟩ : ∃ qq : Dk, qq = changeD D2 ⟨[], k, D1.f.length⟩ := ⟨_, rfl⟩
       have hnm3 := new_nm k1 hf hnone q2 q3
       have hl3 : D3.nm.length ≤ 4294967296 := by rw [hnm3.1, insN_length]; omega
       have hf3 : D3.f.length = D1.f.length + 1 := by rw [q3]; exact el2
       rw [← q3] at hS22
       refine WO.nil (NX.go (WP.region rfl ?_))
       refine WO.mv rfl rfl ?_
       refine WO.val (run_nilCheck rfl) rfl rfl rfl ?_
       refine WO.val (run_fieldAddr (q := ⟨g, 2, none⟩) (show fieldB Tryz.prog 104 2 = some 2 from by kernel_rfl) rfl rfl) rfl rfl rfl ?_
       refine WO.val (run_load Ty.ag101 rfl ((hS22.cel_at 0 rfl 2).trans rfl)) rfl rfl rfl ?_
       refine WO.mv rfl rfl ?_
       have hS24 := hS22.permT [2, 0, 0, 0, 0, 0] (L' := ro rx3.na D3.nm.length 112 2 (D3.nm.flatMap fcl) :: cel g [Value.int .i64 D3.room, Value.slice rx3.fa D3.f.length rx3.fc, Value.slice rx3.na D3.nm.length rx3.nc, Value.slice rx3.la D3.last.length rx3.lc, Value.slice rx3.ca D3.ch.length rx3.cc, Value.bool D3.dead, Value.int .i64 D3.left] 104 :: own rx3.fa D3.f.length rx3.fc 107 2 (D3.f.flatMap fcl) :: ro rx3.la D3.last.length 112 2 (D3.last.flatMap fcl) :: own rx3.ca D3.ch.length rx3.cc 110 3 (D3.ch.flatMap ccl) :: cel g16 [str [], Value.int .i64 0] 107 :: L) rfl
       clear hS22
       refine WO.call rfl rfl Ty.hd63 rfl (r4at_spec (fun h => h.ro_rd) k (by omega) hS24) (fun v26 w25 pv26 => ?_)
       obtain ⟨r3, rfl, hat3, hS25⟩ := pv26
       clear hS24
       refine WO.asg rfl rfl ?_
       refine WO.nil (NX.go (WP.seq ?_))
       obtain ⟨i3, e3, hri3, he3, hek3, hfi3⟩ : ∃ i e, r3 = ((i : Nat) : Int) ∧ D3.nm[i]? = some e ∧ e.1 = k ∧ findN k D3.nm = some e.2 := by rcases hat3 with ⟨h, _⟩ | h; rw [hnm3.2] at h; cases h; exact h
       have hil3 := (List.getElem?_eq_some_iff.1 he3).1
       clear hat3
       subst hri3
       have hei3 : e3.2 = D1.f.length := Option.some.inj (hfi3.symm.trans hnm3.2)
       have hlt : e3.2 < D3.f.length := by rw [hei3, hf3]; omega
       have hfe := fileAt_get hlt
       have hft : (fileAt D3.f e3.2).1.length ≤ t := by rw [hei3, q3, q2]; unfold fileAt; rw [List.getD_eq_getElem?_getD]; show (((D1.f ++ [([], 0)])[D1.f.length]?).getD ([], 0)).1.length ≤ t; rw [List.getElem?_append_right (Nat.le_refl _), Nat.sub_self]; exact Nat.zero_le _
       have hsrx3fa : rx3.fa.isSome = true := by obtain ⟨q, hq, _⟩ := ((hS25.own_rd_i 2 rfl)).2.1 (by omega); rw [hq]; rfl
       have hsrx3na : rx3.na.isSome = true := by obtain ⟨q, hq, _⟩ := ((hS25.ro_rd_i 0 rfl)).2.1 (by omega); rw [hq]; rfl
       refine WP.region rfl ?_
       refine WO.mv rfl rfl ?_
       refine WO.val (run_nilCheck rfl) rfl rfl rfl ?_
       refine WO.val (run_fieldAddr (q := ⟨g, 2, none⟩) (show fieldB Tryz.prog 104 2 = some 2 from by kernel_rfl) rfl rfl) rfl rfl rfl ?_
       refine WO.val (run_load Ty.ag101 rfl ((hS25.cel_at 1 rfl 2).trans rfl)) rfl rfl rfl ?_
       refine WO.mv rfl rfl ?_
       refine WO.val (run_indexAddr (q := adr rx3.na (i3 * 2)) Tryz.underlying101 Ty.sz112 rfl rfl (by omega) (by omega) ((hS25.ro_rd_i 0 rfl).2.1 (by omega)) rfl) rfl rfl rfl ?_
       refine WO.val (run_fieldAddr (q := (adr rx3.na (i3 * 2 + 1))) (show fieldB Tryz.prog 112 1 = some 1 from by kernel_rfl) rfl (adr_add _ (by assumption) _ _)) rfl rfl rfl ?_
       refine WO.val (run_load Ty.ag3 rfl ((hS25.ro_rd_i 0 rfl).cell ((flat_get fcl_len he3 (j := 1) (by decide)).trans rfl))) rfl rfl rfl ?_
       refine WO.asg rfl rfl ?_
       refine WO.nil (NX.go (WP.seq ?_))
       refine WD.start (fun w => (∀ j, World.cell? w ⟨g, j, none⟩ = [Value.int .i64 D3.room, Value.slice rx3.fa D3.f.length rx3.fc, Value.slice rx3.na D3.nm.length rx3.nc, Value.slice rx3.la D3.last.length rx3.lc, Value.slice rx3.ca D3.ch.length rx3.cc, Value.bool D3.dead, Value.int .i64 D3.left][j]?) ∧ Rd w rx3.fa D3.f.length 2 (D3.f.flatMap fcl)) [17] (bt 18 0) Ty.mo rfl (by kernel_rfl) hS25 (fun _ h => ⟨h.cel_at 1 rfl, (h.own_rd_i 2 rfl)⟩) (fun w27 hS27 s28 => ?_)
       clear hS25
       refine WD.pure (i := 0) r4append_spec_t13 (bt 18 1) rfl rfl rfl (by kernel_rfl) (PQ.then PQ.body) rfl (fun w => run_move rfl) ?_
       refine WD.pure (i := 1) r4append_spec_t13 (bt 18 3) rfl rfl rfl (by kernel_rfl) (PQ.then PQ.body) rfl (fun w => run_nilCheck rfl) ?_
       refine WD.pure (i := 2) r4append_spec_t13 (bt 18 7) rfl rfl rfl (by kernel_rfl) (PQ.then PQ.body) rfl (fun w => run_fieldAddr (q := ⟨g, 1, none⟩) (show fieldB Tryz.prog 104 1 = some 1 from by kernel_rfl) rfl rfl) ?_
       refine WD.take (i := 3) r4append_spec_t13 (bt 18 15) s28 rfl rfl rfl (by kernel_rfl) (PQ.then PQ.body) rfl (fun w hs => run_load Ty.ag100 rfl ((hs.1 1).trans rfl)) ?_
       refine WD.pure (i := 4) r4append_spec_t13 (bt 18 31) rfl rfl rfl (by kernel_rfl) (PQ.then PQ.body) rfl (fun w => run_move rfl) ?_
       refine WD.pure (i := 5) r4append_spec_t13 (bt 18 63) rfl rfl rfl (by kernel_rfl) (PQ.then PQ.body) rfl (fun w => run_move rfl) ?_
       refine WD.pure (i := 6) r4append_spec_t13 (bt 18 127) rfl rfl rfl (by kernel_rfl) (PQ.then PQ.body) rfl (fun w => run_nilCheck rfl) ?_
       refine WD.pure (i := 7) r4append_spec_t13 (bt 18 255) rfl rfl rfl (by kernel_rfl) (PQ.then PQ.body) rfl (fun w => run_fieldAddr (q := ⟨g, 1, none⟩) (show fieldB Tryz.prog 104 1 = some 1 from by kernel_rfl) rfl rfl) ?_
       refine WD.take (i := 8) r4append_spec_t13 (bt 18 511) s28 rfl rfl rfl (by kernel_rfl) (PQ.then PQ.body) rfl (fun w hs => run_load Ty.ag100 rfl ((hs.1 1).trans rfl)) ?_
       refine WD.pure (i := 9) r4append_spec_t13 (bt 18 1023) rfl rfl rfl (by kernel_rfl) (PQ.then PQ.body) rfl (fun w => run_move rfl) ?_
       refine WD.take (i := 10) r4append_spec_t13 (bt 18 2047) s28 rfl rfl rfl (by kernel_rfl) (PQ.then PQ.body) rfl (fun w hs => run_indexAddr (q := adr rx3.fa (e3.2 * 2)) Tryz.underlying100 Ty.sz107 rfl rfl (by omega) (by omega) ((hs.2).2.1 (by omega)) rfl) ?_
       refine WD.pure (i := 11) r4append_spec_t13 (bt 18 4095) rfl rfl rfl (by kernel_rfl) (PQ.then PQ.body) rfl (fun w => run_fieldAddr (q := (adr rx3.fa (e3.2 * 2 + 0))) (show fieldB Tryz.prog 107 0 = some 0 from by kernel_rfl) rfl (adr_add _ (by assumption) _ _)) ?_
       refine WD.take (i := 12) r4append_spec_t13 (bt 18 8191) s28 rfl rfl rfl (by kernel_rfl) (PQ.then PQ.body) rfl (fun w hs => run_load Ty.ag9 rfl ((hs.2).cell ((flat_get fcl_len hfe (j := 0) (by decide)).trans rfl))) ?_
       refine WD.pure (i := 13) r4append_spec_t13 (bt 18 16383) rfl rfl rfl (by kernel_rfl) (PQ.then PQ.body) rfl (fun w => run_move rfl) ?_
       refine WD.pure (i := 14) r4append_spec_t13 (bt 18 32767) rfl rfl rfl (by kernel_rfl) (PQ.then PQ.body) rfl (fun w => run_cat rfl rfl (by omega)) ?_
       refine WD.take (i := 15) r4append_spec_t13 (bt 18 65535) s28 rfl rfl rfl (by kernel_rfl) (PQ.then PQ.body) rfl (fun w hs => run_indexAddr (q := adr rx3.fa (e3.2 * 2)) Tryz.underlying100 Ty.sz107 rfl rfl (by omega) (by omega) ((hs.2).2.1 (by omega)) rfl) ?_
       refine WD.pure (i := 16) r4append_spec_t13 (bt 18 131071) rfl rfl rfl (by kernel_rfl) (PQ.then PQ.body) rfl (fun w => run_fieldAddr (q := (adr rx3.fa (e3.2 * 2 + 0))) (show fieldB Tryz.prog 107 0 = some 0 from by kernel_rfl) rfl (adr_add _ (by assumption) _ _)) ?_
       refine WD.one (i := 17) r4append_spec_t13 (bt 18 262143) rfl (by kernel_rfl) ?_
       refine WO.storeOwnAt 2 hS27 rfl Ty.sz9 rfl rfl rfl rfl (by rw [flat_len fcl_len]; omega) (fun w29 hS29 => ?_)
       replace hS29 : St B (ro rx3.na D3.nm.length 112 2 (D3.nm.flatMap fcl) :: cel g [Value.int .i64 D3.room, Value.slice rx3.fa D3.f.length rx3.fc, Value.slice rx3.na D3.nm.length rx3.nc, Value.slice rx3.la D3.last.length rx3.lc, Value.slice rx3.ca D3.ch.length rx3.cc, Value.bool D3.dead, Value.int .i64 D3.left] 104 :: own rx3.fa D3.f.length rx3.fc 107 2 ((addTo D3.f e3.2 s).flatMap fcl) :: ro rx3.la D3.last.length 112 2 (D3.last.flatMap fcl) :: own rx3.ca D3.ch.length rx3.cc 110 3 (D3.ch.flatMap ccl) :: cel g16 [str [], Value.int .i64 0] 107 :: L) w29 := (by have z := hS29; rw [flat_set fcl_len hfe (j := 0) (y := ((fileAt D3.f e3.2).1 ++ s, (fileAt D3.f e3.2).2)) (by decide) rfl] at z; exact z)
       clear hS27
       refine WO.nil ?_
       refine NX.last (by decide) ?_
       refine WD.done r4append_spec_t13 (by kernel_rfl) ?_
       refine NX.go (WP.seq (WP.region rfl ?_))
       refine WO.asg rfl rfl ?_
       refine WO.nil (NX.go (WP.ret ?_))
       have el : (addTo D3.f e3.2 s).length = D3.f.length := List.length_set
       refine NX.done (l := [.tmp 6]) rfl rfl ?_
       have e0 : appendD D k s = ({ D3 with f := addTo D3.f e3.2 s }, 0) := by unfold appendD; rw [ew, if_pos hb1]; rw [hei3]; exact append1_new hf (by omega) hnone (by omega) q2 q3
       rw [e0]
       refine ⟨rfl, St.rf_shut (D := { D3 with f := addTo D3.f e3.2 s }) rx3 ?_⟩
       have hz := (hS29.permT [5, 1, 1, 0, 0, 0] (L' := cel g16 [str [], Value.int .i64 0] 107 :: cel g [Value.int .i64 D3.room, Value.slice rx3.fa D3.f.length rx3.fc, Value.slice rx3.na D3.nm.length rx3.nc, Value.slice rx3.la D3.last.length rx3.lc, Value.slice rx3.ca D3.ch.length rx3.cc, Value.bool D3.dead, Value.int .i64 D3.left] 104 :: own rx3.fa D3.f.length rx3.fc 107 2 ((addTo D3.f e3.2 s).flatMap fcl) :: ro rx3.na D3.nm.length 112 2 (D3.nm.flatMap fcl) :: ro rx3.la D3.last.length 112 2 (D3.last.flatMap fcl) :: own rx3.ca D3.ch.length rx3.cc 110 3 (D3.ch.flatMap ccl) :: L) rfl).drop
       rw [← el] at hz
       exact hz
      ·
       exfalso; omega
    ·
     obtain ⟨i, e, hri, he, hek, hfi⟩ : ∃ i e, r = ((i : Nat) : Int) ∧ D1.nm[i]? = some e ∧ e.1 = k ∧ findN k D1.nm = some e.2 := by rcases hat with ⟨_, h⟩ | h; omega; exact h
     have hil := (List.getElem?_eq_some_iff.1 he).1
     clear hat
     subst hri
     refine WD.off (i := 14) r4append_spec_t6 (bt 23 32767) rfl rfl rfl (decide_eq_false g37) (by kernel_rfl) (PQ.then (PQ.blk (PQ.then PQ.body))) rfl ?_
     refine WD.off (i := 15) r4append_spec_t6 (bt 23 65535) rfl rfl rfl (decide_eq_false g37) (by kernel_rfl) (PQ.then (PQ.blk (PQ.then PQ.body))) rfl ?_
     refine WD.off (i := 16) r4append_spec_t6 (bt 23 131071) rfl rfl rfl (decide_eq_false g37) (by kernel_rfl) (PQ.then (PQ.blk (PQ.then PQ.body))) rfl ?_
     refine WD.off (i := 17) r4append_spec_t6 (bt 23 262143) rfl rfl rfl (decide_eq_false g37) (by kernel_rfl) (PQ.then (PQ.blk (PQ.then PQ.body))) rfl ?_
     refine WD.off (i := 18) r4append_spec_t6 (bt 23 524287) rfl rfl rfl (decide_eq_false g37) (by kernel_rfl) (PQ.then (PQ.blk (PQ.then PQ.body))) rfl ?_
     refine WD.off (i := 19) r4append_spec_t6 (bt 23 1048575) rfl rfl rfl (decide_eq_false g37) (by kernel_rfl) (PQ.then (PQ.blk (PQ.then PQ.body))) rfl ?_
     refine WD.pureOn (i := 20) r4append_spec_t6 (bt 23 2097151) rfl rfl rfl (decide_eq_false g34) (by kernel_rfl) (PQ.then (PQ.blk (PQ.then PQ.body))) rfl (fun w => run_pickF rfl (decide_eq_false g37) rfl) ?_
     refine WD.pure (i := 21) r4append_spec_t6 (bt 23 4194303) rfl rfl rfl (by kernel_rfl) (PQ.then (PQ.blk (PQ.then PQ.body))) rfl (fun w => run_pickF rfl (decide_eq_false g34) rfl) ?_
     refine WD.pure (i := 22) r4append_spec_t6 (bt 23 8388607) rfl rfl rfl (by kernel_rfl) (PQ.then (PQ.blk (PQ.then PQ.body))) rfl (fun w => run_assign rfl) ?_
     refine WD.done r4append_spec_t6 (by kernel_rfl) ?_
     refine NX.go ?_
     refine WP.condF rfl rfl ?_
     refine WP.skip (NX.blk (NX.go (WP.seq (WP.seq (WP.region rfl ?_)))))
     refine WO.mv rfl rfl ?_
     refine WO.val (run_lss rfl rfl) rfl rfl rfl ?_
     refine WO.nil (NX.go ?_)
     refine WP.condP rfl (fun g47 => ?_) (fun g47 => ?_)
     ·
      exfalso; omega
     ·
      refine WP.skip (NX.go (WP.seq ?_))
      have hlt : e.2 < D1.f.length := (hw1.good.f e (List.mem_of_getElem? he)).2
      have hfe := fileAt_get hlt
      have hft := k1.b.t _ (fileAt_mem hlt)
      have hsrxfa : rx.fa.isSome = true := by obtain ⟨q, hq, _⟩ := ((hS12.own_rd_i 1 rfl)).2.1 (by omega); rw [hq]; rfl
      have hsrxna : rx.na.isSome = true := by obtain ⟨q, hq, _⟩ := ((hS12.ro_rd_i 2 rfl)).2.1 (by omega); rw [hq]; rfl
      refine WP.region rfl ?_
      refine WO.mv rfl rfl ?_
      refine WO.val (run_nilCheck rfl) rfl rfl rfl ?_
      refine WO.val (run_fieldAddr (q := ⟨g, 2, none⟩) (show fieldB Tryz.prog 104 2 = some 2 from by kernel_rfl) rfl rfl) rfl rfl rfl ?_
      refine WO.val (run_load Ty.ag101 rfl ((hS12.cel_at 0 rfl 2).trans rfl)) rfl rfl rfl ?_
      refine WO.mv rfl rfl ?_
      refine WO.val (run_indexAddr (q := adr rx.na (i * 2)) Tryz.underlying101 Ty.sz112 rfl rfl (by omega) (by omega) ((hS12.ro_rd_i 2 rfl).2.1 (by omega)) rfl) rfl rfl rfl ?_
      refine WO.val (run_fieldAddr (q := (adr rx.na (i * 2 + 1))) (show fieldB Tryz.prog 112 1 = some 1 from by kernel_rfl) rfl (adr_add _ (by assumption) _ _)) rfl rfl rfl ?_
      refine WO.val (run_load Ty.ag3 rfl ((hS12.ro_rd_i 2 rfl).cell ((flat_get fcl_len he (j := 1) (by decide)).trans rfl))) rfl rfl rfl ?_
      refine WO.asg rfl rfl ?_
      refine WO.nil (NX.go (WP.seq ?_))
      refine WD.start (fun w => (∀ j, World.cell? w ⟨g, j, none⟩ = [Value.int .i64 D1.room, Value.slice rx.fa D1.f.length rx.fc, Value.slice rx.na D1.nm.length rx.nc, Value.slice rx.la D1.last.length rx.lc, Value.slice rx.ca D1.ch.length rx.cc, Value.bool D1.dead, Value.int .i64 D1.left][j]?) ∧ Rd w rx.fa D1.f.length 2 (D1.f.flatMap fcl)) [17] (bt 18 0) Ty.mo rfl (by kernel_rfl) hS12 (fun _ h => ⟨h.cel_at 0 rfl, (h.own_rd_i 1 rfl)⟩) (fun w30 hS30 s31 => ?_)
      clear hS12
      refine WD.pure (i := 0) r4append_spec_t13 (bt 18 1) rfl rfl rfl (by kernel_rfl) (PQ.then PQ.body) rfl (fun w => run_move rfl) ?_
      refine WD.pure (i := 1) r4append_spec_t13 (bt 18 3) rfl rfl rfl (by kernel_rfl) (PQ.then PQ.body) rfl (fun w => run_nilCheck rfl) ?_
      refine WD.pure (i := 2) r4append_spec_t13 (bt 18 7) rfl rfl rfl (by kernel_rfl) (PQ.then PQ.body) rfl (fun w => run_fieldAddr (q := ⟨g, 1, none⟩) (show fieldB Tryz.prog 104 1 = some 1 from by kernel_rfl) rfl rfl) ?_
      refine WD.take (i := 3) r4append_spec_t13 (bt 18 15) s31 rfl rfl rfl (by kernel_rfl) (PQ.then PQ.body) rfl (fun w hs => run_load Ty.ag100 rfl ((hs.1 1).trans rfl)) ?_
      refine WD.pure (i := 4) r4append_spec_t13 (bt 18 31) rfl rfl rfl (by kernel_rfl) (PQ.then PQ.body) rfl (fun w => run_move rfl) ?_
      refine WD.pure (i := 5) r4append_spec_t13 (bt 18 63) rfl rfl rfl (by kernel_rfl) (PQ.then PQ.body) rfl (fun w => run_move rfl) ?_
      refine WD.pure (i := 6) r4append_spec_t13 (bt 18 127) rfl rfl rfl (by kernel_rfl) (PQ.then PQ.body) rfl (fun w => run_nilCheck rfl) ?_
      refine WD.pure (i := 7) r4append_spec_t13 (bt 18 255) rfl rfl rfl (by kernel_rfl) (PQ.then PQ.body) rfl (fun w => run_fieldAddr (q := ⟨g, 1, none⟩) (show fieldB Tryz.prog 104 1 = some 1 from by kernel_rfl) rfl rfl) ?_
      refine WD.take (i := 8) r4append_spec_t13 (bt 18 511) s31 rfl rfl rfl (by kernel_rfl) (PQ.then PQ.body) rfl (fun w hs => run_load Ty.ag100 rfl ((hs.1 1).trans rfl)) ?_
      refine WD.pure (i := 9) r4append_spec_t13 (bt 18 1023) rfl rfl rfl (by kernel_rfl) (PQ.then PQ.body) rfl (fun w => run_move rfl) ?_
      refine WD.take (i := 10) r4append_spec_t13 (bt 18 2047) s31 rfl rfl rfl (by kernel_rfl) (PQ.then PQ.body) rfl (fun w hs => run_indexAddr (q := adr rx.fa (e.2 * 2)) Tryz.underlying100 Ty.sz107 rfl rfl (by omega) (by omega) ((hs.2).2.1 (by omega)) rfl) ?_
      refine WD.pure (i := 11) r4append_spec_t13 (bt 18 4095) rfl rfl rfl (by kernel_rfl) (PQ.then PQ.body) rfl (fun w => run_fieldAddr (q := (adr rx.fa (e.2 * 2 + 0))) (show fieldB Tryz.prog 107 0 = some 0 from by kernel_rfl) rfl (adr_add _ (by assumption) _ _)) ?_
      refine WD.take (i := 12) r4append_spec_t13 (bt 18 8191) s31 rfl rfl rfl (by kernel_rfl) (PQ.then PQ.body) rfl (fun w hs => run_load Ty.ag9 rfl ((hs.2).cell ((flat_get fcl_len hfe (j := 0) (by decide)).trans rfl))) ?_
      refine WD.pure (i := 13) r4append_spec_t13 (bt 18 16383) rfl rfl rfl (by kernel_rfl) (PQ.then PQ.body) rfl (fun w => run_move rfl) ?_
      refine WD.pure (i := 14) r4append_spec_t13 (bt 18 32767) rfl rfl rfl (by kernel_rfl) (PQ.then PQ.body) rfl (fun w => run_cat rfl rfl (by omega)) ?_
      refine WD.take (i := 15) r4append_spec_t13 (bt 18 65535) s31 rfl rfl rfl (by kernel_rfl) (PQ.then PQ.body) rfl (fun w hs => run_indexAddr (q := adr rx.fa (e.2 * 2)) Tryz.underlying100 Ty.sz107 rfl rfl (by omega) (by omega) ((hs.2).2.1 (by omega)) rfl) ?_
      refine WD.pure (i := 16) r4append_spec_t13 (bt 18 131071) rfl rfl rfl (by kernel_rfl) (PQ.then PQ.body) rfl (fun w => run_fieldAddr (q := (adr rx.fa (e.2 * 2 + 0))) (show fieldB Tryz.prog 107 0 = some 0 from by kernel_rfl) rfl (adr_add _ (by assumption) _ _)) ?_
      refine WD.one (i := 17) r4append_spec_t13 (bt 18 262143) rfl (by kernel_rfl) ?_
      refine WO.storeOwnAt 1 hS30 rfl Ty.sz9 rfl rfl rfl rfl (by rw [flat_len fcl_len]; omega) (fun w32 hS32 => ?_)
      replace hS32 : St B (cel g [Value.int .i64 D1.room, Value.slice rx.fa D1.f.length rx.fc, Value.slice rx.na D1.nm.length rx.nc, Value.slice rx.la D1.last.length rx.lc, Value.slice rx.ca D1.ch.length rx.cc, Value.bool D1.dead, Value.int .i64 D1.left] 104 :: own rx.fa D1.f.length rx.fc 107 2 ((addTo D1.f e.2 s).flatMap fcl) :: ro rx.na D1.nm.length 112 2 (D1.nm.flatMap fcl) :: ro rx.la D1.last.length 112 2 (D1.last.flatMap fcl) :: own rx.ca D1.ch.length rx.cc 110 3 (D1.ch.flatMap ccl) :: L) w32 := (by have z := hS32; rw [flat_set fcl_len hfe (j := 0) (y := ((fileAt D1.f e.2).1 ++ s, (fileAt D1.f e.2).2)) (by decide) rfl] at z; exact z)
      clear hS30
      refine WO.nil ?_
      refine NX.last (by decide) ?_
      refine WD.done r4append_spec_t13 (by kernel_rfl) ?_
      refine NX.go (WP.seq (WP.region rfl ?_))
      refine WO.asg rfl rfl ?_
      refine WO.nil (NX.go (WP.ret ?_))
      have el : (addTo D1.f e.2 s).length = D1.f.length := List.length_set
      refine NX.done (l := [.tmp 6]) rfl rfl ?_
      have e0 : appendD D k s = ({ D1 with f := addTo D1.f e.2 s }, 0) := by unfold appendD; rw [ew, if_pos hb1]; exact append1_found hf (by omega) hfi
      rw [e0]
      refine ⟨rfl, St.rf_shut (D := { D1 with f := addTo D1.f e.2 s }) rx ?_⟩
      have hz := (hS32.permT [0, 0, 0, 0, 0] (L' := cel g [Value.int .i64 D1.room, Value.slice rx.fa D1.f.length rx.fc, Value.slice rx.na D1.nm.length rx.nc, Value.slice rx.la D1.last.length rx.lc, Value.slice rx.ca D1.ch.length rx.cc, Value.bool D1.dead, Value.int .i64 D1.left] 104 :: own rx.fa D1.f.length rx.fc 107 2 ((addTo D1.f e.2 s).flatMap fcl) :: ro rx.na D1.nm.length 112 2 (D1.nm.flatMap fcl) :: ro rx.la D1.last.length 112 2 (D1.last.flatMap fcl) :: own rx.ca D1.ch.length rx.cc 110 3 (D1.ch.flatMap ccl) :: L) rfl)
      rw [← el] at hz
      exact hz
end Go.Proofs.YtcehlnpbdffdhaaGreatDoor.SL

/- The document's disk: the power fails. -/
namespace Go.Proofs.YtcehlnpbdffdhaaGreatDoor.SL
open Go.RowKit Go.Proofs.YtcehlnpbdffdhaaGreatDoor
open Go.Proofs.YtcehlnpbdffdhaaGreatDoorW.PrintLast (rtab opsOf)
set_option linter.unusedVariables false
set_option linter.unusedSimpArgs false
theorem r4crash_spec_t10 : rtab .any (opsOf Tryz.f27 10) = (true, [([], []), ([0], [0]), ([1], [1]), ([2], [2]), ([], []), ([3, 4], [3, 4]), ([5], [5]), ([6], [6]), ([], []), ([], []), ([9], [9]), ([], []), ([11], [11]), ([12], [12]), ([13], [13]), ([], []), ([14, 15], [14, 15]), ([16], [16]), ([17], [17]), ([18], [18]), ([], []), ([20], [20]), ([21], [21]), ([22], [22]), ([], []), ([23, 24], [23, 24]), ([25], [25]), ([26], [26]), ([19, 27], [19, 27]), ([8, 10, 28], [8, 10, 28]), ([7, 29], [7, 29]), ([30, 29, 0, 1, 2, 3, 4, 5, 6, 7, 8, 9, 10, 11, 12, 13, 14, 15, 16, 17, 18, 19, 20, 21, 22, 23, 24, 25, 26, 27, 28, 29, 30], [30])]) := by kernel_rfl
theorem r4crash_spec_t11 : rtab .any (opsOf Tryz.f27 11) = (true, [([], []), ([0], [0]), ([1], [1]), ([2], [2]), ([], []), ([], []), ([5], [5]), ([6], [6]), ([7], [7]), ([], []), ([8, 9], [8, 9]), ([10], [10]), ([11], [11]), ([], []), ([12, 13], [12, 13]), ([3, 4, 0, 1, 2, 3, 4, 5, 6, 7, 8, 9, 10, 11, 12, 13, 14], [3, 4]), ([15, 0, 1, 2, 3, 4, 5, 6, 7, 8, 9, 10, 11, 12, 13, 14], [15]), ([16, 14, 0, 1, 2, 3, 4, 5, 6, 7, 8, 9, 10, 11, 12, 13, 14], [14, 16])]) := by kernel_rfl
theorem r4crash_spec {B w : World} {L : List HP} {X : HP} {g kc : Nat} {ka : Option Addr} {D : Dk} {n t : Nat} {zs : List Int} (hk : OkD D n t) (hn1 : n ≤ 1000000000) (ht : t ≤ 1099511627776) (hX : ∀ {L : List HP} {w : World}, St B (X :: L) w → Rd w ka zs.length 1 (ri zs)) (hS : St B (refA g D :: X :: L) w) : Does Tryz.prog 27 [Value.pointer (some ⟨g, 0, none⟩), Value.slice ka zs.length kc] w (fun v w1 => v = .tuple #[] ∧ St B (refA g (crashD D zs) :: X :: L) w1) := by
 obtain ⟨rx, h0⟩ := hS.rf_open
 clear hS
 have hw := hk.w
 have hcb := hk.b.ch
 have hfb := hk.b.f
 have h64 := hw.nm64
 have hpk := keptF_le zs 0 D.ch.length
 refine enter (n := 119) Tryz.func27 rfl rfl [Value.pointer (some ⟨g, 0, none⟩), Value.slice ka zs.length kc] rfl ?_
 refine WP.seq (WP.region rfl ?_)
 refine WO.mv rfl rfl ?_
 refine WO.mv rfl rfl ?_
 refine WO.val (run_nilCheck rfl) rfl rfl rfl ?_
 refine WO.val (run_fieldAddr (q := ⟨g, 4, none⟩) (show fieldB Tryz.prog 104 4 = some 4 from by kernel_rfl) rfl rfl) rfl rfl rfl ?_
 refine WO.val (run_load Ty.ag102 rfl ((h0.cel_at 0 rfl 4).trans rfl)) rfl rfl rfl ?_
 refine WO.val (run_len rfl Tryz.underlying102 rfl) rfl rfl rfl ?_
 have hS1 := h0.permT [5, 0, 0, 0, 0, 0] (L' := X :: cel g [Value.int .i64 D.room, Value.slice rx.fa D.f.length rx.fc, Value.slice rx.na D.nm.length rx.nc, Value.slice rx.la D.last.length rx.lc, Value.slice rx.ca D.ch.length rx.cc, Value.bool D.dead, Value.int .i64 D.left] 104 :: own rx.fa D.f.length rx.fc 107 2 (D.f.flatMap fcl) :: ro rx.na D.nm.length 112 2 (D.nm.flatMap fcl) :: ro rx.la D.last.length 112 2 (D.last.flatMap fcl) :: own rx.ca D.ch.length rx.cc 110 3 (D.ch.flatMap ccl) :: L) rfl
 clear h0
 refine WO.call rfl rfl Ty.hd67 rfl (r4kept_spec hX 0 D.ch.length (by omega) (by omega) hS1) (fun v3 w2 pv3 => ?_)
 obtain ⟨rfl, hS2⟩ := pv3
 clear hS1
 refine WO.asg rfl rfl ?_
 refine WO.nil (NX.go (WP.seq (WP.region rfl ?_)))
 refine WO.mv rfl rfl ?_
 refine WO.val (run_nilCheck rfl) rfl rfl rfl ?_
 refine WO.val (run_fieldAddr (q := ⟨g, 3, none⟩) (show fieldB Tryz.prog 104 3 = some 3 from by kernel_rfl) rfl rfl) rfl rfl rfl ?_
 refine WO.val (run_load Ty.ag101 rfl ((hS2.cel_at 1 rfl 3).trans rfl)) rfl rfl rfl ?_
 refine WO.asg rfl rfl ?_
 refine WO.nil (NX.go (WP.seq (WP.seq (WP.region rfl ?_))))
 refine WO.asg rfl rfl ?_
 refine WO.nil (NX.go (WP.block ?_))
 have hS4 := St.dup (ro_pers _ _ _ _ _) (hS2.permT [4, 0, 0, 0, 0, 0] (L' := ro rx.la D.last.length 112 2 (D.last.flatMap fcl) :: X :: cel g [Value.int .i64 D.room, Value.slice rx.fa D.f.length rx.fc, Value.slice rx.na D.nm.length rx.nc, Value.slice rx.la D.last.length rx.lc, Value.slice rx.ca D.ch.length rx.cc, Value.bool D.dead, Value.int .i64 D.left] 104 :: own rx.fa D.f.length rx.fc 107 2 (D.f.flatMap fcl) :: ro rx.na D.nm.length 112 2 (D.nm.flatMap fcl) :: own rx.ca D.ch.length rx.cc 110 3 (D.ch.flatMap ccl) :: L) rfl)
 clear hS2
 refine WP.loop (α := Nat × Option Addr × Nat) (fun x => match x with | ⟨i, la, lc⟩ => [(0, Value.pointer (some ⟨g, 0, none⟩)), (1, Value.slice ka zs.length kc), (4, Value.int .i64 (((keptF zs 0 D.ch.length) : Nat) : Int)), (5, Value.slice la ((applyL D.last (D.ch.take i)).length) lc), (6, Value.int .i64 (i : Int))]) (fun x w => match x with | ⟨i, la, lc⟩ => (i ≤ (keptF zs 0 D.ch.length)) ∧ St B (ro la ((applyL D.last (D.ch.take i)).length) 112 2 ((applyL D.last (D.ch.take i)).flatMap fcl) :: ro rx.la D.last.length 112 2 (D.last.flatMap fcl) :: X :: cel g [Value.int .i64 D.room, Value.slice rx.fa D.f.length rx.fc, Value.slice rx.na D.nm.length rx.nc, Value.slice rx.la D.last.length rx.lc, Value.slice rx.ca D.ch.length rx.cc, Value.bool D.dead, Value.int .i64 D.left] 104 :: own rx.fa D.f.length rx.fc 107 2 (D.f.flatMap fcl) :: ro rx.na D.nm.length 112 2 (D.nm.flatMap fcl) :: own rx.ca D.ch.length rx.cc 110 3 (D.ch.flatMap ccl) :: L) w) (fun x => match x with | ⟨i, la, lc⟩ => (keptF zs 0 D.ch.length) - i) (0, rx.la, rx.lc) ⟨(Nat.zero_le _), hS4⟩ (Sub.cons rfl (Sub.cons rfl (Sub.cons rfl (Sub.consE rfl (by first | rfl | first | rfl | (congr 1; omega) | (simp; done) | (simp; omega)) (Sub.consE rfl (by first | rfl | first | rfl | (congr 1; omega) | (simp; done) | (simp; omega)) (Sub.nil _)))))) ?_
 rintro ⟨i, la, lc⟩ w5 ⟨hi, hS5⟩
 clear hS4
 refine WP.seq (WP.seq (WP.region rfl ?_))
 refine WO.mv rfl rfl ?_
 refine WO.mv rfl rfl ?_
 refine WO.val (run_lss rfl rfl) rfl rfl rfl ?_
 refine WO.nil (NX.go ?_)
 refine WP.condP rfl (fun g23 => ?_) (fun g23 => ?_)
 ·
  refine WP.skip (NX.go (WP.seq (WP.block ?_)))
  have hich : i < D.ch.length := by omega
  obtain ⟨c, hc0⟩ : ∃ c, D.ch[i]? = some c := ⟨_, List.getElem?_eq_getElem hich⟩
  have hsrxca : rx.ca.isSome = true := by obtain ⟨q, hq, _⟩ := ((hS5.own_rd_i 6 rfl)).2.1 (by omega); rw [hq]; rfl
  refine WP.region rfl ?_
  refine WO.mv rfl rfl ?_
  refine WO.mv rfl rfl ?_
  refine WO.val (run_nilCheck rfl) rfl rfl rfl ?_
  refine WO.val (run_fieldAddr (q := ⟨g, 4, none⟩) (show fieldB Tryz.prog 104 4 = some 4 from by kernel_rfl) rfl rfl) rfl rfl rfl ?_
  refine WO.val (run_load Ty.ag102 rfl ((hS5.cel_at 3 rfl 4).trans rfl)) rfl rfl rfl ?_
  refine WO.mv rfl rfl ?_
  refine WO.val (run_indexAddr (q := adr rx.ca (i * 3)) Tryz.underlying102 Ty.sz110 rfl rfl (by omega) (by omega) ((hS5.own_rd_i 6 rfl).2.1 (by omega)) rfl) rfl rfl rfl ?_
  refine WO.val (run_loadAgg (vs := [str c.fr, str c.tn, Value.int .i64 (c.fi : Int)]) Ty.ag110 Ty.sz110 rfl ((hS5.own_rd_i 6 rfl).cells (by rw [flat_len ccl_len]; omega) (flat_part ccl_len hc0)).1 ((hS5.own_rd_i 6 rfl).cells (by rw [flat_len ccl_len]; omega) (flat_part ccl_len hc0)).2) rfl rfl rfl ?_
  refine WO.call rfl rfl Ty.hd68 rfl (r4apply_spec (fun h => h.ro_rd) c (by have := hw.few i; omega) hS5) (fun v7 w6 pv7 => ?_)
  obtain ⟨a1, c1, rfl, hS6⟩ := pv7
  clear hS5
  replace hS6 := hS6.own_seal
  refine WO.asg rfl rfl ?_
  refine WO.nil (NX.blk (NX.go (WP.region rfl ?_)))
  refine WO.mv rfl rfl ?_
  refine WO.val (run_add rfl rfl (IntWalk.i64_in _ (by omega))) rfl rfl rfl ?_
  refine WO.asg rfl rfl ?_
  refine WO.nil ?_
  exact NX.again (i + 1, a1, c1) ⟨by omega, by rw [applyL_take hc0]; exact (hS6.permT [1, 0, 0, 0, 0, 0, 0, 0] (L' := ro la ((applyL D.last (D.ch.take i)).length) 112 2 ((applyL D.last (D.ch.take i)).flatMap fcl) :: ro a1 ((applyN (applyL D.last (D.ch.take i)) c).length) 112 2 ((applyN (applyL D.last (D.ch.take i)) c).flatMap fcl) :: ro rx.la D.last.length 112 2 (D.last.flatMap fcl) :: X :: cel g [Value.int .i64 D.room, Value.slice rx.fa D.f.length rx.fc, Value.slice rx.na D.nm.length rx.nc, Value.slice rx.la D.last.length rx.lc, Value.slice rx.ca D.ch.length rx.cc, Value.bool D.dead, Value.int .i64 D.left] 104 :: own rx.fa D.f.length rx.fc 107 2 (D.f.flatMap fcl) :: ro rx.na D.nm.length 112 2 (D.nm.flatMap fcl) :: own rx.ca D.ch.length rx.cc 110 3 (D.ch.flatMap ccl) :: L) rfl).drop⟩ (by show (keptF zs 0 D.ch.length) - (i + 1) < (keptF zs 0 D.ch.length) - i; omega) (Sub.cons rfl (Sub.cons rfl (Sub.cons rfl (Sub.consE rfl (by rw [applyL_take hc0]) (Sub.consE rfl (by congr 1) (Sub.nil _))))))
 ·
  refine WP.exit (NX.thenExit (NX.thenExit ?_))
  refine NX.blkExit ?_
  refine NX.go (WP.seq (WP.seq ?_))
  have hpi : i = (keptF zs 0 D.ch.length) := by omega
  subst hpi
  have hLg := applyL_good hw.last (cs := D.ch.take (keptF zs 0 D.ch.length)) fun d hd => hw.ch d (List.mem_of_mem_take hd)
  have hL64 := hw.few (keptF zs 0 D.ch.length)
  refine WP.region rfl ?_
  refine WO.asg rfl rfl ?_
  refine WO.nil (NX.go (WP.block ?_))
  refine WP.loop (α := Nat × List (List UInt8 × Nat)) (fun x => match x with | ⟨j, f⟩ => [(0, Value.pointer (some ⟨g, 0, none⟩)), (1, Value.slice ka zs.length kc), (5, Value.slice la ((applyL D.last (D.ch.take (keptF zs 0 D.ch.length))).length) lc), (7, Value.int .i64 (j : Int))]) (fun x w => match x with | ⟨j, f⟩ => (j ≤ (applyL D.last (D.ch.take (keptF zs 0 D.ch.length))).length ∧ crashF zs (j + 1) ((applyL D.last (D.ch.take (keptF zs 0 D.ch.length))).drop j) f = crashF zs 1 (applyL D.last (D.ch.take (keptF zs 0 D.ch.length))) D.f ∧ f.length = D.f.length ∧ (∀ x ∈ f, x.2 ≤ x.1.length) ∧ (∀ x ∈ f, x.1.length ≤ t)) ∧ St B (ro la ((applyL D.last (D.ch.take (keptF zs 0 D.ch.length))).length) 112 2 ((applyL D.last (D.ch.take (keptF zs 0 D.ch.length))).flatMap fcl) :: ro rx.la D.last.length 112 2 (D.last.flatMap fcl) :: X :: cel g [Value.int .i64 D.room, Value.slice rx.fa D.f.length rx.fc, Value.slice rx.na D.nm.length rx.nc, Value.slice rx.la D.last.length rx.lc, Value.slice rx.ca D.ch.length rx.cc, Value.bool D.dead, Value.int .i64 D.left] 104 :: own rx.fa D.f.length rx.fc 107 2 (f.flatMap fcl) :: ro rx.na D.nm.length 112 2 (D.nm.flatMap fcl) :: own rx.ca D.ch.length rx.cc 110 3 (D.ch.flatMap ccl) :: L) w) (fun x => match x with | ⟨j, f⟩ => (applyL D.last (D.ch.take (keptF zs 0 D.ch.length))).length - j) (0, D.f) ⟨⟨Nat.zero_le _, rfl, rfl, hw.lasts, hk.b.t⟩, hS5⟩ (Sub.cons rfl (Sub.cons rfl (Sub.cons rfl (Sub.consE rfl (by first | rfl | first | rfl | (congr 1; omega) | (simp; done) | (simp; omega)) (Sub.nil _))))) ?_
  rintro ⟨j, f⟩ w8 ⟨⟨hj, hcr, hfl, hfx, hft⟩, hS8⟩
  clear hS5
  refine WP.seq (WP.seq (WP.region rfl ?_))
  refine WO.mv rfl rfl ?_
  refine WO.mv rfl rfl ?_
  refine WO.val (run_len rfl Tryz.underlying101 rfl) rfl rfl rfl ?_
  refine WO.val (run_lss rfl rfl) rfl rfl rfl ?_
  refine WO.nil (NX.go ?_)
  refine WP.condP rfl (fun g38 => ?_) (fun g38 => ?_)
  ·
   refine WP.skip (NX.go (WP.seq (WP.block (WP.seq ?_))))
   obtain ⟨e, he0⟩ : ∃ e, (applyL D.last (D.ch.take (keptF zs 0 D.ch.length)))[j]? = some e := ⟨_, List.getElem?_eq_getElem (by omega)⟩
   have he := he0
   have hem := List.mem_of_getElem? he0
   have hlt : e.2 < f.length := by rw [hfl]; exact (hLg.f e hem).2
   have hfe := fileAt_get hlt
   have hx2 := hfx _ (fileAt_mem hlt)
   have hxt := hft _ (fileAt_mem hlt)
   have hsla : la.isSome = true := by obtain ⟨q, hq, _⟩ := ((hS8.ro_rd_i 0 rfl)).2.1 (by omega); rw [hq]; rfl
   have hsrxfa : rx.fa.isSome = true := by obtain ⟨q, hq, _⟩ := ((hS8.own_rd_i 4 rfl)).2.1 (by omega); rw [hq]; rfl
   refine WP.region rfl ?_
   refine WO.mv rfl rfl ?_
   refine WO.mv rfl rfl ?_
   refine WO.val (run_indexAddr (q := adr la (j * 2)) Tryz.underlying101 Ty.sz112 rfl rfl (by omega) (by omega) ((hS8.ro_rd_i 0 rfl).2.1 (by omega)) rfl) rfl rfl rfl ?_
   refine WO.val (run_fieldAddr (q := (adr la (j * 2 + 1))) (show fieldB Tryz.prog 112 1 = some 1 from by kernel_rfl) rfl (adr_add _ (by assumption) _ _)) rfl rfl rfl ?_
   refine WO.val (run_load Ty.ag3 rfl ((hS8.ro_rd_i 0 rfl).cell ((flat_get fcl_len he (j := 1) (by decide)).trans rfl))) rfl rfl rfl ?_
   refine WO.asg rfl rfl ?_
   refine WO.nil (NX.go (WP.seq ?_))
   obtain ⟨kq, hkq⟩ : ∃ kq, kq = keptF zs (j + 1) ((fileAt f e.2).1.length - (fileAt f e.2).2) := ⟨_, rfl⟩
   have hkl : kq ≤ ((fileAt f e.2).1.length - (fileAt f e.2).2) := by rw [hkq]; exact keptF_le zs (j + 1) ((fileAt f e.2).1.length - (fileAt f e.2).2)
   refine WD.start (fun w => (∀ j, World.cell? w ⟨g, j, none⟩ = [Value.int .i64 D.room, Value.slice rx.fa D.f.length rx.fc, Value.slice rx.na D.nm.length rx.nc, Value.slice rx.la D.last.length rx.lc, Value.slice rx.ca D.ch.length rx.cc, Value.bool D.dead, Value.int .i64 D.left][j]?) ∧ Rd w rx.fa D.f.length 2 (f.flatMap fcl)) [] (bt 32 0) Ty.mo rfl (by kernel_rfl) hS8 (fun _ h => ⟨h.cel_at 3 rfl, (h.own_rd_i 4 rfl)⟩) (fun w9 hS9 s10 => ?_)
   clear hS8
   refine WD.pure (i := 0) r4crash_spec_t10 (bt 32 1) rfl rfl rfl (by kernel_rfl) (PQ.then (PQ.blk (PQ.then (PQ.then (PQ.blk (PQ.then PQ.body)))))) rfl (fun w => run_move rfl) ?_
   refine WD.pure (i := 1) r4crash_spec_t10 (bt 32 3) rfl rfl rfl (by kernel_rfl) (PQ.then (PQ.blk (PQ.then (PQ.then (PQ.blk (PQ.then PQ.body)))))) rfl (fun w => run_nilCheck rfl) ?_
   refine WD.pure (i := 2) r4crash_spec_t10 (bt 32 7) rfl rfl rfl (by kernel_rfl) (PQ.then (PQ.blk (PQ.then (PQ.then (PQ.blk (PQ.then PQ.body)))))) rfl (fun w => run_fieldAddr (q := ⟨g, 1, none⟩) (show fieldB Tryz.prog 104 1 = some 1 from by kernel_rfl) rfl rfl) ?_
   refine WD.take (i := 3) r4crash_spec_t10 (bt 32 15) s10 rfl rfl rfl (by kernel_rfl) (PQ.then (PQ.blk (PQ.then (PQ.then (PQ.blk (PQ.then PQ.body)))))) rfl (fun w hs => run_load Ty.ag100 rfl ((hs.1 1).trans rfl)) ?_
   refine WD.pure (i := 4) r4crash_spec_t10 (bt 32 31) rfl rfl rfl (by kernel_rfl) (PQ.then (PQ.blk (PQ.then (PQ.then (PQ.blk (PQ.then PQ.body)))))) rfl (fun w => run_move rfl) ?_
   refine WD.take (i := 5) r4crash_spec_t10 (bt 32 63) s10 rfl rfl rfl (by kernel_rfl) (PQ.then (PQ.blk (PQ.then (PQ.then (PQ.blk (PQ.then PQ.body)))))) rfl (fun w hs => run_indexAddr (q := adr rx.fa (e.2 * 2)) Tryz.underlying100 Ty.sz107 rfl rfl (by omega) (by omega) ((hs.2).2.1 (by omega)) rfl) ?_
   refine WD.pure (i := 6) r4crash_spec_t10 (bt 32 127) rfl rfl rfl (by kernel_rfl) (PQ.then (PQ.blk (PQ.then (PQ.then (PQ.blk (PQ.then PQ.body)))))) rfl (fun w => run_fieldAddr (q := (adr rx.fa (e.2 * 2 + 1))) (show fieldB Tryz.prog 107 1 = some 1 from by kernel_rfl) rfl (adr_add _ (by assumption) _ _)) ?_
   refine WD.take (i := 7) r4crash_spec_t10 (bt 32 255) s10 rfl rfl rfl (by kernel_rfl) (PQ.then (PQ.blk (PQ.then (PQ.then (PQ.blk (PQ.then PQ.body)))))) rfl (fun w hs => run_load Ty.ag3 rfl ((hs.2).cell ((flat_get fcl_len hfe (j := 1) (by decide)).trans rfl))) ?_
   refine WD.pure (i := 8) r4crash_spec_t10 (bt 32 511) rfl rfl rfl (by kernel_rfl) (PQ.then (PQ.blk (PQ.then (PQ.then (PQ.blk (PQ.then PQ.body)))))) rfl (fun w => run_move rfl) ?_
   refine WD.pure (i := 9) r4crash_spec_t10 (bt 32 1023) rfl rfl rfl (by kernel_rfl) (PQ.then (PQ.blk (PQ.then (PQ.then (PQ.blk (PQ.then PQ.body)))))) rfl (fun w => run_move rfl) ?_
   refine WD.pure (i := 10) r4crash_spec_t10 (bt 32 2047) rfl rfl rfl (by kernel_rfl) (PQ.then (PQ.blk (PQ.then (PQ.then (PQ.blk (PQ.then PQ.body)))))) rfl (fun w => run_add rfl rfl (show IntKind.i64.wrap ((j : Int) + 1) = ((j + 1 : Nat) : Int) by rw [IntWalk.i64_in _ (by omega)]; omega)) ?_
   refine WD.pure (i := 11) r4crash_spec_t10 (bt 32 4095) rfl rfl rfl (by kernel_rfl) (PQ.then (PQ.blk (PQ.then (PQ.then (PQ.blk (PQ.then PQ.body)))))) rfl (fun w => run_move rfl) ?_
   refine WD.pure (i := 12) r4crash_spec_t10 (bt 32 8191) rfl rfl rfl (by kernel_rfl) (PQ.then (PQ.blk (PQ.then (PQ.then (PQ.blk (PQ.then PQ.body)))))) rfl (fun w => run_nilCheck rfl) ?_
   refine WD.pure (i := 13) r4crash_spec_t10 (bt 32 16383) rfl rfl rfl (by kernel_rfl) (PQ.then (PQ.blk (PQ.then (PQ.then (PQ.blk (PQ.then PQ.body)))))) rfl (fun w => run_fieldAddr (q := ⟨g, 1, none⟩) (show fieldB Tryz.prog 104 1 = some 1 from by kernel_rfl) rfl rfl) ?_
   refine WD.take (i := 14) r4crash_spec_t10 (bt 32 32767) s10 rfl rfl rfl (by kernel_rfl) (PQ.then (PQ.blk (PQ.then (PQ.then (PQ.blk (PQ.then PQ.body)))))) rfl (fun w hs => run_load Ty.ag100 rfl ((hs.1 1).trans rfl)) ?_
   refine WD.pure (i := 15) r4crash_spec_t10 (bt 32 65535) rfl rfl rfl (by kernel_rfl) (PQ.then (PQ.blk (PQ.then (PQ.then (PQ.blk (PQ.then PQ.body)))))) rfl (fun w => run_move rfl) ?_
   refine WD.take (i := 16) r4crash_spec_t10 (bt 32 131071) s10 rfl rfl rfl (by kernel_rfl) (PQ.then (PQ.blk (PQ.then (PQ.then (PQ.blk (PQ.then PQ.body)))))) rfl (fun w hs => run_indexAddr (q := adr rx.fa (e.2 * 2)) Tryz.underlying100 Ty.sz107 rfl rfl (by omega) (by omega) ((hs.2).2.1 (by omega)) rfl) ?_
   refine WD.pure (i := 17) r4crash_spec_t10 (bt 32 262143) rfl rfl rfl (by kernel_rfl) (PQ.then (PQ.blk (PQ.then (PQ.then (PQ.blk (PQ.then PQ.body)))))) rfl (fun w => run_fieldAddr (q := (adr rx.fa (e.2 * 2 + 0))) (show fieldB Tryz.prog 107 0 = some 0 from by kernel_rfl) rfl (adr_add _ (by assumption) _ _)) ?_
   refine WD.take (i := 18) r4crash_spec_t10 (bt 32 524287) s10 rfl rfl rfl (by kernel_rfl) (PQ.then (PQ.blk (PQ.then (PQ.then (PQ.blk (PQ.then PQ.body)))))) rfl (fun w hs => run_load Ty.ag9 rfl ((hs.2).cell ((flat_get fcl_len hfe (j := 0) (by decide)).trans rfl))) ?_
   refine WD.pure (i := 19) r4crash_spec_t10 (bt 32 1048575) rfl rfl rfl (by kernel_rfl) (PQ.then (PQ.blk (PQ.then (PQ.then (PQ.blk (PQ.then PQ.body)))))) rfl (fun w => run_lenS rfl Tryz.underlying9 rfl) ?_
   refine WD.pure (i := 20) r4crash_spec_t10 (bt 32 2097151) rfl rfl rfl (by kernel_rfl) (PQ.then (PQ.blk (PQ.then (PQ.then (PQ.blk (PQ.then PQ.body)))))) rfl (fun w => run_move rfl) ?_
   refine WD.pure (i := 21) r4crash_spec_t10 (bt 32 4194303) rfl rfl rfl (by kernel_rfl) (PQ.then (PQ.blk (PQ.then (PQ.then (PQ.blk (PQ.then PQ.body)))))) rfl (fun w => run_nilCheck rfl) ?_
   refine WD.pure (i := 22) r4crash_spec_t10 (bt 32 8388607) rfl rfl rfl (by kernel_rfl) (PQ.then (PQ.blk (PQ.then (PQ.then (PQ.blk (PQ.then PQ.body)))))) rfl (fun w => run_fieldAddr (q := ⟨g, 1, none⟩) (show fieldB Tryz.prog 104 1 = some 1 from by kernel_rfl) rfl rfl) ?_
   refine WD.take (i := 23) r4crash_spec_t10 (bt 32 16777215) s10 rfl rfl rfl (by kernel_rfl) (PQ.then (PQ.blk (PQ.then (PQ.then (PQ.blk (PQ.then PQ.body)))))) rfl (fun w hs => run_load Ty.ag100 rfl ((hs.1 1).trans rfl)) ?_
   refine WD.pure (i := 24) r4crash_spec_t10 (bt 32 33554431) rfl rfl rfl (by kernel_rfl) (PQ.then (PQ.blk (PQ.then (PQ.then (PQ.blk (PQ.then PQ.body)))))) rfl (fun w => run_move rfl) ?_
   refine WD.take (i := 25) r4crash_spec_t10 (bt 32 67108863) s10 rfl rfl rfl (by kernel_rfl) (PQ.then (PQ.blk (PQ.then (PQ.then (PQ.blk (PQ.then PQ.body)))))) rfl (fun w hs => run_indexAddr (q := adr rx.fa (e.2 * 2)) Tryz.underlying100 Ty.sz107 rfl rfl (by omega) (by omega) ((hs.2).2.1 (by omega)) rfl) ?_
   refine WD.pure (i := 26) r4crash_spec_t10 (bt 32 134217727) rfl rfl rfl (by kernel_rfl) (PQ.then (PQ.blk (PQ.then (PQ.then (PQ.blk (PQ.then PQ.body)))))) rfl (fun w => run_fieldAddr (q := (adr rx.fa (e.2 * 2 + 1))) (show fieldB Tryz.prog 107 1 = some 1 from by kernel_rfl) rfl (adr_add _ (by assumption) _ _)) ?_
   refine WD.take (i := 27) r4crash_spec_t10 (bt 32 268435455) s10 rfl rfl rfl (by kernel_rfl) (PQ.then (PQ.blk (PQ.then (PQ.then (PQ.blk (PQ.then PQ.body)))))) rfl (fun w hs => run_load Ty.ag3 rfl ((hs.2).cell ((flat_get fcl_len hfe (j := 1) (by decide)).trans rfl))) ?_
   refine WD.pure (i := 28) r4crash_spec_t10 (bt 32 536870911) rfl rfl rfl (by kernel_rfl) (PQ.then (PQ.blk (PQ.then (PQ.then (PQ.blk (PQ.then PQ.body)))))) rfl (fun w => run_sub rfl rfl (show IntKind.i64.wrap (((fileAt f e.2).1.length : Int) - ((fileAt f e.2).2 : Int)) = ((((fileAt f e.2).1.length - (fileAt f e.2).2) : Nat) : Int) by rw [IntWalk.i64_in _ (by omega)]; omega)) ?_
   refine WD.one (i := 29) r4crash_spec_t10 (bt 32 1073741823) rfl (by kernel_rfl) ?_
   have hS11 := hS9.permT [2, 0, 0, 0, 0, 0, 0] (L' := X :: ro la ((applyL D.last (D.ch.take (keptF zs 0 D.ch.length))).length) 112 2 ((applyL D.last (D.ch.take (keptF zs 0 D.ch.length))).flatMap fcl) :: ro rx.la D.last.length 112 2 (D.last.flatMap fcl) :: cel g [Value.int .i64 D.room, Value.slice rx.fa D.f.length rx.fc, Value.slice rx.na D.nm.length rx.nc, Value.slice rx.la D.last.length rx.lc, Value.slice rx.ca D.ch.length rx.cc, Value.bool D.dead, Value.int .i64 D.left] 104 :: own rx.fa D.f.length rx.fc 107 2 (f.flatMap fcl) :: ro rx.na D.nm.length 112 2 (D.nm.flatMap fcl) :: own rx.ca D.ch.length rx.cc 110 3 (D.ch.flatMap ccl) :: L) rfl
   clear hS9
   refine WO.call rfl rfl Ty.hd67 rfl (r4kept_spec hX (j + 1) ((fileAt f e.2).1.length - (fileAt f e.2).2) (by omega) (by omega) hS11) (fun v13 w12 pv13 => ?_)
   obtain ⟨hv, hS12⟩ := pv13
   clear hS11
   rw [← hkq] at hv
   subst hv
   refine WO.nil ?_
   have s14 : (∀ j, World.cell? w12 ⟨g, j, none⟩ = [Value.int .i64 D.room, Value.slice rx.fa D.f.length rx.fc, Value.slice rx.na D.nm.length rx.nc, Value.slice rx.la D.last.length rx.lc, Value.slice rx.ca D.ch.length rx.cc, Value.bool D.dead, Value.int .i64 D.left][j]?) ∧ Rd w12 rx.fa D.f.length 2 (f.flatMap fcl) := ⟨hS12.cel_at 3 rfl, (hS12.own_rd_i 4 rfl)⟩
   refine NX.held s14 ?_
   refine WD.pure (i := 30) r4crash_spec_t10 (bt 32 2147483647) rfl rfl rfl (by kernel_rfl) (PQ.then (PQ.blk (PQ.then (PQ.then (PQ.blk (PQ.then PQ.body)))))) rfl (fun w => run_add rfl rfl (show IntKind.i64.wrap (((fileAt f e.2).2 : Int) + (kq : Int)) = ((((fileAt f e.2).2 + kq) : Nat) : Int) by rw [IntWalk.i64_in _ (by omega)]; omega)) ?_
   refine WD.pure (i := 31) r4crash_spec_t10 (bt 32 4294967295) rfl rfl rfl (by kernel_rfl) (PQ.then (PQ.blk (PQ.then (PQ.then (PQ.blk (PQ.then PQ.body)))))) rfl (fun w => run_assign rfl) ?_
   refine WD.done r4crash_spec_t10 (by kernel_rfl) ?_
   refine NX.go (WP.seq ?_)
   refine WD.start (fun w => (∀ j, World.cell? w ⟨g, j, none⟩ = [Value.int .i64 D.room, Value.slice rx.fa D.f.length rx.fc, Value.slice rx.na D.nm.length rx.nc, Value.slice rx.la D.last.length rx.lc, Value.slice rx.ca D.ch.length rx.cc, Value.bool D.dead, Value.int .i64 D.left][j]?) ∧ Rd w rx.fa D.f.length 2 (f.flatMap fcl)) [17] (bt 18 0) Ty.mo rfl (by kernel_rfl) hS12 (fun _ h => ⟨h.cel_at 3 rfl, (h.own_rd_i 4 rfl)⟩) (fun w15 hS15 s16 => ?_)
   clear hS12
   refine WD.pure (i := 0) r4crash_spec_t11 (bt 18 1) rfl rfl rfl (by kernel_rfl) (PQ.then (PQ.blk (PQ.then (PQ.then (PQ.blk (PQ.then PQ.body)))))) rfl (fun w => run_move rfl) ?_
   refine WD.pure (i := 1) r4crash_spec_t11 (bt 18 3) rfl rfl rfl (by kernel_rfl) (PQ.then (PQ.blk (PQ.then (PQ.then (PQ.blk (PQ.then PQ.body)))))) rfl (fun w => run_nilCheck rfl) ?_
   refine WD.pure (i := 2) r4crash_spec_t11 (bt 18 7) rfl rfl rfl (by kernel_rfl) (PQ.then (PQ.blk (PQ.then (PQ.then (PQ.blk (PQ.then PQ.body)))))) rfl (fun w => run_fieldAddr (q := ⟨g, 1, none⟩) (show fieldB Tryz.prog 104 1 = some 1 from by kernel_rfl) rfl rfl) ?_
   refine WD.take (i := 3) r4crash_spec_t11 (bt 18 15) s16 rfl rfl rfl (by kernel_rfl) (PQ.then (PQ.blk (PQ.then (PQ.then (PQ.blk (PQ.then PQ.body)))))) rfl (fun w hs => run_load Ty.ag100 rfl ((hs.1 1).trans rfl)) ?_
   refine WD.pure (i := 4) r4crash_spec_t11 (bt 18 31) rfl rfl rfl (by kernel_rfl) (PQ.then (PQ.blk (PQ.then (PQ.then (PQ.blk (PQ.then PQ.body)))))) rfl (fun w => run_move rfl) ?_
   refine WD.pure (i := 5) r4crash_spec_t11 (bt 18 63) rfl rfl rfl (by kernel_rfl) (PQ.then (PQ.blk (PQ.then (PQ.then (PQ.blk (PQ.then PQ.body)))))) rfl (fun w => run_move rfl) ?_
   refine WD.pure (i := 6) r4crash_spec_t11 (bt 18 127) rfl rfl rfl (by kernel_rfl) (PQ.then (PQ.blk (PQ.then (PQ.then (PQ.blk (PQ.then PQ.body)))))) rfl (fun w => run_nilCheck rfl) ?_
   refine WD.pure (i := 7) r4crash_spec_t11 (bt 18 255) rfl rfl rfl (by kernel_rfl) (PQ.then (PQ.blk (PQ.then (PQ.then (PQ.blk (PQ.then PQ.body)))))) rfl (fun w => run_fieldAddr (q := ⟨g, 1, none⟩) (show fieldB Tryz.prog 104 1 = some 1 from by kernel_rfl) rfl rfl) ?_
   refine WD.take (i := 8) r4crash_spec_t11 (bt 18 511) s16 rfl rfl rfl (by kernel_rfl) (PQ.then (PQ.blk (PQ.then (PQ.then (PQ.blk (PQ.then PQ.body)))))) rfl (fun w hs => run_load Ty.ag100 rfl ((hs.1 1).trans rfl)) ?_
   refine WD.pure (i := 9) r4crash_spec_t11 (bt 18 1023) rfl rfl rfl (by kernel_rfl) (PQ.then (PQ.blk (PQ.then (PQ.then (PQ.blk (PQ.then PQ.body)))))) rfl (fun w => run_move rfl) ?_
   refine WD.take (i := 10) r4crash_spec_t11 (bt 18 2047) s16 rfl rfl rfl (by kernel_rfl) (PQ.then (PQ.blk (PQ.then (PQ.then (PQ.blk (PQ.then PQ.body)))))) rfl (fun w hs => run_indexAddr (q := adr rx.fa (e.2 * 2)) Tryz.underlying100 Ty.sz107 rfl rfl (by omega) (by omega) ((hs.2).2.1 (by omega)) rfl) ?_
   refine WD.pure (i := 11) r4crash_spec_t11 (bt 18 4095) rfl rfl rfl (by kernel_rfl) (PQ.then (PQ.blk (PQ.then (PQ.then (PQ.blk (PQ.then PQ.body)))))) rfl (fun w => run_fieldAddr (q := (adr rx.fa (e.2 * 2 + 0))) (show fieldB Tryz.prog 107 0 = some 0 from by kernel_rfl) rfl (adr_add _ (by assumption) _ _)) ?_
   refine WD.take (i := 12) r4crash_spec_t11 (bt 18 8191) s16 rfl rfl rfl (by kernel_rfl) (PQ.then (PQ.blk (PQ.then (PQ.then (PQ.blk (PQ.then PQ.body)))))) rfl (fun w hs => run_load Ty.ag9 rfl ((hs.2).cell ((flat_get fcl_len hfe (j := 0) (by decide)).trans rfl))) ?_
   refine WD.pure (i := 13) r4crash_spec_t11 (bt 18 16383) rfl rfl rfl (by kernel_rfl) (PQ.then (PQ.blk (PQ.then (PQ.then (PQ.blk (PQ.then PQ.body)))))) rfl (fun w => run_move rfl) ?_
   refine WD.pure (i := 14) r4crash_spec_t11 (bt 18 32767) rfl rfl rfl (by kernel_rfl) (PQ.then (PQ.blk (PQ.then (PQ.then (PQ.blk (PQ.then PQ.body)))))) rfl (fun w => run_sliceS (i := 0) (j := ((fileAt f e.2).2 + kq)) Tryz.underlying9 rfl rfl ⟨_, rfl⟩ (Nat.zero_le _) (by omega) (List.drop_zero)) ?_
   refine WD.take (i := 15) r4crash_spec_t11 (bt 18 65535) s16 rfl rfl rfl (by kernel_rfl) (PQ.then (PQ.blk (PQ.then (PQ.then (PQ.blk (PQ.then PQ.body)))))) rfl (fun w hs => run_indexAddr (q := adr rx.fa (e.2 * 2)) Tryz.underlying100 Ty.sz107 rfl rfl (by omega) (by omega) ((hs.2).2.1 (by omega)) rfl) ?_
   refine WD.pure (i := 16) r4crash_spec_t11 (bt 18 131071) rfl rfl rfl (by kernel_rfl) (PQ.then (PQ.blk (PQ.then (PQ.then (PQ.blk (PQ.then PQ.body)))))) rfl (fun w => run_fieldAddr (q := (adr rx.fa (e.2 * 2 + 0))) (show fieldB Tryz.prog 107 0 = some 0 from by kernel_rfl) rfl (adr_add _ (by assumption) _ _)) ?_
   refine WD.one (i := 17) r4crash_spec_t11 (bt 18 262143) rfl (by kernel_rfl) ?_
   refine WO.storeOwnAt 4 hS15 rfl Ty.sz9 rfl rfl rfl rfl (by rw [flat_len fcl_len]; omega) (fun w17 hS17 => ?_)
   replace hS17 : St B (X :: ro la ((applyL D.last (D.ch.take (keptF zs 0 D.ch.length))).length) 112 2 ((applyL D.last (D.ch.take (keptF zs 0 D.ch.length))).flatMap fcl) :: ro rx.la D.last.length 112 2 (D.last.flatMap fcl) :: cel g [Value.int .i64 D.room, Value.slice rx.fa D.f.length rx.fc, Value.slice rx.na D.nm.length rx.nc, Value.slice rx.la D.last.length rx.lc, Value.slice rx.ca D.ch.length rx.cc, Value.bool D.dead, Value.int .i64 D.left] 104 :: own rx.fa D.f.length rx.fc 107 2 ((f.set e.2 ((fileAt f e.2).1.take ((fileAt f e.2).2 + kq), (fileAt f e.2).2)).flatMap fcl) :: ro rx.na D.nm.length 112 2 (D.nm.flatMap fcl) :: own rx.ca D.ch.length rx.cc 110 3 (D.ch.flatMap ccl) :: L) w17 := (by have z := hS17; rw [flat_set fcl_len hfe (j := 0) (y := ((fileAt f e.2).1.take ((fileAt f e.2).2 + kq), (fileAt f e.2).2)) (by decide) rfl] at z; exact z)
   clear hS15
   refine WO.nil ?_
   refine NX.last (by decide) ?_
   refine WD.done r4crash_spec_t11 (by kernel_rfl) ?_
   refine NX.go ?_
   have hfe2 : (f.set e.2 ((fileAt f e.2).1.take ((fileAt f e.2).2 + kq), (fileAt f e.2).2))[e.2]? = some ((fileAt f e.2).1.take ((fileAt f e.2).2 + kq), (fileAt f e.2).2) := List.getElem?_set_self hlt
   have hcut : (f.set e.2 ((fileAt f e.2).1.take ((fileAt f e.2).2 + kq), (fileAt f e.2).2)).set e.2 ((fileAt f e.2).1.take ((fileAt f e.2).2 + kq), ((fileAt f e.2).2 + kq)) = cutOne f zs (j + 1) e.2 := by rw [List.set_set]; unfold cutOne cutF; rw [← hkq]
   refine WP.region rfl ?_
   refine WO.mv rfl rfl ?_
   refine WO.val (run_nilCheck rfl) rfl rfl rfl ?_
   refine WO.val (run_fieldAddr (q := ⟨g, 1, none⟩) (show fieldB Tryz.prog 104 1 = some 1 from by kernel_rfl) rfl rfl) rfl rfl rfl ?_
   refine WO.val (run_load Ty.ag100 rfl ((hS17.cel_at 3 rfl 1).trans rfl)) rfl rfl rfl ?_
   refine WO.mv rfl rfl ?_
   refine WO.mv rfl rfl ?_
   refine WO.val (run_indexAddr (q := adr rx.fa (e.2 * 2)) Tryz.underlying100 Ty.sz107 rfl rfl (by omega) (by omega) ((hS17.own_rd_i 4 rfl).2.1 (by omega)) rfl) rfl rfl rfl ?_
   refine WO.val (run_fieldAddr (q := (adr rx.fa (e.2 * 2 + 1))) (show fieldB Tryz.prog 107 1 = some 1 from by kernel_rfl) rfl (adr_add _ (by assumption) _ _)) rfl rfl rfl ?_
   refine WO.storeOwnAt 4 hS17 rfl Ty.sz3 rfl rfl rfl rfl (by rw [flat_len fcl_len, List.length_set]; omega) (fun w18 hS18 => ?_)
   replace hS18 : St B (X :: ro la ((applyL D.last (D.ch.take (keptF zs 0 D.ch.length))).length) 112 2 ((applyL D.last (D.ch.take (keptF zs 0 D.ch.length))).flatMap fcl) :: ro rx.la D.last.length 112 2 (D.last.flatMap fcl) :: cel g [Value.int .i64 D.room, Value.slice rx.fa D.f.length rx.fc, Value.slice rx.na D.nm.length rx.nc, Value.slice rx.la D.last.length rx.lc, Value.slice rx.ca D.ch.length rx.cc, Value.bool D.dead, Value.int .i64 D.left] 104 :: own rx.fa D.f.length rx.fc 107 2 ((cutOne f zs (j + 1) e.2).flatMap fcl) :: ro rx.na D.nm.length 112 2 (D.nm.flatMap fcl) :: own rx.ca D.ch.length rx.cc 110 3 (D.ch.flatMap ccl) :: L) w18 := (by have z := hS18; rw [flat_set fcl_len hfe2 (j := 1) (y := ((fileAt f e.2).1.take ((fileAt f e.2).2 + kq), ((fileAt f e.2).2 + kq))) (by decide) rfl, hcut] at z; exact z)
   clear hS17
   refine WO.nil (NX.blk (NX.go (WP.region rfl ?_)))
   refine WO.mv rfl rfl ?_
   refine WO.val (run_add rfl rfl (IntWalk.i64_in _ (by omega))) rfl rfl rfl ?_
   refine WO.asg rfl rfl ?_
   refine WO.nil ?_
   exact NX.again (j + 1, cutOne f zs (j + 1) e.2) ⟨⟨by omega, by rw [← hcr, crashF_step he0], by rw [← hfl]; exact List.length_set, (cut_ok hlt hfx hft).1, (cut_ok hlt hfx hft).2⟩, (hS18.permT [1, 1, 0, 0, 0, 0, 0] (L' := ro la ((applyL D.last (D.ch.take (keptF zs 0 D.ch.length))).length) 112 2 ((applyL D.last (D.ch.take (keptF zs 0 D.ch.length))).flatMap fcl) :: ro rx.la D.last.length 112 2 (D.last.flatMap fcl) :: X :: cel g [Value.int .i64 D.room, Value.slice rx.fa D.f.length rx.fc, Value.slice rx.na D.nm.length rx.nc, Value.slice rx.la D.last.length rx.lc, Value.slice rx.ca D.ch.length rx.cc, Value.bool D.dead, Value.int .i64 D.left] 104 :: own rx.fa D.f.length rx.fc 107 2 ((cutOne f zs (j + 1) e.2).flatMap fcl) :: ro rx.na D.nm.length 112 2 (D.nm.flatMap fcl) :: own rx.ca D.ch.length rx.cc 110 3 (D.ch.flatMap ccl) :: L) rfl)⟩ (by show (applyL D.last (D.ch.take (keptF zs 0 D.ch.length))).length - (j + 1) < (applyL D.last (D.ch.take (keptF zs 0 D.ch.length))).length - j; omega) (Sub.cons rfl (Sub.cons rfl (Sub.cons rfl (Sub.consE rfl (by congr 1) (Sub.nil _)))))
  ·
   refine WP.exit (NX.thenExit (NX.thenExit ?_))
   refine NX.blkExit ?_
   refine NX.go (WP.seq (WP.region rfl ?_))
   refine WO.mv rfl rfl ?_
   refine WO.mv rfl rfl ?_
   refine WO.val (run_nilCheck rfl) rfl rfl rfl ?_
   refine WO.val (run_fieldAddr (q := ⟨g, 2, none⟩) (show fieldB Tryz.prog 104 2 = some 2 from by kernel_rfl) rfl rfl) rfl rfl rfl ?_
   refine WO.store (l' := [Value.int .i64 D.room, Value.slice rx.fa D.f.length rx.fc, Value.slice la ((applyL D.last (D.ch.take (keptF zs 0 D.ch.length))).length) lc, Value.slice rx.la D.last.length rx.lc, Value.slice rx.ca D.ch.length rx.cc, Value.bool D.dead, Value.int .i64 D.left]) 3 hS8 rfl Ty.sz101 rfl rfl rfl rfl rfl (Nat.le_of_ble_eq_true rfl) rfl (fun w19 (hS19 : St B (ro la ((applyL D.last (D.ch.take (keptF zs 0 D.ch.length))).length) 112 2 ((applyL D.last (D.ch.take (keptF zs 0 D.ch.length))).flatMap fcl) :: ro rx.la D.last.length 112 2 (D.last.flatMap fcl) :: X :: cel g [Value.int .i64 D.room, Value.slice rx.fa D.f.length rx.fc, Value.slice la ((applyL D.last (D.ch.take (keptF zs 0 D.ch.length))).length) lc, Value.slice rx.la D.last.length rx.lc, Value.slice rx.ca D.ch.length rx.cc, Value.bool D.dead, Value.int .i64 D.left] 104 :: own rx.fa D.f.length rx.fc 107 2 (f.flatMap fcl) :: ro rx.na D.nm.length 112 2 (D.nm.flatMap fcl) :: own rx.ca D.ch.length rx.cc 110 3 (D.ch.flatMap ccl) :: L) w19) => ?_)
   clear hS8
   refine WO.nil (NX.go (WP.seq (WP.region rfl ?_)))
   refine WO.mv rfl rfl ?_
   refine WO.mv rfl rfl ?_
   refine WO.val (run_nilCheck rfl) rfl rfl rfl ?_
   refine WO.val (run_fieldAddr (q := ⟨g, 3, none⟩) (show fieldB Tryz.prog 104 3 = some 3 from by kernel_rfl) rfl rfl) rfl rfl rfl ?_
   refine WO.store (l' := [Value.int .i64 D.room, Value.slice rx.fa D.f.length rx.fc, Value.slice la ((applyL D.last (D.ch.take (keptF zs 0 D.ch.length))).length) lc, Value.slice la ((applyL D.last (D.ch.take (keptF zs 0 D.ch.length))).length) lc, Value.slice rx.ca D.ch.length rx.cc, Value.bool D.dead, Value.int .i64 D.left]) 3 hS19 rfl Ty.sz101 rfl rfl rfl rfl rfl (Nat.le_of_ble_eq_true rfl) rfl (fun w20 (hS20 : St B (ro la ((applyL D.last (D.ch.take (keptF zs 0 D.ch.length))).length) 112 2 ((applyL D.last (D.ch.take (keptF zs 0 D.ch.length))).flatMap fcl) :: ro rx.la D.last.length 112 2 (D.last.flatMap fcl) :: X :: cel g [Value.int .i64 D.room, Value.slice rx.fa D.f.length rx.fc, Value.slice la ((applyL D.last (D.ch.take (keptF zs 0 D.ch.length))).length) lc, Value.slice la ((applyL D.last (D.ch.take (keptF zs 0 D.ch.length))).length) lc, Value.slice rx.ca D.ch.length rx.cc, Value.bool D.dead, Value.int .i64 D.left] 104 :: own rx.fa D.f.length rx.fc 107 2 (f.flatMap fcl) :: ro rx.na D.nm.length 112 2 (D.nm.flatMap fcl) :: own rx.ca D.ch.length rx.cc 110 3 (D.ch.flatMap ccl) :: L) w20) => ?_)
   clear hS19
   refine WO.nil (NX.go (WP.seq (WP.region rfl ?_)))
   refine WO.mv rfl rfl ?_
   refine WO.val (run_nilCheck rfl) rfl rfl rfl ?_
   refine WO.val (run_fieldAddr (q := ⟨g, 4, none⟩) (show fieldB Tryz.prog 104 4 = some 4 from by kernel_rfl) rfl rfl) rfl rfl rfl ?_
   refine WO.store (l' := [Value.int .i64 D.room, Value.slice rx.fa D.f.length rx.fc, Value.slice la ((applyL D.last (D.ch.take (keptF zs 0 D.ch.length))).length) lc, Value.slice la ((applyL D.last (D.ch.take (keptF zs 0 D.ch.length))).length) lc, Value.slice none 0 0, Value.bool D.dead, Value.int .i64 D.left]) 3 hS20 rfl Ty.sz102 rfl rfl rfl rfl rfl (Nat.le_of_ble_eq_true rfl) rfl (fun w21 (hS21 : St B (ro la ((applyL D.last (D.ch.take (keptF zs 0 D.ch.length))).length) 112 2 ((applyL D.last (D.ch.take (keptF zs 0 D.ch.length))).flatMap fcl) :: ro rx.la D.last.length 112 2 (D.last.flatMap fcl) :: X :: cel g [Value.int .i64 D.room, Value.slice rx.fa D.f.length rx.fc, Value.slice la ((applyL D.last (D.ch.take (keptF zs 0 D.ch.length))).length) lc, Value.slice la ((applyL D.last (D.ch.take (keptF zs 0 D.ch.length))).length) lc, Value.slice none 0 0, Value.bool D.dead, Value.int .i64 D.left] 104 :: own rx.fa D.f.length rx.fc 107 2 (f.flatMap fcl) :: ro rx.na D.nm.length 112 2 (D.nm.flatMap fcl) :: own rx.ca D.ch.length rx.cc 110 3 (D.ch.flatMap ccl) :: L) w21) => ?_)
   clear hS20
   refine WO.nil (NX.go (WP.seq (WP.region rfl ?_)))
   refine WO.mv rfl rfl ?_
   refine WO.val (run_nilCheck rfl) rfl rfl rfl ?_
   refine WO.val (run_fieldAddr (q := ⟨g, 5, none⟩) (show fieldB Tryz.prog 104 5 = some 5 from by kernel_rfl) rfl rfl) rfl rfl rfl ?_
   refine WO.store (l' := [Value.int .i64 D.room, Value.slice rx.fa D.f.length rx.fc, Value.slice la ((applyL D.last (D.ch.take (keptF zs 0 D.ch.length))).length) lc, Value.slice la ((applyL D.last (D.ch.take (keptF zs 0 D.ch.length))).length) lc, Value.slice none 0 0, Value.bool false, Value.int .i64 D.left]) 3 hS21 rfl Ty.sz4 rfl rfl rfl rfl rfl (Nat.le_of_ble_eq_true rfl) rfl (fun w22 (hS22 : St B (ro la ((applyL D.last (D.ch.take (keptF zs 0 D.ch.length))).length) 112 2 ((applyL D.last (D.ch.take (keptF zs 0 D.ch.length))).flatMap fcl) :: ro rx.la D.last.length 112 2 (D.last.flatMap fcl) :: X :: cel g [Value.int .i64 D.room, Value.slice rx.fa D.f.length rx.fc, Value.slice la ((applyL D.last (D.ch.take (keptF zs 0 D.ch.length))).length) lc, Value.slice la ((applyL D.last (D.ch.take (keptF zs 0 D.ch.length))).length) lc, Value.slice none 0 0, Value.bool false, Value.int .i64 D.left] 104 :: own rx.fa D.f.length rx.fc 107 2 (f.flatMap fcl) :: ro rx.na D.nm.length 112 2 (D.nm.flatMap fcl) :: own rx.ca D.ch.length rx.cc 110 3 (D.ch.flatMap ccl) :: L) w22) => ?_)
   clear hS21
   refine WO.nil (NX.go (WP.region rfl ?_))
   refine WO.mv rfl rfl ?_
   refine WO.val (run_nilCheck rfl) rfl rfl rfl ?_
   refine WO.val (run_fieldAddr (q := ⟨g, 6, none⟩) (show fieldB Tryz.prog 104 6 = some 6 from by kernel_rfl) rfl rfl) rfl rfl rfl ?_
   refine WO.store (l' := [Value.int .i64 D.room, Value.slice rx.fa D.f.length rx.fc, Value.slice la ((applyL D.last (D.ch.take (keptF zs 0 D.ch.length))).length) lc, Value.slice la ((applyL D.last (D.ch.take (keptF zs 0 D.ch.length))).length) lc, Value.slice none 0 0, Value.bool false, Value.int .i64 (-1)]) 3 hS22 rfl Ty.sz3 rfl rfl rfl rfl rfl (Nat.le_of_ble_eq_true rfl) rfl (fun w23 (hS23 : St B (ro la ((applyL D.last (D.ch.take (keptF zs 0 D.ch.length))).length) 112 2 ((applyL D.last (D.ch.take (keptF zs 0 D.ch.length))).flatMap fcl) :: ro rx.la D.last.length 112 2 (D.last.flatMap fcl) :: X :: cel g [Value.int .i64 D.room, Value.slice rx.fa D.f.length rx.fc, Value.slice la ((applyL D.last (D.ch.take (keptF zs 0 D.ch.length))).length) lc, Value.slice la ((applyL D.last (D.ch.take (keptF zs 0 D.ch.length))).length) lc, Value.slice none 0 0, Value.bool false, Value.int .i64 (-1)] 104 :: own rx.fa D.f.length rx.fc 107 2 (f.flatMap fcl) :: ro rx.na D.nm.length 112 2 (D.nm.flatMap fcl) :: own rx.ca D.ch.length rx.cc 110 3 (D.ch.flatMap ccl) :: L) w23) => ?_)
   clear hS22
   refine WO.nil ?_
   have hcf : f = crashF zs 1 (applyL D.last (D.ch.take (keptF zs 0 D.ch.length))) D.f := by rw [← hcr, List.drop_of_length_le (by omega)]; rfl
   have hS24 := (St.dup (ro_pers _ _ _ _ _) hS23).own_nil 110 3
   refine NX.ended (l := []) rfl rfl ?_
   have hz := (hS24.permT [3, 6, 6, 4, 4, 1, 1, 0, 0] (L' := ro rx.la D.last.length 112 2 (D.last.flatMap fcl) :: ro rx.na D.nm.length 112 2 (D.nm.flatMap fcl) :: own rx.ca D.ch.length rx.cc 110 3 (D.ch.flatMap ccl) :: cel g [Value.int .i64 D.room, Value.slice rx.fa D.f.length rx.fc, Value.slice la ((applyL D.last (D.ch.take (keptF zs 0 D.ch.length))).length) lc, Value.slice la ((applyL D.last (D.ch.take (keptF zs 0 D.ch.length))).length) lc, Value.slice none 0 0, Value.bool false, Value.int .i64 (-1)] 104 :: own rx.fa D.f.length rx.fc 107 2 (f.flatMap fcl) :: ro la ((applyL D.last (D.ch.take (keptF zs 0 D.ch.length))).length) 112 2 ((applyL D.last (D.ch.take (keptF zs 0 D.ch.length))).flatMap fcl) :: ro la ((applyL D.last (D.ch.take (keptF zs 0 D.ch.length))).length) 112 2 ((applyL D.last (D.ch.take (keptF zs 0 D.ch.length))).flatMap fcl) :: own none 0 0 110 3 [] :: X :: L) rfl).drop.drop.drop
   have el : (crashF zs 1 (applyL D.last (D.ch.take (keptF zs 0 D.ch.length))) D.f).length = D.f.length := crashF_len _ _ _
   rw [hcf, ← el] at hz
   exact ⟨rfl, St.rf_shut (D := crashD D zs) ⟨rx.fa, rx.fc, la, lc, la, lc, none, 0⟩ hz⟩
end Go.Proofs.YtcehlnpbdffdhaaGreatDoor.SL
