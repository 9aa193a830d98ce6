/- The document's disk: its parts. -/
import Derived.Test.YtcehlnpbdffdhaaDoorDk4
namespace Go.Proofs.YtcehlnpbdffdhaaDoor.SL
open Go.RowKit Go.Proofs.YtcehlnpbdffdhaaDoor
open Go.Proofs.YtcehlnpbdffdhaaDoorW.PrintLast (rtab opsOf)
set_option linter.unusedVariables false
set_option linter.unusedSimpArgs false

def fcl (x : List UInt8 × Nat) : List Value := [str x.1, .int .i64 (x.2 : Int)]
def ccl (c : Chg) : List Value := [str c.fr, str c.tn, .int .i64 (c.fi : Int)]
theorem fcl_len (x : List UInt8 × Nat) : (fcl x).length = 2 := rfl
theorem ccl_len (x : Chg) : (ccl x).length = 3 := rfl
theorem fcl_noAgg : ∀ l : List (List UInt8 × Nat), (l.flatMap fcl).all noAgg = true
  | [] => rfl
  | x :: l => by rw [List.flatMap_cons, List.all_append, fcl_noAgg l]; rfl
structure RX where
  fa : Option Addr
  fc : Nat
  na : Option Addr
  nc : Nat
  la : Option Addr
  lc : Nat
  ca : Option Addr
  cc : Nat
def refA (g : Nat) (D : Dk) : HP := .ex fun rx : RX => .sep (cel g [Value.int .i64 D.room, Value.slice rx.fa D.f.length rx.fc, Value.slice rx.na D.nm.length rx.nc, Value.slice rx.la D.last.length rx.lc, Value.slice rx.ca D.ch.length rx.cc, Value.bool D.dead, Value.int .i64 D.left] 71) (.sep (own rx.fa D.f.length rx.fc 119 2 (D.f.flatMap fcl)) (.sep (ro rx.na D.nm.length 121 2 (D.nm.flatMap fcl)) (.sep (ro rx.la D.last.length 121 2 (D.last.flatMap fcl)) (own rx.ca D.ch.length rx.cc 146 3 (D.ch.flatMap ccl)))))
theorem St.rf_open {B w : World} {L : List HP} {g : Nat} {D : Dk} (h : St B (refA g D :: L) w) : ∃ rx : RX, St B (cel g [Value.int .i64 D.room, Value.slice rx.fa D.f.length rx.fc, Value.slice rx.na D.nm.length rx.nc, Value.slice rx.la D.last.length rx.lc, Value.slice rx.ca D.ch.length rx.cc, Value.bool D.dead, Value.int .i64 D.left] 71 :: own rx.fa D.f.length rx.fc 119 2 (D.f.flatMap fcl) :: ro rx.na D.nm.length 121 2 (D.nm.flatMap fcl) :: ro rx.la D.last.length 121 2 (D.last.flatMap fcl) :: own rx.ca D.ch.length rx.cc 146 3 (D.ch.flatMap ccl) :: L) w := by
  obtain ⟨rx, h1⟩ := h.ex
  have a2 := (h1.sep.permT [1, 0] rfl).sep
  have a3 := (a2.permT [1, 1, 0] (L' := _ :: _ :: _ :: L) rfl).sep
  have a4 := (a3.permT [1, 2, 1, 0] (L' := _ :: _ :: _ :: _ :: L) rfl).sep
  exact ⟨rx, a4.permT [3, 2, 2, 0, 0] rfl⟩
theorem St.rf_shut {B w : World} {L : List HP} {g : Nat} {D : Dk} (rx : RX) (h : St B (cel g [Value.int .i64 D.room, Value.slice rx.fa D.f.length rx.fc, Value.slice rx.na D.nm.length rx.nc, Value.slice rx.la D.last.length rx.lc, Value.slice rx.ca D.ch.length rx.cc, Value.bool D.dead, Value.int .i64 D.left] 71 :: own rx.fa D.f.length rx.fc 119 2 (D.f.flatMap fcl) :: ro rx.na D.nm.length 121 2 (D.nm.flatMap fcl) :: ro rx.la D.last.length 121 2 (D.last.flatMap fcl) :: own rx.ca D.ch.length rx.cc 146 3 (D.ch.flatMap ccl) :: L) w) : St B (refA g D :: L) w := by
  have a4 := (h.permT [3, 3, 2, 1, 0] (L' := ro rx.la D.last.length 121 2 (D.last.flatMap fcl) :: own rx.ca D.ch.length rx.cc 146 3 (D.ch.flatMap ccl) :: ro rx.na D.nm.length 121 2 (D.nm.flatMap fcl) :: own rx.fa D.f.length rx.fc 119 2 (D.f.flatMap fcl) :: cel g [Value.int .i64 D.room, Value.slice rx.fa D.f.length rx.fc, Value.slice rx.na D.nm.length rx.nc, Value.slice rx.la D.last.length rx.lc, Value.slice rx.ca D.ch.length rx.cc, Value.bool D.dead, Value.int .i64 D.left] 71 :: L) rfl).join
  have a3 := (a4.permT [1, 0] (L' := ro rx.na D.nm.length 121 2 (D.nm.flatMap fcl) :: .sep (ro rx.la D.last.length 121 2 (D.last.flatMap fcl)) (own rx.ca D.ch.length rx.cc 146 3 (D.ch.flatMap ccl)) :: own rx.fa D.f.length rx.fc 119 2 (D.f.flatMap fcl) :: cel g [Value.int .i64 D.room, Value.slice rx.fa D.f.length rx.fc, Value.slice rx.na D.nm.length rx.nc, Value.slice rx.la D.last.length rx.lc, Value.slice rx.ca D.ch.length rx.cc, Value.bool D.dead, Value.int .i64 D.left] 71 :: L) rfl).join
  have a2 := (a3.permT [1, 0] (L' := own rx.fa D.f.length rx.fc 119 2 (D.f.flatMap fcl) :: .sep (ro rx.na D.nm.length 121 2 (D.nm.flatMap fcl)) (.sep (ro rx.la D.last.length 121 2 (D.last.flatMap fcl)) (own rx.ca D.ch.length rx.cc 146 3 (D.ch.flatMap ccl))) :: cel g [Value.int .i64 D.room, Value.slice rx.fa D.f.length rx.fc, Value.slice rx.na D.nm.length rx.nc, Value.slice rx.la D.last.length rx.lc, Value.slice rx.ca D.ch.length rx.cc, Value.bool D.dead, Value.int .i64 D.left] 71 :: L) rfl).join
  have a1 := (a2.permT [1, 0] (L' := cel g [Value.int .i64 D.room, Value.slice rx.fa D.f.length rx.fc, Value.slice rx.na D.nm.length rx.nc, Value.slice rx.la D.last.length rx.lc, Value.slice rx.ca D.ch.length rx.cc, Value.bool D.dead, Value.int .i64 D.left] 71 :: .sep (own rx.fa D.f.length rx.fc 119 2 (D.f.flatMap fcl)) (.sep (ro rx.na D.nm.length 121 2 (D.nm.flatMap fcl)) (.sep (ro rx.la D.last.length 121 2 (D.last.flatMap fcl)) (own rx.ca D.ch.length rx.cc 146 3 (D.ch.flatMap ccl)))) :: L) rfl).join
  exact a1.give rx
theorem findN_drop {k : List UInt8} {l : Nm} {i : Nat} {e : List UInt8 × Nat} (h : l[i]? = some e) : findN k (l.drop i) = if k = e.1 then some e.2 else findN k (l.drop (i + 1)) := by
  obtain ⟨hi, he⟩ := List.getElem?_eq_some_iff.1 h
  rw [List.drop_eq_getElem_cons hi, he]; rfl
theorem r4write_spec {B w : World} {L : List HP} {g : Nat} {room left : Int} {vf vn vl vc : Value} {dead : Bool} (hl : -1 ≤ left) (hl2 : left ≤ 9223372036854775807) (hS : St B (cel g [Value.int .i64 room, vf, vn, vl, vc, Value.bool dead, Value.int .i64 left] 71 :: L) w) : Does Tryd.prog 98 [Value.pointer (some ⟨g, 0, none⟩)] w (fun v w1 => v = .bool (wOk dead left) ∧ St B (cel g [Value.int .i64 room, vf, vn, vl, vc, Value.bool (wDead dead left), Value.int .i64 (wLeft dead left)] 71 :: L) w1) := by
 refine enter (n := 27) Tryd.func98 rfl rfl [Value.pointer (some ⟨g, 0, none⟩)] rfl ?_
 refine WP.seq ?_
 refine WP.region rfl ?_
 refine WO.val (run_assign rfl) rfl rfl rfl ?_
 refine WO.nil ?_
 refine NX.go ?_
 refine WP.seq ?_
 refine WP.seq ?_
 refine WP.region rfl ?_
 refine WO.val (run_move rfl) rfl rfl rfl ?_
 refine WO.val (run_nilCheck rfl) rfl rfl rfl ?_
 refine WO.val (run_fieldAddr (q := ⟨g, 6, none⟩) (show fieldB Tryd.prog 71 6 = some 6 from by kernel_rfl) rfl rfl) rfl rfl rfl ?_
 refine WO.val (run_load Ty.ag3 rfl ((hS.cel_at 0 rfl 6).trans rfl)) rfl rfl rfl ?_
 refine WO.val (run_eql rfl rfl) rfl rfl rfl ?_
 refine WO.nil ?_
 refine NX.go ?_
 refine WP.condP rfl (fun g7 => ?_) (fun g7 => ?_)
 ·
  refine WP.region rfl ?_
  refine WO.val (run_move rfl) rfl rfl rfl ?_
  refine WO.val (run_nilCheck rfl) rfl rfl rfl ?_
  refine WO.val (run_fieldAddr (q := ⟨g, 5, none⟩) (show fieldB Tryd.prog 71 5 = some 5 from by kernel_rfl) rfl rfl) rfl rfl rfl ?_
  refine WO.store (l' := [Value.int .i64 room, vf, vn, vl, vc, Value.bool true, Value.int .i64 left]) 0 hS rfl Ty.sz4 rfl rfl rfl rfl rfl (Nat.le_of_ble_eq_true rfl) rfl (fun w1 (hS1 : St B (cel g [Value.int .i64 room, vf, vn, vl, vc, Value.bool true, Value.int .i64 left] 71 :: L) w1) => ?_)
  clear hS
  refine WO.nil ?_
  refine NX.go ?_
  refine WP.seq ?_
  refine WP.seq ?_
  refine WP.region rfl ?_
  refine WO.val (run_move rfl) rfl rfl rfl ?_
  refine WO.val (run_nilCheck rfl) rfl rfl rfl ?_
  refine WO.val (run_fieldAddr (q := ⟨g, 5, none⟩) (show fieldB Tryd.prog 71 5 = some 5 from by kernel_rfl) rfl rfl) rfl rfl rfl ?_
  refine WO.val (run_load Ty.ag4 rfl ((hS1.cel_at 0 rfl 5).trans rfl)) rfl rfl rfl ?_
  refine WO.nil ?_
  refine NX.go ?_
  refine WP.condT rfl rfl ?_
  refine WP.seq ?_
  refine WP.region rfl ?_
  refine WO.val (run_assign rfl) rfl rfl rfl ?_
  refine WO.nil ?_
  refine NX.go ?_
  refine WP.ret ?_
  refine NX.thenRet ?_
  refine NX.done (l := [.tmp 2]) rfl rfl ?_
  have e1 : wOk dead left = false := by unfold wOk; rw [if_pos g7]
  have e2 : wDead dead left = true := by unfold wDead; rw [if_pos g7]
  have e3 : wLeft dead left = left := by unfold wLeft; rw [if_pos g7]
  rw [e1, e2, e3]
  exact ⟨rfl, hS1⟩
 ·
  refine WP.skip ?_
  refine NX.go ?_
  refine WP.seq ?_
  refine WP.seq ?_
  refine WP.region rfl ?_
  refine WO.val (run_move rfl) rfl rfl rfl ?_
  refine WO.val (run_nilCheck rfl) rfl rfl rfl ?_
  refine WO.val (run_fieldAddr (q := ⟨g, 5, none⟩) (show fieldB Tryd.prog 71 5 = some 5 from by kernel_rfl) rfl rfl) rfl rfl rfl ?_
  refine WO.val (run_load Ty.ag4 rfl ((hS.cel_at 0 rfl 5).trans rfl)) rfl rfl rfl ?_
  refine WO.nil ?_
  refine NX.go ?_
  refine WP.condB rfl (fun g14 => ?_) (fun g14 => ?_)
  ·
   refine WP.seq ?_
   refine WP.region rfl ?_
   refine WO.val (run_assign rfl) rfl rfl rfl ?_
   refine WO.nil ?_
   refine NX.go ?_
   refine WP.ret ?_
   refine NX.thenRet ?_
   refine NX.done (l := [.tmp 2]) rfl rfl ?_
   have e1 : wOk dead left = false := by unfold wOk; rw [if_neg g7, g14]; rfl
   have e2 : wDead dead left = dead := by unfold wDead; rw [if_neg g7]
   have e3 : wLeft dead left = left := by unfold wLeft; rw [if_neg g7, if_pos g14]
   rw [e1, e2, e3]
   exact ⟨rfl, hS⟩
  ·
   refine WP.skip ?_
   refine NX.go ?_
   refine WP.seq ?_
   refine WP.seq ?_
   refine WP.region rfl ?_
   refine WO.val (run_move rfl) rfl rfl rfl ?_
   refine WO.val (run_nilCheck rfl) rfl rfl rfl ?_
   refine WO.val (run_fieldAddr (q := ⟨g, 6, none⟩) (show fieldB Tryd.prog 71 6 = some 6 from by kernel_rfl) rfl rfl) rfl rfl rfl ?_
   refine WO.val (run_load Ty.ag3 rfl ((hS.cel_at 0 rfl 6).trans rfl)) rfl rfl rfl ?_
   refine WO.val (run_gtr rfl rfl) rfl rfl rfl ?_
   refine WO.nil ?_
   refine NX.go ?_
   refine WP.condP rfl (fun g19 => ?_) (fun g19 => ?_)
   ·
    refine WP.region rfl ?_
    refine WO.val (run_move rfl) rfl rfl rfl ?_
    refine WO.val (run_nilCheck rfl) rfl rfl rfl ?_
    refine WO.val (run_fieldAddr (q := ⟨g, 6, none⟩) (show fieldB Tryd.prog 71 6 = some 6 from by kernel_rfl) rfl rfl) rfl rfl rfl ?_
    refine WO.val (run_load Ty.ag3 rfl ((hS.cel_at 0 rfl 6).trans rfl)) rfl rfl rfl ?_
    refine WO.val (run_sub rfl rfl (IntWalk.i64_in _ (by omega))) rfl rfl rfl ?_
    refine WO.val (run_nilCheck rfl) rfl rfl rfl ?_
    refine WO.val (run_fieldAddr (q := ⟨g, 6, none⟩) (show fieldB Tryd.prog 71 6 = some 6 from by kernel_rfl) rfl rfl) rfl rfl rfl ?_
    refine WO.store (l' := [Value.int .i64 room, vf, vn, vl, vc, Value.bool dead, Value.int .i64 (left - 1)]) 0 hS rfl Ty.sz3 rfl rfl rfl rfl rfl (Nat.le_of_ble_eq_true rfl) rfl (fun w2 (hS2 : St B (cel g [Value.int .i64 room, vf, vn, vl, vc, Value.bool dead, Value.int .i64 (left - 1)] 71 :: L) w2) => ?_)
    clear hS
    refine WO.nil ?_
    refine NX.go ?_
    refine WP.seq ?_
    refine WP.region rfl ?_
    refine WO.val (run_assign rfl) rfl rfl rfl ?_
    refine WO.nil ?_
    refine NX.go ?_
    refine WP.ret ?_
    refine NX.done (l := [.tmp 2]) rfl rfl ?_
    have e1 : wOk dead left = true := by unfold wOk; rw [if_neg g7, g14]; rfl
    have e2 : wDead dead left = dead := by unfold wDead; rw [if_neg g7]
    have e3 : wLeft dead left = left - 1 := by unfold wLeft; rw [if_neg g7, if_neg (by rw [g14]; decide)]; split <;> omega
    rw [e1, e2, e3]
    exact ⟨rfl, hS2⟩
   ·
    refine WP.skip ?_
    refine NX.go ?_
    refine WP.seq ?_
    refine WP.region rfl ?_
    refine WO.val (run_assign rfl) rfl rfl rfl ?_
    refine WO.nil ?_
    refine NX.go ?_
    refine WP.ret ?_
    refine NX.done (l := [.tmp 2]) rfl rfl ?_
    have e1 : wOk dead left = true := by unfold wOk; rw [if_neg g7, g14]; rfl
    have e2 : wDead dead left = dead := by unfold wDead; rw [if_neg g7]
    have e3 : wLeft dead left = left := by unfold wLeft; rw [if_neg g7, if_neg (by rw [g14]; decide)]; split <;> omega
    rw [e1, e2, e3]
    exact ⟨rfl, hS⟩
theorem r4name_spec {B w : World} {L : List HP} (s : List UInt8) (hs : s.length ≤ 9223372036854775806) (hS : St B L w) : Does Tryd.prog 99 [str s] w (fun v w1 => v = .bool (fileF s) ∧ St B L w1) := by
 refine enter (n := 52) Tryd.func99 rfl rfl [str s] rfl ?_
 refine WP.seq ?_
 refine WP.region rfl ?_
 refine WO.val (run_assign rfl) rfl rfl rfl ?_
 refine WO.nil ?_
 refine NX.go ?_
 refine WP.seq ?_
 refine WP.seq ?_
 refine WP.region rfl ?_
 refine WO.val (run_assign rfl) rfl rfl rfl ?_
 refine WO.nil ?_
 refine NX.go ?_
 refine WP.block ?_
 refine WP.loop (α := Nat) (fun x => match x with | i => [(0, str s), (3, Value.int .i64 (i : Int))]) (fun x w => match x with | i => (i ≤ s.length ∧ ∀ j b, j < i → s[j]? = some b → fileB b) ∧ St B (L) w) (fun x => match x with | i => s.length - i) 0 ⟨⟨Nat.zero_le _, fun j b h => absurd h (by omega)⟩, hS⟩ (Sub.cons rfl (Sub.consE rfl (by first | rfl | first | rfl | (congr 1; omega) | (simp; done) | (simp; omega)) (Sub.nil _))) ?_
 rintro i w1 ⟨⟨hi, hok⟩, hS1⟩
 clear hS
 refine WP.seq ?_
 refine WP.seq ?_
 refine WP.region rfl ?_
 refine WO.val (run_move rfl) rfl rfl rfl ?_
 refine WO.val (run_move rfl) rfl rfl rfl ?_
 refine WO.val (run_lenS rfl Tryd.underlying9 rfl) rfl rfl rfl ?_
 refine WO.val (run_lss rfl rfl) rfl rfl rfl ?_
 refine WO.nil ?_
 refine NX.go ?_
 refine WP.condP rfl (fun g7 => ?_) (fun g7 => ?_)
 ·
  refine WP.skip ?_
  refine NX.go ?_
  refine WP.seq ?_
  refine WP.block ?_
  refine WP.seq ?_
  refine WP.region rfl ?_
  refine WO.val (run_move rfl) rfl rfl rfl ?_
  refine WO.val (run_move rfl) rfl rfl rfl ?_
  obtain ⟨b, hb⟩ : ∃ b, s[i]? = some b := ⟨_, List.getElem?_eq_getElem (by omega)⟩
  have hb8 := UInt8.toNat_lt b
  refine WO.val (run_indexS Tryd.underlying9 rfl rfl (by omega) (by rw [Int.toNat_natCast]; exact hb)) rfl rfl rfl ?_
  refine WO.val (run_lss rfl rfl) rfl rfl rfl ?_
  refine WO.val (run_move rfl) rfl rfl rfl ?_
  by_cases g14 : (b.toNat : Int) < 97
  ·
   refine WO.off rfl rfl (decide_eq_true g14) rfl ?_
   refine WO.off rfl rfl (decide_eq_true g14) rfl ?_
   refine WO.off rfl rfl (decide_eq_true g14) rfl ?_
   refine WO.off rfl rfl (decide_eq_true g14) rfl ?_
   refine WO.val (run_pickT rfl (decide_eq_true g14) rfl) rfl rfl rfl ?_
   refine WO.val (run_move rfl) rfl rfl rfl ?_
   refine WO.on rfl rfl rfl ?_
   refine WO.val (run_move rfl) rfl rfl rfl ?_
   refine WO.on rfl rfl rfl ?_
   refine WO.val (run_move rfl) rfl rfl rfl ?_
   refine WO.on rfl rfl rfl ?_
   refine WO.val (run_indexS Tryd.underlying9 rfl rfl (by omega) (by rw [Int.toNat_natCast]; exact hb)) rfl rfl rfl ?_
   refine WO.on rfl rfl rfl ?_
   refine WO.val (run_lss rfl rfl) rfl rfl rfl ?_
   refine WO.on rfl rfl rfl ?_
   refine WO.val (run_move rfl) rfl rfl rfl ?_
   by_cases g25 : (b.toNat : Int) < 48
   ·
    refine WO.off rfl rfl (decide_eq_true g25) rfl ?_
    refine WO.off rfl rfl (decide_eq_true g25) rfl ?_
    refine WO.off rfl rfl (decide_eq_true g25) rfl ?_
    refine WO.off rfl rfl (decide_eq_true g25) rfl ?_
    refine WO.on rfl rfl rfl ?_
    refine WO.val (run_pickT rfl (decide_eq_true g25) rfl) rfl rfl rfl ?_
    refine WO.val (run_pickT rfl rfl rfl) rfl rfl rfl ?_
    refine WO.val (run_move rfl) rfl rfl rfl ?_
    refine WO.on rfl rfl rfl ?_
    refine WO.val (run_move rfl) rfl rfl rfl ?_
    refine WO.on rfl rfl rfl ?_
    refine WO.val (run_move rfl) rfl rfl rfl ?_
    refine WO.on rfl rfl rfl ?_
    refine WO.val (run_indexS Tryd.underlying9 rfl rfl (by omega) (by rw [Int.toNat_natCast]; exact hb)) rfl rfl rfl ?_
    refine WO.on rfl rfl rfl ?_
    refine WO.val (run_neq rfl rfl) rfl rfl rfl ?_
    refine WO.val (run_pickT rfl rfl rfl) rfl rfl rfl ?_
    refine WO.val (run_move rfl) rfl rfl rfl ?_
    by_cases g38 : ¬ (b.toNat : Int) = 46
    ·
     refine WO.on rfl rfl (decide_eq_true g38) ?_
     refine WO.val (run_move rfl) rfl rfl rfl ?_
     refine WO.on rfl rfl (decide_eq_true g38) ?_
     refine WO.val (run_move rfl) rfl rfl rfl ?_
     refine WO.on rfl rfl (decide_eq_true g38) ?_
     refine WO.val (run_indexS Tryd.underlying9 rfl rfl (by omega) (by rw [Int.toNat_natCast]; exact hb)) rfl rfl rfl ?_
     refine WO.on rfl rfl (decide_eq_true g38) ?_
     refine WO.val (run_neq rfl rfl) rfl rfl rfl ?_
     refine WO.val (run_pickT rfl (decide_eq_true g38) rfl) rfl rfl rfl ?_
     refine WO.nil ?_
     refine NX.go ?_
     refine WP.condP rfl (fun g43 => ?_) (fun g43 => ?_)
     ·
      refine WP.seq ?_
      refine WP.region rfl ?_
      refine WO.val (run_assign rfl) rfl rfl rfl ?_
      refine WO.nil ?_
      refine NX.go ?_
      refine WP.ret ?_
      refine NX.blkRet ?_
      refine NX.thenRet ?_
      refine NX.thenRet ?_
      refine NX.blkRet ?_
      refine NX.thenRet ?_
      refine NX.done (l := [.tmp 2]) rfl rfl ?_
      exact ⟨congrArg Value.bool (decide_eq_false (fun h => absurd (h.2.2 b (List.mem_of_getElem? hb)) (by unfold fileB; omega))).symm, hS1⟩
     ·
      refine WP.skip ?_
      refine NX.blk ?_
      refine NX.go ?_
      refine WP.region rfl ?_
      refine WO.val (run_move rfl) rfl rfl rfl ?_
      refine WO.val (run_add rfl rfl (IntWalk.i64_in _ (by omega))) rfl rfl rfl ?_
      refine WO.val (run_assign rfl) rfl rfl rfl ?_
      refine WO.nil ?_
      exact NX.again (i + 1) ⟨⟨by omega, file_next hok hb (by unfold fileB; omega)⟩, hS1⟩ (by show s.length - (i + 1) < s.length - i; omega) (Sub.cons rfl (Sub.consE rfl (by congr 1) (Sub.nil _)))
    ·
     refine WO.off rfl rfl (decide_eq_false g38) rfl ?_
     refine WO.off rfl rfl (decide_eq_false g38) rfl ?_
     refine WO.off rfl rfl (decide_eq_false g38) rfl ?_
     refine WO.off rfl rfl (decide_eq_false g38) rfl ?_
     refine WO.val (run_pickF rfl (decide_eq_false g38) rfl) rfl rfl rfl ?_
     refine WO.nil ?_
     refine NX.go ?_
     refine WP.condF rfl rfl ?_
     refine WP.skip ?_
     refine NX.blk ?_
     refine NX.go ?_
     refine WP.region rfl ?_
     refine WO.val (run_move rfl) rfl rfl rfl ?_
     refine WO.val (run_add rfl rfl (IntWalk.i64_in _ (by omega))) rfl rfl rfl ?_
     refine WO.val (run_assign rfl) rfl rfl rfl ?_
     refine WO.nil ?_
     exact NX.again (i + 1) ⟨⟨by omega, file_next hok hb (by unfold fileB; omega)⟩, hS1⟩ (by show s.length - (i + 1) < s.length - i; omega) (Sub.cons rfl (Sub.consE rfl (by congr 1) (Sub.nil _)))
   ·
    refine WO.on rfl rfl (decide_eq_false g25) ?_
    refine WO.val (run_move rfl) rfl rfl rfl ?_
    refine WO.on rfl rfl (decide_eq_false g25) ?_
    refine WO.val (run_move rfl) rfl rfl rfl ?_
    refine WO.on rfl rfl (decide_eq_false g25) ?_
    refine WO.val (run_indexS Tryd.underlying9 rfl rfl (by omega) (by rw [Int.toNat_natCast]; exact hb)) rfl rfl rfl ?_
    refine WO.on rfl rfl (decide_eq_false g25) ?_
    refine WO.val (run_gtr rfl rfl) rfl rfl rfl ?_
    refine WO.on rfl rfl rfl ?_
    refine WO.val (run_pickF rfl (decide_eq_false g25) rfl) rfl rfl rfl ?_
    refine WO.val (run_pickT rfl rfl rfl) rfl rfl rfl ?_
    refine WO.val (run_move rfl) rfl rfl rfl ?_
    by_cases g32 : 57 < (b.toNat : Int)
    ·
     refine WO.on rfl rfl (decide_eq_true g32) ?_
     refine WO.val (run_move rfl) rfl rfl rfl ?_
     refine WO.on rfl rfl (decide_eq_true g32) ?_
     refine WO.val (run_move rfl) rfl rfl rfl ?_
     refine WO.on rfl rfl (decide_eq_true g32) ?_
     refine WO.val (run_indexS Tryd.underlying9 rfl rfl (by omega) (by rw [Int.toNat_natCast]; exact hb)) rfl rfl rfl ?_
     refine WO.on rfl rfl (decide_eq_true g32) ?_
     refine WO.val (run_neq rfl rfl) rfl rfl rfl ?_
     refine WO.val (run_pickT rfl (decide_eq_true g32) rfl) rfl rfl rfl ?_
     refine WO.val (run_move rfl) rfl rfl rfl ?_
     by_cases g38 : ¬ (b.toNat : Int) = 46
     ·
      refine WO.on rfl rfl (decide_eq_true g38) ?_
      refine WO.val (run_move rfl) rfl rfl rfl ?_
      refine WO.on rfl rfl (decide_eq_true g38) ?_
      refine WO.val (run_move rfl) rfl rfl rfl ?_
      refine WO.on rfl rfl (decide_eq_true g38) ?_
      refine WO.val (run_indexS Tryd.underlying9 rfl rfl (by omega) (by rw [Int.toNat_natCast]; exact hb)) rfl rfl rfl ?_
      refine WO.on rfl rfl (decide_eq_true g38) ?_
      refine WO.val (run_neq rfl rfl) rfl rfl rfl ?_
      refine WO.val (run_pickT rfl (decide_eq_true g38) rfl) rfl rfl rfl ?_
      refine WO.nil ?_
      refine NX.go ?_
      refine WP.condP rfl (fun g43 => ?_) (fun g43 => ?_)
      ·
       refine WP.seq ?_
       refine WP.region rfl ?_
       refine WO.val (run_assign rfl) rfl rfl rfl ?_
       refine WO.nil ?_
       refine NX.go ?_
       refine WP.ret ?_
       refine NX.blkRet ?_
       refine NX.thenRet ?_
       refine NX.thenRet ?_
       refine NX.blkRet ?_
       refine NX.thenRet ?_
       refine NX.done (l := [.tmp 2]) rfl rfl ?_
       exact ⟨congrArg Value.bool (decide_eq_false (fun h => absurd (h.2.2 b (List.mem_of_getElem? hb)) (by unfold fileB; omega))).symm, hS1⟩
      ·
       refine WP.skip ?_
       refine NX.blk ?_
       refine NX.go ?_
       refine WP.region rfl ?_
       refine WO.val (run_move rfl) rfl rfl rfl ?_
       refine WO.val (run_add rfl rfl (IntWalk.i64_in _ (by omega))) rfl rfl rfl ?_
       refine WO.val (run_assign rfl) rfl rfl rfl ?_
       refine WO.nil ?_
       exact NX.again (i + 1) ⟨⟨by omega, file_next hok hb (by unfold fileB; omega)⟩, hS1⟩ (by show s.length - (i + 1) < s.length - i; omega) (Sub.cons rfl (Sub.consE rfl (by congr 1) (Sub.nil _)))
     ·
      refine WO.off rfl rfl (decide_eq_false g38) rfl ?_
      refine WO.off rfl rfl (decide_eq_false g38) rfl ?_
      refine WO.off rfl rfl (decide_eq_false g38) rfl ?_
      refine WO.off rfl rfl (decide_eq_false g38) rfl ?_
      refine WO.val (run_pickF rfl (decide_eq_false g38) rfl) rfl rfl rfl ?_
      refine WO.nil ?_
      refine NX.go ?_
      refine WP.condF rfl rfl ?_
      refine WP.skip ?_
      refine NX.blk ?_
      refine NX.go ?_
      refine WP.region rfl ?_
      refine WO.val (run_move rfl) rfl rfl rfl ?_
      refine WO.val (run_add rfl rfl (IntWalk.i64_in _ (by omega))) rfl rfl rfl ?_
      refine WO.val (run_assign rfl) rfl rfl rfl ?_
      refine WO.nil ?_
      exact NX.again (i + 1) ⟨⟨by omega, file_next hok hb (by unfold fileB; omega)⟩, hS1⟩ (by show s.length - (i + 1) < s.length - i; omega) (Sub.cons rfl (Sub.consE rfl (by congr 1) (Sub.nil _)))
    ·
     refine WO.off rfl rfl (decide_eq_false g32) rfl ?_
     refine WO.off rfl rfl (decide_eq_false g32) rfl ?_
     refine WO.off rfl rfl (decide_eq_false g32) rfl ?_
     refine WO.off rfl rfl (decide_eq_false g32) rfl ?_
     refine WO.val (run_pickF rfl (decide_eq_false g32) rfl) rfl rfl rfl ?_
     refine WO.val (run_move rfl) rfl rfl rfl ?_
     refine WO.off rfl rfl rfl rfl ?_
     refine WO.off rfl rfl rfl rfl ?_
     refine WO.off rfl rfl rfl rfl ?_
     refine WO.off rfl rfl rfl rfl ?_
     refine WO.val (run_pickF rfl rfl rfl) rfl rfl rfl ?_
     refine WO.nil ?_
     refine NX.go ?_
     refine WP.condF rfl rfl ?_
     refine WP.skip ?_
     refine NX.blk ?_
     refine NX.go ?_
     refine WP.region rfl ?_
     refine WO.val (run_move rfl) rfl rfl rfl ?_
     refine WO.val (run_add rfl rfl (IntWalk.i64_in _ (by omega))) rfl rfl rfl ?_
     refine WO.val (run_assign rfl) rfl rfl rfl ?_
     refine WO.nil ?_
     exact NX.again (i + 1) ⟨⟨by omega, file_next hok hb (by unfold fileB; omega)⟩, hS1⟩ (by show s.length - (i + 1) < s.length - i; omega) (Sub.cons rfl (Sub.consE rfl (by congr 1) (Sub.nil _)))
  ·
   refine WO.on rfl rfl (decide_eq_false g14) ?_
   refine WO.val (run_move rfl) rfl rfl rfl ?_
   refine WO.on rfl rfl (decide_eq_false g14) ?_
   refine WO.val (run_move rfl) rfl rfl rfl ?_
   refine WO.on rfl rfl (decide_eq_false g14) ?_
   refine WO.val (run_indexS Tryd.underlying9 rfl rfl (by omega) (by rw [Int.toNat_natCast]; exact hb)) rfl rfl rfl ?_
   refine WO.on rfl rfl (decide_eq_false g14) ?_
   refine WO.val (run_gtr rfl rfl) rfl rfl rfl ?_
   refine WO.val (run_pickF rfl (decide_eq_false g14) rfl) rfl rfl rfl ?_
   refine WO.val (run_move rfl) rfl rfl rfl ?_
   by_cases g20 : 122 < (b.toNat : Int)
   ·
    refine WO.on rfl rfl (decide_eq_true g20) ?_
    refine WO.val (run_move rfl) rfl rfl rfl ?_
    refine WO.on rfl rfl (decide_eq_true g20) ?_
    refine WO.val (run_move rfl) rfl rfl rfl ?_
    refine WO.on rfl rfl (decide_eq_true g20) ?_
    refine WO.val (run_indexS Tryd.underlying9 rfl rfl (by omega) (by rw [Int.toNat_natCast]; exact hb)) rfl rfl rfl ?_
    refine WO.on rfl rfl (decide_eq_true g20) ?_
    refine WO.val (run_lss rfl rfl) rfl rfl rfl ?_
    refine WO.on rfl rfl (decide_eq_true g20) ?_
    refine WO.val (run_move rfl) rfl rfl rfl ?_
    by_cases g25 : (b.toNat : Int) < 48
    ·
     refine WO.off rfl rfl (decide_eq_true g25) rfl ?_
     refine WO.off rfl rfl (decide_eq_true g25) rfl ?_
     refine WO.off rfl rfl (decide_eq_true g25) rfl ?_
     refine WO.off rfl rfl (decide_eq_true g25) rfl ?_
     refine WO.on rfl rfl (decide_eq_true g20) ?_
     refine WO.val (run_pickT rfl (decide_eq_true g25) rfl) rfl rfl rfl ?_
     refine WO.val (run_pickT rfl (decide_eq_true g20) rfl) rfl rfl rfl ?_
     refine WO.val (run_move rfl) rfl rfl rfl ?_
     refine WO.on rfl rfl rfl ?_
     refine WO.val (run_move rfl) rfl rfl rfl ?_
     refine WO.on rfl rfl rfl ?_
     refine WO.val (run_move rfl) rfl rfl rfl ?_
     refine WO.on rfl rfl rfl ?_
     refine WO.val (run_indexS Tryd.underlying9 rfl rfl (by omega) (by rw [Int.toNat_natCast]; exact hb)) rfl rfl rfl ?_
     refine WO.on rfl rfl rfl ?_
     refine WO.val (run_neq rfl rfl) rfl rfl rfl ?_
     refine WO.val (run_pickT rfl rfl rfl) rfl rfl rfl ?_
     refine WO.val (run_move rfl) rfl rfl rfl ?_
     by_cases g38 : ¬ (b.toNat : Int) = 46
     ·
      refine WO.on rfl rfl (decide_eq_true g38) ?_
      refine WO.val (run_move rfl) rfl rfl rfl ?_
      refine WO.on rfl rfl (decide_eq_true g38) ?_
      refine WO.val (run_move rfl) rfl rfl rfl ?_
      refine WO.on rfl rfl (decide_eq_true g38) ?_
      refine WO.val (run_indexS Tryd.underlying9 rfl rfl (by omega) (by rw [Int.toNat_natCast]; exact hb)) rfl rfl rfl ?_
      refine WO.on rfl rfl (decide_eq_true g38) ?_
      refine WO.val (run_neq rfl rfl) rfl rfl rfl ?_
      refine WO.val (run_pickT rfl (decide_eq_true g38) rfl) rfl rfl rfl ?_
      refine WO.nil ?_
      refine NX.go ?_
      refine WP.condP rfl (fun g43 => ?_) (fun g43 => ?_)
      ·
       refine WP.seq ?_
       refine WP.region rfl ?_
       refine WO.val (run_assign rfl) rfl rfl rfl ?_
       refine WO.nil ?_
       refine NX.go ?_
       refine WP.ret ?_
       refine NX.blkRet ?_
       refine NX.thenRet ?_
       refine NX.thenRet ?_
       refine NX.blkRet ?_
       refine NX.thenRet ?_
       refine NX.done (l := [.tmp 2]) rfl rfl ?_
       exact ⟨congrArg Value.bool (decide_eq_false (fun h => absurd (h.2.2 b (List.mem_of_getElem? hb)) (by unfold fileB; omega))).symm, hS1⟩
      ·
       refine WP.skip ?_
       refine NX.blk ?_
       refine NX.go ?_
       refine WP.region rfl ?_
       refine WO.val (run_move rfl) rfl rfl rfl ?_
       refine WO.val (run_add rfl rfl (IntWalk.i64_in _ (by omega))) rfl rfl rfl ?_
       refine WO.val (run_assign rfl) rfl rfl rfl ?_
       refine WO.nil ?_
       exact NX.again (i + 1) ⟨⟨by omega, file_next hok hb (by unfold fileB; omega)⟩, hS1⟩ (by show s.length - (i + 1) < s.length - i; omega) (Sub.cons rfl (Sub.consE rfl (by congr 1) (Sub.nil _)))
     ·
      refine WO.off rfl rfl (decide_eq_false g38) rfl ?_
      refine WO.off rfl rfl (decide_eq_false g38) rfl ?_
      refine WO.off rfl rfl (decide_eq_false g38) rfl ?_
      refine WO.off rfl rfl (decide_eq_false g38) rfl ?_
      refine WO.val (run_pickF rfl (decide_eq_false g38) rfl) rfl rfl rfl ?_
      refine WO.nil ?_
      refine NX.go ?_
      refine WP.condF rfl rfl ?_
      refine WP.skip ?_
      refine NX.blk ?_
      refine NX.go ?_
      refine WP.region rfl ?_
      refine WO.val (run_move rfl) rfl rfl rfl ?_
      refine WO.val (run_add rfl rfl (IntWalk.i64_in _ (by omega))) rfl rfl rfl ?_
      refine WO.val (run_assign rfl) rfl rfl rfl ?_
      refine WO.nil ?_
      exact NX.again (i + 1) ⟨⟨by omega, file_next hok hb (by unfold fileB; omega)⟩, hS1⟩ (by show s.length - (i + 1) < s.length - i; omega) (Sub.cons rfl (Sub.consE rfl (by congr 1) (Sub.nil _)))
    ·
     refine WO.on rfl rfl (decide_eq_false g25) ?_
     refine WO.val (run_move rfl) rfl rfl rfl ?_
     refine WO.on rfl rfl (decide_eq_false g25) ?_
     refine WO.val (run_move rfl) rfl rfl rfl ?_
     refine WO.on rfl rfl (decide_eq_false g25) ?_
     refine WO.val (run_indexS Tryd.underlying9 rfl rfl (by omega) (by rw [Int.toNat_natCast]; exact hb)) rfl rfl rfl ?_
     refine WO.on rfl rfl (decide_eq_false g25) ?_
     refine WO.val (run_gtr rfl rfl) rfl rfl rfl ?_
     refine WO.on rfl rfl (decide_eq_true g20) ?_
     refine WO.val (run_pickF rfl (decide_eq_false g25) rfl) rfl rfl rfl ?_
     refine WO.val (run_pickT rfl (decide_eq_true g20) rfl) rfl rfl rfl ?_
     refine WO.val (run_move rfl) rfl rfl rfl ?_
     by_cases g32 : 57 < (b.toNat : Int)
     ·
      refine WO.on rfl rfl (decide_eq_true g32) ?_
      refine WO.val (run_move rfl) rfl rfl rfl ?_
      refine WO.on rfl rfl (decide_eq_true g32) ?_
      refine WO.val (run_move rfl) rfl rfl rfl ?_
      refine WO.on rfl rfl (decide_eq_true g32) ?_
      refine WO.val (run_indexS Tryd.underlying9 rfl rfl (by omega) (by rw [Int.toNat_natCast]; exact hb)) rfl rfl rfl ?_
      refine WO.on rfl rfl (decide_eq_true g32) ?_
      refine WO.val (run_neq rfl rfl) rfl rfl rfl ?_
      refine WO.val (run_pickT rfl (decide_eq_true g32) rfl) rfl rfl rfl ?_
      refine WO.val (run_move rfl) rfl rfl rfl ?_
      by_cases g38 : ¬ (b.toNat : Int) = 46
      ·
       refine WO.on rfl rfl (decide_eq_true g38) ?_
       refine WO.val (run_move rfl) rfl rfl rfl ?_
       refine WO.on rfl rfl (decide_eq_true g38) ?_
       refine WO.val (run_move rfl) rfl rfl rfl ?_
       refine WO.on rfl rfl (decide_eq_true g38) ?_
       refine WO.val (run_indexS Tryd.underlying9 rfl rfl (by omega) (by rw [Int.toNat_natCast]; exact hb)) rfl rfl rfl ?_
       refine WO.on rfl rfl (decide_eq_true g38) ?_
       refine WO.val (run_neq rfl rfl) rfl rfl rfl ?_
       refine WO.val (run_pickT rfl (decide_eq_true g38) rfl) rfl rfl rfl ?_
       refine WO.nil ?_
       refine NX.go ?_
       refine WP.condP rfl (fun g43 => ?_) (fun g43 => ?_)
       ·
        refine WP.seq ?_
        refine WP.region rfl ?_
        refine WO.val (run_assign rfl) rfl rfl rfl ?_
        refine WO.nil ?_
        refine NX.go ?_
        refine WP.ret ?_
        refine NX.blkRet ?_
        refine NX.thenRet ?_
        refine NX.thenRet ?_
        refine NX.blkRet ?_
        refine NX.thenRet ?_
        refine NX.done (l := [.tmp 2]) rfl rfl ?_
        exact ⟨congrArg Value.bool (decide_eq_false (fun h => absurd (h.2.2 b (List.mem_of_getElem? hb)) (by unfold fileB; omega))).symm, hS1⟩
       ·
        refine WP.skip ?_
        refine NX.blk ?_
        refine NX.go ?_
        refine WP.region rfl ?_
        refine WO.val (run_move rfl) rfl rfl rfl ?_
        refine WO.val (run_add rfl rfl (IntWalk.i64_in _ (by omega))) rfl rfl rfl ?_
        refine WO.val (run_assign rfl) rfl rfl rfl ?_
        refine WO.nil ?_
        exact NX.again (i + 1) ⟨⟨by omega, file_next hok hb (by unfold fileB; omega)⟩, hS1⟩ (by show s.length - (i + 1) < s.length - i; omega) (Sub.cons rfl (Sub.consE rfl (by congr 1) (Sub.nil _)))
      ·
       refine WO.off rfl rfl (decide_eq_false g38) rfl ?_
       refine WO.off rfl rfl (decide_eq_false g38) rfl ?_
       refine WO.off rfl rfl (decide_eq_false g38) rfl ?_
       refine WO.off rfl rfl (decide_eq_false g38) rfl ?_
       refine WO.val (run_pickF rfl (decide_eq_false g38) rfl) rfl rfl rfl ?_
       refine WO.nil ?_
       refine NX.go ?_
       refine WP.condF rfl rfl ?_
       refine WP.skip ?_
       refine NX.blk ?_
       refine NX.go ?_
       refine WP.region rfl ?_
       refine WO.val (run_move rfl) rfl rfl rfl ?_
       refine WO.val (run_add rfl rfl (IntWalk.i64_in _ (by omega))) rfl rfl rfl ?_
       refine WO.val (run_assign rfl) rfl rfl rfl ?_
       refine WO.nil ?_
       exact NX.again (i + 1) ⟨⟨by omega, file_next hok hb (by unfold fileB; omega)⟩, hS1⟩ (by show s.length - (i + 1) < s.length - i; omega) (Sub.cons rfl (Sub.consE rfl (by congr 1) (Sub.nil _)))
     ·
      refine WO.off rfl rfl (decide_eq_false g32) rfl ?_
      refine WO.off rfl rfl (decide_eq_false g32) rfl ?_
      refine WO.off rfl rfl (decide_eq_false g32) rfl ?_
      refine WO.off rfl rfl (decide_eq_false g32) rfl ?_
      refine WO.val (run_pickF rfl (decide_eq_false g32) rfl) rfl rfl rfl ?_
      refine WO.val (run_move rfl) rfl rfl rfl ?_
      refine WO.off rfl rfl rfl rfl ?_
      refine WO.off rfl rfl rfl rfl ?_
      refine WO.off rfl rfl rfl rfl ?_
      refine WO.off rfl rfl rfl rfl ?_
      refine WO.val (run_pickF rfl rfl rfl) rfl rfl rfl ?_
      refine WO.nil ?_
      refine NX.go ?_
      refine WP.condF rfl rfl ?_
      refine WP.skip ?_
      refine NX.blk ?_
      refine NX.go ?_
      refine WP.region rfl ?_
      refine WO.val (run_move rfl) rfl rfl rfl ?_
      refine WO.val (run_add rfl rfl (IntWalk.i64_in _ (by omega))) rfl rfl rfl ?_
      refine WO.val (run_assign rfl) rfl rfl rfl ?_
      refine WO.nil ?_
      exact NX.again (i + 1) ⟨⟨by omega, file_next hok hb (by unfold fileB; omega)⟩, hS1⟩ (by show s.length - (i + 1) < s.length - i; omega) (Sub.cons rfl (Sub.consE rfl (by congr 1) (Sub.nil _)))
   ·
    refine WO.off rfl rfl (decide_eq_false g20) rfl ?_
    refine WO.off rfl rfl (decide_eq_false g20) rfl ?_
    refine WO.off rfl rfl (decide_eq_false g20) rfl ?_
    refine WO.off rfl rfl (decide_eq_false g20) rfl ?_
    refine WO.off rfl rfl (decide_eq_false g20) rfl ?_
    refine WO.offU rfl rfl rfl ?_
    refine WO.offU rfl rfl rfl ?_
    refine WO.offU rfl rfl rfl ?_
    refine WO.offU rfl rfl rfl ?_
    refine WO.off rfl rfl (decide_eq_false g20) rfl ?_
    refine WO.val (run_pickF rfl (decide_eq_false g20) rfl) rfl rfl rfl ?_
    refine WO.val (run_move rfl) rfl rfl rfl ?_
    refine WO.off rfl rfl rfl rfl ?_
    refine WO.off rfl rfl rfl rfl ?_
    refine WO.off rfl rfl rfl rfl ?_
    refine WO.off rfl rfl rfl rfl ?_
    refine WO.val (run_pickF rfl rfl rfl) rfl rfl rfl ?_
    refine WO.val (run_move rfl) rfl rfl rfl ?_
    refine WO.off rfl rfl rfl rfl ?_
    refine WO.off rfl rfl rfl rfl ?_
    refine WO.off rfl rfl rfl rfl ?_
    refine WO.off rfl rfl rfl rfl ?_
    refine WO.val (run_pickF rfl rfl rfl) rfl rfl rfl ?_
    refine WO.nil ?_
    refine NX.go ?_
    refine WP.condF rfl rfl ?_
    refine WP.skip ?_
    refine NX.blk ?_
    refine NX.go ?_
    refine WP.region rfl ?_
    refine WO.val (run_move rfl) rfl rfl rfl ?_
    refine WO.val (run_add rfl rfl (IntWalk.i64_in _ (by omega))) rfl rfl rfl ?_
    refine WO.val (run_assign rfl) rfl rfl rfl ?_
    refine WO.nil ?_
    exact NX.again (i + 1) ⟨⟨by omega, file_next hok hb (by unfold fileB; omega)⟩, hS1⟩ (by show s.length - (i + 1) < s.length - i; omega) (Sub.cons rfl (Sub.consE rfl (by congr 1) (Sub.nil _)))
 ·
  refine WP.exit ?_
  refine NX.thenExit ?_
  refine NX.thenExit ?_
  refine NX.blkExit ?_
  refine NX.go ?_
  refine WP.seq ?_
  refine WP.region rfl ?_
  refine WO.val (run_move rfl) rfl rfl rfl ?_
  refine WO.val (run_lenS rfl Tryd.underlying9 rfl) rfl rfl rfl ?_
  refine WO.val (run_geq rfl rfl) rfl rfl rfl ?_
  refine WO.val (run_move rfl) rfl rfl rfl ?_
  by_cases g47 : 1 ≤ (s.length : Int)
  ·
   refine WO.on rfl rfl (decide_eq_true g47) ?_
   refine WO.val (run_move rfl) rfl rfl rfl ?_
   refine WO.on rfl rfl (decide_eq_true g47) ?_
   refine WO.val (run_lenS rfl Tryd.underlying9 rfl) rfl rfl rfl ?_
   refine WO.on rfl rfl (decide_eq_true g47) ?_
   refine WO.val (run_leq rfl rfl) rfl rfl rfl ?_
   refine WO.val (run_pickT rfl (decide_eq_true g47) rfl) rfl rfl rfl ?_
   refine WO.val (run_assign rfl) rfl rfl rfl ?_
   refine WO.nil ?_
   refine NX.go ?_
   refine WP.ret ?_
   refine NX.done (l := [.tmp 2]) rfl rfl ?_
   exact ⟨congrArg Value.bool (decide_eq_decide.2 ⟨fun h => ⟨List.length_pos_iff.1 (by omega), by omega, all_of hok (by omega)⟩, fun h => by have := h.2.1; omega⟩), hS1⟩
  ·
   refine WO.off rfl rfl (decide_eq_false g47) rfl ?_
   refine WO.off rfl rfl (decide_eq_false g47) rfl ?_
   refine WO.off rfl rfl (decide_eq_false g47) rfl ?_
   refine WO.val (run_pickF rfl (decide_eq_false g47) rfl) rfl rfl rfl ?_
   refine WO.val (run_assign rfl) rfl rfl rfl ?_
   refine WO.nil ?_
   refine NX.go ?_
   refine WP.ret ?_
   refine NX.done (l := [.tmp 2]) rfl rfl ?_
   exact ⟨congrArg Value.bool (decide_eq_false (fun h => absurd (List.length_pos_iff.2 h.1) (by omega))).symm, hS1⟩
theorem r4at_spec {B w : World} {L : List HP} {X : HP} {a : Option Addr} {c : Nat} {l : Nm} (hX : ∀ {L : List HP} {w : World}, St B (X :: L) w → Rd w a l.length 2 (l.flatMap fcl)) (k : List UInt8) (hl : l.length ≤ 4294967296) (hS : St B (X :: L) w) : Does Tryd.prog 77 [Value.slice a l.length c, str k] w (fun v w1 => ∃ r : Int, v = .int .i64 r ∧ ((findN k l = none ∧ r = -1) ∨ ∃ i e, r = ((i : Nat) : Int) ∧ l[i]? = some e ∧ e.1 = k ∧ findN k l = some e.2) ∧ St B (X :: L) w1) := by
 refine enter (n := 20) Tryd.func77 rfl rfl [Value.slice a l.length c, str k] rfl ?_
 refine WP.seq ?_
 refine WP.region rfl ?_
 refine WO.val (run_assign rfl) rfl rfl rfl ?_
 refine WO.nil ?_
 refine NX.go ?_
 refine WP.seq ?_
 refine WP.seq ?_
 refine WP.region rfl ?_
 refine WO.val (run_assign rfl) rfl rfl rfl ?_
 refine WO.nil ?_
 refine NX.go ?_
 refine WP.block ?_
 refine WP.loop (α := Nat) (fun x => match x with | i => [(0, Value.slice a l.length c), (1, str k), (5, Value.int .i64 (i : Int))]) (fun x w => match x with | i => (i ≤ l.length ∧ findN k l = findN k (l.drop i)) ∧ St B (X :: L) w) (fun x => match x with | i => l.length - i) 0 ⟨⟨Nat.zero_le _, rfl⟩, hS⟩ (Sub.cons rfl (Sub.cons rfl (Sub.consE rfl (by first | rfl | first | rfl | (congr 1; omega) | (simp; done) | (simp; omega)) (Sub.nil _)))) ?_
 rintro i w1 ⟨⟨hi, hf⟩, hS1⟩
 clear hS
 refine WP.seq ?_
 refine WP.seq ?_
 refine WP.region rfl ?_
 refine WO.val (run_move rfl) rfl rfl rfl ?_
 refine WO.val (run_move rfl) rfl rfl rfl ?_
 refine WO.val (run_len rfl Tryd.underlying68 rfl) rfl rfl rfl ?_
 refine WO.val (run_lss rfl rfl) rfl rfl rfl ?_
 refine WO.nil ?_
 refine NX.go ?_
 refine WP.condP rfl (fun g9 => ?_) (fun g9 => ?_)
 ·
  refine WP.skip ?_
  refine NX.go ?_
  refine WP.seq ?_
  refine WP.block ?_
  refine WP.seq ?_
  refine WP.region rfl ?_
  obtain ⟨e, he⟩ : ∃ e, l[i]? = some e := ⟨_, List.getElem?_eq_getElem (by omega)⟩
  have hsa : a.isSome = true := by obtain ⟨q, hq, _⟩ := (hX hS1).2.1 (by omega); rw [hq]; rfl
  refine WO.val (run_move rfl) rfl rfl rfl ?_
  refine WO.val (run_move rfl) rfl rfl rfl ?_
  refine WO.val (run_indexAddr (q := adr a (i * 2)) Tryd.underlying68 Ty.sz121 rfl rfl (by omega) (by omega) ((hX (hS1.focus 0 rfl)).2.1 (by omega)) rfl) rfl rfl rfl ?_
  refine WO.val (run_fieldAddr (q := (adr a (i * 2 + 0))) (show fieldB Tryd.prog 121 0 = some 0 from by kernel_rfl) rfl (adr_add _ (by assumption) _ _)) rfl rfl rfl ?_
  refine WO.val (run_load Ty.ag9 rfl ((hX (hS1.focus 0 rfl)).cell ((flat_get fcl_len he (j := 0) (by decide)).trans rfl))) rfl rfl rfl ?_
  refine WO.val (run_move rfl) rfl rfl rfl ?_
  refine WO.val (run_eqlS rfl rfl) rfl rfl rfl ?_
  refine WO.nil ?_
  refine NX.go ?_
  refine WP.condP rfl (fun g18 => ?_) (fun g18 => ?_)
  ·
   refine WP.seq ?_
   refine WP.region rfl ?_
   refine WO.val (run_move rfl) rfl rfl rfl ?_
   refine WO.val (run_assign rfl) rfl rfl rfl ?_
   refine WO.nil ?_
   refine NX.go ?_
   refine WP.ret ?_
   refine NX.blkRet ?_
   refine NX.thenRet ?_
   refine NX.thenRet ?_
   refine NX.blkRet ?_
   refine NX.thenRet ?_
   refine NX.done (l := [.tmp 4]) rfl rfl ?_
   exact ⟨_, rfl, .inr ⟨i, e, rfl, he, g18, by rw [hf, findN_drop he, if_pos g18.symm]⟩, hS1⟩
  ·
   refine WP.skip ?_
   refine NX.blk ?_
   refine NX.go ?_
   refine WP.region rfl ?_
   refine WO.val (run_move rfl) rfl rfl rfl ?_
   refine WO.val (run_add rfl rfl (IntWalk.i64_in _ (by omega))) rfl rfl rfl ?_
   refine WO.val (run_assign rfl) rfl rfl rfl ?_
   refine WO.nil ?_
   exact NX.again (i + 1) ⟨⟨by omega, by rw [hf, findN_drop he, if_neg fun h => g18 h.symm]⟩, hS1⟩ (by show l.length - (i + 1) < l.length - i; omega) (Sub.cons rfl (Sub.cons rfl (Sub.consE rfl (by congr 1) (Sub.nil _))))
 ·
  refine WP.exit ?_
  refine NX.thenExit ?_
  refine NX.thenExit ?_
  refine NX.blkExit ?_
  refine NX.go ?_
  refine WP.seq ?_
  refine WP.region rfl ?_
  refine WO.val (run_assign rfl) rfl rfl rfl ?_
  refine WO.nil ?_
  refine NX.go ?_
  refine WP.ret ?_
  refine NX.done (l := [.tmp 4]) rfl rfl ?_
  exact ⟨_, rfl, .inl ⟨by rw [hf, List.drop_of_length_le (by omega)]; rfl, rfl⟩, hS1⟩
theorem r4new_spec {B w : World} {L : List HP} (room : Int) (hS : St B L w) : Does Tryd.prog 32 [Value.int .i64 room] w (fun v w1 => ∃ g, v = .pointer (some ⟨g, 0, none⟩) ∧ St B (refA g (newD room) :: L) w1) := by
 refine enter (n := 6) Tryd.func32 rfl rfl [Value.int .i64 room] rfl ?_
 refine WP.seq ?_
 refine WP.region rfl ?_
 refine WO.val (run_assign rfl) rfl rfl rfl ?_
 refine WO.nil ?_
 refine NX.go ?_
 refine WP.seq ?_
 refine WP.region rfl ?_
 refine WO.val (run_move rfl) rfl rfl rfl ?_
 refine WO.val (run_build (v := Value.agg #[Value.int .i64 room, Value.slice none 0 0, Value.slice none 0 0, Value.slice none 0 0, Value.slice none 0 0, Value.bool false, Value.int .i64 (-1)]) rfl (fun w => by kernel_rfl)) rfl rfl rfl ?_
 refine WO.box (l := [Value.int .i64 room, Value.slice none 0 0, Value.slice none 0 0, Value.slice none 0 0, Value.slice none 0 0, Value.bool false, Value.int .i64 (-1)]) hS rfl rfl rfl (fun g2 w1 lg2 hS1 => ?_)
 clear hS
 refine WO.val (run_assign rfl) rfl rfl rfl ?_
 refine WO.nil ?_
 refine NX.go ?_
 refine WP.ret ?_
 refine NX.done (l := [.tmp 2]) rfl rfl ?_
 have hc := (hS1.own_nil 146 3).permT [1, 0] rfl
 have hf := (hc.own_nil 119 2).permT [1, 0] rfl
 have hn := hf.own_nil 121 2
 have hn1 := hn.own_seal
 have hl := (hn1.own_nil 121 2).own_seal
 exact ⟨g2, rfl, St.rf_shut ⟨none, 0, none, 0, none, 0, none, 0⟩ (hl.permT [2, 2, 1, 0, 0] rfl)⟩
theorem r4fuse_spec {B w : World} {L : List HP} {g : Nat} {D : Dk} (n : Int) (hS : St B (refA g D :: L) w) : Does Tryd.prog 75 [Value.pointer (some ⟨g, 0, none⟩), Value.int .i64 n] w (fun v w1 => v = .tuple #[] ∧ St B (refA g (fuseD D n) :: L) w1) := by
 obtain ⟨rx, h0⟩ := hS.rf_open
 clear hS
 refine enter (n := 14) Tryd.func75 rfl rfl [Value.pointer (some ⟨g, 0, none⟩), Value.int .i64 n] rfl ?_
 refine WP.seq ?_
 refine WP.region rfl ?_
 refine WO.val (run_move rfl) rfl rfl rfl ?_
 refine WO.val (run_nilCheck rfl) rfl rfl rfl ?_
 refine WO.val (run_fieldAddr (q := ⟨g, 5, none⟩) (show fieldB Tryd.prog 71 5 = some 5 from by kernel_rfl) rfl rfl) rfl rfl rfl ?_
 refine WO.val (run_load Ty.ag4 rfl ((h0.cel_at 0 rfl 5).trans rfl)) rfl rfl rfl ?_
 refine WO.val (run_not rfl rfl) rfl rfl rfl ?_
 refine WO.nil ?_
 refine NX.go ?_
 refine WP.condB rfl (fun g8 => ?_) (fun g8 => ?_)
 ·
  refine WP.region rfl ?_
  refine WO.val (run_move rfl) rfl rfl rfl ?_
  refine WO.val (run_move rfl) rfl rfl rfl ?_
  refine WO.val (run_max rfl rfl) rfl rfl rfl ?_
  refine WO.val (run_nilCheck rfl) rfl rfl rfl ?_
  refine WO.val (run_fieldAddr (q := ⟨g, 6, none⟩) (show fieldB Tryd.prog 71 6 = some 6 from by kernel_rfl) rfl rfl) rfl rfl rfl ?_
  refine WO.store (l' := [Value.int .i64 D.room, Value.slice rx.fa D.f.length rx.fc, Value.slice rx.na D.nm.length rx.nc, Value.slice rx.la D.last.length rx.lc, Value.slice rx.ca D.ch.length rx.cc, Value.bool D.dead, Value.int .i64 (if n > -1 then n else -1)]) 0 h0 rfl Ty.sz3 rfl rfl rfl rfl rfl (Nat.le_of_ble_eq_true rfl) rfl (fun w1 (hS1 : St B (cel g [Value.int .i64 D.room, Value.slice rx.fa D.f.length rx.fc, Value.slice rx.na D.nm.length rx.nc, Value.slice rx.la D.last.length rx.lc, Value.slice rx.ca D.ch.length rx.cc, Value.bool D.dead, Value.int .i64 (if n > -1 then n else -1)] 71 :: own rx.fa D.f.length rx.fc 119 2 (D.f.flatMap fcl) :: ro rx.na D.nm.length 121 2 (D.nm.flatMap fcl) :: ro rx.la D.last.length 121 2 (D.last.flatMap fcl) :: own rx.ca D.ch.length rx.cc 146 3 (D.ch.flatMap ccl) :: L) w1) => ?_)
  clear h0
  refine WO.nil ?_
  refine NX.ended (l := []) rfl rfl ?_
  have e : fuseD D n = { D with left := if -1 > n then -1 else n } := by unfold fuseD; rw [if_neg (by simpa using g8)]
  rw [e]
  have e2 : (if n > -1 then n else -1) = (if -1 > n then -1 else n) := by split <;> split <;> omega
  rw [e2] at hS1
  exact ⟨rfl, St.rf_shut (D := { D with left := if -1 > n then -1 else n }) rx hS1⟩
 ·
  refine WP.skip ?_
  refine NX.ended (l := []) rfl rfl ?_
  have e : fuseD D n = D := by unfold fuseD; rw [if_pos (by simpa using g8)]
  rw [e]
  exact ⟨rfl, h0.rf_shut rx⟩
theorem r4kept_spec {B w : World} {L : List HP} {X : HP} {c : Nat} {a : Option Addr} {zs : List Int} (hX : ∀ {L : List HP} {w : World}, St B (X :: L) w → Rd w a zs.length 1 (ri zs)) (i n : Nat) (hi : i ≤ 4611686018427387904) (hn : n ≤ 4611686018427387904) (hS : St B (X :: L) w) : Does Tryd.prog 102 [Value.slice a zs.length c, Value.int .i64 (i : Int), Value.int .i64 (n : Int)] w (fun v w1 => v = .int .i64 ((keptF zs i n : Nat) : Int) ∧ St B (X :: L) w1) := by
 refine enter (n := 21) Tryd.func102 rfl rfl [Value.slice a zs.length c, Value.int .i64 (i : Int), Value.int .i64 (n : Int)] rfl ?_
 refine WP.seq ?_
 refine WP.region rfl ?_
 refine WO.val (run_assign rfl) rfl rfl rfl ?_
 refine WO.nil ?_
 refine NX.go ?_
 refine WP.seq ?_
 refine WP.seq ?_
 refine WP.region rfl ?_
 refine WO.val (run_move rfl) rfl rfl rfl ?_
 refine WO.val (run_move rfl) rfl rfl rfl ?_
 refine WO.val (run_len rfl Tryd.underlying50 rfl) rfl rfl rfl ?_
 refine WO.val (run_geq rfl rfl) rfl rfl rfl ?_
 refine WO.nil ?_
 refine NX.go ?_
 refine WP.condP rfl (fun g10 => ?_) (fun g10 => ?_)
 ·
  refine WP.seq ?_
  refine WP.region rfl ?_
  refine WO.val (run_assign rfl) rfl rfl rfl ?_
  refine WO.nil ?_
  refine NX.go ?_
  refine WP.ret ?_
  refine NX.thenRet ?_
  refine NX.done (l := [.tmp 6]) rfl rfl ?_
  have hz : keptF zs i n = 0 := by unfold keptF; rw [List.getElem?_eq_none (by omega)]
  rw [hz]
  exact ⟨rfl, hS⟩
 ·
  refine WP.skip ?_
  refine NX.go ?_
  refine WP.seq ?_
  refine WP.region rfl ?_
  refine WO.val (run_move rfl) rfl rfl rfl ?_
  refine WO.val (run_move rfl) rfl rfl rfl ?_
  obtain ⟨z, hz⟩ : ∃ z, zs[i]? = some z := ⟨_, List.getElem?_eq_getElem (by omega)⟩
  refine WO.val (run_indexAddr (q := adr a i) Tryd.underlying50 Ty.sz3 rfl rfl (by omega) (by omega) ((hX (hS.focus 0 rfl)).2.1 (by omega)) (by simp)) rfl rfl rfl ?_
  refine WO.val (run_load Ty.ag3 rfl ((hX (hS.focus 0 rfl)).cell (ri_get hz))) rfl rfl rfl ?_
  refine WO.val (run_convI Tryd.underlying44 (by kernel_rfl) rfl (IntKind.wrap_u64 _)) rfl rfl rfl ?_
  refine WO.val (run_move rfl) rfl rfl rfl ?_
  refine WO.val (run_add rfl rfl (IntWalk.i64_in _ (by omega))) rfl rfl rfl ?_
  refine WO.val (run_convI Tryd.underlying44 (by kernel_rfl) rfl (IntWalk.u64_in _ (by omega))) rfl rfl rfl ?_
  refine WO.val (run_rem rfl rfl (by omega) (IntWalk.rem_in _ _ (by omega))) rfl rfl rfl ?_
  refine WO.val (run_convI Tryd.underlying3 (by kernel_rfl) rfl (show IntKind.i64.wrap ((z % 18446744073709551616) % ((n : Int) + 1)) = ((keptF zs i n : Nat) : Int) by unfold keptF; rw [hz]; have h1 := Int.emod_nonneg (z % 18446744073709551616) (show ((n : Int) + 1) ≠ 0 by omega); have h2 := Int.emod_lt_of_pos (z % 18446744073709551616) (show 0 < ((n : Int) + 1) by omega); rw [IntWalk.i64_in _ (by omega)]; simp only []; omega)) rfl rfl rfl ?_
  refine WO.val (run_assign rfl) rfl rfl rfl ?_
  refine WO.nil ?_
  refine NX.go ?_
  refine WP.ret ?_
  refine NX.done (l := [.tmp 6]) rfl rfl ?_
  exact ⟨rfl, hS⟩
end Go.Proofs.YtcehlnpbdffdhaaDoor.SL
