/- A disk: made; its power; its fuse. -/
import Derived.Test.YtcehlnpbdffdhaaDoorDr
namespace Go.Proofs.YtcehlnpbdffdhaaDoor.SL
open Go.RowKit Go.Proofs.YtcehlnpbdffdhaaDoor
open Go.Proofs.YtcehlnpbdffdhaaDoorW.PrintLast (rtab opsOf)
set_option linter.unusedVariables false
set_option linter.unusedSimpArgs false

def wOk (dead : Bool) (left : Int) : Bool := if left = 0 then false else !dead
def wDead (dead : Bool) (left : Int) : Bool := if left = 0 then true else dead
def wLeft (dead : Bool) (left : Int) : Int := if left = 0 then left else if dead = true then left else if -1 > left - 1 then -1 else left - 1
theorem writeD_eq (D : Dk) : writeD D = ({ D with dead := wDead D.dead D.left, left := wLeft D.dead D.left }, wOk D.dead D.left) := by
  obtain ⟨room, f, nm, last, ch, dead, left⟩ := D
  unfold writeD wOk wDead wLeft
  by_cases h : left = 0
  · simp [h]
  · cases dead <;> simp [h]
theorem onWrite_eq (D : Dk) (k : Dk → Dk × Int) : onWrite D k = if wOk D.dead D.left = true then k { D with dead := wDead D.dead D.left, left := wLeft D.dead D.left } else ({ D with dead := wDead D.dead D.left, left := wLeft D.dead D.left }, 11) := by
  unfold onWrite; rw [writeD_eq]
theorem dwrite_spec {B w : World} {L : List HP} {g r1 r2 n cap : Nat} {room left : Int} {a : Option Addr} {dead : Bool} (hl : -1 ≤ left) (hl2 : left ≤ 9223372036854775807) (hS : St B (cel g [Value.int .i64 room, Value.map (some r1), Value.map (some r2), Value.slice a n cap, Value.bool dead, Value.int .i64 left] 103 :: L) w) : Does Tryd.prog 59 [Value.pointer (some ⟨g, 0, none⟩)] w (fun v w1 => v = .bool (wOk dead left) ∧ St B (cel g [Value.int .i64 room, Value.map (some r1), Value.map (some r2), Value.slice a n cap, Value.bool (wDead dead left), Value.int .i64 (wLeft dead left)] 103 :: L) w1) := by
 refine enter (n := 24) Tryd.func59 rfl rfl [Value.pointer (some ⟨g, 0, none⟩)] rfl ?_
 refine WP.seq ?_
 refine WP.region rfl ?_
 refine WO.val (run_assign rfl) rfl rfl rfl ?_
 refine WO.nil ?_
 refine NX.go ?_
 refine WP.seq ?_
 refine WP.seq ?_
 refine WP.region rfl ?_
 refine WO.val (run_move rfl) rfl rfl rfl ?_
 refine WO.val (run_nilCheck rfl) rfl rfl rfl ?_
 refine WO.val (run_fieldAddr (q := ⟨g, 5, none⟩) (show fieldB Tryd.prog 103 5 = some 5 from by kernel_rfl) rfl rfl) rfl rfl rfl ?_
 refine WO.val (run_load Ty.ag3 rfl ((hS.cel_at 0 rfl 5).trans rfl)) rfl rfl rfl ?_
 refine WO.val (run_eql rfl rfl) rfl rfl rfl ?_
 refine WO.nil ?_
 refine NX.go ?_
 refine WP.condP rfl (fun g7 => ?_) (fun g7 => ?_)
 ·
  refine WP.region rfl ?_
  refine WO.val (run_move rfl) rfl rfl rfl ?_
  refine WO.val (run_nilCheck rfl) rfl rfl rfl ?_
  refine WO.val (run_fieldAddr (q := ⟨g, 4, none⟩) (show fieldB Tryd.prog 103 4 = some 4 from by kernel_rfl) rfl rfl) rfl rfl rfl ?_
  refine WO.store (l' := [Value.int .i64 room, Value.map (some r1), Value.map (some r2), Value.slice a n cap, Value.bool true, Value.int .i64 left]) 0 hS rfl Ty.sz4 rfl rfl rfl rfl rfl (Nat.le_of_ble_eq_true rfl) rfl (fun w1 (hS1 : St B (cel g [Value.int .i64 room, Value.map (some r1), Value.map (some r2), Value.slice a n cap, Value.bool true, Value.int .i64 left] 103 :: L) w1) => ?_)
  clear hS
  refine WO.nil ?_
  refine NX.go ?_
  refine WP.seq ?_
  refine WP.seq ?_
  refine WP.region rfl ?_
  refine WO.val (run_move rfl) rfl rfl rfl ?_
  refine WO.val (run_nilCheck rfl) rfl rfl rfl ?_
  refine WO.val (run_fieldAddr (q := ⟨g, 4, none⟩) (show fieldB Tryd.prog 103 4 = some 4 from by kernel_rfl) rfl rfl) rfl rfl rfl ?_
  refine WO.val (run_load Ty.ag4 rfl ((hS1.cel_at 0 rfl 4).trans rfl)) rfl rfl rfl ?_
  refine WO.nil ?_
  refine NX.go ?_
  refine WP.condT rfl rfl ?_
  refine WP.seq ?_
  refine WP.region rfl ?_
  refine WO.val (run_assign rfl) rfl rfl rfl ?_
  refine WO.nil ?_
  refine NX.go ?_
  refine WP.ret ?_
  refine NX.thenRet ?_
  refine NX.done (l := [.tmp 2]) rfl rfl ?_
  have e1 : wOk dead left = false := by unfold wOk; rw [if_pos g7]
  have e2 : wDead dead left = true := by unfold wDead; rw [if_pos g7]
  have e3 : wLeft dead left = left := by unfold wLeft; rw [if_pos g7]
  rw [e1, e2, e3]
  exact ⟨rfl, hS1⟩
 ·
  refine WP.skip ?_
  refine NX.go ?_
  refine WP.seq ?_
  refine WP.seq ?_
  refine WP.region rfl ?_
  refine WO.val (run_move rfl) rfl rfl rfl ?_
  refine WO.val (run_nilCheck rfl) rfl rfl rfl ?_
  refine WO.val (run_fieldAddr (q := ⟨g, 4, none⟩) (show fieldB Tryd.prog 103 4 = some 4 from by kernel_rfl) rfl rfl) rfl rfl rfl ?_
  refine WO.val (run_load Ty.ag4 rfl ((hS.cel_at 0 rfl 4).trans rfl)) rfl rfl rfl ?_
  refine WO.nil ?_
  refine NX.go ?_
  refine WP.condB rfl (fun g14 => ?_) (fun g14 => ?_)
  ·
   refine WP.seq ?_
   refine WP.region rfl ?_
   refine WO.val (run_assign rfl) rfl rfl rfl ?_
   refine WO.nil ?_
   refine NX.go ?_
   refine WP.ret ?_
   refine NX.thenRet ?_
   refine NX.done (l := [.tmp 2]) rfl rfl ?_
   have e1 : wOk dead left = false := by unfold wOk; rw [if_neg g7, g14]; rfl
   have e2 : wDead dead left = dead := by unfold wDead; rw [if_neg g7]
   have e3 : wLeft dead left = left := by unfold wLeft; rw [if_neg g7, if_pos g14]
   rw [e1, e2, e3]
   exact ⟨rfl, hS⟩
  ·
   refine WP.skip ?_
   refine NX.go ?_
   refine WP.seq ?_
   refine WP.region rfl ?_
   refine WO.val (run_move rfl) rfl rfl rfl ?_
   refine WO.val (run_move rfl) rfl rfl rfl ?_
   refine WO.val (run_nilCheck rfl) rfl rfl rfl ?_
   refine WO.val (run_fieldAddr (q := ⟨g, 5, none⟩) (show fieldB Tryd.prog 103 5 = some 5 from by kernel_rfl) rfl rfl) rfl rfl rfl ?_
   refine WO.val (run_load Ty.ag3 rfl ((hS.cel_at 0 rfl 5).trans rfl)) rfl rfl rfl ?_
   refine WO.val (run_sub rfl rfl (IntWalk.i64_in _ (by omega))) rfl rfl rfl ?_
   refine WO.val (run_max rfl rfl) rfl rfl rfl ?_
   refine WO.val (run_nilCheck rfl) rfl rfl rfl ?_
   refine WO.val (run_fieldAddr (q := ⟨g, 5, none⟩) (show fieldB Tryd.prog 103 5 = some 5 from by kernel_rfl) rfl rfl) rfl rfl rfl ?_
   refine WO.store (l' := [Value.int .i64 room, Value.map (some r1), Value.map (some r2), Value.slice a n cap, Value.bool dead, Value.int .i64 (if -1 > left - 1 then -1 else left - 1)]) 0 hS rfl Ty.sz3 rfl rfl rfl rfl rfl (Nat.le_of_ble_eq_true rfl) rfl (fun w2 (hS2 : St B (cel g [Value.int .i64 room, Value.map (some r1), Value.map (some r2), Value.slice a n cap, Value.bool dead, Value.int .i64 (if -1 > left - 1 then -1 else left - 1)] 103 :: L) w2) => ?_)
   clear hS
   refine WO.nil ?_
   refine NX.go ?_
   refine WP.seq ?_
   refine WP.region rfl ?_
   refine WO.val (run_assign rfl) rfl rfl rfl ?_
   refine WO.nil ?_
   refine NX.go ?_
   refine WP.ret ?_
   refine NX.done (l := [.tmp 2]) rfl rfl ?_
   have e1 : wOk dead left = true := by unfold wOk; rw [if_neg g7, g14]; rfl
   have e2 : wDead dead left = dead := by unfold wDead; rw [if_neg g7]
   have e3 : wLeft dead left = if -1 > left - 1 then -1 else left - 1 := by unfold wLeft; rw [if_neg g7, if_neg (by rw [g14]; decide)]
   rw [e1, e2, e3]
   exact ⟨rfl, hS2⟩
theorem dup_spec {B w : World} {L : List HP} {g : Nat} {D : Dk} (hS : St B (dkA g D :: L) w) : Does Tryd.prog 25 [Value.pointer (some ⟨g, 0, none⟩)] w (fun v w1 => v = .bool (!D.dead) ∧ St B (dkA g D :: L) w1) := by
 obtain ⟨dx, ok, h0⟩ := hS.dk_open
 clear hS
 refine enter (n := 8) Tryd.func25 rfl rfl [Value.pointer (some ⟨g, 0, none⟩)] rfl ?_
 refine WP.seq ?_
 refine WP.region rfl ?_
 refine WO.val (run_assign rfl) rfl rfl rfl ?_
 refine WO.nil ?_
 refine NX.go ?_
 refine WP.seq ?_
 refine WP.region rfl ?_
 refine WO.val (run_move rfl) rfl rfl rfl ?_
 refine WO.val (run_nilCheck rfl) rfl rfl rfl ?_
 refine WO.val (run_fieldAddr (q := ⟨g, 4, none⟩) (show fieldB Tryd.prog 103 4 = some 4 from by kernel_rfl) rfl rfl) rfl rfl rfl ?_
 refine WO.val (run_load Ty.ag4 rfl ((h0.cel_at 0 rfl 4).trans rfl)) rfl rfl rfl ?_
 refine WO.val (run_not rfl rfl) rfl rfl rfl ?_
 refine WO.val (run_assign rfl) rfl rfl rfl ?_
 refine WO.nil ?_
 refine NX.go ?_
 refine WP.ret ?_
 refine NX.done (l := [.tmp 2]) rfl rfl ?_
 exact ⟨rfl, h0.dk_shut ok⟩
theorem dfuse_spec {B w : World} {L : List HP} {g : Nat} {D : Dk} (n : Int) (hS : St B (dkA g D :: L) w) : Does Tryd.prog 23 [Value.pointer (some ⟨g, 0, none⟩), Value.int .i64 n] w (fun v w1 => v = .tuple #[] ∧ St B (dkA g (fuseD D n) :: L) w1) := by
 obtain ⟨dx, ok, h0⟩ := hS.dk_open
 clear hS
 refine enter (n := 14) Tryd.func23 rfl rfl [Value.pointer (some ⟨g, 0, none⟩), Value.int .i64 n] rfl ?_
 refine WP.seq ?_
 refine WP.region rfl ?_
 refine WO.val (run_move rfl) rfl rfl rfl ?_
 refine WO.val (run_nilCheck rfl) rfl rfl rfl ?_
 refine WO.val (run_fieldAddr (q := ⟨g, 4, none⟩) (show fieldB Tryd.prog 103 4 = some 4 from by kernel_rfl) rfl rfl) rfl rfl rfl ?_
 refine WO.val (run_load Ty.ag4 rfl ((h0.cel_at 0 rfl 4).trans rfl)) rfl rfl rfl ?_
 refine WO.val (run_not rfl rfl) rfl rfl rfl ?_
 refine WO.nil ?_
 refine NX.go ?_
 refine WP.condB rfl (fun g8 => ?_) (fun g8 => ?_)
 ·
  refine WP.region rfl ?_
  refine WO.val (run_move rfl) rfl rfl rfl ?_
  refine WO.val (run_move rfl) rfl rfl rfl ?_
  refine WO.val (run_max rfl rfl) rfl rfl rfl ?_
  refine WO.val (run_nilCheck rfl) rfl rfl rfl ?_
  refine WO.val (run_fieldAddr (q := ⟨g, 5, none⟩) (show fieldB Tryd.prog 103 5 = some 5 from by kernel_rfl) rfl rfl) rfl rfl rfl ?_
  refine WO.store (l' := [Value.int .i64 D.room, Value.map (some dx.r1), Value.map (some dx.r2), Value.slice dx.a dx.vs.length dx.cap, Value.bool D.dead, Value.int .i64 (if -1 > n then -1 else n)]) 0 h0 rfl Ty.sz3 rfl rfl rfl rfl rfl (Nat.le_of_ble_eq_true rfl) rfl (fun w1 (hS1 : St B (cel g [Value.int .i64 D.room, Value.map (some dx.r1), Value.map (some dx.r2), Value.slice dx.a dx.vs.length dx.cap, Value.bool D.dead, Value.int .i64 (if -1 > n then -1 else n)] 103 :: mpS dx.r1 dx.e1 :: mpS dx.r2 dx.e2 :: own dx.a dx.vs.length dx.cap 108 1 dx.vs :: chsA dx.gs D.ch dx.vs :: filesA dx.gs D.f :: L) w1) => ?_)
  clear h0
  refine WO.nil ?_
  refine NX.ended (l := []) rfl rfl ?_
  have e : fuseD D n = { D with left := if -1 > n then -1 else n } := by unfold fuseD; rw [if_neg (by simpa using g8)]
  rw [e]
  exact ⟨rfl, St.dk_shut (dx := dx) (D := { D with left := if -1 > n then -1 else n }) ⟨ok.g, ok.p1, ok.p2, ok.v⟩ hS1⟩
 ·
  refine WP.skip ?_
  refine NX.ended (l := []) rfl rfl ?_
  have e : fuseD D n = D := by unfold fuseD; rw [if_pos (by simpa using g8)]
  rw [e]
  exact ⟨rfl, h0.dk_shut ok⟩
theorem dnew_spec {B w : World} {L : List HP} (room : Int) (hS : St B L w) : Does Tryd.prog 22 [Value.int .i64 room] w (fun v w1 => ∃ g, v = .pointer (some ⟨g, 0, none⟩) ∧ St B (dkA g (newD room) :: L) w1) := by
 refine enter (n := 8) Tryd.func22 rfl rfl [Value.int .i64 room] rfl ?_
 refine WP.seq ?_
 refine WP.region rfl ?_
 refine WO.val (run_assign rfl) rfl rfl rfl ?_
 refine WO.nil ?_
 refine NX.go ?_
 refine WP.seq ?_
 refine WP.region rfl ?_
 refine WO.val (run_move rfl) rfl rfl rfl ?_
 refine WO.makeMap hS rfl (fun r2 w1 hS1 => ?_)
 clear hS
 refine WO.makeMap hS1 rfl (fun r4 w3 hS3 => ?_)
 clear hS1
 refine WO.val (run_build (v := Value.agg #[Value.int .i64 room, Value.map (some r2), Value.map (some r4), Value.slice none 0 0, Value.bool false, Value.int .i64 (-1)]) rfl (fun w => by kernel_rfl)) rfl rfl rfl ?_
 refine WO.box (l := [Value.int .i64 room, Value.map (some r2), Value.map (some r4), Value.slice none 0 0, Value.bool false, Value.int .i64 (-1)]) hS3 rfl rfl rfl (fun g6 w5 lg6 hS5 => ?_)
 clear hS3
 refine WO.val (run_assign rfl) rfl rfl rfl ?_
 refine WO.nil ?_
 refine NX.go ?_
 refine WP.ret ?_
 refine NX.done (l := [.tmp 2]) rfl rfl ?_
 have hk := ((hS5.addPure (p := True) trivial).permT [1, 2, 1, 0] (L' := cel g6 [Value.int .i64 room, Value.map (some r2), Value.map (some r4), Value.slice none 0 0, Value.bool false, Value.int .i64 (-1)] 103 :: mpS r2 [] :: mpS r4 [] :: .pure True :: L) rfl)
 have hk2 := ((hk.permT [3, 0, 0, 0] (L' := .pure True :: cel g6 [Value.int .i64 room, Value.map (some r2), Value.map (some r4), Value.slice none 0 0, Value.bool false, Value.int .i64 (-1)] 103 :: mpS r2 [] :: mpS r4 [] :: L) rfl).addPure (p := True) trivial).own_nil 108 1
 exact ⟨g6, rfl, St.dk_shut (dx := ⟨[], r2, [], r4, [], none, 0, []⟩) ⟨rfl, List.Perm.refl _, List.Perm.refl _, rfl⟩ (hk2.permT [3, 3, 3, 0, 0, 0] rfl)⟩
end Go.Proofs.YtcehlnpbdffdhaaDoor.SL
