/- A disk: its names; what lasts. -/
import Derived.Test.YtcehlnpbdffdhaaDoorDr3
namespace Go.Proofs.YtcehlnpbdffdhaaDoor.SL
open Go.RowKit Go.Proofs.YtcehlnpbdffdhaaDoor
open Go.Proofs.YtcehlnpbdffdhaaDoorW.PrintLast (rtab opsOf)
set_option linter.unusedVariables false
set_option linter.unusedSimpArgs false

def fdP (dead : Bool) (left : Int) (p : Option Addr) : Option Addr := if wOk dead left = true then p else none
def fdE (dead : Bool) (left : Int) (p : Option Addr) : Int := if wOk dead left = true then (if p.isNone = true then 12 else 0) else 11
theorem dfind_spec {B w : World} {L : List HP} {g r1 r2 n cap : Nat} {room left : Int} {a : Option Addr} {dead : Bool} {es : List (List UInt8 × Value)} {p : Option Addr} (hl : -1 ≤ left) (hl2 : left ≤ 9223372036854775807) (k : List UInt8) (hp : (getS es k).getD (.pointer none) = .pointer p) (hS : St B (cel g [Value.int .i64 room, Value.map (some r1), Value.map (some r2), Value.slice a n cap, Value.bool dead, Value.int .i64 left] 103 :: mpS r1 es :: L) w) : Does Tryd.prog 67 [Value.pointer (some ⟨g, 0, none⟩), str k] w (fun v w1 => v = .tuple #[.pointer (fdP dead left p), .int .i64 (fdE dead left p)] ∧ St B (cel g [Value.int .i64 room, Value.map (some r1), Value.map (some r2), Value.slice a n cap, Value.bool (wDead dead left), Value.int .i64 (wLeft dead left)] 103 :: mpS r1 es :: L) w1) := by
 refine enter (n := 19) Tryd.func67 rfl rfl [Value.pointer (some ⟨g, 0, none⟩), str k] rfl ?_
 refine WP.seq ?_
 refine WP.region rfl ?_
 refine WO.val (run_assign rfl) rfl rfl rfl ?_
 refine WO.val (run_assign rfl) rfl rfl rfl ?_
 refine WO.nil ?_
 refine NX.go ?_
 refine WP.seq ?_
 refine WP.seq ?_
 refine WP.region rfl ?_
 refine WO.val (run_move rfl) rfl rfl rfl ?_
 refine WO.call rfl rfl Ty.hd59 rfl (dwrite_spec hl hl2 hS) (fun v2 w1 pv2 => ?_)
 obtain ⟨rfl, hS1⟩ := pv2
 clear hS
 refine WO.val (run_not rfl rfl) rfl rfl rfl ?_
 refine WO.nil ?_
 refine NX.go ?_
 refine WP.condB rfl (fun g9 => ?_) (fun g9 => ?_)
 ·
  refine WP.seq ?_
  refine WP.region rfl ?_
  refine WO.val (run_assign rfl) rfl rfl rfl ?_
  refine WO.val (run_assign rfl) rfl rfl rfl ?_
  refine WO.nil ?_
  refine NX.go ?_
  refine WP.ret ?_
  refine NX.thenRet ?_
  refine NX.done (l := [.tmp 4, .tmp 5]) rfl rfl ?_
  have e1 : fdP dead left p = none := by unfold fdP; rw [if_neg (by simpa using g9)]
  have e2 : fdE dead left p = 11 := by unfold fdE; rw [if_neg (by simpa using g9)]
  rw [e1, e2]
  exact ⟨rfl, hS1⟩
 ·
  refine WP.skip ?_
  refine NX.go ?_
  refine WP.seq ?_
  refine WP.region rfl ?_
  refine WO.val (run_move rfl) rfl rfl rfl ?_
  refine WO.val (run_nilCheck rfl) rfl rfl rfl ?_
  refine WO.val (run_fieldAddr (q := ⟨g, 1, none⟩) (show fieldB Tryd.prog 103 1 = some 1 from by kernel_rfl) rfl rfl) rfl rfl rfl ?_
  refine WO.val (run_load Ty.ag100 rfl ((hS1.cel_at 0 rfl 1).trans rfl)) rfl rfl rfl ?_
  refine WO.val (run_move rfl) rfl rfl rfl ?_
  refine WO.val (run_lookupS 1 hS1 rfl Tryd.underlying100 Tryd.underlying9 Ty.zr104 rfl rfl hp) rfl rfl rfl ?_
  refine WO.val (run_assign rfl) rfl rfl rfl ?_
  refine WO.nil ?_
  refine NX.go ?_
  refine WP.seq ?_
  refine WP.seq ?_
  refine WP.region rfl ?_
  refine WO.val (run_move rfl) rfl rfl rfl ?_
  refine WO.val (run_eqlNilP Tryd.underlying104 rfl rfl) rfl rfl rfl ?_
  refine WO.nil ?_
  refine NX.go ?_
  refine WP.condB rfl (fun g17 => ?_) (fun g17 => ?_)
  ·
   refine WP.seq ?_
   refine WP.region rfl ?_
   refine WO.val (run_assign rfl) rfl rfl rfl ?_
   refine WO.val (run_assign rfl) rfl rfl rfl ?_
   refine WO.nil ?_
   refine NX.go ?_
   refine WP.ret ?_
   refine NX.thenRet ?_
   refine NX.done (l := [.tmp 4, .tmp 5]) rfl rfl ?_
   have e1 : fdP dead left p = none := by unfold fdP; rw [if_pos (by simpa using g9)]; cases p with | none => rfl | some a => cases g17
   have e2 : fdE dead left p = 12 := by unfold fdE; rw [if_pos (by simpa using g9), if_pos g17]
   rw [e1, e2]
   exact ⟨rfl, hS1⟩
  ·
   refine WP.skip ?_
   refine NX.go ?_
   refine WP.seq ?_
   refine WP.region rfl ?_
   refine WO.val (run_move rfl) rfl rfl rfl ?_
   refine WO.val (run_assign rfl) rfl rfl rfl ?_
   refine WO.val (run_assign rfl) rfl rfl rfl ?_
   refine WO.nil ?_
   refine NX.go ?_
   refine WP.ret ?_
   refine NX.done (l := [.tmp 4, .tmp 5]) rfl rfl ?_
   have e1 : fdP dead left p = p := by unfold fdP; rw [if_pos (by simpa using g9)]
   have e2 : fdE dead left p = 0 := by unfold fdE; rw [if_pos (by simpa using g9), if_neg (by rw [g17]; decide)]
   rw [e1, e2]
   exact ⟨rfl, hS1⟩

theorem fd_ok {gs : List Nat} {D : Dk} {k : List UInt8} (h : fdE D.dead D.left (findP gs k D.nm) = 0) : wOk D.dead D.left = true ∧ ∃ i, findN k D.nm = some i := by
  unfold fdE at h
  split at h
  · rename_i h1
    split at h
    · cases h
    · rename_i h2; exact ⟨h1, findP_some (Bool.eq_false_iff.2 h2)⟩
  · cases h
theorem fd_err {gs : List Nat} {D : Dk} {k : List UInt8} (h : ¬ fdE D.dead D.left (findP gs k D.nm) = 0) : (wOk D.dead D.left = true ∧ findN k D.nm = none ∧ fdE D.dead D.left (findP gs k D.nm) = 12) ∨ (wOk D.dead D.left = false ∧ fdE D.dead D.left (findP gs k D.nm) = 11) := by
  unfold fdE at h ⊢
  split
  · rename_i h1
    rw [if_pos h1] at h
    split
    · rename_i h2; exact .inl ⟨h1, findP_none h2, rfl⟩
    · rename_i h2; rw [if_neg h2] at h; exact absurd rfl h
  · rename_i h1; exact .inr ⟨by simpa using h1, rfl⟩
theorem fdP_eq {gs : List Nat} {D : Dk} {k : List UInt8} {i q : Nat} (h : wOk D.dead D.left = true) (hi : findN k D.nm = some i) (hq : q = gs.getD i 0) : Value.pointer (fdP D.dead D.left (findP gs k D.nm)) = .pointer (some ⟨q, 0, none⟩) := by
  unfold fdP; rw [if_pos h]; exact findP_eq hi hq
theorem WFD.w {D : Dk} (h : WFD D) : WFD { D with dead := wDead D.dead D.left, left := wLeft D.dead D.left } := by
  refine ⟨h.nm, h.few, h.last, h.ch, h.lasts, ?_, h.neg, h.rng, ?_⟩
  · show -1 ≤ wLeft D.dead D.left
    have := h.left
    unfold wLeft; split
    · exact this
    · split
      · exact this
      · split <;> omega
  · show wLeft D.dead D.left ≤ _
    have := h.lrng
    unfold wLeft; split
    · exact this
    · split
      · exact this
      · split <;> omega
theorem dsync_spec {B w : World} {L : List HP} {g : Nat} {D : Dk} (hw : WFD D) (k : List UInt8) (hS : St B (dkA g D :: L) w) : Does Tryd.prog 28 [Value.pointer (some ⟨g, 0, none⟩), str k] w (fun v w1 => v = .int .i64 (syncD D k).2 ∧ St B (dkA g (syncD D k).1 :: L) w1) := by
 obtain ⟨dx, ok, h0⟩ := hS.dk_open
 clear hS
 refine enter (n := 24) Tryd.func28 rfl rfl [Value.pointer (some ⟨g, 0, none⟩), str k] rfl ?_
 refine WP.seq ?_
 refine WP.region rfl ?_
 refine WO.val (run_assign rfl) rfl rfl rfl ?_
 refine WO.nil ?_
 refine NX.go ?_
 refine WP.seq ?_
 refine WP.region rfl ?_
 refine WO.val (run_move rfl) rfl rfl rfl ?_
 refine WO.val (run_move rfl) rfl rfl rfl ?_
 refine WO.call rfl rfl Ty.hd67 rfl (dfind_spec hw.left hw.lrng k (look_ok ok hw _) h0) (fun v2 w1 pv2 => ?_)
 obtain ⟨rfl, hS1⟩ := pv2
 clear h0
 refine WO.val (run_move rfl) rfl rfl rfl ?_
 refine WO.val (run_extract rfl rfl) rfl rfl rfl ?_
 refine WO.val (run_extract rfl rfl) rfl rfl rfl ?_
 refine WO.val (run_assign rfl) rfl rfl rfl ?_
 refine WO.val (run_assign rfl) rfl rfl rfl ?_
 refine WO.nil ?_
 refine NX.go ?_
 refine WP.seq ?_
 refine WP.seq ?_
 refine WP.region rfl ?_
 refine WO.val (run_move rfl) rfl rfl rfl ?_
 refine WO.val (run_eql rfl rfl) rfl rfl rfl ?_
 refine WO.nil ?_
 refine NX.go ?_
 refine WP.condP rfl (fun g14 => ?_) (fun g14 => ?_)
 ·
  obtain ⟨hok, i, hi⟩ := fd_ok g14
  obtain ⟨q, hq⟩ : ∃ q, q = dx.gs.getD i 0 := ⟨_, rfl⟩
  have hlt := hw.find hi
  have hS3 : St B (cel q [str ((fileAt D.f i).1), Value.int .i64 ((fileAt D.f i).2 : Int)] 106 :: filesBut i dx.gs D.f :: cel g [Value.int .i64 D.room, Value.map (some dx.r1), Value.map (some dx.r2), Value.slice dx.a dx.vs.length dx.cap, Value.bool (wDead D.dead D.left), Value.int .i64 (wLeft D.dead D.left)] 103 :: mpS dx.r1 dx.e1 :: mpS dx.r2 dx.e2 :: own dx.a dx.vs.length dx.cap 108 1 dx.vs :: chsA dx.gs D.ch dx.vs :: L) w1 := by have z := filesA_pick hlt.1 (hS1.permT [5, 0, 0, 0, 0, 0] (L' := filesA dx.gs D.f :: cel g [Value.int .i64 D.room, Value.map (some dx.r1), Value.map (some dx.r2), Value.slice dx.a dx.vs.length dx.cap, Value.bool (wDead D.dead D.left), Value.int .i64 (wLeft D.dead D.left)] 103 :: mpS dx.r1 dx.e1 :: mpS dx.r2 dx.e2 :: own dx.a dx.vs.length dx.cap 108 1 dx.vs :: chsA dx.gs D.ch dx.vs :: L) rfl); rw [← hq] at z; exact z
  clear hS1
  refine WP.as (d := 5) (v := Value.pointer (some ⟨q, 0, none⟩)) rfl (fdP_eq hok hi hq) ?_
  refine WP.region rfl ?_
  refine WO.val (run_move rfl) rfl rfl rfl ?_
  refine WO.val (run_move rfl) rfl rfl rfl ?_
  refine WO.val (run_nilCheck rfl) rfl rfl rfl ?_
  refine WO.val (run_fieldAddr (q := ⟨q, 0, none⟩) (show fieldB Tryd.prog 106 0 = some 0 from by kernel_rfl) rfl rfl) rfl rfl rfl ?_
  refine WO.val (run_load Ty.ag9 rfl ((hS3.cel_at 0 rfl 0).trans rfl)) rfl rfl rfl ?_
  refine WO.val (run_lenS rfl Tryd.underlying9 rfl) rfl rfl rfl ?_
  refine WO.val (run_nilCheck rfl) rfl rfl rfl ?_
  refine WO.val (run_fieldAddr (q := ⟨q, 1, none⟩) (show fieldB Tryd.prog 106 1 = some 1 from by kernel_rfl) rfl rfl) rfl rfl rfl ?_
  refine WO.store (l' := [str ((fileAt D.f i).1), Value.int .i64 (((fileAt D.f i).1).length : Int)]) 0 hS3 rfl Ty.sz3 rfl rfl rfl rfl rfl (Nat.le_of_ble_eq_true rfl) rfl (fun w4 (hS4 : St B (cel q [str ((fileAt D.f i).1), Value.int .i64 (((fileAt D.f i).1).length : Int)] 106 :: filesBut i dx.gs D.f :: cel g [Value.int .i64 D.room, Value.map (some dx.r1), Value.map (some dx.r2), Value.slice dx.a dx.vs.length dx.cap, Value.bool (wDead D.dead D.left), Value.int .i64 (wLeft D.dead D.left)] 103 :: mpS dx.r1 dx.e1 :: mpS dx.r2 dx.e2 :: own dx.a dx.vs.length dx.cap 108 1 dx.vs :: chsA dx.gs D.ch dx.vs :: L) w4) => ?_)
  clear hS3
  refine WO.nil ?_
  refine NX.go ?_
  refine WP.seq ?_
  refine WP.region rfl ?_
  refine WO.val (run_move rfl) rfl rfl rfl ?_
  refine WO.val (run_assign rfl) rfl rfl rfl ?_
  refine WO.nil ?_
  refine NX.go ?_
  refine WP.ret ?_
  have hS5 : St B (filesA dx.gs (D.f.set i ((fileAt D.f i).1, (fileAt D.f i).1.length)) :: cel g [Value.int .i64 D.room, Value.map (some dx.r1), Value.map (some dx.r2), Value.slice dx.a dx.vs.length dx.cap, Value.bool (wDead D.dead D.left), Value.int .i64 (wLeft D.dead D.left)] 103 :: mpS dx.r1 dx.e1 :: mpS dx.r2 dx.e2 :: own dx.a dx.vs.length dx.cap 108 1 dx.vs :: chsA dx.gs D.ch dx.vs :: L) w4 := filesA_back (y := ((fileAt D.f i).1, (fileAt D.f i).1.length)) (by rw [← hq]; exact hS4)
  refine NX.done (l := [.tmp 4]) rfl rfl ?_
  have e : syncD D k = ({ D with dead := wDead D.dead D.left, left := wLeft D.dead D.left, f := (D.f.set i ((fileAt D.f i).1, (fileAt D.f i).1.length)) }, 0) := by unfold syncD; rw [onWrite_eq, if_pos hok]; show sync1 _ k = _; unfold sync1; rw [show findN k (Dk.nm { D with dead := wDead D.dead D.left, left := wLeft D.dead D.left }) = some i from hi]
  rw [e, g14]
  exact ⟨rfl, St.dk_shut (D := { D with dead := wDead D.dead D.left, left := wLeft D.dead D.left, f := (D.f.set i ((fileAt D.f i).1, (fileAt D.f i).1.length)) }) ⟨by show dx.gs.length = (D.f.set i ((fileAt D.f i).1, (fileAt D.f i).1.length)).length; rw [List.length_set]; exact ok.g, ok.p1, ok.p2, ok.v⟩ ((hS5.permT [1, 1, 1, 1, 1, 0] (L' := cel g [Value.int .i64 D.room, Value.map (some dx.r1), Value.map (some dx.r2), Value.slice dx.a dx.vs.length dx.cap, Value.bool (wDead D.dead D.left), Value.int .i64 (wLeft D.dead D.left)] 103 :: mpS dx.r1 dx.e1 :: mpS dx.r2 dx.e2 :: own dx.a dx.vs.length dx.cap 108 1 dx.vs :: chsA dx.gs D.ch dx.vs :: filesA dx.gs (D.f.set i ((fileAt D.f i).1, (fileAt D.f i).1.length)) :: L) rfl))⟩
 ·
  refine WP.skip ?_
  refine NX.go ?_
  refine WP.seq ?_
  refine WP.region rfl ?_
  refine WO.val (run_move rfl) rfl rfl rfl ?_
  refine WO.val (run_assign rfl) rfl rfl rfl ?_
  refine WO.nil ?_
  refine NX.go ?_
  refine WP.ret ?_
  refine NX.done (l := [.tmp 4]) rfl rfl ?_
  rcases fd_err g14 with ⟨h1, h2, h3⟩ | ⟨h1, h3⟩
  · have e : syncD D k = ({ D with dead := wDead D.dead D.left, left := wLeft D.dead D.left }, 12) := (by unfold syncD; rw [onWrite_eq, if_pos h1]; show sync1 _ k = _; unfold sync1; rw [show findN k (Dk.nm { D with dead := wDead D.dead D.left, left := wLeft D.dead D.left }) = none from h2]); rw [e, h3]; exact ⟨rfl, St.dk_shut (D := { D with dead := wDead D.dead D.left, left := wLeft D.dead D.left }) (show OkX dx { D with dead := wDead D.dead D.left, left := wLeft D.dead D.left } from ⟨ok.g, ok.p1, ok.p2, ok.v⟩) (hS1)⟩
  · have e : syncD D k = ({ D with dead := wDead D.dead D.left, left := wLeft D.dead D.left }, 11) := (by unfold syncD; rw [onWrite_eq, if_neg (by rw [h1]; decide)]); rw [e, h3]; exact ⟨rfl, St.dk_shut (D := { D with dead := wDead D.dead D.left, left := wLeft D.dead D.left }) (show OkX dx { D with dead := wDead D.dead D.left, left := wLeft D.dead D.left } from ⟨ok.g, ok.p1, ok.p2, ok.v⟩) (hS1)⟩
theorem dsyncNames_spec {B w : World} {L : List HP} {g : Nat} {D : Dk} (hw : WFD D) (hS : St B (dkA g D :: L) w) : Does Tryd.prog 29 [Value.pointer (some ⟨g, 0, none⟩)] w (fun v w1 => v = .int .i64 (syncNamesD D).2 ∧ St B (dkA g (syncNamesD D).1 :: L) w1) := by
 obtain ⟨dx, ok, h0⟩ := hS.dk_open
 clear hS
 refine enter (n := 17) Tryd.func29 rfl rfl [Value.pointer (some ⟨g, 0, none⟩)] rfl ?_
 refine WP.seq ?_
 refine WP.region rfl ?_
 refine WO.val (run_assign rfl) rfl rfl rfl ?_
 refine WO.nil ?_
 refine NX.go ?_
 refine WP.seq ?_
 refine WP.seq ?_
 refine WP.region rfl ?_
 refine WO.val (run_move rfl) rfl rfl rfl ?_
 refine WO.call rfl rfl Ty.hd59 rfl (dwrite_spec hw.left hw.lrng h0) (fun v2 w1 pv2 => ?_)
 obtain ⟨rfl, hS1⟩ := pv2
 clear h0
 refine WO.val (run_not rfl rfl) rfl rfl rfl ?_
 refine WO.nil ?_
 refine NX.go ?_
 refine WP.condB rfl (fun g5 => ?_) (fun g5 => ?_)
 ·
  refine WP.seq ?_
  refine WP.region rfl ?_
  refine WO.val (run_assign rfl) rfl rfl rfl ?_
  refine WO.nil ?_
  refine NX.go ?_
  refine WP.ret ?_
  refine NX.thenRet ?_
  refine NX.done (l := [.tmp 2]) rfl rfl ?_
  have e : syncNamesD D = ({ D with dead := wDead D.dead D.left, left := wLeft D.dead D.left }, 11) := by unfold syncNamesD; rw [onWrite_eq, if_neg (by simpa using g5)]
  rw [e]
  exact ⟨rfl, St.dk_shut (D := { D with dead := wDead D.dead D.left, left := wLeft D.dead D.left }) (show OkX dx { D with dead := wDead D.dead D.left, left := wLeft D.dead D.left } from ⟨ok.g, ok.p1, ok.p2, ok.v⟩) (hS1)⟩
 ·
  refine WP.skip ?_
  refine NX.go ?_
  refine WP.seq ?_
  refine WP.region rfl ?_
  refine WO.val (run_move rfl) rfl rfl rfl ?_
  refine WO.val (run_move rfl) rfl rfl rfl ?_
  refine WO.val (run_move rfl) rfl rfl rfl ?_
  refine WO.val (run_nilCheck rfl) rfl rfl rfl ?_
  refine WO.val (run_fieldAddr (q := ⟨g, 1, none⟩) (show fieldB Tryd.prog 103 1 = some 1 from by kernel_rfl) rfl rfl) rfl rfl rfl ?_
  refine WO.val (run_load Ty.ag100 rfl ((hS1.cel_at 0 rfl 1).trans rfl)) rfl rfl rfl ?_
  have hS3 := hS1.permT [1, 0, 0, 0, 0, 0] (L' := mpS dx.r1 dx.e1 :: cel g [Value.int .i64 D.room, Value.map (some dx.r1), Value.map (some dx.r2), Value.slice dx.a dx.vs.length dx.cap, Value.bool (wDead D.dead D.left), Value.int .i64 (wLeft D.dead D.left)] 103 :: mpS dx.r2 dx.e2 :: own dx.a dx.vs.length dx.cap 108 1 dx.vs :: chsA dx.gs D.ch dx.vs :: filesA dx.gs D.f :: L) rfl
  clear hS1
  refine WO.call rfl rfl Ty.hd66 rfl (clone66_spec hS3) (fun v5 w4 pv5 => ?_)
  obtain ⟨r3, rfl, hS4⟩ := pv5
  clear hS3
  refine WO.val (run_nilCheck rfl) rfl rfl rfl ?_
  refine WO.val (run_fieldAddr (q := ⟨g, 2, none⟩) (show fieldB Tryd.prog 103 2 = some 2 from by kernel_rfl) rfl rfl) rfl rfl rfl ?_
  refine WO.store (l' := [Value.int .i64 D.room, Value.map (some dx.r1), Value.map (some r3), Value.slice dx.a dx.vs.length dx.cap, Value.bool (wDead D.dead D.left), Value.int .i64 (wLeft D.dead D.left)]) 2 hS4 rfl Ty.sz100 rfl rfl rfl rfl rfl (Nat.le_of_ble_eq_true rfl) rfl (fun w6 (hS6 : St B (mpS r3 dx.e1 :: mpS dx.r1 dx.e1 :: cel g [Value.int .i64 D.room, Value.map (some dx.r1), Value.map (some r3), Value.slice dx.a dx.vs.length dx.cap, Value.bool (wDead D.dead D.left), Value.int .i64 (wLeft D.dead D.left)] 103 :: mpS dx.r2 dx.e2 :: own dx.a dx.vs.length dx.cap 108 1 dx.vs :: chsA dx.gs D.ch dx.vs :: filesA dx.gs D.f :: L) w6) => ?_)
  clear hS4
  refine WO.val (run_nilCheck rfl) rfl rfl rfl ?_
  refine WO.val (run_fieldAddr (q := ⟨g, 3, none⟩) (show fieldB Tryd.prog 103 3 = some 3 from by kernel_rfl) rfl rfl) rfl rfl rfl ?_
  refine WO.store (l' := [Value.int .i64 D.room, Value.map (some dx.r1), Value.map (some r3), Value.slice none 0 0, Value.bool (wDead D.dead D.left), Value.int .i64 (wLeft D.dead D.left)]) 2 hS6 rfl Ty.sz101 rfl rfl rfl rfl rfl (Nat.le_of_ble_eq_true rfl) rfl (fun w7 (hS7 : St B (mpS r3 dx.e1 :: mpS dx.r1 dx.e1 :: cel g [Value.int .i64 D.room, Value.map (some dx.r1), Value.map (some r3), Value.slice none 0 0, Value.bool (wDead D.dead D.left), Value.int .i64 (wLeft D.dead D.left)] 103 :: mpS dx.r2 dx.e2 :: own dx.a dx.vs.length dx.cap 108 1 dx.vs :: chsA dx.gs D.ch dx.vs :: filesA dx.gs D.f :: L) w7) => ?_)
  clear hS6
  refine WO.nil ?_
  refine NX.go ?_
  refine WP.seq ?_
  refine WP.region rfl ?_
  refine WO.val (run_assign rfl) rfl rfl rfl ?_
  refine WO.nil ?_
  refine NX.go ?_
  refine WP.ret ?_
  have hn1 := (hS7.addPure (p := True) trivial).own_nil 108 1
  refine NX.done (l := [.tmp 2]) rfl rfl ?_
  have e : syncNamesD D = ({ D with dead := wDead D.dead D.left, left := wLeft D.dead D.left, last := D.nm, ch := [] }, 0) := by unfold syncNamesD; rw [onWrite_eq, if_pos (by simpa using g5)]; rfl
  rw [e]
  exact ⟨rfl, St.dk_shut (dx := ⟨dx.gs, dx.r1, dx.e1, r3, dx.e1, none, 0, []⟩) (D := { D with dead := wDead D.dead D.left, left := wLeft D.dead D.left, last := D.nm, ch := [] }) ⟨ok.g, ok.p1, ok.p1, rfl⟩ ((hn1.permT [5, 5, 5, 4, 3, 2, 0, 0, 0] (L' := mpS dx.r2 dx.e2 :: own dx.a dx.vs.length dx.cap 108 1 dx.vs :: chsA dx.gs D.ch dx.vs :: cel g [Value.int .i64 D.room, Value.map (some dx.r1), Value.map (some r3), Value.slice none 0 0, Value.bool (wDead D.dead D.left), Value.int .i64 (wLeft D.dead D.left)] 103 :: mpS dx.r1 dx.e1 :: mpS r3 dx.e1 :: own none 0 0 108 1 [] :: .pure True :: filesA dx.gs D.f :: L) rfl).drop.drop.drop)⟩

theorem names_perm {dx : DkX} {D : Dk} (ok : OkX dx D) : (dx.e1.map (·.1)).Perm (D.nm.map (·.1)) := by have := ok.p1.map (·.1); rw [esOf_keys] at this; exact this
theorem names_sorted {D : Dk} (hw : WFD D) : (D.nm.map (·.1)).Pairwise (fun a b => strLt a b = true) := List.pairwise_map.2 hw.good.s
theorem names_nodup {dx : DkX} {D : Dk} (ok : OkX dx D) (hw : WFD D) : (dx.e1.map (·.1)).Nodup := (names_perm ok).nodup_iff.2 hw.good.s.nodup
theorem names_len {dx : DkX} {D : Dk} (ok : OkX dx D) (hw : WFD D) : ∀ p ∈ dx.e1, p.1.length ≤ 4294967296 := fun p hp => by
  have h := (names_perm ok).mem_iff.1 (List.mem_map_of_mem hp)
  obtain ⟨e, he, h2⟩ := List.mem_map.1 h
  have := fileF_len (hw.good.f e he).1
  rw [h2] at this; omega
theorem names_few {dx : DkX} {D : Dk} (ok : OkX dx D) (hw : WFD D) : dx.e1.length ≤ 4294967296 := by
  have := (names_perm ok).length_eq
  rw [List.length_map, List.length_map] at this
  have := hw.nm64; omega
theorem dnames_spec {B w : World} {L : List HP} {g : Nat} {D : Dk} (hw : WFD D) (hS : St B (dkA g D :: L) w) : Does Tryd.prog 36 [Value.pointer (some ⟨g, 0, none⟩)] w (fun v w1 => ∃ a c, v = .slice a (namesD D).length c ∧ St B (own a (namesD D).length c 9 1 ((namesD D).map str) :: dkA g D :: L) w1) := by
 obtain ⟨dx, ok, h0⟩ := hS.dk_open
 clear hS
 refine enter (n := 13) Tryd.func36 rfl rfl [Value.pointer (some ⟨g, 0, none⟩)] rfl ?_
 refine WP.seq ?_
 refine WP.region rfl ?_
 refine WO.val (run_assign rfl) rfl rfl rfl ?_
 refine WO.nil ?_
 refine NX.go ?_
 refine WP.seq ?_
 refine WP.seq ?_
 refine WP.region rfl ?_
 refine WO.val (run_move rfl) rfl rfl rfl ?_
 refine WO.val (run_nilCheck rfl) rfl rfl rfl ?_
 refine WO.val (run_fieldAddr (q := ⟨g, 4, none⟩) (show fieldB Tryd.prog 103 4 = some 4 from by kernel_rfl) rfl rfl) rfl rfl rfl ?_
 refine WO.val (run_load Ty.ag4 rfl ((h0.cel_at 0 rfl 4).trans rfl)) rfl rfl rfl ?_
 refine WO.nil ?_
 refine NX.go ?_
 refine WP.condB rfl (fun g6 => ?_) (fun g6 => ?_)
 ·
  refine WP.seq ?_
  refine WP.region rfl ?_
  refine WO.val (run_assign rfl) rfl rfl rfl ?_
  refine WO.nil ?_
  refine NX.go ?_
  refine WP.ret ?_
  refine NX.thenRet ?_
  refine NX.done (l := [.tmp 2]) rfl rfl ?_
  have e : namesD D = [] := by unfold namesD; rw [if_pos g6]
  rw [e]
  exact ⟨none, 0, rfl, St.own_nil 9 1 (h0.dk_shut ok)⟩
 ·
  refine WP.skip ?_
  refine NX.go ?_
  refine WP.seq ?_
  refine WP.region rfl ?_
  refine WO.val (run_move rfl) rfl rfl rfl ?_
  refine WO.val (run_nilCheck rfl) rfl rfl rfl ?_
  refine WO.val (run_fieldAddr (q := ⟨g, 1, none⟩) (show fieldB Tryd.prog 103 1 = some 1 from by kernel_rfl) rfl rfl) rfl rfl rfl ?_
  refine WO.val (run_load Ty.ag100 rfl ((h0.cel_at 0 rfl 1).trans rfl)) rfl rfl rfl ?_
  refine WO.call rfl rfl Ty.hd65 rfl (keys65_spec dx.r1 h0) (fun v2 w1 pv2 => ?_)
  obtain ⟨gk, rfl, hK, hS1⟩ := pv2
  clear h0
  have hS3 := hS1.permT [1, 0, 0, 0, 0, 0] (L' := mpS dx.r1 dx.e1 :: cel g [Value.int .i64 D.room, Value.map (some dx.r1), Value.map (some dx.r2), Value.slice dx.a dx.vs.length dx.cap, Value.bool D.dead, Value.int .i64 D.left] 103 :: mpS dx.r2 dx.e2 :: own dx.a dx.vs.length dx.cap 108 1 dx.vs :: chsA dx.gs D.ch dx.vs :: filesA dx.gs D.f :: L) rfl
  clear hS1
  refine WO.call rfl rfl Ty.hd64 rfl (sorted65_spec hK (names_perm ok) (names_sorted hw) (names_nodup ok hw) (names_len ok hw) (names_few ok hw) hS3) (fun v5 w4 pv5 => ?_)
  obtain ⟨a3, c3, rfl, hS4⟩ := pv5
  clear hS3
  refine WO.val (run_assign rfl) rfl rfl rfl ?_
  refine WO.nil ?_
  refine NX.go ?_
  refine WP.ret ?_
  refine NX.done (l := [.tmp 2]) rfl rfl ?_
  have e : namesD D = D.nm.map (·.1) := by unfold namesD; rw [if_neg (by rw [g6]; decide)]
  rw [e]
  have hz := (hS4.permT [2, 1, 1, 1, 1, 1, 0] (L' := cel g [Value.int .i64 D.room, Value.map (some dx.r1), Value.map (some dx.r2), Value.slice dx.a dx.vs.length dx.cap, Value.bool D.dead, Value.int .i64 D.left] 103 :: mpS dx.r1 dx.e1 :: mpS dx.r2 dx.e2 :: own dx.a dx.vs.length dx.cap 108 1 dx.vs :: chsA dx.gs D.ch dx.vs :: filesA dx.gs D.f :: own a3 ((D.nm.map (·.1)).length) c3 9 1 ((D.nm.map (·.1)).map str) :: L) rfl)
  exact ⟨a3, c3, rfl, (hz.dk_shut ok).permT [1, 0] rfl⟩
end Go.Proofs.YtcehlnpbdffdhaaDoor.SL
