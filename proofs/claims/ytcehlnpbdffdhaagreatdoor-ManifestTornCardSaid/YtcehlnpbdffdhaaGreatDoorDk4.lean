/- A disk as plain data: one file over another one. -/
import Derived.Test.YtcehlnpbdffdhaaGreatDoorDk3
namespace Go.Proofs.YtcehlnpbdffdhaaGreatDoor.SL
open Go.RowKit
set_option linter.unusedVariables false
set_option linter.unusedSimpArgs false
def sw0 (x : List UInt8) (l : Int) : Dk := ⟨1048576, [(x, x.length)], [([109], 0)], [([109], 0)], [], false, l⟩
theorem sw_1 {x : List UInt8} (h : x.length ≤ 1000) : appendD (newD 1048576) [109] x = (⟨1048576, [(x, 0)], [([109], 0)], [], [⟨[], [109], 0⟩], false, -1⟩, 0) := by
  unfold appendD onWrite
  rw [writeD_up rfl rfl, if_pos rfl]
  show append1 (newD 1048576) [109] x = _
  unfold append1
  rw [if_neg (by decide), if_neg (by
    intro h2
    rcases h2 with h2 | h2
    · have : (newD 1048576).room - ((usedN (newD 1048576).f (newD 1048576).nm : Nat) : Int) = 1048576 := rfl
      omega
    · exact absurd h2.2 (by decide))]
  rfl
theorem sw_2 {x : List UInt8} : syncD ⟨1048576, [(x, 0)], [([109], 0)], [], [⟨[], [109], 0⟩], false, -1⟩ [109] = (⟨1048576, [(x, x.length)], [([109], 0)], [], [⟨[], [109], 0⟩], false, -1⟩, 0) := rfl
theorem sw_3 {x : List UInt8} : syncNamesD ⟨1048576, [(x, x.length)], [([109], 0)], [], [⟨[], [109], 0⟩], false, -1⟩ = (sw0 x (-1), 0) := rfl
theorem sw_4 {x : List UInt8} {k : Nat} : fuseD (sw0 x (-1)) (k : Int) = sw0 x k := by
  unfold fuseD sw0
  rw [if_neg Bool.noConfusion, if_neg (by omega)]
theorem writeD_0 {D : Dk} (h : D.left = 0) : writeD D = ({ D with dead := true }, false) := by unfold writeD; rw [if_pos h]
theorem writeD_n {D : Dk} {k : Nat} (h : D.left = ((k + 1 : Nat) : Int)) (h2 : D.dead = false) : writeD D = ({ D with left := (k : Int) }, true) := by
  unfold writeD
  rw [if_neg (by omega), if_neg (by rw [h2]; exact Bool.noConfusion), if_neg (by omega)]
  have : D.left - 1 = (k : Int) := by omega
  rw [this]
def swA (x y : List UInt8) (s : Nat) (d : Bool) (l : Int) : Dk := ⟨1048576, [(x, x.length), (y, s)], [([109], 0), ([110], 1)], [([109], 0)], [⟨[], [110], 1⟩], d, l⟩
def swC (x y : List UInt8) (d : Bool) (l : Int) : Dk := ⟨1048576, [(x, x.length), (y, y.length)], [([109], 1)], [([109], 0)], [⟨[], [110], 1⟩, ⟨[110], [109], 1⟩], d, l⟩
theorem sw_a0 {x y : List UInt8} : appendD (sw0 x ((0 : Nat) : Int)) [110] y = ({ sw0 x 0 with dead := true }, 11) := rfl
theorem sw_a {x y : List UInt8} {k : Nat} (hx : x.length ≤ 1000) (hy : y.length ≤ 1000) : appendD (sw0 x ((k + 1 : Nat) : Int)) [110] y = (swA x y 0 false k, 0) := by
  unfold appendD onWrite
  rw [writeD_n (k := k) rfl rfl, if_pos rfl]
  show append1 (sw0 x (k : Int)) [110] y = _
  unfold append1
  rw [if_neg (by decide), if_neg (by
    intro h2
    rcases h2 with h2 | h2
    · have h3 : usedN (sw0 x (k : Int)).f (sw0 x (k : Int)).nm = x.length + 0 := rfl
      have h4 : (sw0 x (k : Int)).room - ((usedN (sw0 x (k : Int)).f (sw0 x (k : Int)).nm : Nat) : Int) < (y.length : Int) := h2
      have h5 : (sw0 x (k : Int)).room = 1048576 := rfl
      omega
    · have : ([([109], 0)] : Nm).length = 64 := h2.2
      cases this)]
  rfl
theorem sw_b0 {x y : List UInt8} : syncD (swA x y 0 false ((0 : Nat) : Int)) [110] = (swA x y 0 true 0, 11) := rfl
theorem sw_b {x y : List UInt8} {k : Nat} : syncD (swA x y 0 false ((k + 1 : Nat) : Int)) [110] = (swA x y y.length false k, 0) := by
  unfold syncD onWrite
  rw [writeD_n (k := k) rfl rfl, if_pos rfl]; rfl
theorem sw_c0 {x y : List UInt8} : renameD (swA x y y.length false ((0 : Nat) : Int)) [110] [109] = (swA x y y.length true 0, 11) := rfl
theorem sw_c {x y : List UInt8} {k : Nat} : renameD (swA x y y.length false ((k + 1 : Nat) : Int)) [110] [109] = (swC x y false k, 0) := by
  unfold renameD onWrite
  rw [writeD_n (k := k) rfl rfl, if_pos rfl]; rfl
theorem sw_e0 {x y : List UInt8} : syncNamesD (swC x y false ((0 : Nat) : Int)) = (swC x y true 0, 11) := rfl
theorem sw_e {x y : List UInt8} {k : Nat} : syncNamesD (swC x y false ((k + 1 : Nat) : Int)) = ({ swC x y false k with last := [([109], 1)], ch := [] }, 0) := by
  unfold syncNamesD onWrite
  rw [writeD_n (k := k) rfl rfl, if_pos rfl]; rfl
theorem keptF_zero (zs : List Int) (i : Nat) : keptF zs i 0 = 0 := by have := keptF_le zs i 0; omega
theorem cut_full (zs : List Int) (i : Nat) (x : List UInt8) : cutF zs i (x, x.length) = (x, x.length) := by
  unfold cutF
  simp only [Nat.sub_self, keptF_zero, Nat.add_zero, List.take_length]
theorem crash_read {D : Dk} {zs : List Int} {l : Nm} {k : List UInt8} (h : applyL D.last (D.ch.take (keptF zs 0 D.ch.length)) = l) : readD (crashD D zs) k = readD ⟨D.room, crashF zs 1 l D.f, l, l, [], false, -1⟩ k := by
  unfold crashD; rw [h]
theorem sw_r0 {zs : List Int} {x : List UInt8} {f : List (List UInt8 × Nat)} {r : Int} : readD ⟨r, crashF zs 1 [([109], 0)] ((x, x.length) :: f), [([109], 0)], [([109], 0)], [], false, -1⟩ [109] = (x, 0) := by
  show ((cutF zs 1 (x, x.length)).1, (0 : Int)) = _; rw [cut_full]
theorem sw_r1 {zs : List Int} {x : List UInt8} {z : List UInt8 × Nat} {r : Int} : readD ⟨r, crashF zs 1 [([109], 0), ([110], 1)] [(x, x.length), z], [([109], 0), ([110], 1)], [([109], 0), ([110], 1)], [], false, -1⟩ [109] = (x, 0) := by
  show ((cutF zs 1 (x, x.length)).1, (0 : Int)) = _; rw [cut_full]
theorem sw_r2 {zs : List Int} {y : List UInt8} {z : List UInt8 × Nat} {r : Int} : readD ⟨r, crashF zs 1 [([109], 1)] [z, (y, y.length)], [([109], 1)], [([109], 1)], [], false, -1⟩ [109] = (y, 0) := by
  show ((cutF zs 1 (y, y.length)).1, (0 : Int)) = _; rw [cut_full]
theorem sw_x0 {x : List UInt8} {zs : List Int} {d : Bool} {l : Int} : readD (crashD { sw0 x l with dead := d } zs) [109] = (x, 0) := by
  rw [crash_read (l := [([109], 0)]) (by show applyL [([109], 0)] (List.take _ []) = _; rw [List.take_nil]; rfl)]; exact sw_r0
theorem sw_xA {x y : List UInt8} {zs : List Int} {s : Nat} {d : Bool} {l : Int} : readD (crashD (swA x y s d l) zs) [109] = (x, 0) := by
  have h := keptF_le zs 0 1
  have : keptF zs 0 1 = 0 ∨ keptF zs 0 1 = 1 := by omega
  rcases this with e | e
  · rw [crash_read (l := [([109], 0)]) (by show applyL [([109], 0)] (List.take (keptF zs 0 1) _) = _; rw [e]; rfl)]; exact sw_r0
  · rw [crash_read (l := [([109], 0), ([110], 1)]) (by show applyL [([109], 0)] (List.take (keptF zs 0 1) _) = _; rw [e]; rfl)]; exact sw_r1
theorem sw_xC {x y : List UInt8} {zs : List Int} {d : Bool} {l : Int} : readD (crashD (swC x y d l) zs) [109] = (x, 0) ∨ readD (crashD (swC x y d l) zs) [109] = (y, 0) := by
  have h := keptF_le zs 0 2
  have : keptF zs 0 2 = 0 ∨ keptF zs 0 2 = 1 ∨ keptF zs 0 2 = 2 := by omega
  rcases this with e | e | e
  · left; rw [crash_read (l := [([109], 0)]) (by show applyL [([109], 0)] (List.take (keptF zs 0 2) _) = _; rw [e]; rfl)]; exact sw_r0
  · left; rw [crash_read (l := [([109], 0), ([110], 1)]) (by show applyL [([109], 0)] (List.take (keptF zs 0 2) _) = _; rw [e]; rfl)]; exact sw_r1
  · right; rw [crash_read (l := [([109], 1)]) (by show applyL [([109], 0)] (List.take (keptF zs 0 2) _) = _; rw [e]; rfl)]; exact sw_r2
theorem sw_xE {x y : List UInt8} {zs : List Int} {d : Bool} {l : Int} : readD (crashD { swC x y d l with last := [([109], 1)], ch := [] } zs) [109] = (y, 0) := by
  rw [crash_read (l := [([109], 1)]) (by show applyL [([109], 1)] (List.take _ []) = _; rw [List.take_nil]; rfl)]; exact sw_r2
/-- Where it stops, and what is read behind the crash. -/
theorem sw_stop1 {x y : List UInt8} {k : Nat} {D1 : Dk} {zs : List Int} (hx : x.length ≤ 1000) (hy : y.length ≤ 1000) (e1 : D1 = (appendD (sw0 x (k : Int)) [110] y).1) (h : ¬ (appendD (sw0 x (k : Int)) [110] y).2 = 0) : readD (crashD D1 zs) [109] = (x, 0) := by
  match k with
  | 0 => rw [e1, sw_a0]; exact sw_x0
  | k + 1 => rw [sw_a hx hy] at h; exact absurd rfl h
theorem sw_go1 {x y : List UInt8} {k : Nat} {D1 : Dk} (hx : x.length ≤ 1000) (hy : y.length ≤ 1000) (e1 : D1 = (appendD (sw0 x (k : Int)) [110] y).1) (h : (appendD (sw0 x (k : Int)) [110] y).2 = 0) : ∃ k1 : Nat, D1 = swA x y 0 false k1 := by
  match k with
  | 0 => rw [sw_a0] at h; cases h
  | k + 1 => rw [sw_a hx hy] at e1; exact ⟨k, e1⟩
theorem sw_stop2 {x y : List UInt8} {k : Nat} {D1 : Dk} {zs : List Int} (e1 : D1 = (syncD (swA x y 0 false (k : Int)) [110]).1) (h : ¬ (syncD (swA x y 0 false (k : Int)) [110]).2 = 0) : readD (crashD D1 zs) [109] = (x, 0) := by
  match k with
  | 0 => rw [e1, sw_b0]; exact sw_xA
  | k + 1 => rw [sw_b] at h; exact absurd rfl h
theorem sw_go2 {x y : List UInt8} {k : Nat} {D1 : Dk} (e1 : D1 = (syncD (swA x y 0 false (k : Int)) [110]).1) (h : (syncD (swA x y 0 false (k : Int)) [110]).2 = 0) : ∃ k1 : Nat, D1 = swA x y y.length false k1 := by
  match k with
  | 0 => rw [sw_b0] at h; cases h
  | k + 1 => rw [sw_b] at e1; exact ⟨k, e1⟩
theorem sw_stop3 {x y : List UInt8} {k : Nat} {D1 : Dk} {zs : List Int} (e1 : D1 = (renameD (swA x y y.length false (k : Int)) [110] [109]).1) (h : ¬ (renameD (swA x y y.length false (k : Int)) [110] [109]).2 = 0) : readD (crashD D1 zs) [109] = (x, 0) := by
  match k with
  | 0 => rw [e1, sw_c0]; exact sw_xA
  | k + 1 => rw [sw_c] at h; exact absurd rfl h
theorem sw_go3 {x y : List UInt8} {k : Nat} {D1 : Dk} (e1 : D1 = (renameD (swA x y y.length false (k : Int)) [110] [109]).1) (h : (renameD (swA x y y.length false (k : Int)) [110] [109]).2 = 0) : ∃ k1 : Nat, D1 = swC x y false k1 := by
  match k with
  | 0 => rw [sw_c0] at h; cases h
  | k + 1 => rw [sw_c] at e1; exact ⟨k, e1⟩
theorem sw_end {x y : List UInt8} {k : Nat} {D1 : Dk} {zs : List Int} (e1 : D1 = (syncNamesD (swC x y false (k : Int))).1) : ((syncNamesD (swC x y false (k : Int))).2 = 0 ∧ readD (crashD D1 zs) [109] = (y, 0)) ∨ (¬ (syncNamesD (swC x y false (k : Int))).2 = 0 ∧ (readD (crashD D1 zs) [109] = (x, 0) ∨ readD (crashD D1 zs) [109] = (y, 0))) := by
  match k with
  | 0 => rw [e1, sw_e0]; exact .inr ⟨fun h => (by cases h), sw_xC⟩
  | k + 1 => rw [e1, sw_e]; exact .inl ⟨rfl, sw_xE⟩
end Go.Proofs.YtcehlnpbdffdhaaGreatDoor.SL
