/- A disk as plain data: the fuse, the room, one file over another one. -/
import Derived.Test.YtcehlnpbdffdhaaGreatDoorDk2
namespace Go.Proofs.YtcehlnpbdffdhaaGreatDoor.SL
open Go.RowKit
set_option linter.unusedVariables false
set_option linter.unusedSimpArgs false
theorem OkD.used {D : Dk} {n t : Nat} (h : OkD D n t) : usedN D.f D.nm ≤ 64 * t := Nat.le_trans (usedN_le h.b _) (Nat.mul_le_mul_right _ h.w.nm64)
theorem one_used {D : Dk} {n t : Nat} {k : List UInt8} (h : OkD D n t) (hk : ∀ e ∈ D.nm, e.1 = k) : D.nm.length ≤ 1 ∧ usedN D.f D.nm ≤ t := by
  have h1 : D.nm.length ≤ 1 := by
    have hs := h.w.good.s
    match hn : D.nm with
    | [] => exact Nat.zero_le _
    | [a] => exact Nat.le_refl _
    | a :: b :: l =>
      rw [hn] at hs hk
      have := (List.pairwise_cons.1 hs).1 b (List.mem_cons_self ..)
      rw [hk a (List.mem_cons_self ..), hk b (List.mem_cons_of_mem _ (List.mem_cons_self ..)), lt_irr] at this
      cases this
  have := usedN_le h.b D.nm
  have h2 : D.nm.length * t ≤ 1 * t := Nat.mul_le_mul_right _ h1
  exact ⟨h1, by omega⟩
theorem applyL_keys {k : List UInt8} : ∀ {cs : List Chg} {l : Nm}, (∀ e ∈ l, e.1 = k) → (∀ c ∈ cs, c.tn = k) → ∀ e ∈ applyL l cs, e.1 = k
  | [], _, h, _ => h
  | c :: cs, l, h, hc => applyL_keys (cs := cs) (fun e he => by
      have hk : ∀ e ∈ keepN c l, e.1 = k := fun e he => h e (mem_of_filter he)
      unfold applyN at he
      split at he
      · exact hk e he
      · rcases mem_insN.1 he with rfl | he
        · exact hc c (List.mem_cons_self ..)
        · exact hk e he) fun d hd => hc d (List.mem_cons_of_mem _ hd)
/-! The fuse. -/
structure FI (D : Dk) (n : Int) (i : Nat) : Prop where
  room : D.room = 1000
  last : D.last = []
  ch : ∀ c ∈ D.ch, c.tn = [97]
  up : (i : Int) ≤ n → D.dead = false ∧ D.left = n - i
  down : n < (i : Int) → D.dead = true ∧ D.left = 0
theorem FI.new {n : Int} (h : 0 ≤ n) : FI (fuseD (newD 1000) n) n 0 := by
  refine ⟨rfl, rfl, fun c hc => (by cases hc), fun _ => ⟨rfl, ?_⟩, fun h2 => by omega⟩
  show (if (-1 : Int) > n then -1 else n) = n - (0 : Nat)
  rw [if_neg (by omega)]; simp
theorem append1_ch {D : Dk} {k s : List UInt8} : (append1 D k s).1.room = D.room ∧ (append1 D k s).1.last = D.last ∧ (append1 D k s).1.dead = D.dead ∧ (append1 D k s).1.left = D.left ∧ (∀ c ∈ (append1 D k s).1.ch, c ∈ D.ch ∨ c.tn = k) ∧ (append1 D k s).1.nm.length ≤ D.nm.length + 1 := by
  unfold append1
  split
  · exact ⟨rfl, rfl, rfl, rfl, fun c hc => .inl hc, Nat.le_succ _⟩
  · split
    · exact ⟨rfl, rfl, rfl, rfl, fun c hc => .inl hc, Nat.le_succ _⟩
    · split
      · exact ⟨rfl, rfl, rfl, rfl, fun c hc => .inl hc, Nat.le_succ _⟩
      · refine ⟨rfl, rfl, rfl, rfl, fun c hc => ?_, ?_⟩
        · rcases List.mem_append.1 hc with hc | hc
          · exact .inl hc
          · right; rw [List.mem_singleton.1 hc]
        · show (applyN D.nm _).length ≤ _
          unfold applyN
          have : (keepN ⟨[], k, D.f.length⟩ D.nm).length ≤ D.nm.length := List.length_filter_le _ _
          split
          · omega
          · rw [insN_length]; omega
theorem fileF_a : fileF [97] = true := by decide
theorem FI.keys {D : Dk} {n : Int} {i a b : Nat} (h : FI D n i) (ho : OkD D a b) : ∀ e ∈ D.nm, e.1 = [97] := by
  rw [ho.w.nm, h.last]; exact applyL_keys (fun e he => by cases he) h.ch
theorem append1_one {D : Dk} {a b : Nat} {k s : List UInt8} (ho : OkD D a b) (hf : fileF k = true) (hk : ∀ e ∈ D.nm, e.1 = k) (hr : ((b + s.length : Nat) : Int) ≤ D.room) : (append1 D k s).2 = 0 := by
  have hu := one_used ho hk
  rcases append1_used (k := k) (s := s) ho hf with h | ⟨_, h | h⟩
  · exact h.1
  · omega
  · omega
theorem FI.step {D : Dk} {n : Int} {i : Nat} (h : FI D n i) (ho : OkD D i i) (hi : i ≤ 40) : FI (appendD D [97] [120]).1 n (i + 1) ∧ (appendD D [97] [120]).2 = if (i : Int) < n then 0 else 11 := by
  unfold appendD onWrite
  by_cases hn : (i : Int) < n
  · obtain ⟨h1, h2⟩ := h.up (by omega)
    have hw : writeD D = ({ D with left := n - ((i + 1 : Nat) : Int) }, true) := by
      unfold writeD; rw [if_neg (by omega), if_neg (by rw [h1]; exact Bool.noConfusion), if_neg (by omega)]
      have : D.left - 1 = n - ((i + 1 : Nat) : Int) := by omega
      rw [this]
    rw [hw, if_pos rfl, if_pos hn]
    have ho2 : OkD { D with left := n - ((i + 1 : Nat) : Int) } i i := by have := ho.write; rw [hw] at this; exact this
    have hk : ∀ e ∈ D.nm, e.1 = [97] := h.keys ho
    have hc := append1_ch (D := { D with left := n - ((i + 1 : Nat) : Int) }) (k := [97]) (s := [120])
    refine ⟨⟨hc.1.trans h.room, hc.2.1.trans h.last, fun c hx => ?_, fun _ => ⟨hc.2.2.1.trans h1, hc.2.2.2.1⟩, fun h3 => by omega⟩, ?_⟩
    · rcases hc.2.2.2.2.1 c hx with hx | hx
      · exact h.ch c hx
      · exact hx
    · exact append1_one ho2 fileF_a hk (by show _ ≤ D.room; rw [h.room]; simp; omega)
  · rw [if_neg hn]
    have hw : writeD D = ({ D with dead := true }, false) := by
      unfold writeD
      have : D.left = 0 := by
        rcases Int.lt_or_eq_of_le (show n ≤ (i : Int) by omega) with h3 | h3
        · exact (h.down h3).2
        · have := (h.up (by omega)).2; omega
      rw [if_pos this]
    rw [hw, if_neg Bool.noConfusion]
    refine ⟨⟨h.room, h.last, h.ch, fun h3 => by omega, fun _ => ⟨rfl, ?_⟩⟩, rfl⟩
    rcases Int.lt_or_eq_of_le (show n ≤ (i : Int) by omega) with h3 | h3
    · exact (h.down h3).2
    · have := (h.up (by omega)).2; show D.left = 0; omega
theorem FI.dead {D : Dk} {n : Int} {i : Nat} (h : FI D n i) : (!D.dead) = decide ((i : Int) ≤ n) := by
  by_cases hn : (i : Int) ≤ n
  · rw [(h.up hn).1, decide_eq_true hn]; rfl
  · rw [(h.down (by omega)).1, decide_eq_false hn]; rfl
theorem writeD_up {D : Dk} (h1 : D.left = -1) (h2 : D.dead = false) : writeD D = (D, true) := by
  unfold writeD
  rw [if_neg (by omega), if_neg (by rw [h2]; exact Bool.noConfusion), if_pos (by omega), ← h1]
theorem FI.crash {D : Dk} {n : Int} {i : Nat} {zs : List Int} (h : FI D n i) (ho : OkD D i i) (hi : i ≤ 40) : (appendD (crashD D zs) [97] [120]).2 = 0 := by
  unfold appendD onWrite
  rw [writeD_up rfl rfl, if_pos rfl]
  refine append1_one (ho.crash (zs := zs)) fileF_a ?_ (by show _ ≤ D.room; rw [h.room]; simp; omega)
  show ∀ e ∈ applyL D.last (D.ch.take (keptF zs 0 D.ch.length)), e.1 = [97]
  rw [h.last]
  exact applyL_keys (fun e he => by cases he) fun c hc => h.ch c (List.mem_of_mem_take hc)
/-! The room. -/
structure RI (D : Dk) (room : Int) (u i : Nat) : Prop where
  room : D.room = room
  left : D.left = -1
  dead : D.dead = false
  u : usedN D.f D.nm = u
  n : D.nm.length ≤ i
theorem RI.new (room : Int) : RI (newD room) room 0 0 := ⟨rfl, rfl, rfl, rfl, Nat.le_refl _⟩
theorem RI.step {D : Dk} {room : Int} {u i a b : Nat} {k s : List UInt8} (h : RI D room u i) (ho : OkD D a b) (hi : i < 64) (hf : fileF k = true) :
    ((appendD D k s).2 = 0 ∧ ((u + s.length : Nat) : Int) ≤ room ∧ RI (appendD D k s).1 room (u + s.length) (i + 1)) ∨ ((appendD D k s).2 = 4 ∧ room < ((u + s.length : Nat) : Int) ∧ RI (appendD D k s).1 room u (i + 1)) := by
  have e : appendD D k s = append1 D k s := by unfold appendD onWrite; rw [writeD_up h.left h.dead, if_pos rfl]
  rw [e]
  have hc := append1_ch (D := D) (k := k) (s := s)
  have hn := h.n
  rcases append1_used (k := k) (s := s) ho hf with ⟨h1, h2, h3⟩ | ⟨h1, h2 | h2⟩
  · rw [h.u] at h2 h3; rw [h.room] at h3
    exact .inl ⟨h1, h3, hc.1.trans h.room, hc.2.2.2.1.trans h.left, hc.2.2.1.trans h.dead, h2, by omega⟩
  · rw [h1]; rw [h.u, h.room] at h2
    exact .inr ⟨rfl, h2, h.room, h.left, h.dead, h.u, Nat.le_succ_of_le h.n⟩
  · omega
theorem fileF_let {i : Nat} : fileF [UInt8.ofNat (97 + i % 5)] = true := by
  have : i % 5 = 0 ∨ i % 5 = 1 ∨ i % 5 = 2 ∨ i % 5 = 3 ∨ i % 5 = 4 := by omega
  rcases this with h | h | h | h | h <;> rw [h] <;> decide
end Go.Proofs.YtcehlnpbdffdhaaGreatDoor.SL
