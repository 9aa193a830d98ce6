/- Manifests as plain data: what is written is read, and read as it was. -/
import Derived.Test.YtcehlnpbdffdhaaGreatDoorPbM
namespace Go.Proofs.YtcehlnpbdffdhaaGreatDoor.SL
open Go.RowKit
set_option linter.unusedVariables false
set_option linter.unusedSimpArgs false
structure GoodM (m : Man) : Prop where
  e : inM m.e
  b : inM m.b
  p : inM m.p
  c : inM m.c
  n : m.bl.length ≤ 16
  t : ∀ t ∈ m.bl, fileF t = true
theorem check_good {m : Man} (h : checkM m = 0) : GoodM m := by
  unfold checkM at h
  split at h
  · cases h
  · rename_i h1
    have h1 := Decidable.of_not_not h1
    split at h
    · cases h
    · split at h
      · cases h
      · split at h
        · rename_i h3 h4
          exact ⟨h1.1, h1.2.1, h1.2.2.1, h1.2.2.2.1, by omega, fun t ht => List.all_eq_true.1 h4 t ht⟩
        · cases h
theorem nx_numB {n : Nat} (h : n < 18446744073709551616) (r : List UInt8) : nx (numB n ++ r) = r := by
  unfold nx; rw [getNum_numB h]; exact List.drop_left
theorem okN_numB {n : Nat} (h : n ≤ 99999999) (r : List UInt8) : okN (numB n ++ r) := by
  unfold okN; rw [getNum_numB (by omega)]; exact ⟨rfl, h⟩
theorem blkP_flat : ∀ (bl acc : List (List UInt8)), (∀ t ∈ bl, t.length ≤ 32) → acc.length + bl.length ≤ 16 → blkP bl.length (bl.flatMap textB) acc = some (acc ++ bl, [])
  | [], acc, _, _ => by rw [List.append_nil]; rfl
  | t :: bl, acc, ht, hl => by
    rw [List.length_cons] at hl
    have h32 := ht t (List.mem_cons_self ..)
    have hg := getText_textB (t := t) (m := 32) (by omega) (by omega) (bl.flatMap textB)
    show (if (getText ((t :: bl).flatMap textB) 32).2.2 = 0 ∧ acc.length < 16 then _ else none) = _
    rw [List.flatMap_cons, hg, if_pos ⟨rfl, by omega⟩]
    show blkP bl.length ((textB t ++ bl.flatMap textB).drop (textB t).length) (acc ++ [t]) = _
    rw [List.drop_left, blkP_flat bl (acc ++ [t]) (fun u hu => ht u (List.mem_cons_of_mem _ hu)) (by rw [List.length_append]; simp; omega)]
    simp
theorem parse_data {m : Man} (hr : RngM m) (h : checkM m = 0) : parseM (dataM m) = some m := by
  have hg := check_good h
  obtain ⟨me, mb, mp, mk, mc, bl⟩ := m
  have he : 0 ≤ me ∧ me ≤ 99999999 := hg.e
  have hb : 0 ≤ mb ∧ mb ≤ 99999999 := hg.b
  have hp : 0 ≤ mp ∧ mp ≤ 99999999 := hg.p
  have hc : 0 ≤ mc ∧ mc ≤ 99999999 := hg.c
  have hn : bl.length ≤ 16 := hg.n
  have hz : zig mk < 18446744073709551616 := zig_lt hr.k.1 hr.k.2
  have hd : dataM ⟨me, mb, mp, mk, mc, bl⟩ = numB me.toNat ++ (numB mb.toNat ++ (numB mp.toNat ++ (numB (zig mk) ++ (numB mc.toNat ++ (numB bl.length ++ bl.flatMap textB))))) := rfl
  rw [hd]
  have n1 := fun r => nx_numB (n := me.toNat) (by omega) r
  have n2 := fun r => nx_numB (n := mb.toNat) (by omega) r
  have n3 := fun r => nx_numB (n := mp.toNat) (by omega) r
  have n4 := fun r => nx_numB hz r
  have n5 := fun r => nx_numB (n := mc.toNat) (by omega) r
  have n6 := fun r => nx_numB (n := bl.length) (by omega) r
  have g1 := fun r => getNum_numB (n := me.toNat) (by omega) r
  have g2 := fun r => getNum_numB (n := mb.toNat) (by omega) r
  have g3 := fun r => getNum_numB (n := mp.toNat) (by omega) r
  have g4 := fun r => getNum_numB hz r
  have g5 := fun r => getNum_numB (n := mc.toNat) (by omega) r
  have g6 := fun r => getNum_numB (n := bl.length) (by omega) r
  have hok : ok6 (numB me.toNat ++ (numB mb.toNat ++ (numB mp.toNat ++ (numB (zig mk) ++ (numB mc.toNat ++ (numB bl.length ++ bl.flatMap textB)))))) := by
    unfold ok6
    rw [n1, n2, n3, n4, n5, g4]
    exact ⟨okN_numB (by omega) _, okN_numB (by omega) _, okN_numB (by omega) _, rfl, okN_numB (by omega) _, okN_numB (by omega) _⟩
  unfold parseM
  rw [if_pos hok, n1, n2, n3, n4, n5, n6, g6]
  show (match blkP bl.length (bl.flatMap textB) [] with | some (bl, []) => some (head6 _ bl) | _ => none) = _
  rw [blkP_flat bl [] (fun t ht => fileF_len (hg.t t ht)) (by simpa using hn)]
  show some (head6 _ ([] ++ bl)) = _
  unfold head6
  rw [n1, n2, n3, n4, g1, g2, g3, g4, g5, zag_zig]
  have e1 : ((me.toNat : Nat) : Int) = me := Int.toNat_of_nonneg he.1
  have e2 : ((mb.toNat : Nat) : Int) = mb := Int.toNat_of_nonneg hb.1
  have e3 : ((mp.toNat : Nat) : Int) = mp := Int.toNat_of_nonneg hp.1
  have e5 : ((mc.toNat : Nat) : Int) = mc := Int.toNat_of_nonneg hc.1
  show some (⟨((me.toNat : Nat) : Int), ((mb.toNat : Nat) : Int), ((mp.toNat : Nat) : Int), mk, ((mc.toNat : Nat) : Int), [] ++ bl⟩ : Man) = _
  rw [e1, e2, e3, e5]; rfl
theorem data_len {m : Man} (hr : RngM m) (h : checkM m = 0) : (dataM m).length ≤ 1000 := by
  have hg := check_good h
  have he : 0 ≤ m.e ∧ m.e ≤ 99999999 := hg.e
  have hb : 0 ≤ m.b ∧ m.b ≤ 99999999 := hg.b
  have hp : 0 ≤ m.p ∧ m.p ≤ 99999999 := hg.p
  have hc : 0 ≤ m.c ∧ m.c ≤ 99999999 := hg.c
  have hn := hg.n
  have := flat_len6 (m := m) (fun t ht => fileF_len (hg.t t ht)) hg.n (numB_len (by omega)) (numB_len (by omega)) (numB_len (by omega)) (numB_len (zig_lt hr.k.1 hr.k.2)) (numB_len (by omega)) (numB_len (by omega))
  rw [flat_data] at this; exact this
theorem enc_ok {m : Man} (hr : RngM m) (h : checkM m = 0) : encM m = ((putF 6 (dataM m)).1, 0) := by
  have hl := data_len hr h
  unfold encM
  rw [if_pos h, putF_ok (by decide) (by decide) (by omega)]
theorem enc_zero {m : Man} (h : (encM m).2 = 0) : checkM m = 0 := by
  unfold encM at h
  split at h
  · assumption
  · exact h
theorem enc_len {m : Man} (hr : RngM m) : (encM m).1.length ≤ 1014 := by
  by_cases h : checkM m = 0
  · rw [enc_ok hr h]
    have hl := data_len hr h
    rw [putF_length (by decide) (by decide) (by omega), textB_length]
    have := numB_len (show (dataM m).length < 18446744073709551616 by omega)
    omega
  · unfold encM; rw [if_neg h]; exact Nat.zero_le _
theorem dec_enc {m : Man} (hr : RngM m) (h : checkM m = 0) : decM (encM m).1 = (m, 0) ∧ decM ((encM m).1 ++ [120]) = (zeroM, 3) := by
  have hl := data_len hr h
  rw [enc_ok hr h]
  have g := fun r => getF_putF (k := 6) (d := dataM m) (by decide) (by decide) (by omega) r
  constructor
  · have g0 := g []
    rw [List.append_nil] at g0
    unfold decM
    rw [g0, if_pos ⟨rfl, rfl, rfl⟩]
    show (match parseM (dataM m) with | some m => if checkM m = 0 then (m, (0 : Int)) else (zeroM, 3) | none => (zeroM, 3)) = _
    rw [parse_data hr h]
    show (if checkM m = 0 then (m, (0 : Int)) else (zeroM, 3)) = _
    rw [if_pos h]
  · unfold decM
    rw [g [120], if_neg]
    rintro ⟨_, h2, _⟩
    have h3 : (((putF 6 (dataM m)).1.length : Nat) : Int) = (((putF 6 (dataM m)).1 ++ [120]).length : Nat) := h2
    rw [List.length_append] at h3; simp at h3
    omega
theorem dec_err {s : List UInt8} (h : ¬ (decM s).2 = 0) : decM s = (zeroM, 3) := by
  rw [← refDec_eq] at h ⊢
  unfold refDec at h ⊢
  split
  · rename_i h1; rw [if_pos h1] at h; exact absurd rfl h
  · rfl
theorem dec_back {s : List UInt8} (h : (decM s).2 = 0) : encM (decM s).1 = (s, 0) := by
  rw [← refDec_eq] at h ⊢
  unfold refDec at h ⊢
  split
  · rename_i h1; exact h1.2.2
  · rename_i h1; rw [if_neg h1] at h; cases h
end Go.Proofs.YtcehlnpbdffdhaaGreatDoor.SL
