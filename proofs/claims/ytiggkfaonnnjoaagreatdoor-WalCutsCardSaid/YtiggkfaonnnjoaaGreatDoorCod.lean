/- Plain laws of numbers, texts and frames as bytes: what is written is read, and what is read was written so. -/
import Derived.Test.YtiggkfaonnnjoaaGreatDoorKg
namespace Go.Proofs.YtiggkfaonnnjoaaGreatDoor.SL
open Go.RowKit
set_option linter.unusedVariables false
theorem beB_snoc {n : Nat} {b : UInt8} (h : 0 < n * 256 + b.toNat) : beB (n * 256 + b.toNat) = beB n ++ [b] := by
  have hb := UInt8.toNat_lt b
  rw [beB_pos h, show (n * 256 + b.toNat) / 256 = n by omega, show (n * 256 + b.toNat) % 256 = b.toNat by omega]
  rw [show UInt8.ofNat b.toNat = b from UInt8.ofNat_toNat]
theorem beN_nil : beN [] = 0 := rfl
theorem beN_beB : ∀ (n : Nat), beN (beB n) = n := by
  intro n
  induction n using Nat.strongRecOn with
  | _ n ih =>
    rcases Nat.eq_zero_or_pos n with e | e
    · subst e; rw [beB_zero]; rfl
    · rw [beB_pos e, beN_snoc, ih (n / 256) (Nat.div_lt_self e (by decide)), UInt8.toNat_ofNat']
      omega
theorem beB_head {n : Nat} (h : 0 < n) : (beB n).head? ≠ some 0 := by
  induction n using Nat.strongRecOn with
  | _ n ih =>
    rw [beB_pos h]
    rcases Nat.eq_zero_or_pos (n / 256) with e | e
    · rw [e, beB_zero]
      intro hc
      have : UInt8.ofNat (n % 256) = 0 := Option.some.inj hc
      have := congrArg UInt8.toNat this
      rw [UInt8.toNat_ofNat'] at this
      have : n % 256 % 2 ^ 8 = 0 := this
      omega
    · have := ih (n / 256) (Nat.div_lt_self h (by decide)) e
      rw [List.head?_append]
      cases hh : (beB (n / 256)).head? with
      | none =>
        exfalso
        rw [List.head?_eq_none_iff] at hh
        rw [beB_pos e] at hh
        simp at hh
      | some c => rw [hh] at this; simpa using this
theorem beB_ne {n : Nat} (h : 0 < n) : beB n ≠ [] := by rw [beB_pos h]; simp
theorem beB_len0 {n : Nat} : (beB n).length = 0 ↔ n = 0 := by
  constructor
  · intro h
    rcases Nat.eq_zero_or_pos n with e | e
    · exact e
    · exact absurd (List.length_eq_zero_iff.1 h) (beB_ne e)
  · rintro rfl; rw [beB_zero]; rfl
theorem beB_beN : ∀ (k : Nat) (l : List UInt8), l.length = k → l.head? ≠ some 0 → beB (beN l) = l
  | 0, l, hk, h => by
    have : l = [] := List.length_eq_zero_iff.1 hk
    subst this; rw [beN_nil, beB_zero]
  | k + 1, l, hk, h => by
    rcases List.eq_nil_or_concat l with e | ⟨z, c, e⟩
    · subst e; rw [beN_nil, beB_zero]
    · rw [List.concat_eq_append] at e
      subst e
      have hz : z.length = k := by simpa using hk
      rw [beN_snoc]
      rcases Nat.eq_zero_or_pos k with e0 | e0
      · have : z = [] := List.length_eq_zero_iff.1 (by omega)
        subst this
        have hc : ¬ c = 0 := fun e => h (by rw [e]; rfl)
        have : 0 < c.toNat := by
          rcases Nat.eq_zero_or_pos c.toNat with e | e
          · exact absurd (UInt8.toNat_inj.1 (show c.toNat = (0 : UInt8).toNat from e)) hc
          · exact e
        rw [beB_snoc (by rw [beN_nil]; omega), beN_nil, beB_zero]
      · have hh : z.head? ≠ some 0 := by
          intro e
          apply h
          rw [List.head?_append, e]; rfl
        have hzb := beB_beN k z hz hh
        have hpos : 0 < beN z := by
          rcases Nat.eq_zero_or_pos (beN z) with e | e
          · rw [e, beB_zero] at hzb
            rw [← hzb] at hz; simp at hz; omega
          · exact e
        rw [beB_snoc (by omega), hzb]
theorem numB_length (n : Nat) : (numB n).length = 1 + (beB n).length := by unfold numB; rw [List.length_cons]; omega
theorem u8_small {k : Nat} (h : k ≤ 8) : (UInt8.ofNat k).toNat = k := by rw [UInt8.toNat_ofNat']; omega
/-- What is written is read. -/
theorem getNum_numB {n : Nat} (h : n < 18446744073709551616) (r : List UInt8) : getNum (numB n ++ r) = (n, (numB n).length, 0) := by
  have hl := beB_len 8 n (by simpa using h)
  have hu := u8_small hl
  show getNum (UInt8.ofNat (beB n).length :: (beB n ++ r)) = _
  rw [getNum, hu, if_neg (by omega), if_neg (by rw [List.length_append]; omega), if_neg, List.take_left, beN_beB, numB_length]
  rintro ⟨h0, h1⟩
  have hn : 0 < n := by
    rcases Nat.eq_zero_or_pos n with e | e
    · subst e; rw [beB_zero] at h0; simp at h0
    · exact e
  refine beB_head hn ?_
  rw [List.head?_append] at h1
  cases hh : (beB n).head? with
  | none => rw [List.head?_eq_none_iff] at hh; exact absurd hh (beB_ne hn)
  | some c => rw [hh] at h1; simpa using h1
/-- What is read was written so. -/
theorem getNum_canon {s : List UInt8} (h : (getNum s).2.2 = 0) : s = numB (getNum s).1 ++ s.drop (getNum s).2.1 ∧ (getNum s).2.1 = (numB (getNum s).1).length := by
  cases s with
  | nil => simp [getNum] at h
  | cons c rest =>
    rw [getNum] at h ⊢
    split at h
    · cases h
    · rename_i h1
      split at h
      · cases h
      · rename_i h2
        split at h
        · cases h
        · rename_i h3
          rw [if_neg h1, if_neg h2, if_neg h3]
          have hl : (rest.take c.toNat).length = c.toNat := by rw [List.length_take]; omega
          have hb : beB (beN (rest.take c.toNat)) = rest.take c.toNat := by
            refine beB_beN _ _ rfl ?_
            intro e
            apply h3
            rw [List.head?_take] at e
            split at e
            · cases e
            · exact ⟨by omega, e⟩
          have hn : numB (beN (rest.take c.toNat)) = c :: rest.take c.toNat := by
            unfold numB; rw [hb, hl, UInt8.ofNat_toNat]
          refine ⟨?_, ?_⟩
          · show c :: rest = numB (beN (rest.take c.toNat)) ++ (c :: rest).drop (1 + c.toNat)
            rw [hn, Nat.add_comm 1, List.drop_succ_cons, List.cons_append, List.take_append_drop]
          · show 1 + c.toNat = (numB (beN (rest.take c.toNat))).length
            rw [hn, List.length_cons, hl]; omega
theorem getNum_err {s : List UInt8} (h : ¬ (getNum s).2.2 = 0) : (getNum s).1 = 0 ∧ (getNum s).2.1 = 0 := by
  cases s with
  | nil => exact ⟨rfl, rfl⟩
  | cons c rest =>
    rw [getNum] at h ⊢
    split
    · exact ⟨rfl, rfl⟩
    · split
      · exact ⟨rfl, rfl⟩
      · split
        · exact ⟨rfl, rfl⟩
        · rename_i h1 h2 h3; exact absurd (by rw [if_neg h1, if_neg h2, if_neg h3]) h
theorem getNum_le (s : List UInt8) : (getNum s).2.1 ≤ s.length := by
  by_cases h : (getNum s).2.2 = 0
  · exact (getNum_ok h).1
  · rw [(getNum_err h).2]; exact Nat.zero_le _
theorem zag_zig (n : Int) : zag (zig n) = n := by
  unfold zag zig
  split <;> split <;> omega
theorem zig_zag (m : Nat) : zig (zag m) = m := by
  unfold zag zig
  split <;> split <;> omega
theorem zag_rng {m : Nat} (h : m < 18446744073709551616) : -9223372036854775808 ≤ zag m ∧ zag m ≤ 9223372036854775807 := by
  unfold zag; split <;> omega
theorem textB_length (t : List UInt8) : (textB t).length = (numB t.length).length + t.length := by unfold textB; rw [List.length_append]
theorem getText_textB {t : List UInt8} {m : Int} (h : t.length < 18446744073709551616) (hm : (t.length : Int) ≤ m) (r : List UInt8) : getText (textB t ++ r) m = (t, (textB t).length, 0) := by
  have e := getNum_numB h (t ++ r)
  unfold textB
  rw [List.append_assoc]
  unfold getText
  rw [e]
  simp only
  rw [if_neg (by simp), if_neg (by omega), if_neg (by simp only [List.length_append]; omega), List.drop_left, List.take_left, List.length_append]
theorem getText_canon {s : List UInt8} {m : Int} (h : (getText s m).2.2 = 0) : s = textB (getText s m).1 ++ s.drop (getText s m).2.1 ∧ (getText s m).2.1 = (textB (getText s m).1).length ∧ ((getText s m).1.length : Int) ≤ m := by
  unfold getText at h ⊢
  split at h
  · rename_i h1; exact absurd h h1
  · rename_i h1
    split at h
    · cases h
    · rename_i h2
      split at h
      · cases h
      · rename_i h3
        rw [if_neg h1, if_neg h2, if_neg h3]
        have hn := Decidable.of_not_not h1
        obtain ⟨e1, e2⟩ := getNum_canon hn
        have hk := (getNum_ok hn).1
        have hl : ((s.drop (getNum s).2.1).take (getNum s).1).length = (getNum s).1 := by rw [List.length_take, List.length_drop]; omega
        refine ⟨?_, ?_, by show (((s.drop (getNum s).2.1).take (getNum s).1).length : Int) ≤ m; rw [hl]; omega⟩
        · show s = textB ((s.drop (getNum s).2.1).take (getNum s).1) ++ s.drop ((getNum s).2.1 + (getNum s).1)
          unfold textB
          rw [hl, List.append_assoc, ← List.drop_drop, List.take_append_drop]
          exact e1
        · show (getNum s).2.1 + (getNum s).1 = (textB ((s.drop (getNum s).2.1).take (getNum s).1)).length
          unfold textB
          rw [hl, List.length_append, hl, ← e2]
theorem getText_err {s : List UInt8} {m : Int} (h : ¬ (getText s m).2.2 = 0) : (getText s m).1 = [] ∧ (getText s m).2.1 = 0 := by
  unfold getText at h ⊢
  split
  · exact ⟨rfl, rfl⟩
  · split
    · exact ⟨rfl, rfl⟩
    · split
      · exact ⟨rfl, rfl⟩
      · rename_i h1 h2 h3; exact absurd (by rw [if_neg h1, if_neg h2, if_neg h3]) h
theorem bytes4_length (c : Nat) : (bytes4 c).length = 4 := rfl
/-- A frame's bytes without their sum. -/
def bodyF (k : Int) (d : List UInt8) : List UInt8 := UInt8.ofNat k.toNat :: textB d
theorem putF_ok {k : Int} {d : List UInt8} (h1 : 1 ≤ k) (h2 : k ≤ 255) (h3 : d.length ≤ 65536) : putF k d = (bodyF k d ++ bytes4 (moreF 0 (bodyF k d)), 0) := by
  unfold putF; rw [if_neg (by omega), if_neg (by omega)]; rfl
theorem putF_zero {k : Int} {d : List UInt8} (h : (putF k d).2 = 0) : 1 ≤ k ∧ k ≤ 255 ∧ d.length ≤ 65536 := by
  unfold putF at h
  split at h
  · cases h
  · split at h
    · cases h
    · omega
theorem putF_length {k : Int} {d : List UInt8} (h1 : 1 ≤ k) (h2 : k ≤ 255) (h3 : d.length ≤ 65536) : (putF k d).1.length = (textB d).length + 5 := by
  rw [putF_ok h1 h2 h3]
  show (bodyF k d ++ bytes4 (moreF 0 (bodyF k d))).length = _
  rw [List.length_append, bytes4_length]; unfold bodyF; rw [List.length_cons]
theorem getF_putF {k : Int} {d : List UInt8} (h1 : 1 ≤ k) (h2 : k ≤ 255) (h3 : d.length ≤ 65536) (r : List UInt8) : getF ((putF k d).1 ++ r) = ((k, d), (((putF k d).1.length : Nat) : Int), 0) := by
  have hk : ((UInt8.ofNat k.toNat).toNat : Int) = k := by rw [u8_ofNat]; omega
  have hk0 : ¬ UInt8.ofNat k.toNat = 0 := fun e => by
    have := congrArg UInt8.toNat e
    have : (UInt8.ofNat k.toNat).toNat = 0 := this
    omega
  have hpl := putF_length h1 h2 h3
  rw [hpl, putF_ok h1 h2 h3]
  show getF (bodyF k d ++ bytes4 (moreF 0 (bodyF k d)) ++ r) = _
  have hs : bodyF k d ++ bytes4 (moreF 0 (bodyF k d)) ++ r = UInt8.ofNat k.toNat :: (textB d ++ (bytes4 (moreF 0 (bodyF k d)) ++ r)) := by
    unfold bodyF; simp
  have hg := getText_textB (t := d) (m := 65536) (by omega) (by omega) (bytes4 (moreF 0 (bodyF k d)) ++ r)
  have hbl : (bodyF k d).length = (textB d).length + 1 := by unfold bodyF; rw [List.length_cons]
  have ht1 : (bodyF k d ++ bytes4 (moreF 0 (bodyF k d)) ++ r).take ((textB d).length + 1) = bodyF k d := by
    rw [List.append_assoc, ← hbl, List.take_left]
  have ht2 : ((bodyF k d ++ bytes4 (moreF 0 (bodyF k d)) ++ r).take ((textB d).length + 1 + 4)).drop ((textB d).length + 1) = bytes4 (moreF 0 (bodyF k d)) := by
    rw [show (textB d).length + 1 + 4 = (bodyF k d ++ bytes4 (moreF 0 (bodyF k d))).length by rw [List.length_append, bytes4_length, hbl], List.take_left, ← hbl, List.drop_left]
  rw [getF_cons hs, hg, if_neg hk0, if_neg (by simp), if_neg (by simp only [List.length_append, bytes4_length]; omega)]
  simp only
  rw [ht1, ht2, if_neg (by simp), hk]
theorem getF_canon {s : List UInt8} (h : (getF s).2.2 = 0) : 1 ≤ (getF s).1.1 ∧ (getF s).1.1 ≤ 255 ∧ (getF s).1.2.length ≤ 65536 ∧ s = (putF (getF s).1.1 (getF s).1.2).1 ++ s.drop (getF s).2.1.toNat ∧ (getF s).2.1 = (((putF (getF s).1.1 (getF s).1.2).1.length : Nat) : Int) := by
  cases hs : s with
  | nil => rw [hs] at h; simp [getF] at h
  | cons c r =>
    rw [hs] at h
    have e := getF_cons (s := c :: r) (r := r) (c := c) rfl
    by_cases hc : c = 0
    · rw [e, if_pos hc] at h; cases h
    · rw [if_neg hc] at e
      by_cases ht : ¬ (getText r 65536).2.2 = 0
      · rw [e, if_pos ht] at h; exact absurd h ht
      · rw [if_neg ht] at e
        by_cases hl : r.length < (getText r 65536).2.1 + 4
        · rw [e, if_pos hl] at h; cases h
        · rw [if_neg hl] at e
          split at e
          · rw [e] at h; cases h
          · rename_i hsum
            have hsum := Decidable.of_not_not hsum
            obtain ⟨c1, c2, c3⟩ := getText_canon (Decidable.of_not_not ht)
            rw [e]
            simp only
            have hcl := UInt8.toNat_lt c
            have hcp : 0 < c.toNat := by
              rcases Nat.eq_zero_or_pos c.toNat with e | e
              · exact absurd (UInt8.toNat_inj.1 (show c.toNat = (0 : UInt8).toNat from e)) hc
              · exact e
            have hd : (getText r 65536).1.length ≤ 65536 := by omega
            have hb : bodyF (c.toNat : Int) (getText r 65536).1 = (c :: r).take ((getText r 65536).2.1 + 1) := by
              unfold bodyF
              rw [show ((c.toNat : Int)).toNat = c.toNat by omega, UInt8.ofNat_toNat, List.take_succ_cons]
              congr 1
              have c4 : r.take (textB (getText r 65536).1).length = textB (getText r 65536).1 := by
                generalize (getText r 65536).1 = t at c1 ⊢
                generalize List.drop (getText r 65536).2.1 r = u at c1
                rw [c1, List.take_left]
              rw [← c2] at c4; exact c4.symm
            have hp : (putF (c.toNat : Int) (getText r 65536).1).1 = (c :: r).take ((getText r 65536).2.1 + 1 + 4) := by
              rw [putF_ok (by omega) (by omega) hd]
              show bodyF _ _ ++ bytes4 (moreF 0 (bodyF _ _)) = _
              rw [hb, ← hsum]
              generalize hz : (getText r 65536).2.1 + 1 = z
              rw [show (c :: r).take z = ((c :: r).take (z + 4)).take z by rw [List.take_take, Nat.min_eq_left (by omega)], List.take_append_drop]
            refine ⟨by omega, by omega, hd, ?_, ?_⟩
            · rw [hp, show ((((getText r 65536).2.1 + 1 + 4 : Nat)) : Int).toNat = (getText r 65536).2.1 + 1 + 4 from Int.toNat_natCast _, List.take_append_drop]
            · rw [hp, List.length_take, List.length_cons, Nat.min_eq_left (by omega)]
end Go.Proofs.YtiggkfaonnnjoaaGreatDoor.SL
