/- The log as plain data: names of segments, records in a file. -/
import Derived.Test.YtiggkfaonnnjoaaGreatDoorDk2M
import Derived.Test.YtiggkfaonnnjoaaGreatDoorCod
namespace Go.Proofs.YtiggkfaonnnjoaaGreatDoor.SL
open Go.RowKit
set_option linter.unusedVariables false
set_option linter.unusedSimpArgs false
/-! Names. -/
def digs : Nat → Nat → List UInt8
  | 0, _ => []
  | k + 1, n => UInt8.ofNat (48 + n / 10 ^ k % 10) :: digs k n
def nameW (n : Nat) : List UInt8 := 119 :: digs 8 n
theorem digs_length : ∀ (k n : Nat), (digs k n).length = k
  | 0, _ => rfl
  | k + 1, n => by unfold digs; rw [List.length_cons, digs_length k n]
theorem nameW_length (n : Nat) : (nameW n).length = 9 := by unfold nameW; rw [List.length_cons, digs_length]
theorem dig_val (m : Nat) : (UInt8.ofNat (48 + m % 10)).toNat = 48 + m % 10 := by rw [UInt8.toNat_ofNat']; omega
def valD : Nat → List UInt8 → Nat
  | a, [] => a
  | a, c :: r => if 48 ≤ c.toNat ∧ c.toNat ≤ 57 then valD (10 * a + (c.toNat - 48)) r else 0
def numW (s : List UInt8) : Nat := match s with
  | c :: r => if c = 119 ∧ r.length = 8 then valD 0 r else 0
  | [] => 0
theorem valD_digs : ∀ (k n a : Nat), valD a (digs k n) = a * 10 ^ k + n % 10 ^ k
  | 0, n, a => by show a = a * 1 + n % 1; omega
  | k + 1, n, a => by
    have h1 : valD a (digs (k + 1) n) = valD (10 * a + n / 10 ^ k % 10) (digs k n) := by
      show (if 48 ≤ (UInt8.ofNat (48 + n / 10 ^ k % 10)).toNat ∧ (UInt8.ofNat (48 + n / 10 ^ k % 10)).toNat ≤ 57 then valD (10 * a + ((UInt8.ofNat (48 + n / 10 ^ k % 10)).toNat - 48)) (digs k n) else 0) = _
      rw [dig_val, if_pos (by omega)]
      congr 2; omega
    rw [h1, valD_digs k n, Nat.pow_succ, Nat.mod_mul, Nat.add_mul]
    generalize 10 ^ k = p
    have e1 : 10 * a * p = a * (p * 10) := by rw [Nat.mul_comm 10 a, Nat.mul_assoc, Nat.mul_comm 10 p]
    have e2 : n / p % 10 * p = p * (n / p % 10) := Nat.mul_comm _ _
    omega
theorem numW_nameW {n : Nat} (h : n < 100000000) : numW (nameW n) = n := by
  show (if (119 : UInt8) = 119 ∧ (digs 8 n).length = 8 then valD 0 (digs 8 n) else 0) = n
  rw [if_pos ⟨rfl, digs_length 8 n⟩, valD_digs]
  show 0 * 100000000 + n % 100000000 = n
  omega
theorem nameW_inj {a b : Nat} (ha : a < 100000000) (hb : b < 100000000) (h : nameW a = nameW b) : a = b := by
  have := congrArg numW h; rw [numW_nameW ha, numW_nameW hb] at this; exact this
theorem digs_file : ∀ (k n : Nat), ∀ b ∈ digs k n, fileB b
  | 0, _, b, h => by cases h
  | k + 1, n, b, h => by
    unfold digs at h
    rcases List.mem_cons.1 h with rfl | h
    · unfold fileB; rw [dig_val]; omega
    · exact digs_file k n b h
theorem nameW_file (n : Nat) : fileF (nameW n) = true := by
  refine decide_eq_true ⟨by unfold nameW; simp, by rw [nameW_length]; decide, fun b hb => ?_⟩
  unfold nameW at hb
  rcases List.mem_cons.1 hb with rfl | hb
  · unfold fileB; decide
  · exact digs_file 8 n b hb
theorem digs_lt : ∀ (k : Nat) {a b : Nat}, a % 10 ^ k < b % 10 ^ k → digs k a < digs k b
  | 0, a, b, h => by
    have e : ∀ n : Nat, n % 10 ^ 0 = 0 := fun n => by rw [Nat.pow_zero]; omega
    rw [e, e] at h; omega
  | k + 1, a, b, h => by
    rw [Nat.pow_succ, Nat.mod_mul, Nat.mod_mul] at h
    unfold digs
    rcases Nat.lt_trichotomy (a / 10 ^ k % 10) (b / 10 ^ k % 10) with h1 | h1 | h1
    · refine List.Lex.rel ?_
      show (UInt8.ofNat _).toNat < (UInt8.ofNat _).toNat
      rw [dig_val, dig_val]; omega
    · rw [h1] at h ⊢
      exact List.Lex.cons (digs_lt k (by omega))
    · exfalso
      have hp : 0 < 10 ^ k := Nat.pow_pos (by decide)
      have h2 : a % 10 ^ k < 10 ^ k := Nat.mod_lt _ hp
      have h3 : b % 10 ^ k < 10 ^ k := Nat.mod_lt _ hp
      generalize a / 10 ^ k % 10 = x at *
      generalize b / 10 ^ k % 10 = y at *
      generalize 10 ^ k = p at *
      have : p * (y + 1) ≤ p * x := Nat.mul_le_mul_left p h1
      rw [Nat.mul_add, Nat.mul_one] at this
      omega
theorem nameW_lt {a b : Nat} (hb : b < 100000000) (h : a < b) : strLt (nameW a) (nameW b) = true := by
  rw [strLt_iff]
  refine decide_eq_true ?_
  exact List.Lex.cons (digs_lt 8 (by show a % 100000000 < b % 100000000; omega))
/-! Records in a file. -/
def frB (r : List UInt8) : List UInt8 := (putF 1 r).1
def encR (rs : List (List UInt8)) : List UInt8 := rs.flatMap frB
def plcs (rs : List (List UInt8)) : List Nat := (List.range rs.length).map fun i => (encR (rs.take i)).length
/-- Records that a frame holds. -/
def OkR (rs : List (List UInt8)) : Prop := ∀ r ∈ rs, r.length ≤ 65536
theorem encR_snoc (rs : List (List UInt8)) (r : List UInt8) : encR (rs ++ [r]) = encR rs ++ frB r := by unfold encR; rw [List.flatMap_append]; simp
theorem encR_append (rs ss : List (List UInt8)) : encR (rs ++ ss) = encR rs ++ encR ss := by unfold encR; rw [List.flatMap_append]
theorem plcs_length (rs : List (List UInt8)) : (plcs rs).length = rs.length := by unfold plcs; rw [List.length_map, List.length_range]
theorem plcs_snoc (rs : List (List UInt8)) (r : List UInt8) : plcs (rs ++ [r]) = plcs rs ++ [(encR rs).length] := by
  unfold plcs
  rw [List.length_append, List.length_singleton, List.range_succ, List.map_append]
  congr 1
  · refine List.map_congr_left fun i hi => ?_
    rw [List.take_append_of_le_length (by have := List.mem_range.1 hi; omega)]
  · show [(encR ((rs ++ [r]).take rs.length)).length] = _
    rw [List.take_append_of_le_length (Nat.le_refl _), List.take_length]
theorem plcs_get {rs : List (List UInt8)} {i : Nat} (h : i < rs.length) : (plcs rs)[i]? = some (encR (rs.take i)).length := by
  unfold plcs
  rw [List.getElem?_map, List.getElem?_range h]; rfl
theorem plcs_take {rs : List (List UInt8)} {k : Nat} (h : k ≤ rs.length) : (plcs rs).take k = plcs (rs.take k) := by
  unfold plcs
  rw [← List.map_take, List.take_range, List.length_take]
  refine List.map_congr_left fun i hi => ?_
  have := List.mem_range.1 hi
  rw [List.take_take, Nat.min_eq_left (by omega)]
theorem frB_len {r : List UInt8} (h : r.length ≤ 65536) : 6 ≤ (frB r).length ∧ (frB r).length ≤ r.length + 14 := by
  unfold frB
  rw [putF_length (by decide) (by decide) h, textB_length]
  have h1 := numB_len (show r.length < 18446744073709551616 by omega)
  have h2 := numB_length r.length
  omega
theorem frB_ok {r : List UInt8} (h : r.length ≤ 65536) : putF 1 r = (frB r, 0) := by
  unfold frB; rw [putF_ok (by decide) (by decide) h]
/-- The records at the front of bytes. -/
def goodR : Nat → List UInt8 → List (List UInt8)
  | 0, _ => []
  | n + 1, s => if (getF s).2.2 = 0 ∧ (getF s).1.1 = 1 then (getF s).1.2 :: goodR n (s.drop (getF s).2.1.toNat) else []
def recsW (s : List UInt8) : List (List UInt8) := goodR s.length s
theorem getF_frB {r : List UInt8} (h : r.length ≤ 65536) (t : List UInt8) : getF (frB r ++ t) = ((1, r), (((frB r).length : Nat) : Int), 0) := getF_putF (by decide) (by decide) h t
theorem goodR_eq (n : Nat) (s : List UInt8) : goodR (n + 1) s = if (getF s).2.2 = 0 ∧ (getF s).1.1 = 1 then (getF s).1.2 :: goodR n (s.drop (getF s).2.1.toNat) else [] := rfl
theorem goodR_cons {r t : List UInt8} {n : Nat} (h : r.length ≤ 65536) : goodR (n + 1) (frB r ++ t) = r :: goodR n t := by
  rw [goodR_eq, getF_frB h, if_pos ⟨rfl, rfl⟩]
  show r :: goodR n ((frB r ++ t).drop (((frB r).length : Nat) : Int).toNat) = _
  rw [Int.toNat_natCast, List.drop_append_of_le_length (Nat.le_refl _), List.drop_length, List.nil_append]
theorem goodR_app {t : List UInt8} : ∀ {rs : List (List UInt8)} {n : Nat}, OkR rs → goodR (rs.length + n) (encR rs ++ t) = rs ++ goodR n t
  | [], n, _ => by rw [List.length_nil, Nat.zero_add]; rfl
  | r :: rs, n, h => by
    have e : (r :: rs).length + n = (rs.length + n) + 1 := by rw [List.length_cons]; omega
    have e2 : encR (r :: rs) ++ t = frB r ++ (encR rs ++ t) := by show (frB r ++ encR rs) ++ t = _; rw [List.append_assoc]
    rw [e, e2, goodR_cons (h r (List.mem_cons_self ..)), goodR_app (fun x hx => h x (List.mem_cons_of_mem _ hx))]; rfl
theorem getF_nil : getF [] = ((0, []), 0, 1) := rfl
theorem goodR_nil : ∀ n, goodR n [] = []
  | 0 => rfl
  | n + 1 => by unfold goodR; rw [getF_nil, if_neg (by intro h; exact absurd h.1 (by decide))]
theorem encR_len {rs : List (List UInt8)} (h : OkR rs) : 6 * rs.length ≤ (encR rs).length := by
  induction rs with
  | nil => exact Nat.le_refl _
  | cons r rs ih =>
    have h1 := (frB_len (h r (List.mem_cons_self ..))).1
    have h2 := ih fun x hx => h x (List.mem_cons_of_mem _ hx)
    show 6 * (rs.length + 1) ≤ (frB r ++ encR rs).length
    rw [List.length_append]; omega
theorem encR_ub {rs : List (List UInt8)} (h : OkR rs) : (encR rs).length ≤ rs.length * 65550 := by
  induction rs with
  | nil => exact Nat.le_refl _
  | cons r rs ih =>
    have h0 := h r (List.mem_cons_self ..)
    have h1 := (frB_len h0).2
    have h2 := ih fun x hx => h x (List.mem_cons_of_mem _ hx)
    show (frB r ++ encR rs).length ≤ (rs.length + 1) * 65550
    rw [List.length_append]; omega
theorem recsW_enc {rs : List (List UInt8)} (h : OkR rs) : recsW (encR rs) = rs := by
  have h1 := encR_len h
  obtain ⟨n, hn⟩ : ∃ n, (encR rs).length = rs.length + n := ⟨(encR rs).length - rs.length, by omega⟩
  have h2 := goodR_app (t := []) (n := n) h
  rw [List.append_nil, goodR_nil, List.append_nil] at h2
  unfold recsW; rw [hn]; exact h2
theorem goodR_ok : ∀ (n : Nat) (s : List UInt8), OkR (goodR n s)
  | 0, _ => fun r h => by cases h
  | n + 1, s => fun r h => by
    unfold goodR at h
    split at h
    · rename_i hg
      rcases List.mem_cons.1 h with rfl | h
      · exact (getF_canon hg.1).2.2.1
      · exact goodR_ok n _ r h
    · cases h
theorem goodR_pre : ∀ (n : Nat) (s : List UInt8), ∃ t, s = encR (goodR n s) ++ t
  | 0, s => ⟨s, rfl⟩
  | n + 1, s => by
    unfold goodR
    split
    · rename_i hg
      obtain ⟨t, ht⟩ := goodR_pre n (s.drop (getF s).2.1.toNat)
      have hc := (getF_canon hg.1).2.2.2.1
      refine ⟨t, ?_⟩
      show s = (frB (getF s).1.2 ++ encR (goodR n _)) ++ t
      rw [List.append_assoc, ← ht]
      have e := hc
      rw [hg.2] at e
      exact e
    · exact ⟨s, rfl⟩
/-- How many steps: enough is enough. -/
theorem goodR_fuel : ∀ (n m : Nat) (s : List UInt8), s.length ≤ n → s.length ≤ m → goodR n s = goodR m s
  | 0, m, s, h, _ => by
    have : s = [] := List.length_eq_zero_iff.1 (by omega)
    subst this; rw [goodR_nil, goodR_nil]
  | n + 1, 0, s, _, h => by
    have : s = [] := List.length_eq_zero_iff.1 (by omega)
    subst this; rw [goodR_nil, goodR_nil]
  | n + 1, m + 1, s, h1, h2 => by
    unfold goodR
    split
    · rename_i hg
      have hc := (getF_canon hg.1).2.2.2.1
      have hl : 6 ≤ (getF s).2.1.toNat ∧ (getF s).2.1.toNat ≤ s.length := by
        have h5 := (getF_canon hg.1).2.2.2.2
        have h6 := congrArg List.length hc
        rw [List.length_append] at h6
        have h7 := (frB_len (getF_canon hg.1).2.2.1).1
        unfold frB at h7
        rw [hg.2] at h5 h6
        omega
      have hd : (s.drop (getF s).2.1.toNat).length = s.length - (getF s).2.1.toNat := List.length_drop
      rw [goodR_fuel n m _ (by omega) (by omega)]
    · rfl
/-- A name's bytes on the way. -/
def nmK (k n : Nat) : List UInt8 := 119 :: (List.replicate (8 - k) 0 ++ digs k n)
theorem nmK_length {k : Nat} (n : Nat) (h : k ≤ 8) : (nmK k n).length = 9 := by unfold nmK; rw [List.length_cons, List.length_append, List.length_replicate, digs_length]; omega
theorem nmK_step {k n : Nat} (h : k < 8) : (nmK k n).set (8 - k) (UInt8.ofNat (48 + n / 10 ^ k % 10)) = nmK (k + 1) n := by
  unfold nmK
  obtain ⟨j, hj⟩ : ∃ j, 8 - k = j + 1 := ⟨7 - k, by omega⟩
  have hj2 : 8 - (k + 1) = j := by omega
  rw [hj, hj2, List.set_cons_succ]
  congr 1
  rw [List.replicate_succ', List.append_assoc, List.set_append_right _ _ (by rw [List.length_replicate]; omega), List.length_replicate, Nat.sub_self]
  rfl
theorem nmK_all (n : Nat) : nmK 8 n = nameW n := rfl
def u8v (b : UInt8) : Value := .int .u8 (b.toNat : Int)
theorem valD_get {a : Nat} {r : List UInt8} {i : Nat} {c : UInt8} (h : r[i]? = some c) : valD a (r.drop i) = if 48 ≤ c.toNat ∧ c.toNat ≤ 57 then valD (10 * a + (c.toNat - 48)) (r.drop (i + 1)) else 0 := by
  obtain ⟨hi, he⟩ := List.getElem?_eq_some_iff.1 h
  rw [List.drop_eq_getElem_cons hi, he]; rfl
theorem recsW_step {t : List UInt8} (h : (getF t).2.2 = 0) (h2 : (getF t).1.1 = 1) : recsW t = (getF t).1.2 :: recsW (t.drop (getF t).2.1.toNat) ∧ (getF t).1.2.length ≤ 65536 ∧ t = frB (getF t).1.2 ++ t.drop (getF t).2.1.toNat ∧ (getF t).2.1 = (((frB (getF t).1.2).length : Nat) : Int) := by
  have hc := getF_canon h
  rw [h2] at hc
  have h6 := (frB_len hc.2.2.1).1
  have hl := congrArg List.length hc.2.2.2.1
  rw [List.length_append] at hl
  have h7 : (frB (getF t).1.2).length = (putF 1 (getF t).1.2).1.length := rfl
  refine ⟨?_, hc.2.2.1, hc.2.2.2.1, hc.2.2.2.2⟩
  have ht : ∃ m, t.length = m + 1 := ⟨t.length - 1, by omega⟩
  obtain ⟨m, hm⟩ := ht
  unfold recsW
  rw [hm, goodR_eq, if_pos ⟨h, h2⟩]
  have hd : (t.drop (getF t).2.1.toNat).length = t.length - (getF t).2.1.toNat := List.length_drop
  have h8 := hc.2.2.2.2
  rw [goodR_fuel m (t.drop (getF t).2.1.toNat).length _ (by omega) (Nat.le_refl _)]
theorem recsW_stop {t : List UInt8} (h : ¬ ((getF t).2.2 = 0 ∧ (getF t).1.1 = 1)) : recsW t = [] := by
  unfold recsW
  cases t with
  | nil => rfl
  | cons c r => rw [List.length_cons, goodR_eq, if_neg h]
theorem recsW_ok (s : List UInt8) : OkR (recsW s) := goodR_ok _ _
theorem recsW_pre (s : List UInt8) : ∃ t, s = encR (recsW s) ++ t := goodR_pre _ _
/-! The log. -/
structure Sg where
  first : Nat
  rs : List (List UInt8)
  dirty : Bool
structure Lg where
  l : List Sg
  hand : Bool
  begun : Bool
  last : Nat
  durable : Nat
def pis (rs : List (List UInt8)) : List Value := (plcs rs).map fun n : Nat => Value.int .i64 (n : Int)
theorem pis_length (rs : List (List UInt8)) : (pis rs).length = rs.length := by unfold pis; rw [List.length_map, plcs_length]
theorem pis_snoc (rs : List (List UInt8)) (r : List UInt8) : pis (rs ++ [r]) = pis rs ++ [Value.int .i64 ((encR rs).length : Int)] := by unfold pis; rw [plcs_snoc, List.map_append]; rfl
theorem pis_get {rs : List (List UInt8)} {i : Nat} (h : i < rs.length) : (pis rs)[i]? = some (Value.int .i64 ((encR (rs.take i)).length : Int)) := by unfold pis; rw [List.getElem?_map, plcs_get h]; rfl
theorem pis_take {rs : List (List UInt8)} {j : Nat} (h : j ≤ rs.length) : (pis rs).take j = pis (rs.take j) := by unfold pis; rw [← List.map_take, plcs_take h]
def endS (x : Sg) : Nat := x.first + x.rs.length - 1
def endL (l : List Sg) : Nat := match l.getLast? with
  | none => 0
  | some x => endS x
theorem endL_get {l : List Sg} {x : Sg} (h : l[l.length - 1]? = some x) : endL l = endS x := by unfold endL; rw [List.getLast?_eq_getElem?, h]
structure OkL (lg : Lg) : Prop where
  b : ∀ x ∈ lg.l, x.first + x.rs.length ≤ 1000000000
  ne : ∀ x ∈ lg.l, x.rs ≠ []
  r : ∀ x ∈ lg.l, OkR x.rs
  n : lg.l.length ≤ 1000000
  la : lg.last ≤ 1000000000
  hd : lg.hand = true → lg.l ≠ []
theorem OkL.one {lg : Lg} (h : OkL lg) {x : Sg} {i : Nat} (hx : lg.l[i]? = some x) : x.first + x.rs.length ≤ 1000000000 ∧ 1 ≤ x.rs.length := by
  have hm := List.mem_of_getElem? hx
  refine ⟨h.b x hm, ?_⟩
  have := h.ne x hm
  cases hr : x.rs with
  | nil => exact absurd hr this
  | cons a b => rw [List.length_cons]; omega
def firstL (lg : Lg) : Nat := match lg.l with
  | [] => lg.last + 1
  | x :: _ => x.first
def newS (n : Nat) (s : List UInt8) : Sg := ⟨n, [s], true⟩
def moreS (x : Sg) (s : List UInt8) : Sg := ⟨x.first, x.rs ++ [s], true⟩
/-- The segment in hand, if there is room in it. -/
def handS (lg : Lg) : Option Sg := if lg.hand = true then (match lg.l.getLast? with
  | some x => if x.rs.length < 16 then some x else none
  | none => none) else none
def appN (lg : Lg) : Nat := match handS lg with
  | some x => x.first
  | none => lg.last + 1
def appG (lg : Lg) (s : List UInt8) : Lg := match handS lg with
  | some x => ⟨lg.l.dropLast ++ [moreS x s], true, lg.begun, lg.last + 1, lg.durable⟩
  | none => ⟨lg.l ++ [newS (lg.last + 1) s], true, true, lg.last + 1, lg.durable⟩
theorem set_last {α : Type} {l : List α} (h : l ≠ []) (y : α) : l.set (l.length - 1) y = l.dropLast ++ [y] := by
  obtain ⟨l0, x, rfl⟩ : ∃ l0 x, l = l0 ++ [x] := ⟨l.dropLast, l.getLast h, (List.dropLast_concat_getLast h).symm⟩
  rw [List.length_append, List.length_singleton, Nat.add_sub_cancel, List.set_append_right _ _ (Nat.le_refl _), Nat.sub_self, List.dropLast_concat]; rfl
theorem getLastD_at {gs : List Nat} {g : Nat} (h : gs[gs.length - 1]? = some g) : gs.getLastD 0 = g := by
  rw [List.getLastD_eq_getLast?, List.getLast?_eq_getElem?, h]; rfl
theorem handS_none {lg : Lg} (h : lg.hand = false) : handS lg = none := by unfold handS; rw [h]; rfl
theorem handS_full {lg : Lg} {x : Sg} (hx : lg.l[lg.l.length - 1]? = some x) (h : ¬ x.rs.length < 16) : handS lg = none := by
  unfold handS; rw [List.getLast?_eq_getElem?, hx]
  show (if lg.hand = true then (if x.rs.length < 16 then some x else none) else none) = none
  rw [if_neg h]; split <;> rfl
theorem handS_room {lg : Lg} {x : Sg} (hh : lg.hand = true) (hx : lg.l[lg.l.length - 1]? = some x) (h : x.rs.length < 16) : handS lg = some x := by
  unfold handS; rw [List.getLast?_eq_getElem?, hx]
  show (if lg.hand = true then (if x.rs.length < 16 then some x else none) else none) = some x
  rw [if_pos h, if_pos hh]
structure ResL where
  lg : Lg
  D : Dk
  n : Nat
  e : Int
def appendL (lg : Lg) (D : Dk) (s : List UInt8) : ResL :=
  if ¬ (putF 1 s).2 = 0 then ⟨lg, D, 0, (putF 1 s).2⟩ else if 99999999 ≤ lg.last then ⟨lg, D, 0, 4⟩
  else if (appendD D (nameW (appN lg)) (frB s)).2 = 0 then ⟨appG lg s, (appendD D (nameW (appN lg)) (frB s)).1, lg.last + 1, 0⟩
  else ⟨lg, (appendD D (nameW (appN lg)) (frB s)).1, 0, (appendD D (nameW (appN lg)) (frB s)).2⟩
def readL (l : List Sg) (n : Int) : List UInt8 × Int := match l with
  | [] => ([], 12)
  | x :: l => if (x.first : Int) ≤ n ∧ n < (x.first : Int) + x.rs.length then (x.rs.getD (n - x.first).toNat [], 0) else readL l n
theorem readL_step {l : List Sg} {i : Nat} {x : Sg} {n : Int} (h : l[i]? = some x) : readL (l.drop i) n = if (x.first : Int) ≤ n ∧ n < (x.first : Int) + x.rs.length then (x.rs.getD (n - x.first).toNat [], 0) else readL (l.drop (i + 1)) n := by
  obtain ⟨hi, he⟩ := List.getElem?_eq_some_iff.1 h
  rw [List.drop_eq_getElem_cons hi, he]; rfl
theorem enc_split {rs : List (List UInt8)} {j : Nat} {r : List UInt8} (h : rs[j]? = some r) : encR rs = encR (rs.take j) ++ (frB r ++ encR (rs.drop (j + 1))) := by
  obtain ⟨hi, he⟩ := List.getElem?_eq_some_iff.1 h
  have h1 : rs = rs.take j ++ r :: rs.drop (j + 1) := by rw [← he, ← List.drop_eq_getElem_cons hi, List.take_append_drop]
  have h2 := congrArg encR h1
  rw [encR_append] at h2
  exact h2
theorem enc_at {rs : List (List UInt8)} {j : Nat} {r t : List UInt8} (h : rs[j]? = some r) : (encR rs ++ t).drop (encR (rs.take j)).length = frB r ++ (encR (rs.drop (j + 1)) ++ t) := by
  rw [enc_split h, List.append_assoc, List.drop_left, List.append_assoc]
theorem readW_len {D : Dk} {n t : Nat} {k : List UInt8} (h : OkD D n t) : (readD D k).1.length ≤ t := by
  unfold readD
  split
  · exact Nat.zero_le _
  · split
    · exact Nat.zero_le _
    · rename_i i hi
      exact h.b.t _ (fileAt_mem (findN_lt h.w.good.f hi).1)
/-- Each segment's file begins with its records. -/
def FilesL (lg : Lg) (D : Dk) : Prop := ∀ x ∈ lg.l, ∃ t, readD D (nameW x.first) = (encR x.rs ++ t, 0)
def syncGo : List Sg → Dk → List Sg × Dk × Int
  | [], D => ([], D, 0)
  | x :: l, D => if x.dirty = true then
      (if (syncD D (nameW x.first)).2 = 0 then (⟨x.first, x.rs, false⟩ :: (syncGo l (syncD D (nameW x.first)).1).1, (syncGo l (syncD D (nameW x.first)).1).2) else (x :: l, syncD D (nameW x.first)))
    else (x :: (syncGo l D).1, (syncGo l D).2)
def syncL (lg : Lg) (D : Dk) : ResL :=
  if ¬ (syncGo lg.l D).2.2 = 0 then ⟨{ lg with l := (syncGo lg.l D).1 }, (syncGo lg.l D).2.1, 0, (syncGo lg.l D).2.2⟩
  else if lg.begun = true then
    (if (syncNamesD (syncGo lg.l D).2.1).2 = 0 then ⟨⟨(syncGo lg.l D).1, lg.hand, false, lg.last, lg.last⟩, (syncNamesD (syncGo lg.l D).2.1).1, 0, 0⟩
     else ⟨{ lg with l := (syncGo lg.l D).1 }, (syncNamesD (syncGo lg.l D).2.1).1, 0, (syncNamesD (syncGo lg.l D).2.1).2⟩)
  else ⟨{ lg with l := (syncGo lg.l D).1, durable := lg.last }, (syncGo lg.l D).2.1, 0, 0⟩
/-- Files are removed, one after the other. -/
def rmAll : List (List UInt8) → Dk → Dk × Int
  | [], D => (D, 0)
  | k :: ks, D => if (removeD D k).2 = 0 then rmAll ks (removeD D k).1 else removeD D k
theorem rmAll_cons {k : List UInt8} {ks : List (List UInt8)} {D : Dk} (h : (rmAll (k :: ks) D).2 = 0) : (removeD D k).2 = 0 ∧ rmAll (k :: ks) D = rmAll ks (removeD D k).1 := by
  have e : rmAll (k :: ks) D = if (removeD D k).2 = 0 then rmAll ks (removeD D k).1 else removeD D k := rfl
  rw [e] at h ⊢
  by_cases h0 : (removeD D k).2 = 0
  · exact ⟨h0, by rw [if_pos h0]⟩
  · rw [if_neg h0] at h; exact absurd h h0
/-- Does a segment belong to the log, as the next one? -/
def fitsL (l : List Sg) (x : Sg) (base : Nat) : Bool := decide (x.rs ≠ []) && match l.getLast? with
  | none => decide (x.first ≤ base + 1)
  | some p => decide (x.first = endS p + 1)
def fileS (D : Dk) (k : List UInt8) : Sg := ⟨numW k, recsW (readD D k).1, false⟩
def openGo (base : Nat) (D : Dk) : List (List UInt8) → List Sg → List Sg
  | [], l => l
  | k :: ks, l => if fitsL l (fileS D k) base = true then openGo base D ks (l ++ [fileS D k]) else l
def filesW (D : Dk) : List (List UInt8) := (namesD D).filter fun k => decide (¬ numW k = 0)
def openS (base : Nat) (D : Dk) : List Sg := if endL (openGo base D (filesW D) []) < base then [] else openGo base D (filesW D) []
def rmW (ks : List (List UInt8)) (D : Dk) : Dk × Int := if ks = [] then (D, 0) else if (rmAll ks D).2 = 0 then syncNamesD (rmAll ks D).1 else rmAll ks D
def lastW (base : Nat) (l : List Sg) : Nat := if base < endL l then endL l else base
def openL (base : Nat) (D : Dk) : Lg × Dk × Int := (⟨openS base D, false, false, lastW base (openS base D), lastW base (openS base D)⟩, rmW ((filesW D).drop (openS base D).length) D)
theorem syncGo_skip {i : Nat} {l : List Sg} {D : Dk} {x : Sg} (h : l[i]? = some x) (hd : x.dirty = false) : syncGo (l.drop i) D = (x :: (syncGo (l.drop (i + 1)) D).1, (syncGo (l.drop (i + 1)) D).2) := by
  obtain ⟨hi, he⟩ := List.getElem?_eq_some_iff.1 h
  rw [List.drop_eq_getElem_cons hi, he]
  show (if x.dirty = true then _ else _) = _
  rw [if_neg (by rw [hd]; exact Bool.noConfusion)]
theorem syncGo_go {i : Nat} {l : List Sg} {D : Dk} {x : Sg} (h : l[i]? = some x) (hd : x.dirty = true) (h0 : (syncD D (nameW x.first)).2 = 0) : syncGo (l.drop i) D = (⟨x.first, x.rs, false⟩ :: (syncGo (l.drop (i + 1)) (syncD D (nameW x.first)).1).1, (syncGo (l.drop (i + 1)) (syncD D (nameW x.first)).1).2) := by
  obtain ⟨hi, he⟩ := List.getElem?_eq_some_iff.1 h
  rw [List.drop_eq_getElem_cons hi, he]
  show (if x.dirty = true then _ else _) = _
  rw [if_pos hd, if_pos h0]
theorem syncGo_err {i : Nat} {l : List Sg} {D : Dk} {x : Sg} (h : l[i]? = some x) (hd : x.dirty = true) (h0 : ¬ (syncD D (nameW x.first)).2 = 0) : syncGo (l.drop i) D = (l.drop i, syncD D (nameW x.first)) := by
  obtain ⟨hi, he⟩ := List.getElem?_eq_some_iff.1 h
  rw [List.drop_eq_getElem_cons hi, he]
  show (if x.dirty = true then _ else _) = _
  rw [if_pos hd, if_neg h0]
theorem mid_at {α : Type} {d l : List α} {i : Nat} (hd : d.length = i) : (d ++ l.drop i)[i]? = l[i]? := by
  rw [List.getElem?_append_right (by omega), hd, Nat.sub_self, List.getElem?_drop, Nat.add_zero]
theorem mid_put {α : Type} {d l : List α} {i : Nat} {x y : α} (hd : d.length = i) (h : l[i]? = some x) : (d ++ l.drop i).set i y = (d ++ [y]) ++ l.drop (i + 1) := by
  obtain ⟨hi, he⟩ := List.getElem?_eq_some_iff.1 h
  rw [List.set_append_right _ _ (by omega), hd, Nat.sub_self, List.drop_eq_getElem_cons hi, List.set_cons_zero, List.append_assoc]; rfl
theorem mid_on {α : Type} {d l : List α} {i : Nat} {x : α} (h : l[i]? = some x) : d ++ l.drop i = (d ++ [x]) ++ l.drop (i + 1) := by
  obtain ⟨hi, he⟩ := List.getElem?_eq_some_iff.1 h
  rw [List.drop_eq_getElem_cons hi, he, List.append_assoc]; rfl
theorem rd_from {w : World} {a : Option Addr} {n k i cap : Nat} {l : List Value} (h : Rd w a n k l) (hi : i ≤ n) (hc : n ≤ cap) : Rd w (if cap = i then a else a.map (·.add (i * k))) (n - i) k (l.drop (i * k)) := by
  obtain ⟨h1, h2, h3⟩ := h
  have hik : i * k ≤ n * k := Nat.mul_le_mul_right _ hi
  refine ⟨by rw [List.length_drop, h1, Nat.sub_mul], fun hp => ?_, fun j hj => ?_⟩
  · obtain ⟨p, hp1, hp2⟩ := h2 (by omega)
    rw [if_neg (by omega), hp1]
    refine ⟨p.add (i * k), rfl, ?_⟩
    obtain ⟨b, o, sp⟩ := p; simp only at hp2; subst hp2; simp [Addr.add]; split <;> rfl
  · have hn : 0 < n - i := by
      rcases Nat.eq_zero_or_pos (n - i) with h0 | h0
      · rw [h0, Nat.zero_mul] at hj; omega
      · exact h0
    obtain ⟨p, hp1, hp2⟩ := h2 (by omega)
    rw [Nat.sub_mul] at hj
    rw [if_neg (by omega), List.getElem?_drop, ← h3 (i * k + j) (by omega), hp1]
    obtain ⟨b, o, sp⟩ := p; simp only at hp2; subst hp2
    show w.cell? (adr (some ((⟨b, o, none⟩ : Addr).add (i * k))) j) = w.cell? (adr (some ⟨b, o, none⟩) (i * k + j))
    by_cases h0 : i * k = 0
    · simp [adr, Addr.add, h0]
    · simp [adr, Addr.add, h0, Nat.add_assoc]
theorem rd_fromS {w : World} {a : Option Addr} {i cap : Nat} {ks : List (List UInt8)} (h : Rd w a ks.length 1 (ks.map str)) (hi : i ≤ ks.length) (hc : ks.length ≤ cap) : Rd w (if cap = i then a else a.map (·.add (i * 1))) (ks.drop i).length 1 ((ks.drop i).map str) := by
  have z := rd_from (k := 1) h hi hc
  have e : (ks.map str).drop (i * 1) = (ks.map str).drop i := by rw [Nat.mul_one]
  rw [e] at z
  rw [List.length_drop, List.map_drop]; exact z
theorem filesW_all {D : Dk} (h : ∀ k ∈ namesD D, ¬ numW k = 0) : filesW D = namesD D := List.filter_eq_self.2 fun k hk => decide_eq_true (h k hk)
theorem openGo_step {base i : Nat} {D : Dk} {ks : List (List UInt8)} {l : List Sg} {k : List UInt8} (h : ks[i]? = some k) : openGo base D (ks.drop i) l = if fitsL l (fileS D k) base = true then openGo base D (ks.drop (i + 1)) (l ++ [fileS D k]) else l := by
  obtain ⟨hi, he⟩ := List.getElem?_eq_some_iff.1 h
  rw [List.drop_eq_getElem_cons hi, he]; rfl
def lg0 (l : List Sg) : Lg := ⟨l, false, false, 0, 0⟩
theorem fitsL_ne {l : List Sg} {x : Sg} {base : Nat} (h : fitsL l x base = true) : x.rs ≠ [] := by
  unfold fitsL at h; rw [Bool.and_eq_true] at h; exact of_decide_eq_true h.1
theorem OkL.nil : OkL (lg0 []) := ⟨fun x h => (by cases h), fun x h => (by cases h), fun x h => (by cases h), Nat.zero_le _, Nat.zero_le _, fun h => Bool.noConfusion h⟩
theorem OkL.snoc {l : List Sg} {x : Sg} (h : OkL (lg0 l)) (hn : l.length < 1000000) (hb : x.first + x.rs.length ≤ 1000000000) (hne : x.rs ≠ []) (hr : OkR x.rs) : OkL (lg0 (l ++ [x])) :=
  ⟨fun z hz => (List.mem_append.1 hz).elim (h.b z) (fun q => by rw [List.mem_singleton.1 q]; exact hb), fun z hz => (List.mem_append.1 hz).elim (h.ne z) (fun q => by rw [List.mem_singleton.1 q]; exact hne), fun z hz => (List.mem_append.1 hz).elim (h.r z) (fun q => by rw [List.mem_singleton.1 q]; exact hr), by show (l ++ [x]).length ≤ _; rw [List.length_append, List.length_singleton]; omega, Nat.zero_le _, fun h => Bool.noConfusion h⟩
def nmsW (l : List Sg) : List (List UInt8) := l.map fun x => nameW x.first
end Go.Proofs.YtiggkfaonnnjoaaGreatDoor.SL
