/- Manifests as plain data: what is wrong with one, its bytes, and what bytes are one; the two readings of bytes agree. -/
import Derived.Test.YtcehlnpbdffdhaaGreatDoorCod
import Derived.Test.YtcehlnpbdffdhaaGreatDoorNmf
namespace Go.Proofs.YtcehlnpbdffdhaaGreatDoor.SL
open Go.RowKit
set_option linter.unusedVariables false
structure Man where
  e : Int
  b : Int
  p : Int
  k : Int
  c : Int
  bl : List (List UInt8)
deriving DecidableEq
def inM (n : Int) : Prop := 0 ≤ n ∧ n ≤ 99999999
instance (n : Int) : Decidable (inM n) := by unfold inM; exact inferInstance
def zeroM : Man := ⟨0, 0, 0, 0, 0, []⟩
def checkM (m : Man) : Int := if ¬ (inM m.e ∧ inM m.b ∧ inM m.p ∧ inM m.c ∧ ¬ m.e = 0) then 2 else if m.p < m.e then 9 else if 16 < m.bl.length then 8 else if m.bl.all fileF = true then 0 else 3
def dataM (m : Man) : List UInt8 := numB m.e.toNat ++ (numB m.b.toNat ++ (numB m.p.toNat ++ (numB (zig m.k) ++ (numB m.c.toNat ++ (numB m.bl.length ++ m.bl.flatMap textB)))))
def encM (m : Man) : List UInt8 × Int := if checkM m = 0 then putF 6 (dataM m) else ([], checkM m)
def okN (s : List UInt8) : Prop := (getNum s).2.2 = 0 ∧ (getNum s).1 ≤ 99999999
instance (s : List UInt8) : Decidable (okN s) := by unfold okN; exact inferInstance
/-- What is left behind a number. -/
def nx (s : List UInt8) : List UInt8 := s.drop (getNum s).2.1
/-- Names, so many. -/
def blkP : Nat → List UInt8 → List (List UInt8) → Option (List (List UInt8) × List UInt8)
  | 0, s, acc => some (acc, s)
  | n + 1, s, acc => if (getText s 32).2.2 = 0 ∧ acc.length < 16 then blkP n (s.drop (getText s 32).2.1) (acc ++ [(getText s 32).1]) else none
def ok6 (d : List UInt8) : Prop := okN d ∧ okN (nx d) ∧ okN (nx (nx d)) ∧ (getNum (nx (nx (nx d)))).2.2 = 0 ∧ okN (nx (nx (nx (nx d)))) ∧ okN (nx (nx (nx (nx (nx d)))))
instance (s : List UInt8) : Decidable (ok6 s) := by unfold ok6; exact inferInstance
def head6 (d : List UInt8) (bl : List (List UInt8)) : Man := ⟨(getNum d).1, (getNum (nx d)).1, (getNum (nx (nx d))).1, zag (getNum (nx (nx (nx d)))).1, (getNum (nx (nx (nx (nx d))))).1, bl⟩
def parseM (d : List UInt8) : Option Man := if ok6 d then match blkP (getNum (nx (nx (nx (nx (nx d)))))).1 (nx (nx (nx (nx (nx (nx d)))))) [] with
    | some (bl, []) => some (head6 d bl)
    | _ => none
  else none
def decM (s : List UInt8) : Man × Int := if (getF s).2.2 = 0 ∧ (getF s).2.1 = s.length ∧ (getF s).1.1 = 6 then match parseM (getF s).1.2 with
    | some m => if checkM m = 0 then (m, 0) else (zeroM, 3)
    | none => (zeroM, 3)
  else (zeroM, 3)
/-! The reference's reading. -/
def inNum (x : List UInt8 × Int) : Nat × (List UInt8 × Int) := if x.2 = 0 then ((getNum x.1).1, (x.1.drop (getNum x.1).2.1, (getNum x.1).2.2)) else (0, x)
def inSig (x : List UInt8 × Int) : Int × (List UInt8 × Int) := if x.2 = 0 then (zag (getNum x.1).1, (x.1.drop (getNum x.1).2.1, (getNum x.1).2.2)) else (0, x)
def inText (x : List UInt8 × Int) (m : Int) : List UInt8 × (List UInt8 × Int) := if x.2 = 0 then ((getText x.1 m).1, (x.1.drop (getText x.1 m).2.1, (getText x.1 m).2.2)) else ([], x)
def must (x : List UInt8 × Int) (c : Bool) (e : Int) : List UInt8 × Int := if x.2 = 0 ∧ c = false then (x.1, e) else x
def inTexts : Nat → (List UInt8 × Int) → List (List UInt8) → List (List UInt8) × (List UInt8 × Int)
  | 0, x, acc => (acc, x)
  | n + 1, x, acc => if x.2 = 0 then inTexts n (inText x 32).2 (acc ++ [(inText x 32).1]) else (acc, x)
def i64w (n : Nat) : Int := IntKind.i64.wrap (n : Int)
/-- The reference's numbers, one behind the other. -/
def n1 (d : List UInt8) := inNum (d, 0)
def n2 (d : List UInt8) := inNum (n1 d).2
def n3 (d : List UInt8) := inNum (n2 d).2
def n4 (d : List UInt8) := inSig (n3 d).2
def n5 (d : List UInt8) := inNum (n4 d).2
def n6 (d : List UInt8) := inNum (n5 d).2
def n7 (d : List UInt8) : List UInt8 × Int := must (n6 d).2 (decide ((n1 d).1 ≤ 99999999 ∧ (n2 d).1 ≤ 99999999 ∧ (n3 d).1 ≤ 99999999 ∧ (n5 d).1 ≤ 99999999 ∧ (n6 d).1 ≤ 16)) 3
def n8 (d : List UInt8) := inTexts (n6 d).1 (n7 d) []
def refM (d : List UInt8) : Man := ⟨i64w (n1 d).1, i64w (n2 d).1, i64w (n3 d).1, (n4 d).1, i64w (n5 d).1, (n8 d).1⟩
def refDec (s : List UInt8) : Man × Int := if (getF s).2.2 = 0 ∧ (n8 (getF s).1.2).2.2 = 0 ∧ encM (refM (getF s).1.2) = (s, 0) then (refM (getF s).1.2, 0) else (zeroM, 3)
theorem inNum_err {x : List UInt8 × Int} (h : ¬ x.2 = 0) : inNum x = (0, x) := by unfold inNum; rw [if_neg h]
theorem inSig_err {x : List UInt8 × Int} (h : ¬ x.2 = 0) : inSig x = (0, x) := by unfold inSig; rw [if_neg h]
theorem inNum_ok (s : List UInt8) : inNum (s, 0) = ((getNum s).1, (nx s, (getNum s).2.2)) := by unfold inNum; rw [if_pos rfl]; rfl
theorem inSig_ok (s : List UInt8) : inSig (s, 0) = (zag (getNum s).1, (nx s, (getNum s).2.2)) := by unfold inSig; rw [if_pos rfl]; rfl
theorem must_err {x : List UInt8 × Int} {c : Bool} {e : Int} (h : ¬ x.2 = 0) : must x c e = x := by unfold must; rw [if_neg (fun q => h q.1)]
theorem inTexts_err {x : List UInt8 × Int} (h : ¬ x.2 = 0) (acc : List (List UInt8)) : ∀ n, inTexts n x acc = (acc, x)
  | 0 => rfl
  | n + 1 => by unfold inTexts; rw [if_neg h]
/-- Once it has failed it fails. -/
theorem n8_err {d : List UInt8} (h : ¬ (n6 d).2.2 = 0) : ¬ (n8 d).2.2 = 0 := by
  unfold n8 n7; rw [must_err h, inTexts_err h]; exact h
theorem inNum_snd {x : List UInt8 × Int} (h : (inNum x).2.2 = 0) : x.2 = 0 := Decidable.byContradiction fun e => by rw [inNum_err e] at h; exact e h
theorem inSig_snd {x : List UInt8 × Int} (h : (inSig x).2.2 = 0) : x.2 = 0 := Decidable.byContradiction fun e => by rw [inSig_err e] at h; exact e h
/-- All six were read. -/
structure Six (d : List UInt8) : Prop where
  z0 : (getNum d).2.2 = 0
  z1 : (getNum (nx d)).2.2 = 0
  z2 : (getNum (nx (nx d))).2.2 = 0
  z3 : (getNum (nx (nx (nx d)))).2.2 = 0
  z4 : (getNum (nx (nx (nx (nx d))))).2.2 = 0
  z5 : (getNum (nx (nx (nx (nx (nx d)))))).2.2 = 0
theorem six_n {d : List UInt8} (h : Six d) : n1 d = ((getNum d).1, (nx d, 0)) ∧ n2 d = ((getNum (nx d)).1, (nx (nx d), 0)) ∧ n3 d = ((getNum (nx (nx d))).1, (nx (nx (nx d)), 0)) ∧ n4 d = (zag (getNum (nx (nx (nx d)))).1, (nx (nx (nx (nx d))), 0)) ∧ n5 d = ((getNum (nx (nx (nx (nx d))))).1, (nx (nx (nx (nx (nx d)))), 0)) ∧ n6 d = ((getNum (nx (nx (nx (nx (nx d)))))).1, (nx (nx (nx (nx (nx (nx d))))), 0)) := by
  have h1 : n1 d = ((getNum d).1, (nx d, 0)) := by unfold n1; rw [inNum_ok, h.z0]
  have h2 : n2 d = ((getNum (nx d)).1, (nx (nx d), 0)) := by unfold n2; rw [h1, inNum_ok, h.z1]
  have h3 : n3 d = ((getNum (nx (nx d))).1, (nx (nx (nx d)), 0)) := by unfold n3; rw [h2, inNum_ok, h.z2]
  have h4 : n4 d = (zag (getNum (nx (nx (nx d)))).1, (nx (nx (nx (nx d))), 0)) := by unfold n4; rw [h3, inSig_ok, h.z3]
  have h5 : n5 d = ((getNum (nx (nx (nx (nx d))))).1, (nx (nx (nx (nx (nx d)))), 0)) := by unfold n5; rw [h4, inNum_ok, h.z4]
  have h6 : n6 d = ((getNum (nx (nx (nx (nx (nx d)))))).1, (nx (nx (nx (nx (nx (nx d))))), 0)) := by unfold n6; rw [h5, inNum_ok, h.z5]
  exact ⟨h1, h2, h3, h4, h5, h6⟩
theorem n6_six {d : List UInt8} (h : (n6 d).2.2 = 0) : Six d := by
  have a5 : (n5 d).2.2 = 0 := inNum_snd h
  have a4 : (n4 d).2.2 = 0 := inNum_snd a5
  have a3 : (n3 d).2.2 = 0 := inSig_snd a4
  have a2 : (n2 d).2.2 = 0 := inNum_snd a3
  have a1 : (n1 d).2.2 = 0 := inNum_snd a2
  have z0 : (getNum d).2.2 = 0 := by unfold n1 at a1; rw [inNum_ok] at a1; exact a1
  have h1 : n1 d = ((getNum d).1, (nx d, 0)) := by unfold n1; rw [inNum_ok, z0]
  have z1 : (getNum (nx d)).2.2 = 0 := by unfold n2 at a2; rw [h1, inNum_ok] at a2; exact a2
  have h2 : n2 d = ((getNum (nx d)).1, (nx (nx d), 0)) := by unfold n2; rw [h1, inNum_ok, z1]
  have z2 : (getNum (nx (nx d))).2.2 = 0 := by unfold n3 at a3; rw [h2, inNum_ok] at a3; exact a3
  have h3 : n3 d = ((getNum (nx (nx d))).1, (nx (nx (nx d)), 0)) := by unfold n3; rw [h2, inNum_ok, z2]
  have z3 : (getNum (nx (nx (nx d)))).2.2 = 0 := by unfold n4 at a4; rw [h3, inSig_ok] at a4; exact a4
  have h4 : n4 d = (zag (getNum (nx (nx (nx d)))).1, (nx (nx (nx (nx d))), 0)) := by unfold n4; rw [h3, inSig_ok, z3]
  have z4 : (getNum (nx (nx (nx (nx d))))).2.2 = 0 := by unfold n5 at a5; rw [h4, inNum_ok] at a5; exact a5
  have h5 : n5 d = ((getNum (nx (nx (nx (nx d))))).1, (nx (nx (nx (nx (nx d)))), 0)) := by unfold n5; rw [h4, inNum_ok, z4]
  have z5 : (getNum (nx (nx (nx (nx (nx d)))))).2.2 = 0 := by unfold n6 at h; rw [h5, inNum_ok] at h; exact h
  exact ⟨z0, z1, z2, z3, z4, z5⟩
theorem nx_canon {s : List UInt8} (h : (getNum s).2.2 = 0) : s = numB (getNum s).1 ++ nx s := (getNum_canon h).1
/-- What the names are written as. -/
theorem blkP_canon : ∀ {n : Nat} {s r : List UInt8} {acc bl : List (List UInt8)}, blkP n s acc = some (bl, r) → bl.length = acc.length + n ∧ (0 < n → bl.length ≤ 16) ∧ acc.flatMap textB ++ s = bl.flatMap textB ++ r
  | 0, s, r, acc, bl, h => by
    unfold blkP at h
    cases h
    exact ⟨rfl, fun h => absurd h (by decide), rfl⟩
  | n + 1, s, r, acc, bl, h => by
    unfold blkP at h
    split at h
    · rename_i hc
      obtain ⟨h1, h2, h3⟩ := blkP_canon h
      refine ⟨by rw [h1, List.length_append, List.length_singleton]; omega, fun _ => ?_, ?_⟩
      · rcases Nat.eq_zero_or_pos n with e | e
        · subst e; rw [h1, List.length_append, List.length_singleton]; omega
        · exact h2 e
      · rw [← h3, List.flatMap_append, List.append_assoc]
        congr 1
        show s = textB (getText s 32).1 ++ [] ++ s.drop (getText s 32).2.1
        rw [List.append_nil]
        exact (getText_canon hc.1).1
    · cases h
theorem blkP_many {n : Nat} {s : List UInt8} (h : 16 < n) : blkP n s [] = none := by
  cases e : blkP n s [] with
  | none => rfl
  | some p =>
    obtain ⟨h1, h2, _⟩ := blkP_canon (bl := p.1) (r := p.2) e
    have := h2 (by omega)
    rw [h1] at this
    simp at this; omega
theorem inTexts_blk : ∀ (n : Nat) (s : List UInt8) (acc : List (List UInt8)), acc.length + n ≤ 16 → (∀ bl r, blkP n s acc = some (bl, r) → inTexts n (s, 0) acc = (bl, (r, 0))) ∧ (blkP n s acc = none → ¬ (inTexts n (s, 0) acc).2.2 = 0)
  | 0, s, acc, _ => ⟨fun bl r h => (by unfold blkP at h; cases h; rfl), fun h => (by unfold blkP at h; cases h)⟩
  | n + 1, s, acc, hn => by
    unfold blkP inTexts
    rw [if_pos rfl]
    have hi : inText (s, 0) 32 = ((getText s 32).1, (s.drop (getText s 32).2.1, (getText s 32).2.2)) := by unfold inText; rw [if_pos rfl]
    rw [hi]
    by_cases hc : (getText s 32).2.2 = 0
    · rw [if_pos ⟨hc, by omega⟩, hc]
      exact inTexts_blk n _ _ (by rw [List.length_append, List.length_singleton]; omega)
    · rw [if_neg (fun q => hc q.1)]
      refine ⟨fun bl r h => (nomatch h), fun _ => ?_⟩
      rw [inTexts_err hc]
      exact hc
theorem i64w_small {n : Nat} (h : n ≤ 99999999) : i64w n = (n : Int) := IntWalk.i64_in _ (by omega)
theorem data_canon {d : List UInt8} (h : Six d) {bl : List (List UInt8)} {r : List UInt8} (hb : blkP (getNum (nx (nx (nx (nx (nx d)))))).1 (nx (nx (nx (nx (nx (nx d)))))) [] = some (bl, r)) : d = dataM (head6 d bl) ++ r := by
  obtain ⟨h1, _, h3⟩ := blkP_canon hb
  have hl : bl.length = (getNum (nx (nx (nx (nx (nx d)))))).1 := by rw [h1]; simp
  have h3' : nx (nx (nx (nx (nx (nx d))))) = bl.flatMap textB ++ r := by simpa using h3
  unfold dataM head6
  simp only [Int.toNat_natCast, zig_zag, hl, List.append_assoc]
  rw [← h3', ← nx_canon h.z5, ← nx_canon h.z4, ← nx_canon h.z3, ← nx_canon h.z2, ← nx_canon h.z1, ← nx_canon h.z0]
theorem six_of_ok6 {d : List UInt8} (h : ok6 d) : Six d := ⟨h.1.1, h.2.1.1, h.2.2.1.1, h.2.2.2.1, h.2.2.2.2.1.1, h.2.2.2.2.2.1⟩
/-- What the reference reads where all is in order. -/
theorem ref_ok {d : List UInt8} (h : ok6 d) (hn : (getNum (nx (nx (nx (nx (nx d)))))).1 ≤ 16) : (∀ bl r, blkP (getNum (nx (nx (nx (nx (nx d)))))).1 (nx (nx (nx (nx (nx (nx d)))))) [] = some (bl, r) → refM d = head6 d bl ∧ (n8 d).2.2 = 0) ∧ (blkP (getNum (nx (nx (nx (nx (nx d)))))).1 (nx (nx (nx (nx (nx (nx d)))))) [] = none → ¬ (n8 d).2.2 = 0) := by
  obtain ⟨e1, e2, e3, e4, e5, e6⟩ := six_n (six_of_ok6 h)
  have e7 : n7 d = (nx (nx (nx (nx (nx (nx d))))), 0) := by
    unfold n7 must
    rw [e6, e1, e2, e3, e5, if_neg]
    intro q
    have := q.2
    rw [decide_eq_false_iff_not] at this
    exact this ⟨h.1.2, h.2.1.2, h.2.2.1.2, h.2.2.2.2.1.2, hn⟩
  have hb := inTexts_blk (getNum (nx (nx (nx (nx (nx d)))))).1 (nx (nx (nx (nx (nx (nx d)))))) [] (by simpa using hn)
  have e8 : n8 d = inTexts (getNum (nx (nx (nx (nx (nx d)))))).1 (nx (nx (nx (nx (nx (nx d))))), 0) [] := by unfold n8; rw [e7, e6]
  refine ⟨fun bl r hbl => ?_, fun hbl => ?_⟩
  · have := hb.1 bl r hbl
    unfold refM
    rw [e8, this, e1, e2, e3, e4, e5]
    refine ⟨?_, rfl⟩
    unfold head6
    simp only [i64w_small h.1.2, i64w_small h.2.1.2, i64w_small h.2.2.1.2, i64w_small h.2.2.2.2.1.2]
  · rw [e8]; exact hb.2 hbl
theorem ref_bad {d : List UInt8} (h : ¬ (ok6 d ∧ (getNum (nx (nx (nx (nx (nx d)))))).1 ≤ 16)) : ¬ (n8 d).2.2 = 0 := by
  intro h8
  have h6 : (n6 d).2.2 = 0 := Decidable.byContradiction fun e => n8_err e h8
  have hs := n6_six h6
  obtain ⟨e1, e2, e3, e4, e5, e6⟩ := six_n hs
  have h7 : (n7 d).2 = 0 := Decidable.byContradiction fun e => by unfold n8 at h8; rw [inTexts_err e] at h8; exact e h8
  apply h
  unfold n7 must at h7
  split at h7
  · cases h7
  · rename_i hq
    have hc : decide ((n1 d).1 ≤ 99999999 ∧ (n2 d).1 ≤ 99999999 ∧ (n3 d).1 ≤ 99999999 ∧ (n5 d).1 ≤ 99999999 ∧ (n6 d).1 ≤ 16) = true := by
      cases e : decide ((n1 d).1 ≤ 99999999 ∧ (n2 d).1 ≤ 99999999 ∧ (n3 d).1 ≤ 99999999 ∧ (n5 d).1 ≤ 99999999 ∧ (n6 d).1 ≤ 16) with
      | true => rfl
      | false => exact absurd ⟨h6, e⟩ hq
    have := of_decide_eq_true hc
    rw [e1, e2, e3, e5, e6] at this
    obtain ⟨b1, b2, b3, b5, b6⟩ := this
    exact ⟨⟨⟨hs.z0, b1⟩, ⟨hs.z1, b2⟩, ⟨hs.z2, b3⟩, hs.z3, ⟨hs.z4, b5⟩, ⟨hs.z5, by show (getNum _).1 ≤ _; omega⟩⟩, b6⟩
theorem parseM_none {d : List UInt8} (h : ¬ (ok6 d ∧ (getNum (nx (nx (nx (nx (nx d)))))).1 ≤ 16)) : parseM d = none := by
  unfold parseM
  split
  · rename_i h6
    rw [blkP_many (by have : ¬ (getNum (nx (nx (nx (nx (nx d)))))).1 ≤ 16 := fun e => h ⟨h6, e⟩
                      omega)]
  · rfl
/-- THE TWO READINGS AGREE. -/
theorem refDec_eq (s : List UInt8) : refDec s = decM s := by
  unfold refDec decM
  by_cases hf : (getF s).2.2 = 0
  · obtain ⟨f1, f2, f3, f4, f5⟩ := getF_canon hf
    by_cases h : ok6 (getF s).1.2 ∧ (getNum (nx (nx (nx (nx (nx (getF s).1.2)))))).1 ≤ 16
    · obtain ⟨r1, r2⟩ := ref_ok h.1 h.2
      cases hb : blkP (getNum (nx (nx (nx (nx (nx (getF s).1.2)))))).1 (nx (nx (nx (nx (nx (nx (getF s).1.2)))))) [] with
      | none =>
        rw [if_neg (fun q => r2 hb q.2.1)]
        have : parseM (getF s).1.2 = none := by unfold parseM; rw [if_pos h.1, hb]
        rw [this]; split <;> rfl
      | some q =>
        obtain ⟨bl, r⟩ := q
        obtain ⟨e1, e2⟩ := r1 bl r hb
        have hd := data_canon (six_of_ok6 h.1) hb
        rw [e1]
        by_cases hr : r = []
        · subst hr
          have hp : parseM (getF s).1.2 = some (head6 (getF s).1.2 bl) := by unfold parseM; rw [if_pos h.1, hb]
          rw [List.append_nil] at hd
          rw [hp]
          simp only
          by_cases hc : checkM (head6 (getF s).1.2 bl) = 0
          · rw [if_pos hc]
            have hen : encM (head6 (getF s).1.2 bl) = putF 6 (getF s).1.2 := by unfold encM; rw [if_pos hc, ← hd]
            rw [hen]
            by_cases hk : (getF s).1.1 = 6
            · by_cases hl : (getF s).2.1 = s.length
              · rw [hk] at f4
                rw [hl, Int.toNat_natCast, List.drop_length, List.append_nil] at f4
                have hp6 : putF 6 (getF s).1.2 = (s, 0) := Prod.ext f4.symm (by rw [putF_ok (by decide) (by decide) f3])
                rw [if_pos ⟨hf, e2, hp6⟩, if_pos ⟨hf, hl, hk⟩]
              · rw [if_neg (fun q => hl (by rw [f5, hk, q.2.2])), if_neg (fun q => hl q.2.1)]
            · have hn : ¬ putF 6 (getF s).1.2 = (s, 0) := fun q => by
                have hg := getF_putF (k := 6) (d := (getF s).1.2) (by decide) (by decide) f3 []
                rw [q, List.append_nil] at hg
                exact hk (congrArg (fun z => z.1.1) hg)
              rw [if_neg (fun q => hn q.2.2), if_neg (fun q => hk q.2.2)]
          · have hn : ¬ encM (head6 (getF s).1.2 bl) = (s, 0) := fun q => by
              unfold encM at q
              rw [if_neg hc] at q
              exact hc (congrArg Prod.snd q)
            rw [if_neg (fun q => hn q.2.2), if_neg hc]
            split <;> rfl
        · have hp : parseM (getF s).1.2 = none := by
            unfold parseM; rw [if_pos h.1, hb]
            cases r with
            | nil => exact absurd rfl hr
            | cons a r => rfl
          rw [hp, if_neg]
          · split <;> rfl
          · rintro ⟨_, _, q⟩
            have hc : checkM (head6 (getF s).1.2 bl) = 0 := Decidable.byContradiction fun hc => by
              unfold encM at q
              rw [if_neg hc] at q
              exact hc (congrArg Prod.snd q)
            unfold encM at q
            rw [if_pos hc] at q
            obtain ⟨_, _, p3⟩ := putF_zero (k := 6) (congrArg Prod.snd q)
            have hg := getF_putF (k := 6) (d := dataM (head6 (getF s).1.2 bl)) (by decide) (by decide) p3 []
            rw [q, List.append_nil] at hg
            have hdd : (getF s).1.2 = dataM (head6 (getF s).1.2 bl) := by
              have := congrArg (fun z => z.1.2) hg
              exact this
            rw [hdd.symm] at hd
            have hlen := congrArg List.length hd
            rw [List.length_append] at hlen
            exact hr (List.length_eq_zero_iff.1 (by omega))
    · rw [if_neg (fun q => ref_bad h q.2.1), parseM_none h]
      split <;> rfl
  · rw [if_neg (fun q => hf q.1), if_neg (fun q => hf q.1)]
end Go.Proofs.YtcehlnpbdffdhaaGreatDoor.SL
