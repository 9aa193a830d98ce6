/- Rules: a range over a string. -/
import Derived.Test.YtegcibphlpanfaaGreatDoorSl8
import Derived.Laws.RangeString
namespace Go.Proofs.YtegcibphlpanfaaGreatDoor.SL
open Go.RowKit
set_option linter.unusedVariables false
section
variable {P : Program} {n : Nat} {D : List Deferred} {T : Tm} {ty : TypeId} {pos : String} {aft : Array Edge} {ops : Array Oper} {rest : List Oper} {Q : Exit → Act → World → Prop} {B w : World} {L : List HP}
/-- A range over a string, at a place. -/
def itS (r : Nat) (s : List UInt8) (p : Nat) : HP := .blk r (.stringIter (bs s) p)
theorem WO.rangeS {t d : Nat} {x : Operand} {s : List UInt8} (hS : St B L w) (ht : P.underlying t = some .string) (hx : ev T x = some (str s)) (hn : Nat.blt d n = true)
    (h : ∀ r w', St B (itS r s 0 :: L) w' → WO P n D ops Q rest ((d, .pointer (some ⟨r, 0, none⟩)) :: T) w') : WO P n D ops Q (⟨some d, .range t x, ty, pos, aft, none⟩ :: rest) T w :=
  WO.val (v := .pointer (some ⟨w.heap.size, 0, none⟩)) (w' := w.iter (bs s) 0) (fun c fc => by
    simp only [execOp, fc.ev hx, Sem.run_bind, run_range_string w t (bs s) ht, Result.andThen_ok]; rfl) rfl rfl hn
    (h _ _ (hS.new (.stringIter (bs s) 0) rfl rfl rfl rfl))
theorem decode_big {s : ByteArray} {i : Nat} (h : ¬ (s.get! (i + 0)).toNat < 128) : 128 ≤ (Utf8.decode s i).1 := by
  unfold Utf8.decode
  simp only
  rw [if_neg h]
  split
  · split
    · assumption
    · show 128 ≤ Utf8.runeError; decide
  · split
    · split
      · rename_i hc; simp only [Bool.and_eq_true, decide_eq_true_eq, ge_iff_le] at hc; omega
      · show 128 ≤ Utf8.runeError; decide
    · split
      · split
        · rename_i hc; simp only [Bool.and_eq_true, decide_eq_true_eq, ge_iff_le] at hc; omega
        · show 128 ≤ Utf8.runeError; decide
      · show 128 ≤ Utf8.runeError; decide
theorem bs_get! {s : List UInt8} {p : Nat} {b : UInt8} (h : s[p]? = some b) : (bs s).get! p = b := by
  have hp := (List.getElem?_eq_some_iff.1 h).1
  show (⟨s⟩ : Array UInt8)[p]! = b
  rw [getElem!_pos _ p (by simpa using hp)]
  have := (List.getElem?_eq_some_iff.1 h).2
  simpa using this
theorem WO.nextS {d : Nat} {x : Operand} {r p : Nat} {s : List UInt8} (i : Nat) (hS : St B L w) (hi : nth L i = some (itS r s p)) (hx : ev T x = some (.pointer (some ⟨r, 0, none⟩))) (hn : Nat.blt d n = true)
    (hend : s.length ≤ p → WO P n D ops Q rest ((d, .tuple #[.bool false]) :: T) w)
    (hascii : ∀ b : UInt8, s[p]? = some b → b.toNat < 128 → ∀ w', St B (put L i (itS r s (p + 1))) w' → WO P n D ops Q rest ((d, .tuple #[.bool true, .int .i64 (p : Int), .int .i32 (b.toNat : Int)]) :: T) w')
    (hbig : ∀ (b : UInt8) (c k : Nat), s[p]? = some b → ¬ b.toNat < 128 → 128 ≤ c → ∀ w', St B (put L i (itS r s (p + k))) w' → WO P n D ops Q rest ((d, .tuple #[.bool true, .int .i64 (p : Int), .int .i32 (c : Int)]) :: T) w') :
    WO P n D ops Q (⟨some d, .next x true, ty, pos, aft, none⟩ :: rest) T w := by
  have hF := hS.focus i hi
  have hb : w.heap[r]? = some (.stringIter (bs s) p) := St.at hF
  have hset : ∀ k, St B (itS r s k :: del L i) { w with heap := w.heap.setIfInBounds r (.stringIter (bs s) k) } := fun k =>
    St.write hF (fun j hj => by simp [Array.getElem?_setIfInBounds_ne (Ne.symm hj)]) (by simp [St.lt hF]) rfl rfl rfl
  rcases Nat.lt_or_ge p s.length with hp | hp
  · obtain ⟨b, hbb⟩ : ∃ b, s[p]? = some b := ⟨_, List.getElem?_eq_getElem hp⟩
    have hg := bs_get! hbb
    have hrun : (Instr.next (.pointer (some ⟨r, 0, none⟩)) true ty).run P w = .ok (.tuple #[.bool true, goInt p, .int .i32 (Utf8.decode (bs s) p).1]) { w with heap := w.heap.setIfInBounds r (.stringIter (bs s) (p + (Utf8.decode (bs s) p).2)) } := by
      simp [Instr.next, getObj, setObj, Sem.run, hb, Result.andThen, show p < (bs s).size from hp]
    by_cases ha : b.toNat < 128
    · have hd : Utf8.decode (bs s) p = (b.toNat, 1) := by
        simp only [Utf8.decode, Nat.add_zero, hg, if_pos ha]
      refine WO.val (v := .tuple #[.bool true, .int .i64 (p : Int), .int .i32 (b.toNat : Int)]) (w' := { w with heap := w.heap.setIfInBounds r (.stringIter (bs s) (p + 1)) }) (fun c fc => ?_) rfl rfl hn (hascii b hbb ha _ (St.unfocus hi (hset _)))
      rw [hd] at hrun
      simp only [execOp, fc.ev hx, Sem.run_bind, hrun, Result.andThen_ok]; rfl
    · refine WO.val (v := .tuple #[.bool true, .int .i64 (p : Int), .int .i32 ((Utf8.decode (bs s) p).1 : Int)]) (w' := { w with heap := w.heap.setIfInBounds r (.stringIter (bs s) (p + (Utf8.decode (bs s) p).2)) }) (fun c fc => ?_) rfl rfl hn (hbig b _ _ hbb ha (decode_big (by rw [Nat.add_zero, hg]; exact ha)) _ (St.unfocus hi (hset _)))
      simp only [execOp, fc.ev hx, Sem.run_bind, hrun, Result.andThen_ok]; rfl
  · refine WO.val (v := .tuple #[.bool false]) (w' := w) (fun c fc => ?_) rfl rfl hn (hend hp)
    have hrun : (Instr.next (.pointer (some ⟨r, 0, none⟩)) true ty).run P w = .ok (.tuple #[.bool false]) w := by
      simp [Instr.next, getObj, Sem.run, hb, show ¬ p < (bs s).size from Nat.not_lt.2 hp]
    simp only [execOp, fc.ev hx, Sem.run_bind, hrun, Result.andThen_ok]; rfl
end
end Go.Proofs.YtegcibphlpanfaaGreatDoor.SL
