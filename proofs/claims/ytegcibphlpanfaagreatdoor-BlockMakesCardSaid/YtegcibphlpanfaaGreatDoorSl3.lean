/- Rules for operations that only compute: numbers, strings, addresses, parts. -/
import Derived.WalkSpells
import Derived.Lib.SliceRun
import Derived.Test.YtegcibphlpanfaaGreatDoorSl2
namespace Go.Proofs.YtegcibphlpanfaaGreatDoor.SL
open Go.RowKit
set_option linter.unusedVariables false
set_option linter.unusedSimpArgs false
section
variable {P : Program} {n : Nat} {D : List Deferred} {T : Tm} {w : World} {dst : Option Nat} {ty : TypeId} {pos : String} {aft : Array Edge}
theorem run_move {x : Operand} {v : Value} (hx : ev T x = some v) : Run P n D T w ⟨dst, .move x, ty, pos, aft, none⟩ v w := fun a f => by simp [execOp, f.ev hx]
theorem run_assign {x : Operand} {v : Value} (hx : ev T x = some v) : Run P n D T w ⟨dst, .assign x, ty, pos, aft, none⟩ v w := fun a f => by simp [execOp, f.ev hx]
theorem run_pickT {c x y : Operand} {b : Bool} {v : Value} (hc : ev T c = some (.bool b)) (e : b = true) (hx : ev T x = some v) : Run P n D T w ⟨dst, .pick c x y, ty, pos, aft, none⟩ v w := fun a f => by
  subst e; simp [execOp, f.ev hc, f.ev hx, asBool]
theorem run_pickF {c x y : Operand} {b : Bool} {v : Value} (hc : ev T c = some (.bool b)) (e : b = false) (hy : ev T y = some v) : Run P n D T w ⟨dst, .pick c x y, ty, pos, aft, none⟩ v w := fun a f => by
  subst e; simp [execOp, f.ev hc, f.ev hy, asBool]
theorem run_extract {x : Operand} {vs : List Value} {k : Nat} {v : Value} (hx : ev T x = some (.tuple vs.toArray)) (hk : nth vs k = some v) : Run P n D T w ⟨dst, .extract x k, ty, pos, aft, none⟩ v w := fun a f => by
  have : ∀ (l : List Value) (i : Nat), nth l i = l[i]? := by
    intro l; induction l with
    | nil => intro i; rfl
    | cons a l ih => intro i; cases i with
      | zero => rfl
      | succ i => simp [nth, ih]
  rw [this] at hk
  simp [execOp, f.ev hx, Instr.extract, hk]
/-! numbers -/
section nums
variable {t u : TypeId} {x y : Operand} {k : IntKind} {a b r : Int}
theorem eqGuard_int (op : BinOp) : (eqGuard op t x y (.int k a) (.int k b)).run P w = .ok () w := by
  unfold eqGuard; split <;> simp
theorem run_add (hx : ev T x = some (.int k a)) (hy : ev T y = some (.int k b)) (hr : k.wrap (a + b) = r) : Run P n D T w ⟨dst, .binOp .add t x y u, ty, pos, aft, none⟩ (.int k r) w := fun c f => by
  simp [execOp, f.ev hx, f.ev hy, eqGuard_int, binOp, Op.intArith, hr]
theorem run_sub (hx : ev T x = some (.int k a)) (hy : ev T y = some (.int k b)) (hr : k.wrap (a - b) = r) : Run P n D T w ⟨dst, .binOp .sub t x y u, ty, pos, aft, none⟩ (.int k r) w := fun c f => by
  simp [execOp, f.ev hx, f.ev hy, eqGuard_int, binOp, Op.intArith, hr]
theorem run_quo (hx : ev T x = some (.int k a)) (hy : ev T y = some (.int k b)) (h0 : ¬ b = 0) (hr : k.wrap (a.tdiv b) = r) : Run P n D T w ⟨dst, .binOp .quo t x y u, ty, pos, aft, none⟩ (.int k r) w := fun c f => by
  simp [execOp, f.ev hx, f.ev hy, eqGuard_int, binOp, Op.intDiv, hr, h0]
theorem run_shr {k' : IntKind} (hx : ev T x = some (.int k a)) (hy : ev T y = some (.int k' b)) (h0 : 0 ≤ b) (hr : a.fdiv (2 ^ (min b.toNat k.bits)) = r) : Run P n D T w ⟨dst, .binOp .shr t x y u, ty, pos, aft, none⟩ (.int k r) w := fun c f => by
  have : ¬ b < 0 := by omega
  simp [execOp, f.ev hx, f.ev hy, eqGuard, binOp, Op.shift, hr, this]
theorem run_eql (hx : ev T x = some (.int k a)) (hy : ev T y = some (.int k b)) : Run P n D T w ⟨dst, .binOp .eql t x y u, ty, pos, aft, none⟩ (.bool (decide (a = b))) w := fun c f => by
  simp [execOp, f.ev hx, f.ev hy, eqGuard_int, binOp, Op.intCmp]; rfl
theorem run_neq (hx : ev T x = some (.int k a)) (hy : ev T y = some (.int k b)) : Run P n D T w ⟨dst, .binOp .neq t x y u, ty, pos, aft, none⟩ (.bool (decide (¬ a = b))) w := fun c f => by
  have : (a != b) = decide (¬ a = b) := by by_cases h : a = b <;> simp [h]
  simp [execOp, f.ev hx, f.ev hy, eqGuard_int, binOp, Op.intCmp, this]
theorem run_lss (hx : ev T x = some (.int k a)) (hy : ev T y = some (.int k b)) : Run P n D T w ⟨dst, .binOp .lss t x y u, ty, pos, aft, none⟩ (.bool (decide (a < b))) w := fun c f => by
  simp [execOp, f.ev hx, f.ev hy, eqGuard_int, binOp, Op.intCmp]
theorem run_leq (hx : ev T x = some (.int k a)) (hy : ev T y = some (.int k b)) : Run P n D T w ⟨dst, .binOp .leq t x y u, ty, pos, aft, none⟩ (.bool (decide (a ≤ b))) w := fun c f => by
  simp [execOp, f.ev hx, f.ev hy, eqGuard_int, binOp, Op.intCmp]
theorem run_gtr (hx : ev T x = some (.int k a)) (hy : ev T y = some (.int k b)) : Run P n D T w ⟨dst, .binOp .gtr t x y u, ty, pos, aft, none⟩ (.bool (decide (b < a))) w := fun c f => by
  simp [execOp, f.ev hx, f.ev hy, eqGuard_int, binOp, Op.intCmp]
theorem run_geq (hx : ev T x = some (.int k a)) (hy : ev T y = some (.int k b)) : Run P n D T w ⟨dst, .binOp .geq t x y u, ty, pos, aft, none⟩ (.bool (decide (b ≤ a))) w := fun c f => by
  simp [execOp, f.ev hx, f.ev hy, eqGuard_int, binOp, Op.intCmp]
theorem run_convI {k2 : IntKind} (hu : P.underlying u = some (.int k2)) (ht : (P.underlying t).isSome = true) (hx : ev T x = some (.int k a)) (hr : k2.wrap a = r) : Run P n D T w ⟨dst, .convert t u x, ty, pos, aft, none⟩ (.int k2 r) w := fun c f => by
  obtain ⟨d, hd⟩ := Option.isSome_iff_exists.1 ht
  simp [execOp, f.ev hx, convert, underlying, hu, hd, Conv.intToInt, hr]
theorem run_max (hx : evs T [x, y] = some [.int k a, .int k b]) {ts : Array TypeId} (hr : (if b > a then b else a) = r) : Run P n D T w ⟨dst, .call ⟨.builtin .max, #[x, y], ts⟩, ty, pos, aft, none⟩ (.int k r) w := fun c f => by
  have := f.evs hx
  simp at this
  simp [execOp, resolve, this.1, this.2, invoke, builtin, Builtin.max_, Builtin.max2, hr]
end nums
/-! bools -/
theorem run_notP {t : TypeId} {x : Operand} {p : Prop} [Decidable p] (hx : ev T x = some (.bool (decide p))) : Run P n D T w ⟨dst, .unOp .not t x, ty, pos, aft, none⟩ (.bool (decide (¬ p))) w := fun c f => by
  have : (!decide p) = decide (¬ p) := by by_cases h : p <;> simp [h]
  simp only [execOp, f.ev hx, Op.unary, this]; rfl
theorem run_not {t : TypeId} {x : Operand} {b r : Bool} (hx : ev T x = some (.bool b)) (hr : (!b) = r) : Run P n D T w ⟨dst, .unOp .not t x, ty, pos, aft, none⟩ (.bool r) w := fun c f => by
  subst hr; simp [execOp, f.ev hx, Op.unary]
/-! strings, as rows of bytes -/
abbrev bs (l : List UInt8) : ByteArray := ⟨⟨l⟩⟩
abbrev str (l : List UInt8) : Value := .string (bs l)
theorem bs_toList (l : List UInt8) : (bs l).toList = l := by rw [ByteArray.toList_eq]
theorem bs_size (l : List UInt8) : (bs l).size = l.length := rfl
theorem bs_of (s : ByteArray) : s = bs s.data.toList := rfl
theorem bs_append (a b : List UInt8) : bs a ++ bs b = bs (a ++ b) := by
  have : (bs a ++ bs b).data.toList = a ++ b := by rw [ByteArray.data_append]; simp
  rw [bs_of (bs a ++ bs b), this]
theorem bs_extract (l : List UInt8) (i j : Nat) : (bs l).extract i j = bs ((l.take j).drop i) := by
  have : ((bs l).extract i j).data.toList = (l.take j).drop i := by rw [ByteArray.data_extract]; simp [List.drop_take]
  rw [bs_of ((bs l).extract i j), this]
def strLt (a b : List UInt8) : Bool := Op.bytesLess a b
section strs
variable {t u : TypeId} {x y : Operand} {a b r : List UInt8}
theorem run_cat (hx : ev T x = some (str a)) (hy : ev T y = some (str b)) (hb : a.length + b.length ≤ 9223372036854775807) : Run P n D T w ⟨dst, .binOp .add t x y u, ty, pos, aft, none⟩ (str (a ++ b)) w := fun c f => by
  have : ¬ (IntKind.i64.max < (((bs a).size + (bs b).size : Nat) : Int)) := by
    rw [bs_size, bs_size]; simp only [IntKind.max, IntKind.signed, IntKind.bits]; omega
  simp only [execOp, f.ev hx, f.ev hy, Sem.run_bind, eqGuard]
  simp only [binOp, Op.stringOp, bs_append]
  simp [this]
  rw [bs_size, bs_size]; omega
theorem run_eqlS (hx : ev T x = some (str a)) (hy : ev T y = some (str b)) : Run P n D T w ⟨dst, .binOp .eql t x y u, ty, pos, aft, none⟩ (.bool (decide (a = b))) w := fun c f => by
  have : (a == b) = decide (a = b) := by by_cases h : a = b <;> simp [h]
  simp [execOp, f.ev hx, f.ev hy, eqGuard, binOp, Op.stringOp, ByteArray.toList_eq, this]
theorem run_neqS (hx : ev T x = some (str a)) (hy : ev T y = some (str b)) : Run P n D T w ⟨dst, .binOp .neq t x y u, ty, pos, aft, none⟩ (.bool (decide (¬ a = b))) w := fun c f => by
  have : (!(a == b)) = decide (¬ a = b) := by by_cases h : a = b <;> simp [h]
  simp only [execOp, f.ev hx, f.ev hy, eqGuard, binOp, Op.stringOp, ByteArray.toList_eq, this]; simp
theorem run_lssS (hx : ev T x = some (str a)) (hy : ev T y = some (str b)) : Run P n D T w ⟨dst, .binOp .lss t x y u, ty, pos, aft, none⟩ (.bool (strLt a b)) w := fun c f => by
  simp [execOp, f.ev hx, f.ev hy, eqGuard, binOp, Op.stringOp, ByteArray.toList_eq, strLt]
theorem run_gtrS (hx : ev T x = some (str a)) (hy : ev T y = some (str b)) : Run P n D T w ⟨dst, .binOp .gtr t x y u, ty, pos, aft, none⟩ (.bool (!(strLt a b || decide (a = b)))) w := fun c f => by
  have : (a == b) = decide (a = b) := by by_cases h : a = b <;> simp [h]
  simp only [execOp, f.ev hx, f.ev hy, eqGuard, binOp, Op.stringOp, ByteArray.toList_eq, strLt, this]; simp
theorem run_leqS (hx : ev T x = some (str a)) (hy : ev T y = some (str b)) : Run P n D T w ⟨dst, .binOp .leq t x y u, ty, pos, aft, none⟩ (.bool (strLt a b || decide (a = b))) w := fun c f => by
  have : (a == b) = decide (a = b) := by by_cases h : a = b <;> simp [h]
  simp only [execOp, f.ev hx, f.ev hy, eqGuard, binOp, Op.stringOp, ByteArray.toList_eq, strLt, this]; simp
theorem run_indexS {k : IntKind} {i : Int} {c : UInt8} (ht : P.underlying t = some .string) (hx : ev T x = some (str a)) (hy : ev T y = some (.int k i)) (h0 : 0 ≤ i) (hi : a[i.toNat]? = some c) : Run P n D T w ⟨dst, .index t x y, ty, pos, aft, none⟩ (.int .u8 c.toNat) w := fun q f => by
  have hlt := (List.getElem?_eq_some_iff.1 hi).1
  have he := (List.getElem?_eq_some_iff.1 hi).2
  have hs : 0 ≤ i ∧ i < (bs a).size := ⟨h0, by rw [bs_size]; omega⟩
  have hg : (bs a)[i.toNat]'(by rw [bs_size]; exact hlt) = c := he
  simp only [execOp, f.ev hx, f.ev hy, Sem.run_bind, run_index_string w t (bs a) k i ht, dif_pos hs, Result.andThen_ok, hg]
  rfl
theorem run_lenS {ts : Array TypeId} (hts : ts = #[t]) (ht : P.underlying t = some .string) (hx : ev T x = some (str a)) : Run P n D T w ⟨dst, .call ⟨.builtin .len, #[x], ts⟩, ty, pos, aft, none⟩ (.int .i64 a.length) w := fun c f => by
  subst hts
  simp [execOp, resolve, f.ev hx, invoke, builtin, Builtin.len_, run_underlying ht, goInt, bs_size]
/-- A piece of a string: from i up to j. -/
theorem run_sliceS {lo hi : Option Operand} {i j : Nat} (ht : P.underlying t = some .string) (hx : ev T x = some (str a))
    (hl : match lo with | none => i = 0 | some o => ∃ k, ev T o = some (.int k (i : Int))) (hh : match hi with | none => j = a.length | some o => ∃ k, ev T o = some (.int k (j : Int))) (hij : i ≤ j) (hj : j ≤ a.length) (hr : (a.take j).drop i = r) :
    Run P n D T w ⟨dst, .slice t x lo hi none, ty, pos, aft, none⟩ (str r) w := fun c f => by
  subst hr
  have e1 : ∀ (k : IntKind) (y : Nat) (m : Nat) (cd : BoundsCode), m ≤ y → (Instr.sliceBound (.int k (m : Int)) y cd).run P w = .ok m w := fun k y m cd h => by
    have : (0 : Int) ≤ m ∧ (m : Int) ≤ y := by omega
    simp [Instr.sliceBound, asIntOf, h]
  have hjs : j ≤ (bs a).size := hj
  cases lo with
  | none =>
    simp only at hl; subst hl
    cases hi with
    | none => simp only at hh; subst hh; simp [execOp, f.ev hx, Instr.sliceAt, run_underlying ht, Instr.slice, Instr.sliceBounds, bs_extract, bs_size]
    | some o => obtain ⟨k, hk⟩ := hh; simp [execOp, f.ev hx, f.ev hk, Instr.sliceAt, run_underlying ht, Instr.slice, Instr.sliceBounds, bs_extract, e1, hjs]
  | some p =>
    obtain ⟨kp, hp⟩ := hl
    cases hi with
    | none => simp only at hh; subst hh; simp [execOp, f.ev hx, f.ev hp, Instr.sliceAt, run_underlying ht, Instr.slice, Instr.sliceBounds, bs_extract, bs_size, e1, hij]
    | some o => obtain ⟨k, hk⟩ := hh; simp [execOp, f.ev hx, f.ev hk, f.ev hp, Instr.sliceAt, run_underlying ht, Instr.slice, Instr.sliceBounds, bs_extract, e1, hjs, hij]
end strs
/-! addresses -/
/-- A place j cells behind an address. -/
def adr (a : Option Addr) (j : Nat) : Addr := match a with
  | some p => ⟨p.block, p.off + j, none⟩
  | none => ⟨0, 0, none⟩
theorem run_nilCheck {x : Operand} {p : Addr} (hx : ev T x = some (.pointer (some p))) : Run P n D T w ⟨dst, .nilCheck x, ty, pos, aft, none⟩ (.pointer (some p)) w := fun c f => by simp [execOp, f.ev hx]
def fieldB (P : Program) (s : TypeId) (i : Nat) : Option Nat := match P.underlying s with
  | some (.struct fs) => match fs[i]? with
    | some f => match P.info? f.type with
      | some j => if j.size = 0 then none else some f.offset
      | none => none
    | none => none
  | _ => none
theorem run_fieldAddr {s : TypeId} {x : Operand} {i k : Nat} {p q : Addr} (hf : fieldB P s i = some k) (hx : ev T x = some (.pointer (some p))) (hq : p.add k = q) : Run P n D T w ⟨dst, .fieldAddr s x i, ty, pos, aft, none⟩ (.pointer (some q)) w := fun c f => by
  unfold fieldB at hf
  split at hf
  · rename_i fs hu
    split at hf
    · rename_i fd hfd
      split at hf
      · rename_i j hj
        split at hf
        · cases hf
        · rename_i hne
          cases hf
          simp only [execOp, f.ev hx, Instr.fieldAt, Sem.run_bind, run_underlying hu, Result.andThen_ok]
          simp only [hfd, Instr.sureAddr, fieldPlace, sizeOf, typeInfo, Sem.run_bind, Sem.run_pure, Result.andThen_ok]
          simp [hj, hne, hq]
      · cases hf
    · cases hf
  · cases hf
theorem run_indexAddr {t e : TypeId} {x y : Operand} {k : IntKind} {i : Int} {a : Option Addr} {m cap sz : Nat} {q : Addr} (ht : P.underlying t = some (.slice e)) (hs : (P.info? e).map (·.size) = some sz)
    (hx : ev T x = some (.slice a m cap)) (hy : ev T y = some (.int k i)) (h0 : 0 ≤ i) (hi : i < m) (ha : ∃ p, a = some p ∧ p.spot = none) (hq : adr a (i.toNat * sz) = q) : Run P n D T w ⟨dst, .indexAddr t x y, ty, pos, aft, none⟩ (.pointer (some q)) w := fun c f => by
  obtain ⟨p, rfl, hp⟩ := ha
  obtain ⟨j, hj, hjs⟩ := Option.map_eq_some_iff.1 hs
  have h : 0 ≤ i ∧ i < (m : Int) := ⟨h0, hi⟩
  have hadd : p.add (i.toNat * sz) = q := by
    subst hq
    unfold Addr.add adr
    split
    · rename_i hz; rw [hz]; obtain ⟨b, o, s⟩ := p; simp at hp; subst hp; rfl
    · rfl
  simp only [execOp, f.ev hx, f.ev hy, Instr.indexAt, asIntOf, Sem.run_bind, run_underlying ht, Result.andThen_ok, Sem.run_pure]
  simp [h, sizeOf, typeInfo, hj, hjs, hadd]
theorem run_len {t e : TypeId} {x : Operand} {a : Option Addr} {m cap : Nat} {ts : Array TypeId} (hts : ts = #[t]) (ht : P.underlying t = some (.slice e)) (hx : ev T x = some (.slice a m cap)) : Run P n D T w ⟨dst, .call ⟨.builtin .len, #[x], ts⟩, ty, pos, aft, none⟩ (.int .i64 m) w := fun c f => by
  subst hts
  simp [execOp, resolve, f.ev hx, invoke, builtin, Builtin.len_, run_underlying ht, goInt]
/-- A piece of a slice. -/
theorem run_sliceL {t e : TypeId} {x : Operand} {lo hi : Option Operand} {i j m cap sz : Nat} {a : Option Addr} (ht : P.underlying t = some (.slice e)) (hs : (P.info? e).map (·.size) = some sz) (hx : ev T x = some (.slice a m cap))
    (hl : match lo with | none => i = 0 | some o => ∃ k, ev T o = some (.int k (i : Int))) (hh : match hi with | none => j = m | some o => ∃ k, ev T o = some (.int k (j : Int))) (hij : i ≤ j) (hj : j ≤ cap) :
    Run P n D T w ⟨dst, .slice t x lo hi none, ty, pos, aft, none⟩ (.slice (if cap = i then a else a.map (·.add (i * sz))) (j - i) (cap - i)) w := fun c f => by
  obtain ⟨q, hq, hqs⟩ := Option.map_eq_some_iff.1 hs
  have e1 : ∀ (k : IntKind) (y : Nat) (m : Nat) (cd : BoundsCode), m ≤ y → (Instr.sliceBound (.int k (m : Int)) y cd).run P w = .ok m w := fun k y m cd h => by
    have : (0 : Int) ≤ m ∧ (m : Int) ≤ y := by omega
    simp [Instr.sliceBound, asIntOf, h]
  have hz : (sizeOf e).run P w = .ok sz w := by simp [sizeOf, typeInfo, hq, hqs]
  cases lo with
  | none =>
    simp only at hl; subst hl
    cases hi with
    | none => simp only at hh; subst hh; simp [execOp, f.ev hx, Instr.sliceAt, run_underlying ht, Instr.slice, Instr.sliceBounds, hz]
    | some o => obtain ⟨k, hk⟩ := hh; simp [execOp, f.ev hx, f.ev hk, Instr.sliceAt, run_underlying ht, Instr.slice, Instr.sliceBounds, e1, hj, hz]
  | some p =>
    obtain ⟨kp, hp⟩ := hl
    cases hi with
    | none => simp only at hh; subst hh; simp [execOp, f.ev hx, f.ev hp, Instr.sliceAt, run_underlying ht, Instr.slice, Instr.sliceBounds, e1, hij, hz]
    | some o => obtain ⟨k, hk⟩ := hh; simp [execOp, f.ev hx, f.ev hk, f.ev hp, Instr.sliceAt, run_underlying ht, Instr.slice, Instr.sliceBounds, e1, hj, hij, hz]
/-! comparisons with nil -/
theorem run_eqlNilP {t u e : TypeId} {x y : Operand} {p : Option Addr} (ht : P.underlying t = some (.pointer e)) (hx : ev T x = some (.pointer p)) (hy : ev T y = some (.pointer none)) : Run P n D T w ⟨dst, .binOp .eql t x y u, ty, pos, aft, none⟩ (.bool p.isNone) w := fun c f => by
  have : P.underlying t = some (.pointer (P.pointee t)) := by rw [ht]; simp [Program.pointee, ht]
  simp only [execOp, f.ev hx, f.ev hy, Sem.run_bind, eqGuard]
  simp [run_eql_pointer_nil w t p this]
theorem run_neqNilP {t u e : TypeId} {x y : Operand} {p : Option Addr} (ht : P.underlying t = some (.pointer e)) (hx : ev T x = some (.pointer p)) (hy : ev T y = some (.pointer none)) : Run P n D T w ⟨dst, .binOp .neq t x y u, ty, pos, aft, none⟩ (.bool (!p.isNone)) w := fun c f => by
  have : P.underlying t = some (.pointer (P.pointee t)) := by rw [ht]; simp [Program.pointee, ht]
  simp only [execOp, f.ev hx, f.ev hy, Sem.run_bind, eqGuard]
  simp [run_neq_pointer_nil w t p this]
theorem run_eqlNilL {t u e : TypeId} {x y : Operand} {a : Option Addr} {m cp : Nat} (ht : P.underlying t = some (.slice e)) (hx : ev T x = some (.slice a m cp)) (hy : ev T y = some (.slice none 0 0)) : Run P n D T w ⟨dst, .binOp .eql t x y u, ty, pos, aft, none⟩ (.bool a.isNone) w := fun c f => by
  simp only [execOp, f.ev hx, f.ev hy, Sem.run_bind, eqGuard]
  simp [Lib.run_eql_slice_nil w t e a m cp 0 0 ht]
/-! what is made out of parts, by one closed equation -/
def evp (T : Tm) : List (Nat × Operand) → Option (List (Nat × Value))
  | [] => some []
  | (i, x) :: l => match ev T x, evp T l with
    | some v, some vs => some ((i, v) :: vs)
    | _, _ => none
theorem Fits.evp {a : Act} (h : Fits n D T a) : ∀ {l : List (Nat × Operand)} {vs : List (Nat × Value)}, evp T l = some vs → l.map (fun p => (p.1, a.eval p.2)) = vs
  | [], _, e => by cases e; rfl
  | (i, x) :: l, vs, e => by
    unfold SL.evp at e
    cases h1 : SL.ev T x with
    | none => rw [h1] at e; cases e
    | some v =>
      cases h2 : SL.evp T l with
      | none => rw [h1, h2] at e; cases e
      | some us =>
        rw [h1, h2] at e
        cases e
        rw [List.map_cons, h.ev h1, h.evp h2]
theorem run_build {t : TypeId} {ps : Array (Nat × Operand)} {vs : List (Nat × Value)} {v : Value} (hp : evp T ps.toList = some vs) (hb : ∀ w, (Instr.build t vs.toArray).run P w = .ok v w) : Run P n D T w ⟨dst, .build t ps, ty, pos, aft, none⟩ v w := fun c f => by
  have h2 : ps.map (fun p => (p.1, c.eval p.2)) = vs.toArray := by rw [← f.evp hp]; apply Array.ext'; simp
  have h3 : (ps.map fun (i, x) => (i, c.eval x)) = vs.toArray := h2
  simp [execOp, h3, hb]
theorem run_makeFunc {fn : Go.Fn} {a b : Array Operand} {us vs : List Value} (ha : evs T a.toList = some us) (hb : evs T b.toList = some vs) : Run P n D T w ⟨dst, .makeFunc fn a b, ty, pos, aft, none⟩ (.func fn us.toArray vs.toArray) w := fun c f => by
  have h1 : a.map c.eval = us.toArray := by rw [← f.evs ha]; apply Array.ext'; simp
  have h2 : b.map c.eval = vs.toArray := by rw [← f.evs hb]; apply Array.ext'; simp
  simp [execOp, Instr.makeFunc, h1, h2]
theorem run_makeIface {t : TypeId} {x : Operand} {v : Value} (ht : ∃ d, P.underlying t = some d ∧ ∀ ms, d ≠ .interface ms) (hx : ev T x = some v) : Run P n D T w ⟨dst, .makeInterface t x, ty, pos, aft, none⟩ (.iface t v) w := fun c f => by
  obtain ⟨d, hd, hn⟩ := ht
  simp only [execOp, f.ev hx, Instr.makeInterface, Sem.run_bind, run_underlying hd, Result.andThen_ok]
  cases d <;> first | rfl | (exact absurd rfl (hn _))
end
end Go.Proofs.YtegcibphlpanfaaGreatDoor.SL
