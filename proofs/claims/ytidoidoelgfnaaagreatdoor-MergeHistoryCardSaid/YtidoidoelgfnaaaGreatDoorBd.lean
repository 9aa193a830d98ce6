/- A builder's parts: pointers that are turned, bytes that are taken as a string. -/
import Derived.Test.YtidoidoelgfnaaaGreatDoorSl8
import Derived.Lib.Builder
import Derived.Lib.UnsafeStr
import Derived.Laws.Externs
namespace Go.Proofs.YtidoidoelgfnaaaGreatDoor.SL
open Go.RowKit
set_option linter.unusedVariables false
section
variable {P : Program} {n : Nat} {D : List Deferred} {T : Tm} {dst : Option Nat} {ty : TypeId} {pos : String} {aft : Array Edge} {ops : Array Oper} {rest : List Oper} {Q : Exit → Act → World → Prop} {B w : World} {L : List HP}
theorem St.cel_shape {g : Nat} {l : List Value} {t : TypeId} (h : St B L w) (i : Nat) (hi : nth L i = some (cel g l t)) : w.shape? g = some (t, l.length) := by
  obtain ⟨fr, _, h1⟩ := (h.focus i hi).cel_open
  simp [World.shape?, h1.at]
theorem run_toUnsafe {s d t tt : TypeId} {x : Operand} {g m : Nat} {l : List Value} (i : Nat) (hS : St B L w) (hi : nth L i = some (cel g l tt)) (hs : P.underlying s = some (.pointer t)) (hd : P.underlying d = some .unsafePointer) (ht : (P.info? t).map (·.size) = some m) (hm : ¬ m = 0) (hl : 0 < l.length) (hx : ev T x = some (.pointer (some ⟨g, 0, none⟩))) :
    Run P n D T w ⟨dst, .convert s d x, ty, pos, aft, none⟩ (.pointer (some ⟨g, 0, none⟩)) w := fun c f => by
  obtain ⟨j, hj, hjs⟩ := Option.map_eq_some_iff.1 ht
  have := Lib.run_to_unsafe (P := P) w ⟨g, 0, none⟩ hs hd hj (by rw [hjs]; exact hm) (hS.cel_shape i hi) hl
  simp only [execOp, f.ev hx, Sem.run_bind, this, Result.andThen_ok]; rfl
theorem run_fromUnsafe {s d u tt : TypeId} {x : Operand} {g m : Nat} {l : List Value} (i : Nat) (hS : St B L w) (hi : nth L i = some (cel g l tt)) (hs : P.underlying s = some .unsafePointer) (hd : P.underlying d = some (.pointer u)) (ht : (P.info? u).map (·.size) = some m) (hlies : liesAt P P.depth tt (l.length / P.cellsOf tt) 0 u 1 = true) (hx : ev T x = some (.pointer (some ⟨g, 0, none⟩))) :
    Run P n D T w ⟨dst, .convert s d x, ty, pos, aft, none⟩ (.pointer (some ⟨g, 0, none⟩)) w := fun c f => by
  obtain ⟨j, hj, hjs⟩ := Option.map_eq_some_iff.1 ht
  have := Lib.run_from_unsafe (P := P) w ⟨g, 0, none⟩ hs hd hj (hS.cel_shape i hi) hlies
  simp only [execOp, f.ev hx, Sem.run_bind, this, Result.andThen_ok]; rfl
theorem run_neqPtr {t te u : TypeId} {m : Nat} {x y : Operand} {a : Addr} (ht : P.underlying t = some (.pointer te)) (hte : (P.info? te).map (·.size) = some m) (hx : ev T x = some (.pointer (some a))) (hy : ev T y = some (.pointer (some a))) :
    Run P n D T w ⟨dst, .binOp .neq t x y u, ty, pos, aft, none⟩ (.bool false) w := fun c f => by
  obtain ⟨j, hj, hjs⟩ := Option.map_eq_some_iff.1 hte
  have := Lib.run_neq_ptr_same (P := P) w a ht hj
  simp [execOp, f.ev hx, f.ev hy, eqGuard, this]
theorem WO.extern {d : Nat} {x : Operand} {as : Array Operand} {ts : Array TypeId} {f : FuncId} {fn : Func} {e : Array Value → Sem Value} {vs : List Value} {v : Value}
    (hx : ev T x = some (.func (.func f) #[] #[])) (ha : evs T as.toList = some vs) (hf : P.funcs[f]? = some fn) (hname : (fn.name == "runtime.NumGoroutine") = false) (hb : fn.body.isNone = true) (hnx : Extern.findNext fn = none) (he : Extern.find fn = some e) (hr : ∀ w, (e vs.toArray).run P w = .ok v w) (hn : Nat.blt d n = true)
    (h : WO P n D ops Q rest ((d, v) :: T) w) : WO P n D ops Q (⟨some d, .call ⟨.value x, as, ts⟩, ty, pos, aft, none⟩ :: rest) T w :=
  WO.val (v := v) (w' := w) (fun a fi => by
    have h1 := fi.ev hx
    have h2 : as.map a.eval = vs.toArray := by
      have := fi.evs ha
      rw [← this]; apply Array.ext'; simp
    have h3 := run_callFunc_extern (P := P) hf hname hb hnx he vs.toArray w
    rw [hr] at h3
    simp [execOp, resolve, Deferred.ofValue, h1, h2, invoke, h3]) rfl rfl hn h
theorem run_sliceData {s : Operand} {ts : Array TypeId} {a : Addr} {m cap : Nat} (hx : ev T s = some (.slice (some a) m cap)) (hc : ¬ cap = 0) : Run P n D T w ⟨dst, .call ⟨.builtin .unsafeSliceData, #[s], ts⟩, ty, pos, aft, none⟩ (.pointer (some a)) w := fun c f => by
  have := Lib.run_unsafeSliceData_row (P := P) w ts ty a m cap hc
  simp [execOp, resolve, invoke, builtin, f.ev hx, this]
theorem lies_off {e : TypeId} (hc : P.cellsOf e = 1) (count off n : Nat) (hn : off + n ≤ count) : liesAt P P.depth e count off e n = true := by
  have hd : P.depth = (2 * (P.types.size + Made.depth) + 1) + 1 := rfl
  rw [hd]
  simp only [liesAt, Bool.or_eq_true]
  left
  rw [hd]
  simp [rowAt, hc, hn, sameLayout, Nat.mod_one]
theorem run_unsafeString {pt it ty e : TypeId} (hp : P.underlying pt = some (.pointer e)) (hc : P.cellsOf e = 1) (g off cells : Nat) (hsh : w.shape? g = some (e, cells)) (l : List UInt8) (h0 : l ≠ []) (hn : off + l.length ≤ cells) (h63 : l.length ≤ 9223372036854775807)
    (hcell : ∀ j x, l[j]? = some x → w.cell? ((⟨g, off, none⟩ : Addr).add j) = some (.int .u8 x.toNat)) :
    (Builtin.unsafeString_ #[pt, it] ty #[.pointer (some ⟨g, off, none⟩), .int .i64 l.length]).run P w = .ok (str l) (w.freeze ⟨g, off, none⟩ l.length) := by
  have hl : l.length ≠ 0 := by simpa using h0
  have hlb := Lib.run_loadBytes (P := P) w l ⟨g, off, none⟩ .empty hcell
  have hlies := lies_off (P := P) hc (cells / P.cellsOf e) off l.length (by rw [hc]; simpa using hn)
  have h63' : ¬ (9223372036854775807 : Int) < (l.length : Int) := by omega
  have hdef : Builtin.unsafeString_ #[pt, it] ty #[.pointer (some ⟨g, off, none⟩), .int .i64 l.length] =
      (do
        let n ← asInt (.int .i64 l.length)
        if n < 0 then runtimePanic (.error "unsafe.String: len out of range")
        if n > IntKind.i64.max then unsupported (.unsafePointer "String: a length above the largest int")
        if n = 0 then pure (.string .empty)
        else if ← variablesAt ⟨g, off, none⟩ (← elemOf pt) n.toNat then do
          let s ← loadBytes ⟨g, off, none⟩ .empty n.toNat
          freeze ⟨g, off, none⟩ n.toNat
          pure (.string s)
        else unsupported (.unsafePointer "String: not so many bytes at ptr")) := rfl
  rw [hdef]
  have hmax : IntKind.i64.max = 9223372036854775807 := rfl
  have hneg : ¬ (l.length : Int) < 0 := by omega
  simp [asInt, asIntOf, hmax, h63', hneg, hl, variablesAt, hsh, elemOf, run_underlying hp, hlies, hlb]
theorem WO.takeString {d : Nat} {x y : Operand} {pt it e : TypeId} {a : Option Addr} {cap : Nat} {bs : List UInt8} (i : Nat) (hS : St B L w) (hi : nth L i = some (own a bs.length cap e 1 (bs.map fun b => Value.int .u8 b.toNat))) (hb : bs ≠ []) (h63 : bs.length ≤ 9223372036854775807) (hp : P.underlying pt = some (.pointer e)) (hc : P.cellsOf e = 1)
    (hx : ev T x = some (.pointer a)) (hy : ev T y = some (.int .i64 bs.length)) (hn : Nat.blt d n = true) (h : ∀ w', St B (del L i) w' → WO P n D ops Q rest ((d, str bs) :: T) w') :
    WO P n D ops Q (⟨some d, .call ⟨.builtin .unsafeString, #[x, y], #[pt, it]⟩, ty, pos, aft, none⟩ :: rest) T w := by
  have hF := hS.focus i hi
  have hr := hF.own_rd.1
  have hpos : 0 < bs.length := List.length_pos_iff.2 hb
  obtain ⟨p, rfl, hs⟩ := hr.2.1 hpos
  obtain ⟨g, off, sp⟩ := p
  simp only at hs; subst hs
  obtain ⟨⟨pre, sp⟩, h1⟩ := hF.ex
  obtain ⟨⟨_, h3, h4, h5, h6⟩, h7⟩ := h1.sep.pure
  obtain ⟨fr, hf, h8⟩ := h7.cel_open
  simp only at h3 h6
  have hat := h8.at
  have hrun := run_unsafeString (P := P) (w := w) (ty := ty) (it := it) hp hc g off (pre ++ (bs.map (fun b => Value.int .u8 b.toNat) ++ sp)).length (by simp [World.shape?, hat]) bs hb (by simp; omega) h63 (fun j z hz => by
    have hlt := (List.getElem?_eq_some_iff.1 hz).1
    have := hr.2.2 j (by omega)
    rw [List.getElem?_map, hz] at this
    rw [Go.WideShapes.add_plain]
    exact this)
  refine WO.val (v := str bs) (w' := w.freeze ⟨g, off, none⟩ bs.length) (fun c f => by simp [execOp, resolve, invoke, builtin, f.ev hx, f.ev hy, hrun]) rfl rfl hn (h _ ?_)
  have hfz : w.freeze ⟨g, off, none⟩ bs.length = { w with heap := w.heap.modify g fun
      | .cells c elem (lo, hi) => .cells c elem (if lo == hi then (off, off + bs.length) else (min lo off, max hi (off + bs.length)))
      | o => o } := by unfold World.freeze; rw [if_neg (by omega)]; rfl
  obtain ⟨lo, hi'⟩ := fr
  refine St.drop (h8.write (o' := .cells (pre ++ (bs.map (fun b => Value.int .u8 b.toNat) ++ sp)).toArray e (if lo == hi' then (off, off + bs.length) else (min lo off, max hi' (off + bs.length)))) (fun k hk => ?_) ?_ ?_ ?_ ?_ ?_)
  · rw [hfz]; simp only [Array.getElem?_modify]; rw [if_neg (Ne.symm hk)]
  · rw [hfz]; simp only [Array.getElem?_modify, if_true]; rw [hat]; rfl
  all_goals (rw [hfz])
  exact Nat.le_refl _
end
end Go.Proofs.YtidoidoelgfnaaaGreatDoor.SL
