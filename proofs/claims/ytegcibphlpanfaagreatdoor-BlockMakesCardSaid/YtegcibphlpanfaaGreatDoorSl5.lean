/- Slices that are owned: reading, writing, appending, making; bytes and strings; copy. -/
import Derived.Test.YtegcibphlpanfaaGreatDoorSl4
namespace Go.Proofs.YtegcibphlpanfaaGreatDoor.SL
open Go.RowKit
set_option linter.unusedVariables false
set_option linter.unusedSimpArgs false
/-- An owned slice: n elements of k cells each, l all their cells; cap more room; x what lies ahead and behind in the array. -/
def own (a : Option Addr) (n cap : Nat) (t : TypeId) (k : Nat) (l : List Value) : HP := match a with
  | none => .pure (n = 0 ∧ cap = 0 ∧ l = [])
  | some p => .ex fun x : List Value × List Value => .sep (.pure (p.spot = none ∧ p.off = x.1.length ∧ l.length = n * k ∧ n ≤ cap ∧ l.length + x.2.length = cap * k)) (cel p.block (x.1 ++ (l ++ x.2)) t)
/-- A sealed slice. -/
def ro (a : Option Addr) (n : Nat) (t : TypeId) (k : Nat) (l : List Value) : HP := match a with
  | none => .pure (n = 0 ∧ l = [])
  | some p => .ex fun x : List Value × List Value => .sep (.pure (p.spot = none ∧ p.off = x.1.length ∧ l.length = n * k)) (scel p.block (x.1 ++ (l ++ x.2)) t)
variable {B w : World} {L : List HP}
theorem St.own_seal {a : Option Addr} {n cap k : Nat} {t : TypeId} {l : List Value} (h : St B (own a n cap t k l :: L) w) : St B (ro a n t k l :: L) w := by
  cases a with
  | none => obtain ⟨⟨h1, _, h2⟩, h3⟩ := h.pure; exact h3.addPure ⟨h1, h2⟩
  | some p =>
    obtain ⟨x, hx⟩ := h.ex
    obtain ⟨h1, h2⟩ := hx.sep.pure
    exact (St.join (St.addPure ⟨h1.1, h1.2.1, h1.2.2.1⟩ h2.cel_seal)).give x
/-- What one knows of a slice that may be read. -/
def Rd (w : World) (a : Option Addr) (n k : Nat) (l : List Value) : Prop := l.length = n * k ∧ (0 < n → ∃ p, a = some p ∧ p.spot = none) ∧ ∀ j, j < n * k → w.cell? (adr a j) = l[j]?
theorem St.own_rd {a : Option Addr} {n cap k : Nat} {t : TypeId} {l : List Value} (h : St B (own a n cap t k l :: L) w) : Rd w a n k l ∧ n ≤ cap := by
  cases a with
  | none =>
    obtain ⟨⟨rfl, rfl, rfl⟩, _⟩ := h.pure
    exact ⟨⟨by simp, fun h => by omega, fun j hj => by omega⟩, Nat.le_refl _⟩
  | some p =>
    obtain ⟨x, hx⟩ := h.ex
    obtain ⟨⟨h1, h2, h3, h4, h5⟩, h6⟩ := hx.sep.pure
    refine ⟨⟨h3, fun _ => ⟨p, rfl, h1⟩, fun j hj => ?_⟩, h4⟩
    obtain ⟨fr, _, h7⟩ := h6.cel_open
    show w.cell? ⟨p.block, p.off + j, none⟩ = _
    rw [cell_row h7.at, h2, List.getElem?_append_right (by omega), List.getElem?_append_left (by omega)]
    congr 1; omega
theorem St.own_rd_i {a : Option Addr} {n cap k : Nat} {t : TypeId} {l : List Value} (h : St B L w) (i : Nat) (hi : nth L i = some (own a n cap t k l)) : Rd w a n k l := (h.focus i hi).own_rd.1
theorem St.own_le_i {a : Option Addr} {n cap k : Nat} {t : TypeId} {l : List Value} (h : St B L w) (i : Nat) (hi : nth L i = some (own a n cap t k l)) : n ≤ cap := (h.focus i hi).own_rd.2
theorem Rd.cell {a : Option Addr} {n k : Nat} {l : List Value} (h : Rd w a n k l) {j : Nat} {v : Value} (hv : l[j]? = some v) : w.cell? (adr a j) = some v := by
  rw [h.2.2 j (by rw [← h.1]; exact (List.getElem?_eq_some_iff.1 hv).1), hv]
theorem Rd.cells {a : Option Addr} {n k : Nat} {l : List Value} (h : Rd w a n k l) {o m : Nat} (ho : o + m ≤ l.length) {vs : List Value} (hv : (l.drop o).take m = vs) : vs.length = m ∧ ∀ j, j < vs.length → w.cell? ((adr a o).add j) = vs[j]? := by
  subst hv
  have hl : ((l.drop o).take m).length = m := by rw [List.length_take, List.length_drop]; omega
  refine ⟨hl, fun j hj => ?_⟩
  have hj' : o + j < n * k := by rw [← h.1]; omega
  have hn : 0 < n := by rcases Nat.eq_zero_or_pos n with e | e; · subst e; simp at hj'
                        · exact e
  obtain ⟨p, rfl, _⟩ := h.2.1 hn
  rw [adr_add (some p) rfl, h.2.2 (o + j) hj', List.getElem?_take_of_lt (by omega), List.getElem?_drop]
theorem St.own_nil (t : TypeId) (k : Nat) (h : St B L w) : St B (own none 0 0 t k [] :: L) w := h.addPure ⟨rfl, rfl, rfl⟩
theorem St.own_of_cel {g m k : Nat} {l : List Value} {t : TypeId} (h : St B (cel g l t :: L) w) (hl : l.length = m * k) : St B (own (some ⟨g, 0, none⟩) m m t k l :: L) w := by
  refine (St.join (St.addPure ⟨rfl, rfl, hl, Nat.le_refl _, by simp [hl]⟩ ?_)).give ([], [])
  simpa using h
section
variable {P : Program} {n : Nat} {D : List Deferred} {T : Tm} {dst : Option Nat} {ty : TypeId} {pos : String} {aft : Array Edge} {ops : Array Oper} {rest : List Oper} {Q : Exit → Act → World → Prop}
/-- A store into an element. -/
theorem WO.storeOwn {u : TypeId} {x y : Operand} {a : Option Addr} {m cap o k sz : Nat} {t : TypeId} {v : Value} {vs l l' : List Value} (i : Nat) (hS : St B L w) (hi : nth L i = some (own a m cap t k l)) (hs : sizeB P u = some sz)
    (hx : ev T x = some (.pointer (some (adr a o)))) (hy : ev T y = some v) (hv : v.cells.toList = vs) (hk : vs.length = sz) (hn : vs.all noAgg = true) (hz : 0 < sz) (ho : o + sz ≤ l.length) (hl : splice l o vs = l')
    (h : ∀ w', St B (put L i (own a m cap t k l')) w' → WO P n D ops Q rest T w') : WO P n D ops Q (⟨none, .store u x y, ty, pos, aft, none⟩ :: rest) T w := fun c f => by
  have hF := hS.focus i hi
  cases a with
  | none => obtain ⟨⟨_, _, rfl⟩, _⟩ := hF.pure; simp at ho; omega
  | some p =>
    obtain ⟨q, hq⟩ := hF.ex
    obtain ⟨⟨h1, h2, h3, h4, h5⟩, h6⟩ := hq.sep.pure
    obtain ⟨w', e, h'⟩ := run_storeVar (P := P) (o := p.off + o) hs hv hk hn (by simp; omega) h6
    subst hl
    have hsp : splice (q.1 ++ (l ++ q.2)) (p.off + o) vs = q.1 ++ (splice l o vs ++ q.2) := by
      unfold splice
      rw [h2, List.take_append, List.take_of_length_le (by omega), List.drop_append, List.drop_eq_nil_of_le (by omega)]
      have e1 : q.1.length + o - q.1.length = o := by omega
      have e2 : q.1.length + o + vs.length - q.1.length = o + vs.length := by omega
      rw [e1, e2, List.take_append_of_le_length (by omega), List.drop_append_of_le_length (by omega)]
      simp
    rw [hsp] at h'
    have h'' : St B (own (some p) m cap t k (splice l o vs) :: del L i) w' := by
      refine (St.join (St.addPure ⟨h1, h2, ?_, h4, ?_⟩ h')).give q
      · rw [splice_length (by omega)]; exact h3
      · rw [splice_length (by omega)]; exact h5
    have e2 : (storeVar u (adr (some p) o) v).run P w = .ok () w' := e
    exact WO.eff (w' := w') (fun b fb => by simp [execOp, fb.ev hx, fb.ev hy, Instr.storeAt, Instr.sureAddr, e2]) rfl rfl (h w' (St.unfocus hi h'')) c f
/-- What an append takes. -/
structure Src (P : Program) (w : World) (x : Value) (m k : Nat) (news : List Value) : Prop where
  len : (Builtin.lenOf x).run P w = .ok m w
  cells : ∀ w', w'.heap = w.heap → (Builtin.firstCells k m x).run P w' = .ok news.toArray w'
  size : news.length = m * k
theorem Rd.same {w' : World} (e : w'.heap = w.heap) {a : Option Addr} {n k : Nat} {l : List Value} (h : Rd w a n k l) : Rd w' a n k l :=
  ⟨h.1, h.2.1, fun j hj => by rw [← h.2.2 j hj]; simp [World.cell?, e]⟩
theorem Rd.src {a : Option Addr} {m cap k : Nat} {l : List Value} (h : Rd w a m k l) : Src P w (.slice a m cap) m k l := by
  refine ⟨by simp [Builtin.lenOf], fun w' e => ?_, h.1⟩
  have h' := h.same e
  cases a with
  | none =>
    have hl : l = [] := by
      rcases Nat.eq_zero_or_pos m with e | e
      · subst e; simpa using h.1
      · obtain ⟨p, hp, _⟩ := h.2.1 e; cases hp
    subst hl
    simp [Builtin.firstCells]
  | some p =>
    have := h'.cells (o := 0) (m := l.length) (by omega) (vs := l) (by simp)
    simp only [Builtin.firstCells]
    refine run_loadCells h.1 fun j hj => ?_
    have hn : 0 < m := by rcases Nat.eq_zero_or_pos m with e | e; · subst e; rw [h.1] at hj; simp at hj
                          · exact e
    obtain ⟨p', hp, hs⟩ := h.2.1 hn
    cases hp
    have h2 := this.2 j hj
    rw [adr_add (some p) rfl] at h2
    rw [← h2]
    obtain ⟨b, o, s⟩ := p
    simp only at hs; subst hs
    rw [add_adr]; simp [adr]
theorem str_src (s : List UInt8) : Src P w (str s) s.length 1 (s.map fun b => Value.int .u8 b.toNat) := by
  refine ⟨by simp [Builtin.lenOf, bs_size], fun w' _ => ?_, by simp⟩
  have : (bs s).extract 0 s.length = bs s := by rw [bs_extract]; simp
  simp [Builtin.firstCells, this]
theorem run_append {t u e : TypeId} {du : TypeDesc} {a : Option Addr} {m cap r k bytes : Nat} {x : Value} {z : Value} {l news : List Value} (i : Nat) (ht : P.underlying t = some (.slice e)) (hu : P.underlying u = some du) (hdu : ∀ q, du ≠ .int q)
    (hs : sizeB P e = some k) (hk : 0 < k) (hby : (P.info? e).map (·.bytes) = some bytes) (hz : zeroB P e = some z) (hzs : z.cells.size = k) (hx : Src P w x r k news) (hn : news.all noAgg = true) (hb : (m + r) * bytes ≤ 140737488355328) (hm : m + r ≤ 9223372036854775807)
    (hS : St B L w) (hi : nth L i = some (own a m cap e k l)) :
    ∃ a' cap' w', (Builtin.append_ #[t, u] ty #[.slice a m cap, x]).run P w = .ok (.slice a' (m + r) cap') w' ∧ St B (put L i (own a' (m + r) cap' e k (l ++ news))) w' := by
  have hF := hS.focus i hi
  obtain ⟨⟨hl, hp, _⟩, hle⟩ := hF.own_rd
  have hz0 : (du matches .int _) = false := by cases du <;> first | rfl | exact absurd rfl (hdu _)
  obtain ⟨ie, hie, hie2⟩ := Option.map_eq_some_iff.1 hby
  have hsz : ie.size = k := by simpa [sizeB, hie] using hs
  have hfit : m + r ≤ cap ∨ cap < m + r := by omega
  rcases hfit with hfit | hfit
  · -- there is room
    cases a with
    | none =>
      obtain ⟨⟨rfl, rfl, rfl⟩, h0⟩ := hF.pure
      have hr : r = 0 := by omega
      subst hr
      have hnw : news = [] := by simpa using hx.size
      subst hnw
      refine ⟨none, 0, w, ?_, St.unfocus hi (St.own_nil _ _ h0)⟩
      have hc := hx.cells w rfl
      simp [Builtin.append_, run_underlying ht, run_underlying hu, hz0, run_sizeOf hs, hx.len, hc]
    | some p =>
      obtain ⟨q, hq⟩ := hF.ex
      obtain ⟨⟨h1, h2, h3, h4, h5⟩, h6⟩ := hq.sep.pure
      have hsum : m * k + r * k ≤ cap * k := by rw [← Nat.add_mul]; exact Nat.mul_le_mul_right _ hfit
      obtain ⟨w', e', h'⟩ := run_storeCells (P := P) news (o := p.off + m * k) (i := 0) hn (by simp [hx.size]; omega) h6
      have hsp : splice (q.1 ++ (l ++ q.2)) (p.off + m * k + 0) news = q.1 ++ ((l ++ news) ++ q.2.drop news.length) := by
        unfold splice
        have hlm : p.off + m * k + 0 = (q.1 ++ l).length := by simp; omega
        rw [← List.append_assoc q.1 l q.2, hlm, List.take_left, List.drop_append]
        simp
      rw [hsp] at h'
      refine ⟨some p, cap, w', ?_, St.unfocus hi ((St.join (St.addPure ⟨h1, h2, ?_, hfit, ?_⟩ h')).give (q.1, q.2.drop news.length))⟩
      · have hc := hx.cells w rfl
        have hadd : p.add (m * k) = ⟨p.block, p.off + m * k, none⟩ := by obtain ⟨b, o, s⟩ := p; simp only at h1; subst h1; exact add_adr
        simp [Builtin.append_, run_underlying ht, run_underlying hu, hz0, run_sizeOf hs, hx.len, hc, hfit, hadd, e']
      · simp [hl, hx.size, Nat.add_mul]
      · simp [hl, hx.size]; omega
  · -- a new array
    have hrd : Rd w a m k l := hF.own_rd.1
    have hns : ¬ (m + r ≤ cap) := by omega
    have hg := growslice_fits (bytes := bytes) hfit hb
    have hge := grownCap_ge w (m + r) cap e
    have hold := (hrd.src (P := P) (cap := cap)).cells w.drew rfl
    have hnew := hx.cells w.drew rfl
    have hbig : ¬ (9223372036854775807 < ((m : Int) + (r : Int))) := by omega
    have hg2 : ¬ (281474976710656 < Builtin.nextslicecap (m + r) cap * ie.bytes) := by rw [hie2]; omega
    obtain ⟨iz, hiz, hiz2⟩ := Option.bind_eq_some_iff.1 hz
    rw [hie] at hiz; cases hiz
    have hcells : ((l.toArray ++ news.toArray) ++ Builtin.zeroCells z.cells (grownCap w (m + r) cap e - (m + r))) = ((l ++ news) ++ (Builtin.zeroCells z.cells (grownCap w (m + r) cap e - (m + r))).toList).toArray := by apply Array.ext'; simp
    refine ⟨some ⟨w.heap.size, 0, none⟩, grownCap w (m + r) cap e, w.drew.alloc (.cells ((l.toArray ++ news.toArray) ++ Builtin.zeroCells z.cells (grownCap w (m + r) cap e - (m + r))) e (0, 0)), ?_, St.unfocus hi ?_⟩
    · have hold' : (Builtin.firstCells ie.size m (.slice a m cap)).run P w.drew = .ok l.toArray w.drew := hsz ▸ hold
      have hnew' : (Builtin.firstCells ie.size r x).run P w.drew = .ok news.toArray w.drew := hsz ▸ hnew
      simp [Builtin.append_, run_underlying ht, run_underlying hu, hz0, sizeOf, typeInfo, zeroValue, hie, hiz2, hx.len, hns, hbig, hg2, Question.forced, hold', hnew', newRow, grownCap]
      congr 2
      apply Array.ext'
      simp [List.append_assoc]
    · rw [hcells]
      have hd : St B (del L i) w.drew := hF.drop.drew
      have := hd.newCel ((l ++ news) ++ (Builtin.zeroCells z.cells (grownCap w (m + r) cap e - (m + r))).toList) e
      refine (St.join (St.addPure ⟨rfl, rfl, ?_, hge, ?_⟩ (by simpa using this))).give ([], (Builtin.zeroCells z.cells (grownCap w (m + r) cap e - (m + r))).toList)
      · simp [hl, hx.size, Nat.add_mul]
      · simp [hl, hx.size, size_zeroCells, hzs]
        rw [← Nat.add_mul, ← Nat.add_mul]; congr 1; omega
theorem WO.append {t u e d : TypeId} {du : TypeDesc} {a : Option Addr} {m cap r k bytes : Nat} {s x : Operand} {xv : Value} {z : Value} {l news : List Value} {ts : Array TypeId} (i : Nat) (hts : ts = #[t, u]) (ht : P.underlying t = some (.slice e)) (hu : P.underlying u = some du) (hdu : ∀ q, du ≠ .int q)
    (hs : sizeB P e = some k) (hk : 0 < k) (hby : (P.info? e).map (·.bytes) = some bytes) (hz : zeroB P e = some z) (hzs : z.cells.size = k) (he : ev T s = some (.slice a m cap)) (hex : ev T x = some xv) (hn : Nat.blt d n = true)
    (hS : St B L w) (hi : nth L i = some (own a m cap e k l)) (hx : Src P w xv r k news) (hnn : news.all noAgg = true) (hb : (m + r) * bytes ≤ 140737488355328) (hm : m + r ≤ 9223372036854775807)
    (h : ∀ a' cap' w', St B (put L i (own a' (m + r) cap' e k (l ++ news))) w' → WO P n D ops Q rest ((d, .slice a' (m + r) cap') :: T) w') : WO P n D ops Q (⟨some d, .call ⟨.builtin .append, #[s, x], ts⟩, ty, pos, aft, none⟩ :: rest) T w := fun c f => by
  subst hts
  obtain ⟨a', cap', w', hr, h'⟩ := run_append (P := P) (ty := ty) i ht hu hdu hs hk hby hz hzs hx hnn hb hm hS hi
  exact WO.val (v := .slice a' (m + r) cap') (w' := w') (fun b fb => by simp [execOp, resolve, invoke, builtin, fb.ev he, fb.ev hex, hr]) rfl rfl hn (h a' cap' w' h') c f
/-! bytes and strings -/
theorem run_bytesToStr {t u e : TypeId} {x : Operand} {a : Option Addr} {m cap : Nat} {s : List UInt8} (ht : P.underlying t = some (.slice e)) (he : P.underlying e = some (.int .u8)) (hu : P.underlying u = some .string) (hx : ev T x = some (.slice a m cap)) (hr : Rd w a m 1 (s.map fun b => Value.int .u8 b.toNat)) :
    Run P n D T w ⟨dst, .convert t u x, ty, pos, aft, none⟩ (str s) w := fun c f => by
  have hm : s.length = m := by simpa using hr.1
  have key : (convert t u (.slice a m cap)).run P w = .ok (str s) w := by
    cases a with
    | none =>
      have : m = 0 := by
        rcases Nat.eq_zero_or_pos m with e | e
        · exact e
        · obtain ⟨p, hp, _⟩ := hr.2.1 e; cases hp
      have hs : s = [] := List.eq_nil_of_length_eq_zero (by omega)
      subst hs
      simp [convert, run_underlying ht, run_underlying hu, run_underlying he, Conv.bytesToString]
      rfl
    | some p =>
      obtain ⟨b, o, sp⟩ := p
      have hc : ∀ j, j < (s.map fun b => (b.toNat : Int)).length → w.cell? ⟨b, o + j, none⟩ = some (.int .u8 ((s.map fun b => (b.toNat : Int)).getD j 0)) := fun j hj => by
        have hj' : j < s.length := by simpa using hj
        have := hr.cell (j := j) (v := .int .u8 s[j].toNat) (by simp [hj'])
        rw [show w.cell? ⟨b, o + j, none⟩ = _ from this]
        simp [hj']
      by_cases hm0 : m = 0
      · subst hm0
        have hs : s = [] := List.eq_nil_of_length_eq_zero (by omega)
        subst hs
        simp [convert, run_underlying ht, run_underlying hu, run_underlying he, Conv.bytesToString, loadCells, loadCellsFrom]
        rfl
      · have hsp : sp = none := by obtain ⟨p', hp, h2⟩ := hr.2.1 (by omega); cases hp; exact h2
        subst hsp
        rw [run_convert_bytes_arg (P := P) w t e ht he b o m cap (s.map fun b => (b.toNat : Int)) (by simp [hm]) (fun j hj => hc j (by simpa [hm] using hj)) u hu]
        congr 2
        unfold strOfNums bs
        congr 1
        rw [List.map_map]
        have : ((fun n : Int => UInt8.ofNat n.toNat) ∘ fun b : UInt8 => (b.toNat : Int)) = id := by funext b; simp
        rw [this]; simp
  simp [execOp, f.ev hx, key]
end
end Go.Proofs.YtegcibphlpanfaaGreatDoor.SL
