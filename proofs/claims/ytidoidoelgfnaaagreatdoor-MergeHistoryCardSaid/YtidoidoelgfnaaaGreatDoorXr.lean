/- Arguments read, in the words of assertions; a contract as a law's row asks for it. -/
import Derived.Test.YtidoidoelgfnaaaGreatDoorSl8
import Derived.Test.YtidoidoelgfnaaaGreatDoorXo
import Derived.SizedLaws
import Derived.Handed
namespace Go.Proofs.YtidoidoelgfnaaaGreatDoor.SL
open Go.RowKit
set_option linter.unusedVariables false
theorem toCalls {P : Program} {f : FuncId} {args : List Value} {W : World} (h : St W [] W → Does P f args W (fun v w1 => v = .bool true ∧ St W [] w1)) : Calls P f args.toArray W fun e W' => e = .returned (.bool true) ∧ Below W.heap.size W W' :=
  Calls.mono (h (St.start W)) fun e w' ⟨v, he, hv, hS⟩ => ⟨by rw [he, hv], hS.below⟩
theorem list_of {α : Type} {p : Nat → α → Prop} : ∀ (n : Nat), (∀ i, i < n → ∃ x, p i x) → ∃ l : List α, l.length = n ∧ ∀ i x, l[i]? = some x → p i x
  | 0, _ => ⟨[], rfl, fun i x h => by simp at h⟩
  | n + 1, h => by
    obtain ⟨l, hl, hp⟩ := list_of n fun i hi => h i (by omega)
    obtain ⟨x, hx⟩ := h n (by omega)
    refine ⟨l ++ [x], by simp [hl], fun i y hy => ?_⟩
    rcases Nat.lt_or_ge i l.length with c | c
    · rw [List.getElem?_append_left c] at hy; exact hp i y hy
    · have hi : i < (l ++ [x]).length := (List.getElem?_eq_some_iff.1 hy).1
      have e : i = l.length := by simp at hi; omega
      subst e
      simp at hy; subst hy; rw [hl]; exact hx
theorem rd_of_rows {α : Type} {enc : α → List Value} {k n : Nat} {W : World} {a : Option Addr} {l : List α} (hk : ∀ x, (enc x).length = k) (hl : l.length = n) (hk0 : 0 < k)
    (h : ∀ i x, l[i]? = some x → ∃ b off, a = some ⟨b, off, none⟩ ∧ ∀ j, j < k → W.cell? ⟨b, off + (i * k + j), none⟩ = (enc x)[j]?) : Rd W a n k (l.flatMap enc) := by
  refine ⟨by rw [flat_len hk, hl], fun hn => ?_, fun j hj => ?_⟩
  · obtain ⟨b, off, e, _⟩ := h 0 l[0] (List.getElem?_eq_getElem (by omega))
    exact ⟨_, e, rfl⟩
  · have hi : j / k < l.length := by rw [hl]; exact Nat.div_lt_of_lt_mul (by rw [Nat.mul_comm]; exact hj)
    obtain ⟨b, off, e, hc⟩ := h (j / k) l[j / k] (List.getElem?_eq_getElem hi)
    have hm := Nat.mod_lt j hk0
    have hj' : j / k * k + j % k = j := by rw [Nat.mul_comm]; exact Nat.div_add_mod j k
    have := hc (j % k) hm
    rw [hj'] at this
    subst e
    show W.cell? ⟨b, off + j, none⟩ = _
    rw [this, ← flat_get hk (List.getElem?_eq_getElem hi) hm, hj']
theorem wf_i64 {x : Int} (h : (Lit.int .i64 x).wf = true) : -9223372036854775808 ≤ x ∧ x ≤ 9223372036854775807 := by
  have h2 : IntKind.i64.min ≤ x ∧ x ≤ IntKind.i64.max := by simpa [Lit.wf] using h
  have e1 : IntKind.i64.min = -9223372036854775808 := by decide
  have e2 : IntKind.i64.max = 9223372036854775807 := by decide
  rw [e1, e2] at h2; exact h2
section
variable {P : Program} {H : Type} {ec : TypeId × Value → H} {W : World} {base : Nat} {spare : Nat → Bool} {held : Bool}
/-- An argument of a type opened: its cells are those of some x that is good. -/
def Opens (ec : TypeId × Value → H) (P : Program) (W : World) (base : Nat) (spare : Nat → Bool) (held : Bool) (t : TypeId) {α : Type} (enc : α → List Value) (good : α → Prop) : Prop :=
  ∀ n cs y, DataW.trod ec P W base spare held n t cs = some y → (∀ m ∈ y.1.weights P t, m ≤ reachBytes) → ∃ x, cs = enc x ∧ good x
theorem Opens.int {t : TypeId} {k : IntKind} (hk : P.underlying t = some (.int k)) : Opens ec P W base spare held t (fun x : Int => [.int k x]) (fun x => (Lit.int k x).wf = true) :=
  fun n cs y h _ => let ⟨v, e, _, hw⟩ := DataW.trod_int hk h; ⟨v, e, hw⟩
theorem Opens.i64 {t : TypeId} (hk : P.underlying t = some (.int .i64)) : Opens ec P W base spare held t (fun x : Int => [.int .i64 x]) (fun x => -9223372036854775808 ≤ x ∧ x ≤ 9223372036854775807) :=
  fun n cs y h _ => let ⟨v, e, _, hw⟩ := DataW.trod_int hk h; ⟨v, e, wf_i64 hw⟩
theorem Opens.bool {t : TypeId} (hk : P.underlying t = some .bool) : Opens ec P W base spare held t (fun x : Bool => [.bool x]) (fun _ => True) :=
  fun n cs y h _ => by
    cases n with
    | zero => simp [DataW.trod] at h
    | succ n =>
      unfold DataW.trod at h
      rw [hk] at h
      split at h <;> simp_all
theorem Opens.string {t : TypeId} (hk : P.underlying t = some .string) : Opens ec P W base spare held t (fun x : List UInt8 => [str x]) (fun x => x.length ≤ reachBytes) :=
  fun n cs y h hw => by
    obtain ⟨s, e, rfl, _⟩ := DataW.trod_string hk h
    refine ⟨s.data.toList, e.trans ?_, hw _ (by simp [DataW.weights])⟩
    simp [str]
theorem weightsAll_of {e : TypeId} : ∀ {l : List (DataW H)} {d : DataW H}, d ∈ l → ∀ m ∈ d.weights P e, m ∈ DataW.weightsAll P e l
  | _ :: _, _, .head _, m, hm => by simp only [DataW.weightsAll, List.mem_append]; exact Or.inl hm
  | _ :: _, _, .tail _ h, m, hm => by simp only [DataW.weightsAll, List.mem_append]; exact Or.inr (weightsAll_of h m hm)
/-- A struct's field opened. -/
theorem Opens.field {t : TypeId} {fs : Array Field} {cs : List Value} {n : Nat} {y : DataW H × List MemPlace} (ht : P.underlying t = some (.struct fs)) (h : DataW.trod ec P W base spare held n t cs = some y) (hw : ∀ m ∈ y.1.weights P t, m ≤ reachBytes)
    (i o k : Nat) (f : Field) (hf : fs[i]? = some f) (hfo : f.offset = o) (hfk : P.cellsOf f.type = k) {α : Type} {enc : α → List Value} {good : α → Prop} (ho : Opens ec P W base spare held f.type enc good) : ∃ x, (cs.drop o).take k = enc x ∧ good x := by
  subst hfo; subst hfk
  obtain ⟨xs, n, _, rfl, _, hl, hx⟩ := DataW.trod_struct ht h
  have g := hx i f hf
  have hi : i < xs.length := by rw [hl]; exact (Array.getElem?_eq_some_iff.1 hf).1
  rw [List.getElem?_eq_getElem hi] at g
  refine ho _ _ _ g fun m hm => hw m ?_
  simp only [DataW.weights, ht]
  exact DataW.weights_mem_each (j := i) (t := f.type) (d := xs[i].1) (by rw [List.getElem?_map]; simp [hf]) (by rw [List.getElem?_map, List.getElem?_eq_getElem hi]; rfl) m hm
/-- A struct's cells as many as the type has. -/
theorem Opens.cells {t : TypeId} {fs : Array Field} {cs : List Value} {n : Nat} {y : DataW H × List MemPlace} (ht : P.underlying t = some (.struct fs)) (h : DataW.trod ec P W base spare held n t cs = some y) : cs.length = P.cellsOf t := by
  obtain ⟨xs, n, _, _, hl, _, _⟩ := DataW.trod_struct ht h; exact hl
/-- What a slice among the arguments is. -/
structure SlV (α : Type) where
  a : Option Addr
  l : List α
  cap : Nat
def SlV.enc {α : Type} (s : SlV α) : List Value := [.slice s.a s.l.length s.cap]
theorem Opens.slice {t e : TypeId} {α : Type} {enc : α → List Value} {good : α → Prop} {k : Nat} (ht : P.underlying t = some (.slice e)) (hc : P.cellsOf e = k) (hk0 : 0 < k) (hk : ∀ x, (enc x).length = k) (ho : Opens ec P W base spare held e enc good) :
    Opens ec P W base spare held t (SlV.enc (α := α)) (fun s => Rd W s.a s.l.length k (s.l.flatMap enc) ∧ s.l.length * P.bytesOf e ≤ reachBytes ∧ ∀ x ∈ s.l, good x) :=
  fun n cs y h hw => by
    rcases DataW.trod_slice ht h with ⟨rfl, rfl⟩ | ⟨a, len, cap, elems, rest, n, _, rfl, rfl, hb, hl, hm, hlen, hel, hsp, hns⟩
    · refine ⟨⟨none, [], 0⟩, rfl, ⟨by simp, fun h => absurd h (by simp), fun j hj => absurd hj (by simp)⟩, by simp, fun x hx => by simp at hx⟩
    · have hw' : ∀ m ∈ ((elems.map (·.1)).length + (rest.map (·.1)).length) * P.bytesOf e :: (DataW.weightsAll P e (elems.map (·.1)) ++ DataW.weightsAll P e (rest.map (·.1))), m ≤ reachBytes := by
        intro m hm; exact hw m (by simpa only [DataW.weights, ht] using hm)
      obtain ⟨l, hl, hp⟩ := list_of (p := fun i x => World.cells? W base (a.add (i * k)) k = some (enc x) ∧ good x) len (fun i hi => by
        have g := hel i hi
        have hi' : i < elems.length := by omega
        rw [List.getElem?_eq_getElem hi', hc] at g
        obtain ⟨cs', h1, h2⟩ := Option.bind_eq_some_iff.1 g
        obtain ⟨x, rfl, hx⟩ := ho _ _ _ h2 fun m hm => hw' m (List.mem_cons_of_mem _ (List.mem_append_left _ (weightsAll_of (List.mem_map.2 ⟨_, List.getElem_mem hi', rfl⟩) m hm)))
        exact ⟨x, h1, hx⟩)
      refine ⟨⟨some a, l, cap⟩, by rw [SlV.enc, hl], ?_, ?_, ?_⟩
      · refine rd_of_rows hk rfl hk0 fun i x hx => ?_
        obtain ⟨h1, _⟩ := hp i x hx
        obtain ⟨_, _, hcell⟩ := World.cells?_some h1
        obtain ⟨b, off, spot⟩ := a
        have hl0 : 0 < l.length := Nat.lt_of_le_of_lt (Nat.zero_le i) (List.getElem?_eq_some_iff.1 hx).1
        obtain ⟨h0, _⟩ := hp 0 (l[0]'hl0) (List.getElem?_eq_getElem hl0)
        obtain ⟨_, hlen0, hcell0⟩ := World.cells?_some h0
        have h0' := hcell0 0 hk0
        obtain ⟨v, hv⟩ : ∃ v, (enc (l[0]'hl0))[0]? = some v := ⟨_, List.getElem?_eq_getElem (by rw [hk]; omega)⟩
        rw [hv, Go.Deep.add_add] at h0'
        have hspot : spot = none := by simpa [Addr.add] using World.cell?_spot h0'
        subst hspot
        refine ⟨b, off, rfl, fun j hj => ?_⟩
        have hj' := hcell j hj
        rw [Go.Deep.add_add, Go.WideShapes.add_plain] at hj'
        exact hj'
      · refine Nat.le_trans (Nat.mul_le_mul_right _ ?_) (hw' _ (List.mem_cons_self ..))
        simp [hl, hlen]
      · intro x hx
        obtain ⟨i, hi, rfl⟩ := List.getElem_of_mem hx
        exact (hp i _ (List.getElem?_eq_getElem hi)).2
end
/-- A parameter opened. -/
theorem open_param {P : Program} {H : Type} {ec : TypeId × Value → H} {W : World} {base : Nat} {spare : Nat → Bool} {held : Bool} {ts : List TypeId} {ds : List (DataW H)} {t : TypeId} {α : Type} {enc : α → List Value} {good : α → Prop} (ho : Opens ec P W base spare held t enc good)
    (hsz : (DataW.weightsEach P ts ds).all (· ≤ reachBytes) = true) (j : Nat) {d : DataW H} {p : List MemPlace} {cs : List Value} (ht : ts[j]? = some t) (hd : ds[j]? = some d) (h : ∃ n, DataW.trod ec P W base spare held n t cs = some (d, p)) : ∃ x, cs = enc x ∧ good x := by
  obtain ⟨n, h⟩ := h
  exact ho n cs _ h fun m hm => of_decide_eq_true (List.all_eq_true.1 hsz _ (DataW.weights_mem_each ht hd _ hm))
end Go.Proofs.YtidoidoelgfnaaaGreatDoor.SL
