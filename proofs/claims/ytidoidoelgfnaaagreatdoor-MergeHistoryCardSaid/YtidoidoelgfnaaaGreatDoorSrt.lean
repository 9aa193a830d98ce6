/- slices.SortFunc in the words of assertions: elements of several cells (structs), and of one. -/
import Derived.Test.YtidoidoelgfnaaaGreatDoorSh
import Derived.Shelf.SlSortCmp.NoneTotal
namespace Go.Proofs.YtidoidoelgfnaaaGreatDoor.SL
open Go.RowKit Go.Shelf
set_option linter.unusedVariables false
variable {B w : World} {L : List HP}
theorem St.own_holdsV {b off n cap k : Nat} {t : TypeId} {l : List Value} (h : St B (own (some ⟨b, off, none⟩) n cap t k l :: L) w) : Go.Sort.Holds id w b off l.toArray ∧ b < w.heap.size := by
  obtain ⟨⟨x, y⟩, h1⟩ := h.ex
  obtain ⟨⟨_, h3, h4, h5, h6⟩, h7⟩ := h1.sep.pure
  obtain ⟨fr, hf, h8⟩ := h7.cel_open
  have hb := h8.at
  simp only at h3
  refine ⟨fun j hj => ?_, h8.lt⟩
  have hj' : j < l.length := by simpa using hj
  have hlen : off + j < (x ++ (l ++ y)).length := by simp; omega
  have hg : (x ++ (l ++ y))[off + j]? = some l[j] := by
    rw [List.getElem?_append_right (by omega), List.getElem?_append_left (by omega), show off + j - x.length = j by omega]
    exact List.getElem?_eq_getElem hj'
  refine ⟨?_, ?_⟩
  · rw [cell_row hb, hg]; simp [hj']
  · have := hf (off + j) hlen
    simpa [World.frozen?, hb] using this
theorem St.own_putV {b off n cap k q : Nat} {t : TypeId} {l l' : List Value} (h : St B (own (some ⟨b, off, none⟩) n cap t k l :: L) w) (hn : l'.length = n * k) : St B (own (some ⟨b, off, none⟩) n cap t k l' :: L) (Go.Sort.putRow id (Go.Sort.ahead w q) b off l'.toArray) := by
  obtain ⟨⟨x, y⟩, h1⟩ := (h.ahead q).ex
  obtain ⟨⟨h2, h3, h4, h5, h6⟩, h7⟩ := h1.sep.pure
  obtain ⟨fr, hf, h8⟩ := h7.cel_open
  simp only at h3 h6 hf
  have hb := h8.at
  have hl : l.length = l'.length := by omega
  have hcells : Go.Sort.putCells id off l'.toArray (x ++ (l ++ y)).toArray = (x ++ (l' ++ y)).toArray := by
    apply Array.ext_getElem?
    intro k
    simp only [Go.Sort.putCells, Array.getElem?_mapIdx, List.getElem?_toArray, List.size_toArray]
    rw [mid_get, mid_get]
    by_cases c1 : k < x.length
    · rw [if_pos c1, if_pos c1]
      cases x[k]? with
      | none => rfl
      | some v => simp [show ¬ off ≤ k by omega]
    · rw [if_neg c1, if_neg c1]
      by_cases c2 : k - x.length < l'.length
      · rw [if_pos (by omega), if_pos c2, List.getElem?_eq_getElem (by omega), List.getElem?_eq_getElem c2]
        rw [Option.map_some, if_pos ⟨by omega, (by omega : k < off + l'.length)⟩, h3]
        congr 1
        simp [c2]
      · rw [if_neg (by omega), if_neg c2, hl]
        cases y[k - x.length - l'.length]? with
        | none => rfl
        | some v => simp [show ¬ k < off + l'.length by omega]
  have hf' : Free fr (x ++ (l' ++ y)).length := by simpa [hl] using hf
  refine St.own_shut (p := ⟨b, off, none⟩) h2 (by simpa using h3) hn h5 (show l'.length + y.length = _ by omega) (St.cel_shut (fr := fr) hf' (h8.write (fun k hk => ?_) ?_ rfl rfl rfl))
  · show (Array.modify _ _ _)[k]? = _
    rw [Array.getElem?_modify, if_neg (Ne.symm hk)]
  · show (Array.modify _ _ _)[b]? = _
    rw [Array.getElem?_modify, if_pos rfl, hb]
    simp only [Option.map_some, Go.Sort.onCells, hcells]
theorem flatK_eq {α : Type} [Inhabited α] {enc : α → List Value} {k : Nat} (hk : ∀ x, (enc x).length = k) (d : Array α) : Go.Sort.flatK enc k d = (d.toList.flatMap enc).toArray := by
  have hlen : (d.toList.flatMap enc).length = d.size * k := by rw [flat_len hk]; simp
  refine Go.Sort.ext_get! (by simp [hlen]) fun t ht => ?_
  have ht : t < d.size * k := by simpa using ht
  rw [Go.Sort.get_flatK _ _ _ _ ht]
  have hk0 : 0 < k := by rcases Nat.eq_zero_or_pos k with h | h; · (subst h; simp at ht)
                         · exact h
  have h1 : t / k < d.size := Nat.div_lt_of_lt_mul (by rwa [Nat.mul_comm])
  have h2 : t % k < k := Nat.mod_lt _ hk0
  have hx : d.toList[t / k]? = some d[t / k]! := by rw [getElem!_pos d _ h1]; simp [h1]
  have hg := flat_get hk hx h2
  rw [show t / k * k + t % k = t by rw [Nat.mul_comm]; exact Nat.div_add_mod t k] at hg
  have e1 : (enc d[t / k]!)[t % k]? = some (enc d[t / k]!)[t % k]! := by
    rw [getElem!_pos (enc d[t / k]!) _ (by rw [hk]; exact h2)]; exact List.getElem?_eq_getElem _
  rw [e1] at hg
  have e2 : t < (d.toList.flatMap enc).toArray.size := by simpa [hlen] using ht
  rw [getElem!_pos _ t e2]
  have e3 : (d.toList.flatMap enc)[t]? = some ((d.toList.flatMap enc).toArray[t]) := by simp
  rw [e3] at hg
  exact (Option.some.inj hg).symm
/-- A world in which nothing was written that was there before. -/
theorem St.as_grow {W w' : World} (h : St W [] w') : ∃ q os, w' = Go.Sort.grow (W.drewN q) os := by
  obtain ⟨h1, h2, h3, Z, p, d, hB, hZ, hp, s⟩ := h
  have hk : ∀ g o, W.heap[g]? = some o → w'.heap[g]? = some o := fun g o e => hZ.out g o (hB.out g o e)
  have hlt : W.heap.size ≤ w'.heap.size := by
    rcases Nat.lt_or_ge w'.heap.size W.heap.size with hlt | hge
    · have := hk w'.heap.size _ (Array.getElem?_eq_getElem hlt)
      rw [Array.getElem?_eq_none (Nat.le_refl _)] at this; cases this
    · exact hge
  refine ⟨w'.drawn - W.drawn, w'.heap.extract W.heap.size w'.heap.size, ?_⟩
  have hh : w'.heap = W.heap ++ w'.heap.extract W.heap.size w'.heap.size := by
    apply Array.ext_getElem?
    intro i
    by_cases hi : i < W.heap.size
    · rw [Array.getElem?_append_left hi, hk i _ (Array.getElem?_eq_getElem hi), Array.getElem?_eq_getElem hi]
    · rw [Array.getElem?_append_right (by omega), Array.getElem?_extract]
      by_cases h2 : i < w'.heap.size
      · rw [if_pos (by omega)]; congr 1; omega
      · rw [if_neg (by omega), Array.getElem?_eq_none (by omega)]
  have hdr : w'.drawn = W.drawn + (w'.drawn - W.drawn) := by have := h3.2; omega
  obtain ⟨a, b, c, d', e⟩ := w'
  simp only at h1 h2 h3 hh hdr
  show World.mk _ _ _ _ _ = World.mk _ _ _ _ _
  simp only [World.mk.injEq]
  exact ⟨hh, h2, hdr, h1, h3.1⟩
variable {P : Program} {ρ : Go.Shelf.Ren} {β : Type}
theorem perm_of {α : Type} [Inhabited α] {d d' : Array α} (h : Go.Sort.PermIn 0 d.size d d') : d'.toList.Perm d.toList := by
  obtain ⟨h1, _, h3⟩ := h
  have e1 : d'.extract 0 d.size = d' := by rw [← h1]; exact Array.extract_size
  have e2 : d.extract 0 d.size = d := Array.extract_size
  rw [e1, e2] at h3; exact h3
theorem sorted_of {α : Type} [Inhabited α] {lt : α → α → Bool} {d : Array α} {n : Nat} (hn : d.size = n) (h : Go.Sort.SortedIn lt 0 n d) : d.toList.Pairwise (fun x y => lt y x = false) := by
  rw [List.pairwise_iff_getElem]
  intro i j hi hj hij
  have hi' : i < d.size := by simpa using hi
  have hj' : j < d.size := by simpa using hj
  have := h i j (Nat.zero_le _) hij (by omega)
  rw [getElem!_pos d i hi', getElem!_pos d j hj'] at this
  simpa using this
theorem sortK {enc : β → List Value} {k : Nat} {cf : β → β → Int} {g : Nat} {cb : Array Value} {a : Option Addr} {cap : Nat} {t : TypeId} {l : List β}
    (LL : SlLaysF0.n6 P ρ) (aE : ∀ w, (isAgg (ρ.t 24)).run P w = .ok true w) (zE : ∀ w, (Go.sizeOf (ρ.t 24)).run P w = .ok k w) (hk : ∀ x, (enc x).length = k) (h1 : ∀ x, ∀ v ∈ enc x, v.oneCell' = true) (hO : Go.Sort.SWO (ltOf cf)) (hg : Has P g) (hsz : l.length < 4611686018427387904)
    (hS : St B (own a l.length cap t k (l.flatMap enc) :: L) w)
    (hcmp : ∀ (W : World) (l' : List β), l'.length = l.length → St B (own a l.length cap t k (l'.flatMap enc) :: L) W → ∀ x ∈ l, ∀ y ∈ l, Calls P g (#[.agg (enc x).toArray, .agg (enc y).toArray] ++ cb) W (ret fun v w' => v = .int .i64 (cf x y) ∧ St W [] w')) :
    Does P (ρ.f 6) [.slice a l.length cap, .func (.func g) #[] cb] w (fun v w' => v = .tuple #[] ∧ ∃ l' : List β, l'.Perm l ∧ l'.Pairwise (fun x y => ¬ cf y x < 0) ∧ St B (own a l.length cap t k (l'.flatMap enc) :: L) w') := by
  rcases Nat.eq_zero_or_pos l.length with h0 | h0
  · have hl := List.length_eq_zero_iff.1 h0
    subst hl
    exact (AnyF.slices_SortFunc_none LL a cap _ w).mono fun e w' ⟨he, hw⟩ => ⟨_, he, rfl, [], .refl _, .nil, hw ▸ hS⟩
  · obtain ⟨p, hp, hs⟩ := hS.own_rd.1.2.1 h0
    obtain ⟨b, off, sp⟩ := p
    simp only at hs
    subst hs; subst hp
    haveI : Inhabited {x // x ∈ l} := ⟨⟨l[0], List.getElem_mem _⟩⟩
    have hdl : (l.attach.toArray.toList.map (·.1)) = l := by simp
    have hdn : l.attach.toArray.size = l.length := by simp
    generalize l.attach.toArray = d at hdl hdn
    have hkα : ∀ x : {x // x ∈ l}, ((fun x : {x // x ∈ l} => enc x.1) x).length = k := fun x => hk x.1
    have hfl : ∀ dk : Array {x // x ∈ l}, Go.Sort.flatK (fun x : {x // x ∈ l} => enc x.1) k dk = ((dk.toList.map (·.1)).flatMap enc).toArray := fun dk => by rw [flatK_eq hkα, List.flatMap_map]
    obtain ⟨hH, hb⟩ := hS.own_holdsV
    have hH' : Go.Sort.HoldsK (fun x : {x // x ∈ l} => enc x.1) k w b off d := by unfold Go.Sort.HoldsK; rw [hfl, hdl]; exact hH
    have hput : ∀ (dk : Array {x // x ∈ l}) (m : Nat) (os : Array Obj), dk.size = l.length → St B (own (some ⟨b, off, none⟩) l.length cap t k ((dk.toList.map (·.1)).flatMap enc) :: L) (sortWorldK (fun x : {x // x ∈ l} => enc x.1) k w b off m dk os) := fun dk m os hs => by
      unfold sortWorldK Go.Sort.putRowK; rw [hfl]; exact (hS.own_putV (by rw [flat_len hk]; simp [hs])).grow os
    have hc := AnyQ.slices_SortFunc LL k aE zE (fun x : {x // x ∈ l} => enc x.1) hkα (fun x => h1 x.1) (fun x y => cf x.1 y.1) ⟨fun x => hO.irrefl x.1, fun x y z => hO.trans x.1 y.1 z.1, fun x y z => hO.ntrans x.1 y.1 z.1⟩ g cb b off cap d w hg.out
      (fun m os dk hs x y => (hcmp _ _ (by simp [hs, hdn]) (hput dk m os (hs.trans hdn)) x.1 x.2 y.1 y.2).mono fun e w' ⟨v, he, hv, hst⟩ => ⟨by rw [he, hv], hst.as_grow⟩) hH' hb (by rw [hdn]; exact hsz)
    rw [hdn] at hc
    refine hc.mono fun e w' ⟨he, d', n, os, hp, hsd, hw⟩ => ⟨_, he, rfl, d'.toList.map (·.1), ?_, ?_, ?_⟩
    · rw [← hdn] at hp
      have := (perm_of hp).map (·.1)
      rwa [hdl] at this
    · have := sorted_of (by rw [hp.1, hdn]) hsd
      rw [List.pairwise_map]
      exact this.imp fun h => by simpa [ltOf] using h
    · rw [hw]; exact hput d' n os (by rw [hp.1, hdn])
theorem holds_map {α : Type} [Inhabited α] {enc : α → Value} {b off : Nat} {d : Array α} (h : Go.Sort.Holds id w b off (d.toList.map enc).toArray) : Go.Sort.Holds enc w b off d := fun j hj => by
  have := h j (by simpa using hj)
  refine ⟨?_, this.2⟩
  rw [this.1, getElem!_pos _ j (by simpa using hj), getElem!_pos d j hj]
  simp
theorem putRow_map {α : Type} [Inhabited α] (enc : α → Value) (w : World) (b off : Nat) (d : Array α) : Go.Sort.putRow enc w b off d = Go.Sort.putRow id w b off (d.toList.map enc).toArray := by
  unfold Go.Sort.putRow
  congr 1
  funext c
  unfold Go.Sort.putCells
  congr 1
  funext i x
  have hsz : (d.toList.map enc).toArray.size = d.size := by simp
  rw [hsz]
  by_cases h : off ≤ i ∧ i < off + d.size
  · rw [if_pos h, if_pos h, getElem!_pos d _ (by omega), getElem!_pos (d.toList.map enc).toArray _ (by rw [hsz]; omega)]
    simp
  · rw [if_neg h, if_neg h]
theorem sort1 {enc : β → Value} {cf : β → β → Int} {g : Nat} {cb : Array Value} {a : Option Addr} {cap : Nat} {t : TypeId} {l : List β}
    (LL : SlLaysF.n6 P ρ) (h1 : ∀ x, (enc x).oneCell' = true) (hO : Go.Sort.SWO (ltOf cf)) (hg : Has P g) (hsz : l.length < 4611686018427387904)
    (hS : St B (own a l.length cap t 1 (l.map enc) :: L) w)
    (hcmp : ∀ (W : World) (l' : List β), l'.length = l.length → St B (own a l.length cap t 1 (l'.map enc) :: L) W → ∀ x ∈ l, ∀ y ∈ l, Calls P g (#[enc x, enc y] ++ cb) W (ret fun v w' => v = .int .i64 (cf x y) ∧ St W [] w')) :
    Does P (ρ.f 6) [.slice a l.length cap, .func (.func g) #[] cb] w (fun v w' => v = .tuple #[] ∧ ∃ l' : List β, l'.Perm l ∧ l'.Pairwise (fun x y => ¬ cf y x < 0) ∧ St B (own a l.length cap t 1 (l'.map enc) :: L) w') := by
  rcases Nat.eq_zero_or_pos l.length with h0 | h0
  · have hl := List.length_eq_zero_iff.1 h0
    subst hl
    exact (AnyF.slices_SortFunc_none { LL with } a cap _ w).mono fun e w' ⟨he, hw⟩ => ⟨_, he, rfl, [], .refl _, .nil, hw ▸ hS⟩
  · obtain ⟨p, hp, hs⟩ := hS.own_rd.1.2.1 h0
    obtain ⟨b, off, sp⟩ := p
    simp only at hs
    subst hs; subst hp
    haveI : Inhabited {x // x ∈ l} := ⟨⟨l[0], List.getElem_mem _⟩⟩
    have hdl : (l.attach.toArray.toList.map (·.1)) = l := by simp
    have hdn : l.attach.toArray.size = l.length := by simp
    generalize l.attach.toArray = d at hdl hdn
    obtain ⟨hH, hb⟩ := hS.own_holdsV
    have hmm : ∀ dk : Array {x // x ∈ l}, dk.toList.map (fun x : {x // x ∈ l} => enc x.1) = (dk.toList.map (·.1)).map enc := fun dk => by rw [List.map_map]; rfl
    have hH' : Go.Sort.Holds (fun x : {x // x ∈ l} => enc x.1) w b off d := holds_map (by rw [hmm, hdl]; exact hH)
    have hput : ∀ (dk : Array {x // x ∈ l}) (m : Nat) (os : Array Obj), dk.size = l.length → St B (own (some ⟨b, off, none⟩) l.length cap t 1 ((dk.toList.map (·.1)).map enc) :: L) (sortWorld (fun x : {x // x ∈ l} => enc x.1) w b off m dk os) := fun dk m os hs => by
      unfold sortWorld; rw [putRow_map, hmm]; exact (hS.own_putV (by simp [hs])).grow os
    have hc := Any.slices_SortFunc LL (fun x : {x // x ∈ l} => enc x.1) (fun x => h1 x.1) (fun x y => cf x.1 y.1) ⟨fun x => hO.irrefl x.1, fun x y z => hO.trans x.1 y.1 z.1, fun x y z => hO.ntrans x.1 y.1 z.1⟩ g cb b off cap d w hg.out
      (fun m os dk hs x y => (hcmp _ _ (by simp [hs, hdn]) (hput dk m os (hs.trans hdn)) x.1 x.2 y.1 y.2).mono fun e w' ⟨v, he, hv, hst⟩ => ⟨by rw [he, hv], hst.as_grow⟩) hH' hb (by rw [hdn]; exact hsz)
    rw [hdn] at hc
    refine hc.mono fun e w' ⟨he, d', n, os, hp, hsd, hw⟩ => ⟨_, he, rfl, d'.toList.map (·.1), ?_, ?_, ?_⟩
    · rw [← hdn] at hp
      have := (perm_of hp).map (·.1)
      rwa [hdl] at this
    · have := sorted_of (by rw [hp.1, hdn]) hsd
      rw [List.pairwise_map]
      exact this.imp fun h => by simpa [ltOf] using h
    · rw [hw]; exact hput d' n os (by rw [hp.1, hdn])
end Go.Proofs.YtidoidoelgfnaaaGreatDoor.SL
