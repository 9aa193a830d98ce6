/- The keys of a map, sorted; a copy of a map. -/
import Derived.Test.YtiggkfaonnnjoaaGreatDoorSl11
import Derived.Test.YtiggkfaonnnjoaaGreatDoorShelf
import Derived.Test.YtiggkfaonnnjoaaGreatDoorTy
namespace Go.Proofs.YtiggkfaonnnjoaaGreatDoor.SL
open Go.RowKit Go.Proofs.YtiggkfaonnnjoaaGreatDoor
open Go.Proofs.YtiggkfaonnnjoaaGreatDoorW.PrintLast (rtab opsOf)
set_option linter.unusedVariables false
set_option linter.unusedSimpArgs false

open Go.Maps Go.Sort
open Go.WideElems (Fit rg rg_of)
theorem St.grown_new {B w w' : World} {L : List HP} {g : Nat} {o : Obj} (h : St B L w) (hb : Below w.heap.size w w') (hg : w.heap.size ≤ g) (ho : w'.heap[g]? = some o) : St B (.blk g o :: L) w' := by
  obtain ⟨h1, h2, h3, Z, p, d, hB, hZ, hp, s⟩ := h
  have big : Le (heapOf w) (heapOf w') := Le.mk fun k x e => by
    have hlt : k < w.heap.size := (Array.getElem?_eq_some_iff.1 e).1
    show w'.heap[k]? = some x
    rw [hb.block k hlt]; exact e
  have none_of : ∀ {q : PH}, Le q (heapOf w) → q g = none := fun {q} hq => by
    cases e : q g with
    | none => rfl
    | some x =>
      have := hq.out g x e
      have hlt : g < w.heap.size := (Array.getElem?_eq_some_iff.1 this).1
      omega
  have dj : ∀ {q : PH}, Le q (heapOf w) → Dj q (PH.one g o) := fun {q} hq => Dj.mk fun k => by
    by_cases e : k = g
    · subst e; exact .inl (none_of hq)
    · right; unfold PH.one; rw [if_neg e]
  refine ⟨hb.os.trans h1, hb.tape.trans h2, hb.output.trans h3, Z, (PH.one g o).un p, (Dj.un (dj hZ).symm d.symm).symm, hB, hZ.trans big, Le.un (Le.one (show heapOf w' g = some o from ho)) (hp.trans big), ?_⟩
  exact ⟨PH.one g o, p, (dj hp).symm, Le.left _ _, Le.right (dj hp).symm, PH.one_self g o, s⟩
theorem St.ownsRow {B w w' : World} {L : List HP} {t : TypeId} {v : Value} {n : Nat} {xs : List Value} (h : St B L w) (hb : Below w.heap.size w w') (hr : w'.ownsRow w.heap.size t 1 v n xs) : ∃ a c, v = .slice a n c ∧ St B (own a n c t 1 xs :: L) w' := by
  obtain ⟨h1, h2⟩ := hr
  rcases h2 with ⟨rfl, rfl⟩ | ⟨g, cap, cur, rfl, hg, ho, hc, _, hs, hx⟩
  · have hx : xs = [] := List.length_eq_zero_iff.1 (by omega)
    subst hx
    exact ⟨none, 0, rfl, (h.grown hb).own_nil t 1⟩
  · refine ⟨_, cap, rfl, St.own_shut (p := ⟨g, 0, none⟩) (pre := []) (sp := cur.toList.drop (n * 1)) rfl rfl h1 hc ?_ ?_⟩
    · rw [h1, List.length_drop, Array.length_toList, hs]; omega
    · have e : [] ++ (xs ++ cur.toList.drop (n * 1)) = cur.toList := by rw [List.nil_append, ← hx, List.take_append_drop]
      rw [e]
      refine St.cel_shut (fr := (0, 0)) (free_none _) ?_
      have : cur.toList.toArray = cur := Array.toArray_toList
      rw [this]
      exact h.grown_new hb hg ho
/-- What maps.Keys has handed out. -/
def KeysAt (t : TypeId) (g r : Nat) (w : World) : Prop := ∃ w0 : World, w = w0.alloc (.cells #[.map (some r)] t) ∧ g = w0.heap.size
theorem entL_keys {es : List (List UInt8 × Value)} : ∀ {bl : List Nat}, bl.length = es.length → (entL es bl).map (·.key) = es.map fun p => str p.1 := by
  induction es with
  | nil => intro bl _; rfl
  | cons p es ih =>
    intro bl h
    cases bl with
    | nil => simp at h
    | cons b bl =>
      have := ih (bl := bl) (by simpa using h)
      simp only [entL, List.zip_cons_cons, List.map_cons, List.map_map] at this ⊢
      rw [← this]
theorem str_inj {a b : List UInt8} (h : str a = str b) : a = b := by
  have : bs a = bs b := by injection h
  have := congrArg (fun x : ByteArray => x.data.toList) this
  exact this

theorem mpS_owns {P : Program} {B w w0 : World} {L : List HP} {r g : Nat} {t : TypeId} {es : List (List UInt8 × Value)} (hw : w = w0.alloc (.cells #[.map (some r)] t)) (i : Nat) (hS : St B L w) (hi : nth L i = some (mpS r es)) (hn : (es.map (·.1)).Nodup) (hk : ∀ p ∈ es, p.1.length ≤ 4294967296) (hl : es.length ≤ 4294967296) {kt : TypeId} (hu : P.underlying kt = some .string) :
    ∃ D0 : DataW Unit, w0.ownsMap P kt (fun _ => some (.nil, [])) r es.length D0 ∧ Maps.size D0 ≤ 4294967296 ∧ (strKeys D0).Perm (es.map (·.1)) := by
  obtain ⟨q, h1⟩ := (hS.focus i hi).ex
  obtain ⟨⟨h2, h3, h4⟩, h5⟩ := h1.sep.pure
  have hb := h5.at
  have hb0 : w0.heap[r]? = some (.map (entL es q.1).toArray q.2) := by
    have hne : r ≠ w0.heap.size := by
      rintro rfl
      rw [hw] at hb
      have : (w0.alloc (.cells #[.map (some w0.heap.size)] t)).heap[w0.heap.size]? = some (.cells #[.map (some w0.heap.size)] t) := by
        show (w0.heap.push _)[w0.heap.size]? = _; simp
      rw [this] at hb; cases hb
    have hlt : r < w0.heap.size := by
      have := h5.lt
      rw [hw] at this
      have e : (w0.alloc (.cells #[.map (some r)] t)).heap.size = w0.heap.size + 1 := by show (w0.heap.push _).size = _; simp
      omega
    rw [hw] at hb
    have e : (w0.alloc (.cells #[.map (some r)] t)).heap[r]? = w0.heap[r]? := by
      show (w0.heap.push _)[r]? = _
      rw [Array.getElem?_push_lt hlt, Array.getElem?_eq_getElem hlt]
    rw [e] at hb; exact hb
  have hlen : (entL es q.1).length = es.length := by unfold entL; rw [List.length_map, List.length_zip, h2, Nat.min_self]
  have hbig : (4294967296 : Nat) ≤ maxLen := by unfold maxLen; decide
  have hkey : ∀ x ∈ entL es q.1, ∃ k : List UInt8, x.key = str k ∧ k.length ≤ 4294967296 := fun x hx => by
    obtain ⟨p, hp, rfl⟩ := List.mem_map.1 hx
    exact ⟨p.1.1, rfl, hk p.1 (List.of_mem_zip hp).1⟩
  have hko : ∀ k : List UInt8, k.length ≤ 4294967296 → keyOf P kt (str k) = some (.string k) := fun k h => by
    have : (bs k).size ≤ maxLen := Nat.le_trans h hbig
    simp [keyOf, hu, mapKey, this]
  have F : Fit P kt (fun _ => some ((.nil : DataW Unit), ([] : List MemPlace))) (entL es q.1).toArray q.2 := by
    refine ⟨by rw [List.size_toArray, hlen]; omega, ⟨fun x hx => entL_born h4 x (by simpa using hx), ?_, ?_⟩, fun x hx => ?_⟩
    · have : (entL es q.1).map (·.born) = (es.zip q.1).map (·.2) := by unfold entL; rw [List.map_map]; rfl
      simp only []
      rw [this]; exact zip_snd_nodup h2 h3
    · simp only []
      rw [entL_keys h2]
      have : (es.map fun p => str p.1) = (es.map (·.1)).map str := by rw [List.map_map]; rfl
      rw [this]
      exact List.Pairwise.map str (fun a b hab e => hab (str_inj e)) hn
    · obtain ⟨k, e, hl⟩ := hkey x (by simpa using hx)
      exact ⟨_, by unfold Go.WideElems.rd; rw [e, hko k hl]; rfl⟩
  refine ⟨_, ⟨_, _, hb0, F, by rw [List.size_toArray, hlen]; exact Nat.le_refl _, rfl⟩, ?_, ?_⟩
  · show (((entL es q.1).toArray.toList.map _).foldr DataW.insert []).length ≤ _
    rw [(Go.WideShapes.sorted_perm _).length_eq]; simp [hlen]; exact hl
  · show ((((entL es q.1).toArray.toList.map _).foldr DataW.insert []).map fun p => strOf p.1).Perm _
    refine ((Go.WideShapes.sorted_perm _).map _).trans ?_
    have : (((entL es q.1).toArray.toList.map (rg P kt (fun _ => some ((.nil : DataW Unit), ([] : List MemPlace))))).map fun p => strOf p.1) = es.map (·.1) := by
      rw [List.map_map]
      have key : ∀ x ∈ entL es q.1, (fun x => strOf (rg P kt (fun _ => some ((.nil : DataW Unit), ([] : List MemPlace))) x).1) x = (fun x : MapEntry => (match x.key with | .string s => s.data.toList | _ => [])) x := fun x hx => by
        show strOf (rg P kt (fun _ => some ((.nil : DataW Unit), ([] : List MemPlace))) x).1 = (match x.key with | .string s => s.data.toList | _ => [])
        obtain ⟨k, e, hl⟩ := hkey x hx
        rw [rg_of (y := (.string k, .nil)) (by unfold Go.WideElems.rd; rw [e, hko k hl]; rfl), e]; rfl
      have h6 : (entL es q.1).map (fun x => (match x.key with | .string s => s.data.toList | _ => [])) = es.map (·.1) := by
        have := congrArg (List.map fun v : Value => (match v with | .string s => s.data.toList | _ => [])) (entL_keys h2)
        rw [List.map_map, List.map_map] at this
        exact this
      refine Eq.trans ?_ h6
      clear h6
      generalize entL es q.1 = E at key
      show E.map (fun x => strOf (rg P kt (fun _ => some ((.nil : DataW Unit), ([] : List MemPlace))) x).1) = _
      generalize (fun x => strOf (rg P kt (fun _ => some ((.nil : DataW Unit), ([] : List MemPlace))) x).1) = f1 at key ⊢
      generalize (fun x : MapEntry => (match x.key with | .string s => s.data.toList | _ => [])) = f2 at key ⊢
      exact List.map_congr_left key
    rw [this]
/-- Bytes in order. -/
theorem strLt_iff (a b : List UInt8) : strLt a b = decide (a < b) := bytesLess_eq a b
theorem sort_uniq {l m : List (List UInt8)} (hp : l.Perm m) (hm : m.Pairwise (fun a b => strLt a b = true)) : l.mergeSort (fun x y => decide (x ≤ y)) = m := by
  rw [mergeSort_of_perm (show l.Perm m from hp)]
  refine List.mergeSort_of_pairwise (hm.imp fun {a b} h => ?_)
  rw [strLt_iff] at h
  simp only [decide_eq_true_eq] at h ⊢
  exact List.le_of_lt h

theorem keys34_spec {B w : World} {L : List HP} (r : Nat) (hS : St B L w) : Does Tryz.prog 34 [.map (some r)] w (fun v w1 => ∃ g, v = .func (.func 55) #[] #[.pointer (some ⟨g, 0, none⟩)] ∧ KeysAt 42 g r w1 ∧ St B L w1) :=
  Calls.mono (callsIn_wide.1 (Tryz.maps_Keys_34 (some r) w)) fun e w' ⟨he, hw⟩ => ⟨_, he, w.heap.size, rfl, ⟨w, hw, rfl⟩, hw ▸ (hS.newCel [.map (some r)] 42).drop⟩
theorem sorted34_spec {B w : World} {L : List HP} {g r : Nat} {es : List (List UInt8 × Value)} {ks : List (List UInt8)} (hK : KeysAt 42 g r w) (hp : (es.map (·.1)).Perm ks) (hks : ks.Pairwise (fun a b => strLt a b = true)) (hn : (es.map (·.1)).Nodup) (hk : ∀ p ∈ es, p.1.length ≤ 4294967296) (hl : es.length ≤ 4294967296) (hS : St B (mpS r es :: L) w) :
    Does Tryz.prog 33 [.func (.func 55) #[] #[.pointer (some ⟨g, 0, none⟩)]] w (fun v w1 => ∃ a c, v = .slice a ks.length c ∧ St B (own a ks.length c 9 1 (ks.map str) :: mpS r es :: L) w1) := by
  obtain ⟨w0, hw, rfl⟩ := hK
  obtain ⟨D0, ho, hsz, hpk⟩ := mpS_owns (g := 0) hw 0 hS rfl hn hk hl Tryz.underlying9
  have hbig : (4294967296 : Nat) ≤ maxLen := by unfold maxLen; decide
  have h := callsIn_wide.1 (Tryz.slices_Sorted_keys_33_34 r es.length D0 _ w0 ho (Nat.le_trans hsz hbig) (by omega))
  rw [← hw] at h
  refine Calls.mono h fun e w' ⟨v, ss, he, hss, hrow, _, hb⟩ => ?_
  have hsort := sort_uniq ((hss.trans hpk).trans hp) hks
  have hlen : ss.length = ks.length := ((hss.trans hpk).trans hp).length_eq
  rw [hsort, hlen] at hrow
  obtain ⟨a, c, rfl, h2⟩ := hS.ownsRow hb hrow
  exact ⟨_, he, a, c, rfl, h2⟩

theorem clone35_spec {B w : World} {L : List HP} {r : Nat} {es : List (List UInt8 × Value)} (hS : St B (mpS r es :: L) w) : Does Tryz.prog 35 [.map (some r)] w (fun v w1 => ∃ q, v = .map (some q) ∧ St B (mpS q es :: mpS r es :: L) w1) := by
  obtain ⟨q, h1⟩ := hS.ex
  obtain ⟨⟨h2, h3, h4⟩, h5⟩ := h1.sep.pure
  have h := Tryz.maps_Clone_35 r _ _ w h5.at
  refine Calls.mono h fun e w' ⟨he, hw⟩ => ⟨_, he, w.heap.size, rfl, hw ▸ ?_⟩
  exact St.mpS_shut h2 h3 h4 (hS.new (.map (entL es q.1).toArray q.2) rfl rfl rfl rfl)
end Go.Proofs.YtiggkfaonnnjoaaGreatDoor.SL
