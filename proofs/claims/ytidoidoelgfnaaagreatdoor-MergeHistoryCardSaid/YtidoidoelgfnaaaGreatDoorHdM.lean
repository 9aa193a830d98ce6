import Derived.Test.YtidoidoelgfnaaaGreatDoorMgr
import Derived.Test.YtidoidoelgfnaaaGreatDoorSl13
/- The head: series by their keys; what it takes and what not (plain). -/
namespace Go.Proofs.YtidoidoelgfnaaaGreatDoor.SL
open Go.RowKit
set_option linter.unusedVariables false
/-! Plain. -/
def lastF : List RowP → List Pr → Option Int
  | [], _ => none
  | r :: l, lb => if r.lb = lb then some r.last else lastF l lb
theorem lastF_none {lb : List Pr} : ∀ {A : List RowP}, (∀ r ∈ A, r.lb ≠ lb) → lastF A lb = none
  | [], _ => rfl
  | r :: l, h => by rw [lastF, if_neg (h r (by simp))]; exact lastF_none fun q hq => h q (by simp [hq])
theorem lastF_mem {A : List RowP} (hs : SrtR A) {r : RowP} (hr : r ∈ A) : lastF A r.lb = some r.last := by
  induction A with
  | nil => cases hr
  | cons z l ih =>
    rw [lastF]
    split
    · rename_i e; rw [srt_one hs (List.mem_cons_self ..) hr e]
    · rename_i e
      rcases List.mem_cons.1 hr with h | h
      · exact absurd (by rw [h]) e
      · exact ih (List.pairwise_cons.1 hs).2 h
theorem lastF_ne {lb q : List Pr} {t : Int} {ps : List Pt} (hq : q ≠ lb) : ∀ {A : List RowP}, lastF (addF A lb t ps) q = lastF A q
  | [] => by show (if lb = q then some t else none) = none; exact if_neg fun e => hq e.symm
  | r :: l => by
    rw [addF]
    split
    · rw [lastF, lastF, lastF_ne hq]
    · split
      · rename_i h
        have e := cmp_zero h
        rw [lastF, lastF, if_neg (show ¬ r.lb = q from fun k => hq (k.symm.trans e)), if_neg (fun k => hq (k.symm.trans e))]
      · rw [lastF, if_neg (show ¬ lb = q from fun k => hq k.symm)]
theorem lastF_gt {lb : List Pr} {r : RowP} {l : List RowP} (h : SrtR (r :: l)) (h1 : ¬ cmpF r.lb lb < 0) (h2 : ¬ cmpF r.lb lb = 0) : lastF (r :: l) lb = none := by
  have hlt : cmpF lb r.lb < 0 := by have := cmp_anti r.lb lb; omega
  refine lastF_none fun x hx e => ?_
  rcases List.mem_cons.1 hx with e' | hx
  · rw [e'] at e; rw [e, cmp_self] at hlt; omega
  · have := cmp_tr hlt ((List.pairwise_cons.1 h).1 x hx); rw [e, cmp_self] at this; omega
theorem lastF_eq {lb : List Pr} {t : Int} {ps : List Pt} : ∀ {A : List RowP}, SrtR A → lastF (addF A lb t ps) lb = some (match lastF A lb with | some u => max u t | none => t)
  | [], _ => by show (if lb = lb then some t else none) = some t; exact if_pos rfl
  | r :: l, hs => by
    rw [addF]
    split
    · rename_i h
      have hne : ¬ r.lb = lb := fun e => by rw [e, cmp_self] at h; omega
      rw [lastF, if_neg hne, lastF_eq (List.pairwise_cons.1 hs).2, lastF, if_neg hne]
    · split
      · rename_i h
        have e := cmp_zero h
        rw [lastF, if_pos e, lastF, if_pos e]
      · rename_i h1 h2
        rw [lastF, if_pos rfl, lastF_gt hs h1 h2]
theorem addF_len {lb : List Pr} {t : Int} {ps : List Pt} : ∀ {A : List RowP}, SrtR A → (addF A lb t ps).length = A.length + if (lastF A lb).isSome = true then 0 else 1
  | [], _ => rfl
  | r :: l, hs => by
    rw [addF]
    split
    · rename_i h
      have hne : ¬ r.lb = lb := fun e => by rw [e, cmp_self] at h; omega
      rw [List.length_cons, addF_len (List.pairwise_cons.1 hs).2, lastF, if_neg hne, List.length_cons]; omega
    · split
      · rename_i h
        rw [lastF, if_pos (cmp_zero h)]; rfl
      · rename_i h1 h2
        rw [lastF_gt hs h1 h2]; rfl
/-- A sample: labels, time, value. -/
abbrev SmpP := List Pr × Int × Int
def oldF (A : List RowP) (s : SmpP) : Bool := match lastF A s.1 with
  | some t => decide (s.2.1 ≤ t)
  | none => false
def putAll : List RowP → List SmpP → Option (List RowP)
  | A, [] => some A
  | A, s :: l => if oldF A s = true then none else putAll (addF A s.1 s.2.1 [⟨s.2.1, s.2.2⟩]) l
def tryF (A : List RowP) (c : Int) (ss : List SmpP) : Int := if ¬ c = 0 then c else match putAll A ss with
  | none => 14
  | some A1 => if 256 < A1.length then 4 else 0
def delR (fr to : Int) (ms : List Mt) (r : RowP) : RowP := if isF ms r.lb = true then ⟨r.lb, r.last, r.pts.filter fun p => !(decide (fr ≤ p.t ∧ p.t ≤ to))⟩ else r
def delF (fr to : Int) (ms : List Mt) (A : List RowP) : List RowP := A.map (delR fr to ms)
def applyF (A : List RowP) (c : Int) (r : RcP) : List RowP := if ¬ tryF A c r.ss = 0 then A else if r.k = 2 then delF r.fr r.to r.ms ((putAll A r.ss).getD A) else (putAll A r.ss).getD A
def PtsOk (r : RowP) : Prop := r.pts.Pairwise (fun a b => a.t < b.t) ∧ ∀ p ∈ r.pts, p.t ≤ r.last
structure WfH (A : List RowP) (M : Nat) : Prop where
  srt : SrtR A
  chk : ∀ r ∈ A, chk r.lb = true
  ok : ∀ r ∈ A, PtsOk r
  pts : ∀ r ∈ A, r.pts.length ≤ M
theorem wf_nil (M : Nat) : WfH [] M := ⟨List.Pairwise.nil, (fun _ h => by cases h), (fun _ h => by cases h), fun _ h => by cases h⟩
theorem WfH.mono {A : List RowP} {M M' : Nat} (h : WfH A M) (k : M ≤ M') : WfH A M' := ⟨h.srt, h.chk, h.ok, fun r hr => Nat.le_trans (h.pts r hr) k⟩
theorem addF_mem {lb : List Pr} {t : Int} {ps : List Pt} : ∀ {A : List RowP} {x : RowP}, x ∈ addF A lb t ps → x ∈ A ∨ x = ⟨lb, t, ps⟩ ∨ ∃ r ∈ A, r.lb = lb ∧ x = ⟨r.lb, max r.last t, r.pts ++ ps⟩
  | [], x, h => by simp [addF] at h; exact .inr (.inl h)
  | r :: l, x, h => by
    rw [addF] at h
    split at h
    · rcases List.mem_cons.1 h with e | h
      · exact .inl (by simp [e])
      · rcases addF_mem h with h | h | ⟨y, hy, e⟩
        · exact .inl (by simp [h])
        · exact .inr (.inl h)
        · exact .inr (.inr ⟨y, by simp [hy], e⟩)
    · split at h
      · rename_i hz
        rcases List.mem_cons.1 h with e | h
        · exact .inr (.inr ⟨r, by simp, cmp_zero hz, e⟩)
        · exact .inl (by simp [h])
      · rcases List.mem_cons.1 h with e | h
        · exact .inr (.inl e)
        · exact .inl h
theorem wf_add {A : List RowP} {M : Nat} {lb : List Pr} {t v : Int} (h : WfH A M) (hl : chk lb = true) (ho : oldF A (lb, t, v) = false) : WfH (addF A lb t [⟨t, v⟩]) (M + 1) := by
  refine ⟨addF_srt h.srt, fun x hx => ?_, fun x hx => ?_, fun x hx => ?_⟩
  · rcases addF_mem hx with hx | rfl | ⟨r, hr, e, rfl⟩
    · exact h.chk x hx
    · exact hl
    · exact h.chk r hr
  · rcases addF_mem hx with hx | rfl | ⟨r, hr, e, rfl⟩
    · exact h.ok x hx
    · exact ⟨List.pairwise_singleton _ _, fun p hp => by simp at hp; rw [hp]; exact Int.le_refl _⟩
    · have hlt : r.last < t := by
        unfold oldF at ho
        rw [show lastF A ((lb, t, v) : SmpP).1 = some r.last by rw [← lastF_mem h.srt hr, e]] at ho
        simp at ho; exact ho
      obtain ⟨k1, k2⟩ := h.ok r hr
      refine ⟨List.pairwise_append.2 ⟨k1, List.pairwise_singleton _ _, fun a ha b hb => ?_⟩, fun p hp => ?_⟩
      · simp at hb; subst hb; have := k2 a ha; show a.t < t; omega
      · show p.t ≤ max r.last t
        rcases List.mem_append.1 hp with hp | hp
        · have := k2 p hp; omega
        · simp at hp; subst hp; exact Int.le_max_right ..
  · rcases addF_mem hx with hx | rfl | ⟨r, hr, e, rfl⟩
    · exact Nat.le_succ_of_le (h.pts x hx)
    · exact Nat.succ_le_succ (Nat.zero_le _)
    · show (r.pts ++ [_]).length ≤ _; rw [List.length_append]; exact Nat.succ_le_succ (h.pts r hr)
theorem wf_put {ss : List SmpP} : ∀ {A A1 : List RowP} {M : Nat}, WfH A M → (∀ s ∈ ss, chk s.1 = true) → putAll A ss = some A1 → WfH A1 (M + ss.length) := by
  induction ss with
  | nil => intro A A1 M h _ e; rw [putAll] at e; cases e; exact h
  | cons s l ih =>
    intro A A1 M h hc e
    rw [putAll] at e
    split at e
    · cases e
    · rename_i ho
      have := ih (wf_add (v := s.2.2) h (hc s (by simp)) (by simpa using ho)) (fun q hq => hc q (by simp [hq])) e
      rw [List.length_cons, Nat.add_comm l.length 1, ← Nat.add_assoc]; exact this
theorem wf_del {A : List RowP} {M : Nat} {fr to : Int} {ms : List Mt} (h : WfH A M) : WfH (delF fr to ms A) M := by
  have hm : ∀ x ∈ delF fr to ms A, ∃ r ∈ A, x.lb = r.lb ∧ x.last = r.last ∧ x.pts.Sublist r.pts := fun x hx => by
    obtain ⟨r, hr, rfl⟩ := List.mem_map.1 hx
    refine ⟨r, hr, ?_⟩
    unfold delR
    split
    · exact ⟨rfl, rfl, List.filter_sublist⟩
    · exact ⟨rfl, rfl, List.Sublist.refl _⟩
  refine ⟨?_, fun x hx => ?_, fun x hx => ?_, fun x hx => ?_⟩
  · unfold delF SrtR
    rw [List.pairwise_map]
    refine h.srt.imp fun {a b} k => ?_
    unfold delR
    split <;> split <;> exact k
  · obtain ⟨r, hr, e, _⟩ := hm x hx; rw [e]; exact h.chk r hr
  · obtain ⟨r, hr, _, e, k⟩ := hm x hx
    exact ⟨(h.ok r hr).1.sublist k, fun p hp => by rw [e]; exact (h.ok r hr).2 p (k.subset hp)⟩
  · obtain ⟨r, hr, _, _, k⟩ := hm x hx
    exact Nat.le_trans k.length_le (h.pts r hr)
theorem wf_apply {A : List RowP} {M : Nat} {c : Int} {r : RcP} (h : WfH A M) (hc : c = 0 → ∀ s ∈ r.ss, chk s.1 = true) : WfH (applyF A c r) (M + r.ss.length) := by
  have h0 := h.mono (Nat.le_add_right M r.ss.length)
  unfold applyF
  split
  · exact h0
  · rename_i ht
    have h1 : WfH ((putAll A r.ss).getD A) (M + r.ss.length) := by
      cases hp : putAll A r.ss with
      | none => exact h0
      | some A1 =>
        refine wf_put h (hc ?_) hp
        refine Classical.byContradiction fun hn => ht ?_
        intro e; unfold tryF at e; rw [if_pos hn] at e; exact hn e
    split
    · exact wf_del h1
    · exact h1
/-! In memory. -/
section
variable {B w : World} {L : List HP} {tH tS tP : TypeId}
def hsc (r : MRow) : List Value := [.slice r.lb.a r.lb.l.length r.lb.cap, .slice r.pt.a r.pt.l.length r.pt.cap, .int .i64 r.last]
def hsA (tS tP : TypeId) (g : Nat) (r : MRow) : HP := .sep (cel g (hsc r) tS) (.sep (labA r.lb) (own r.pt.a r.pt.l.length r.pt.cap tP 2 (r.pt.l.flatMap ptc)))
theorem hs_open {g : Nat} {r : MRow} (h : St B (hsA tS tP g r :: L) w) : St B (cel g (hsc r) tS :: labA r.lb :: own r.pt.a r.pt.l.length r.pt.cap tP 2 (r.pt.l.flatMap ptc) :: L) w := by
  have h1 := h.sep
  have h2 := (h1.permT [1, 0] (L' := .sep (labA r.lb) (own r.pt.a r.pt.l.length r.pt.cap tP 2 (r.pt.l.flatMap ptc)) :: cel g (hsc r) tS :: L) rfl).sep
  exact h2.permT [2, 0, 0] rfl
theorem hs_shut {g : Nat} {r : MRow} (h : St B (cel g (hsc r) tS :: labA r.lb :: own r.pt.a r.pt.l.length r.pt.cap tP 2 (r.pt.l.flatMap ptc) :: L) w) : St B (hsA tS tP g r :: L) w := by
  have h1 := (h.permT [1, 1, 0] (L' := labA r.lb :: own r.pt.a r.pt.l.length r.pt.cap tP 2 (r.pt.l.flatMap ptc) :: cel g (hsc r) tS :: L) rfl).join
  exact (h1.permT [1, 0] (L' := cel g (hsc r) tS :: .sep (labA r.lb) (own r.pt.a r.pt.l.length r.pt.cap tP 2 (r.pt.l.flatMap ptc)) :: L) rfl).join
def hdA (tH tS tP : TypeId) (g : Nat) (A : List RowP) : HP := .ex fun q : Nat × List Nat × List MRow => .sep (.pure ((q.2.2.map MRow.p).Perm A)) (.sep (cel g [.map (some q.1)] tH) (.sep (mpS q.1 (entR q.2.1 q.2.2)) (sqA (hsA tS tP) q.2.1 q.2.2)))
theorem hd_open {g : Nat} {A : List RowP} (h : St B (hdA tH tS tP g A :: L) w) : ∃ (m : Nat) (gs : List Nat) (S : List MRow), (S.map MRow.p).Perm A ∧ gs.length = S.length ∧ St B (cel g [.map (some m)] tH :: mpS m (entR gs S) :: sqA (hsA tS tP) gs S :: L) w := by
  obtain ⟨⟨m, gs, S⟩, h1⟩ := h.ex
  obtain ⟨hp, h2⟩ := h1.sep.pure
  have h3 := h2.sep
  have h4 := (h3.permT [1, 0] (L' := .sep (mpS m (entR gs S)) (sqA (hsA tS tP) gs S) :: cel g [.map (some m)] tH :: L) rfl).sep
  have h5 := h4.permT [2, 0, 0] (L' := cel g [.map (some m)] tH :: mpS m (entR gs S) :: sqA (hsA tS tP) gs S :: L) rfl
  exact ⟨m, gs, S, hp, sqA_len (h5.permT [2, 0, 0] (L' := sqA (hsA tS tP) gs S :: cel g [.map (some m)] tH :: mpS m (entR gs S) :: L) rfl), h5⟩
theorem hd_shut {g m : Nat} {gs : List Nat} {S : List MRow} {A : List RowP} (hp : (S.map MRow.p).Perm A) (h : St B (cel g [.map (some m)] tH :: mpS m (entR gs S) :: sqA (hsA tS tP) gs S :: L) w) : St B (hdA tH tS tP g A :: L) w := by
  have h1 := (h.permT [1, 1, 0] (L' := mpS m (entR gs S) :: sqA (hsA tS tP) gs S :: cel g [.map (some m)] tH :: L) rfl).join
  have h2 := (h1.permT [1, 0] (L' := cel g [.map (some m)] tH :: .sep (mpS m (entR gs S)) (sqA (hsA tS tP) gs S) :: L) rfl).join
  have h3 : St B (.pure ((S.map MRow.p).Perm A) :: .sep (cel g [.map (some m)] tH) (.sep (mpS m (entR gs S)) (sqA (hsA tS tP) gs S)) :: L) w := h2.addPure hp
  exact St.give (⟨m, gs, S⟩ : Nat × List Nat × List MRow) h3.join
end
/-! What the map tells of labels. -/
theorem perm_chk {S : List MRow} {A : List RowP} (hp : (S.map MRow.p).Perm A) (h : ∀ r ∈ A, chk r.lb = true) : ∀ r ∈ S, chk r.lb.l = true := fun r hr => h r.p (hp.subset (List.mem_map.2 ⟨r, hr, rfl⟩))
theorem last_find {gs : List Nat} {S : List MRow} {A : List RowP} {lb : List Pr} {g : Nat} (hs : SrtR A) (hp : (S.map MRow.p).Perm A) (h : findG gs S lb = some g) : ∃ (j : Nat) (r : MRow), gs[j]? = some g ∧ S[j]? = some r ∧ r.lb.l = lb ∧ lastF A lb = some r.last := by
  obtain ⟨j, r, h1, h2, h3, _⟩ := findG_some h
  refine ⟨j, r, h1, h2, h3, ?_⟩
  have := lastF_mem hs (hp.subset (List.mem_map.2 ⟨r, List.mem_of_getElem? h2, rfl⟩))
  rw [← h3]; exact this
theorem last_none {gs : List Nat} {S : List MRow} {A : List RowP} {lb : List Pr} (hl : gs.length = S.length) (hp : (S.map MRow.p).Perm A) (h : findG gs S lb = none) : lastF A lb = none := by
  refine lastF_none fun q hq e => ?_
  obtain ⟨r, hr, rfl⟩ := List.mem_map.1 (hp.symm.subset hq)
  exact findG_none hl h r hr e
theorem getS_put {k q : List UInt8} {v : Value} : ∀ {es : List (List UInt8 × Value)}, getS (putS es k v) q = if q = k then some v else getS es q
  | [] => rfl
  | (x, u) :: l => by
    rw [putS]
    split
    · rename_i e
      subst e
      rw [getS]
      split
      · rfl
      · rename_i h; rw [getS, if_neg h]
    · rename_i e
      rw [getS, getS, getS_put]
      split
      · rename_i h
        have : ¬ q = k := fun hk => e (by rw [← hk, h])
        rw [if_neg this]
      · rfl
end Go.Proofs.YtidoidoelgfnaaaGreatDoor.SL

/- All series of a head, each once. -/
namespace Go.Proofs.YtidoidoelgfnaaaGreatDoor.SL
open Go.RowKit
set_option linter.unusedVariables false
theorem ent_stepI {rst pre post : List (List UInt8 × Value)} {e : List UInt8 × Value} {rr : List ((List UInt8 × Value) × Nat)} (h : rst.Perm (rr.map (·.1))) (e9 : rst = pre ++ e :: post) : ∃ (j : Nat) (rr2 : List ((List UInt8 × Value) × Nat)), rr.Perm ((e, j) :: rr2) ∧ (pre ++ post).Perm (rr2.map (·.1)) := by
  subst e9
  obtain ⟨x, hx, he⟩ := List.mem_map.1 (h.subset (show e ∈ pre ++ e :: post by simp))
  obtain ⟨s, t, rfl⟩ := List.append_of_mem hx
  refine ⟨x.2, s ++ t, by rw [← he]; exact List.perm_middle, ?_⟩
  have h1 : (e :: (pre ++ post)).Perm (e :: (s ++ t).map (·.1)) := by
    refine (List.perm_middle.symm.trans h).trans ?_
    rw [List.map_append, List.map_cons, he, List.map_append]
    exact List.perm_middle
  exact h1.cons_inv
structure DL (gs : List Nat) (S : List MRow) (f : RowP → RowP) (rr : List ((List UInt8 × Value) × Nat)) (Sc : List MRow) : Prop where
  mem : ∀ z ∈ rr, (entR gs S)[z.2]? = some z.1
  nd : (rr.map (·.2)).Nodup
  ln : Sc.length = S.length
  un : ∀ z ∈ rr, Sc[z.2]? = S[z.2]?
  fin : ∀ j, j ∉ rr.map (·.2) → (Sc[j]?).map MRow.p = (S[j]?).map fun r => f r.p
  ent : entR gs Sc = entR gs S
theorem DL.start {gs : List Nat} {S : List MRow} {f : RowP → RowP} (hl : gs.length = S.length) : DL gs S f (entR gs S).zipIdx S := by
  have hz : (entR gs S).length = S.length := by unfold entR entO; rw [List.length_map, List.length_zip, hl, Nat.min_self]
  refine ⟨fun z hz => by obtain ⟨a, b⟩ := z; exact List.mk_mem_zipIdx_iff_getElem?.1 hz, ?_, rfl, fun _ _ => rfl, fun j hj => ?_, rfl⟩
  · rw [List.zipIdx_map_snd]; exact List.nodup_range'
  · rw [List.zipIdx_map_snd, List.mem_range'_1] at hj
    rw [List.getElem?_eq_none (by omega)]; rfl
theorem DL.done {gs : List Nat} {S Sc : List MRow} {f : RowP → RowP} (h : DL gs S f [] Sc) : Sc.map MRow.p = (S.map MRow.p).map f := by
  apply List.ext_getElem?
  intro i
  rw [List.getElem?_map, h.fin i (by simp), List.getElem?_map, List.getElem?_map, Option.map_map]; rfl
theorem DL.step {gs : List Nat} {S Sc : List MRow} {f : RowP → RowP} {rr rr2 : List ((List UInt8 × Value) × Nat)} {k : List UInt8} {v : Value} {j : Nat} (h : DL gs S f rr Sc) (hp : rr.Perm (((k, v), j) :: rr2)) :
    ∃ (q : Nat) (row : MRow), gs[j]? = some q ∧ S[j]? = some row ∧ Sc[j]? = some row ∧ k = keyB row.lb.l ∧ v = ptrG q ∧ ∀ NW : MRow, NW.p = f row.p → NW.lb.l = row.lb.l → DL gs S f rr2 (Sc.set j NW) := by
  have hin : ((k, v), j) ∈ rr := hp.mem_iff.2 (List.mem_cons_self ..)
  have hm := h.mem _ hin
  unfold entR entO at hm
  rw [List.getElem?_map] at hm
  obtain ⟨⟨q, row⟩, h1, h2⟩ := Option.map_eq_some_iff.1 hm
  rw [List.getElem?_zip_eq_some] at h1
  simp only [Prod.mk.injEq] at h2
  have hs : Sc[j]? = some row := (h.un _ hin).trans h1.2
  have hnd := (hp.map (·.2)).nodup_iff.1 h.nd
  rw [List.map_cons, List.nodup_cons] at hnd
  have hlt : j < Sc.length := (List.getElem?_eq_some_iff.1 hs).1
  refine ⟨q, row, h1.1, h1.2, hs, h2.1.symm, h2.2.symm, fun NW hN hb => ⟨fun z hz => h.mem z (hp.mem_iff.2 (List.mem_cons_of_mem _ hz)), hnd.2, by rw [List.length_set]; exact h.ln, fun z hz => ?_, fun i hi => ?_, ?_⟩⟩
  · have hne : j ≠ z.2 := fun e => hnd.1 (by rw [e]; exact List.mem_map.2 ⟨z, hz, rfl⟩)
    rw [List.getElem?_set_ne hne]; exact h.un z (hp.mem_iff.2 (List.mem_cons_of_mem _ hz))
  · by_cases e : i = j
    · subst e
      rw [List.getElem?_set_self hlt, h1.2]
      show some NW.p = some (f row.p); rw [hN]
    · rw [List.getElem?_set_ne (Ne.symm e)]
      refine h.fin i fun hm => ?_
      have := (hp.map (·.2)).mem_iff.1 hm
      rw [List.map_cons, List.mem_cons] at this
      rcases this with h9 | h9
      · exact e h9
      · exact hi h9
  · rw [entR_set hs hb]; exact h.ent
theorem DL.nil {gs : List Nat} {S Sc : List MRow} {f : RowP → RowP} {rr : List ((List UInt8 × Value) × Nat)} (h : DL gs S f rr Sc) (e : ([] : List (List UInt8 × Value)).Perm (rr.map (·.1))) : DL gs S f [] Sc := by
  have : rr = [] := List.map_eq_nil_iff.1 (List.nil_perm.1 e)
  rw [this] at h; exact h
end Go.Proofs.YtidoidoelgfnaaaGreatDoor.SL

/- Whether a record may be applied: what the program keeps of a record's samples. -/
namespace Go.Proofs.YtidoidoelgfnaaaGreatDoor.SL
open Go.RowKit
set_option linter.unusedVariables false
def orF (a b : Option Int) : Option Int := match a with
  | some x => some x
  | none => b
theorem old_some {A : List RowP} {lb : List Pr} {t v u : Int} (h : lastF A lb = some u) : oldF A (lb, t, v) = decide (t ≤ u) := by unfold oldF; rw [show lastF A ((lb, t, v) : SmpP).1 = some u from h]
theorem old_none {A : List RowP} {lb : List Pr} {t v : Int} (h : lastF A lb = none) : oldF A (lb, t, v) = false := by unfold oldF; rw [show lastF A ((lb, t, v) : SmpP).1 = none from h]
structure TrR (A Ak : List RowP) (n : Nat) (es : List (List UInt8 × Value)) (o : List Pr → Option Int) : Prop where
  len : Ak.length = A.length + n
  es : ∀ lb, chk lb = true → getS es (keyB lb) = (o lb).map (Value.int .i64)
  las : ∀ lb, chk lb = true → lastF Ak lb = orF (o lb) (lastF A lb)
theorem lk_get {es : List (List UInt8 × Value)} {k : List UInt8} {x : Option Int} (h : getS es k = x.map (Value.int .i64)) : (getS es k).getD (.int .i64 0) = .int .i64 (x.getD 0) := by rw [h]; cases x <;> rfl
theorem lk_is {es : List (List UInt8 × Value)} {k : List UInt8} {x : Option Int} (h : getS es k = x.map (Value.int .i64)) : (getS es k).isSome = x.isSome := by rw [h]; cases x <;> rfl
theorem TrR.start (A : List RowP) : TrR A A 0 [] (fun _ => none) := ⟨rfl, fun _ _ => rfl, fun _ _ => rfl⟩
theorem TrR.step {A Ak : List RowP} {n : Nat} {es : List (List UInt8 × Value)} {o : List Pr → Option Int} {lb : List Pr} {t v : Int} (h : TrR A Ak n es o) (hs : SrtR Ak) (hc : chk lb = true) (ho : oldF Ak (lb, t, v) = false) :
    TrR A (addF Ak lb t [⟨t, v⟩]) (n + if (lastF Ak lb).isSome = true then 0 else 1) (putS es (keyB lb) (.int .i64 t)) (fun q => if q = lb then some t else o q) := by
  refine ⟨by rw [addF_len hs, h.len]; omega, fun q hq => ?_, fun q hq => ?_⟩
  · rw [getS_put]
    by_cases e : q = lb
    · rw [if_pos (by rw [e]), if_pos e]; rfl
    · rw [if_neg (fun k => e (key_inj hq hc k)), if_neg e]; exact h.es q hq
  · by_cases e : q = lb
    · rw [if_pos e, e, lastF_eq hs]
      cases hl : lastF Ak lb with
      | none => rfl
      | some u =>
        rw [old_some hl] at ho
        have : ¬ t ≤ u := of_decide_eq_false ho
        show some (max u t) = some t
        rw [Int.max_eq_right (by omega)]
    · rw [if_neg e, lastF_ne e]; exact h.las q hq
theorem rcheck_smp {r : Rcd} (h : rcheck r = 0) : ∀ s ∈ r.ss.l, chk s.lb.l = true := by
  have hg : ∀ {l : List Smp}, smsGo l = true → ∀ s ∈ l, chk s.lb.l = true := by
    intro l
    induction l with
    | nil => intro _ s hs; cases hs
    | cons z l ih =>
      intro hk s hs
      rw [smsGo, Bool.and_eq_true] at hk
      rcases List.mem_cons.1 hs with e | hs
      · rw [e]; exact hk.1
      · exact ih hk.2 s hs
  unfold rcheck at h
  split at h
  · split at h
    · omega
    · split at h
      · omega
      · split at h
        · rename_i hk; exact hg hk
        · omega
  · split at h
    · split at h
      · omega
      · rename_i h0
        have : r.ss.l = [] := List.length_eq_zero_iff.1 (by omega)
        rw [this]; intro s hs; cases hs
    · omega
theorem rcheck_len {r : Rcd} (h : rcheck r = 0) : r.ss.l.length ≤ 32 := by
  unfold rcheck at h
  split at h
  · split at h
    · omega
    · split at h
      · omega
      · omega
  · split at h
    · split at h
      · omega
      · omega
    · omega
theorem entR_len {gs : List Nat} {S : List MRow} (h : gs.length = S.length) : (entR gs S).length = S.length := by unfold entR entO; rw [List.length_map, List.length_zip, h, Nat.min_self]
theorem ptr_findH {o : Option Nat} {g : Nat} (h : o = some g) : some (Value.pointer (o.map fun g => (⟨g, 0, none⟩ : Addr))) = some (Value.pointer (some ⟨g, 0, none⟩)) := by rw [h]; rfl
theorem tryF_bad {A : List RowP} {c : Int} {ss : List SmpP} (h : ¬ c = 0) : tryF A c ss = c := by unfold tryF; rw [if_pos h]
theorem tryF_old {A : List RowP} {ss : List SmpP} (h : putAll A ss = none) : tryF A 0 ss = 14 := by unfold tryF; rw [if_neg (by simp), h]
theorem tryF_ok {A A1 : List RowP} {ss : List SmpP} (h : putAll A ss = some A1) : tryF A 0 ss = if 256 < A1.length then 4 else 0 := by unfold tryF; rw [if_neg (by simp), h]
theorem apply_bad {A : List RowP} {c : Int} {r : RcP} (h : ¬ tryF A c r.ss = 0) : applyF A c r = A := by unfold applyF; rw [if_pos h]
theorem apply_ok {A A1 : List RowP} {c : Int} {r : RcP} (h : tryF A c r.ss = 0) (hp : putAll A r.ss = some A1) : applyF A c r = if r.k = 2 then delF r.fr r.to r.ms A1 else A1 := by unfold applyF; rw [if_neg (by simp [h]), hp]; rfl
theorem try_zero {A : List RowP} {c : Int} {ss : List SmpP} (h : tryF A c ss = 0) : c = 0 ∧ ∃ A1, putAll A ss = some A1 ∧ A1.length ≤ 256 := by
  unfold tryF at h
  split at h
  · rename_i hc; exact absurd h hc
  · rename_i hc
    refine ⟨by simpa using hc, ?_⟩
    split at h
    · omega
    · split at h
      · omega
      · exact ⟨_, by assumption, by omega⟩
theorem upd_snoc {lb : SlV Pr} {t : Int} {q : SlV Pt} : ∀ {S : List MRow}, (∀ r ∈ S, r.lb.l ≠ lb.l) → (S ++ [(⟨lb, t, q⟩ : MRow)]).map MRow.p = updF (S.map MRow.p) lb.l t q.l
  | [], _ => rfl
  | r :: S, h => by
    rw [List.cons_append, List.map_cons, List.map_cons, updF, if_neg (show ¬ r.p.lb = lb.l from h r (by simp)), upd_snoc fun r hr => h r (by simp [hr])]
theorem upd_set {gs : List Nat} {S : List MRow} {A : List RowP} {g : Nat} {lb : List Pr} {t v : Int} (hs : SrtR A) (hp : (S.map MRow.p).Perm A) (h : findG gs S lb = some g) (ho : oldF A (lb, t, v) = false) : ∃ (j : Nat) (r : MRow), gs[j]? = some g ∧ S[j]? = some r ∧ r.lb.l = lb ∧ ∀ q : SlV Pt, q.l = r.pt.l ++ [⟨t, v⟩] → ((S.set j ⟨r.lb, t, q⟩).map MRow.p).Perm (addF A lb t [⟨t, v⟩]) := by
  obtain ⟨j, r, h1, h2, h3, h4⟩ := findG_some h
  refine ⟨j, r, h1, h2, h3, fun q hq => ?_⟩
  have hl : lastF A lb = some r.last := by rw [← h3]; exact lastF_mem hs (hp.subset (List.mem_map.2 ⟨r, List.mem_of_getElem? h2, rfl⟩))
  rw [old_some hl] at ho
  have hm : max r.last t = t := Int.max_eq_right (by have := of_decide_eq_false ho; omega)
  have := h4 q t [⟨t, v⟩] hq
  rw [hm] at this
  rw [this]; exact updF_perm hs hp lb t _
/-! In terms of the plain values alone. -/
def smsP : List SmpP → Bool
  | [] => true
  | s :: l => SL.chk s.1 && smsP l
def rcheckP (r : RcP) : Int := if r.k = 1 then (if ¬ (r.ms.length = 0 ∧ r.fr = 0 ∧ r.to = 0) then 3 else if ¬ (1 ≤ r.ss.length ∧ r.ss.length ≤ 32) then 2 else if smsP r.ss = true then 0 else 16)
  else if r.k = 2 then (if ¬ r.ss.length = 0 then 3 else if ¬ mchk r.ms = 0 then mchk r.ms else if r.fr ≤ r.to then 0 else 9) else 5
theorem smsP_eq : ∀ l : List Smp, smsGo l = smsP (l.map Smp.p)
  | [] => rfl
  | s :: l => by rw [smsGo, List.map_cons, smsP, smsP_eq l]; rfl
theorem rcheckP_eq (r : Rcd) : rcheck r = rcheckP r.p := by
  unfold rcheck rcheckP
  rw [show r.p.k = r.k from rfl, show r.p.ms = r.ms.l from rfl, show r.p.fr = r.fr from rfl, show r.p.to = r.to from rfl, show r.p.ss = r.ss.l.map Smp.p from rfl, List.length_map, smsP_eq]
def tryP (A : List RowP) (r : RcP) : Int := tryF A (rcheckP r) r.ss
def applyP (A : List RowP) (r : RcP) : List RowP := applyF A (rcheckP r) r
theorem delF_len (fr to : Int) (ms : List Mt) (A : List RowP) : (delF fr to ms A).length = A.length := List.length_map ..
theorem applyP_len {A : List RowP} {r : RcP} (h : A.length ≤ 256) : (applyP A r).length ≤ 256 := by
  unfold applyP
  by_cases ht : tryF A (rcheckP r) r.ss = 0
  · obtain ⟨_, A1, h1, h2⟩ := try_zero ht
    rw [apply_ok ht h1]
    split
    · rw [delF_len]; exact h2
    · exact h2
  · rw [apply_bad ht]; exact h
theorem applyP_bad {A : List RowP} {r : RcP} (h : ¬ tryP A r = 0) : applyP A r = A := apply_bad h
theorem rcheckP_smp {r : RcP} (h : rcheckP r = 0) : (∀ s ∈ r.ss, SL.chk s.1 = true) ∧ r.ss.length ≤ 32 := by
  have hg : ∀ {l : List SmpP}, smsP l = true → ∀ s ∈ l, SL.chk s.1 = true := by
    intro l
    induction l with
    | nil => intro _ s hs; cases hs
    | cons z l ih =>
      intro hk s hs
      rw [smsP, Bool.and_eq_true] at hk
      rcases List.mem_cons.1 hs with e | hs
      · rw [e]; exact hk.1
      · exact ih hk.2 s hs
  unfold rcheckP at h
  split at h
  · split at h
    · omega
    · split at h
      · omega
      · split at h
        · rename_i hk; exact ⟨hg hk, by omega⟩
        · omega
  · split at h
    · split at h
      · omega
      · rename_i h0
        have : r.ss = [] := List.length_eq_zero_iff.1 (by omega)
        rw [this]; exact ⟨fun s hs => (by cases hs), Nat.zero_le _⟩
    · omega
theorem wf_applyP {A : List RowP} {M : Nat} {r : RcP} (h : WfH A M) : WfH (applyP A r) (M + 32) := by
  unfold applyP
  by_cases ht : tryF A (rcheckP r) r.ss = 0
  · have hc := (try_zero ht).1
    exact (wf_apply h (fun e => (rcheckP_smp e).1)).mono (Nat.add_le_add_left (rcheckP_smp hc).2 M)
  · rw [apply_bad ht]; exact h.mono (Nat.le_add_right _ _)
end Go.Proofs.YtidoidoelgfnaaaGreatDoor.SL

/- A piece of a slice is cut out: what append lays in place, what clear wipes; where points stand by their times. -/
namespace Go.Proofs.YtidoidoelgfnaaaGreatDoor.SL
open Go.RowKit
set_option linter.unusedVariables false
set_option linter.unusedSimpArgs false
section
variable {P : Program} {n : Nat} {D : List Deferred} {T : Tm} {w : World} {dst : Option Nat} {ty : TypeId} {pos : String} {aft : Array Edge} {Q : Exit → Act → World → Prop} {ops : Array Oper} {rest : List Oper} {B : World} {L : List HP}
theorem run_slice3 {t e : TypeId} {x lo hi mx : Operand} {i j m cap c sz : Nat} {a : Option Addr} (ht : P.underlying t = some (.slice e)) (hs : (P.info? e).map (·.size) = some sz) (hx : ev T x = some (.slice a m cap))
    (hl : ∃ k, ev T lo = some (.int k (i : Int))) (hh : ∃ k, ev T hi = some (.int k (j : Int))) (hm : ∃ k, ev T mx = some (.int k (c : Int))) (hij : i ≤ j) (hj : j ≤ c) (hc : c ≤ cap) :
    Run P n D T w ⟨dst, .slice t x (some lo) (some hi) (some mx), ty, pos, aft, none⟩ (.slice (if c = i then a else a.map (·.add (i * sz))) (j - i) (c - i)) w := fun c' f => by
  obtain ⟨q, hq, hqs⟩ := Option.map_eq_some_iff.1 hs
  have e1 : ∀ (k : IntKind) (y : Nat) (m : Nat) (cd : BoundsCode), m ≤ y → (Instr.sliceBound (.int k (m : Int)) y cd).run P w = .ok m w := fun k y m cd h => by
    have : (0 : Int) ≤ m ∧ (m : Int) ≤ y := by omega
    simp [Instr.sliceBound, asIntOf, h]
  have hz : (sizeOf e).run P w = .ok sz w := by simp [sizeOf, typeInfo, hq, hqs]
  obtain ⟨k1, h1⟩ := hl
  obtain ⟨k2, h2⟩ := hh
  obtain ⟨k3, h3⟩ := hm
  simp [execOp, f.ev hx, f.ev h1, f.ev h2, f.ev h3, Instr.sliceAt, run_underlying ht, Instr.slice, Instr.sliceBounds, e1, hij, hj, hc, hz]
theorem WO.appendIn {t u e d : TypeId} {du : TypeDesc} {a : Option Addr} {m cap r k : Nat} {s x : Operand} {xv : Value} {l news : List Value} {ts : Array TypeId} (i : Nat) (hts : ts = #[t, u]) (ht : P.underlying t = some (.slice e)) (hu : P.underlying u = some du) (hdu : ∀ q, du ≠ .int q)
    (hs : sizeB P e = some k) (he : ev T s = some (.slice a m cap)) (hex : ev T x = some xv) (hn : Nat.blt d n = true)
    (hS : St B L w) (hi : nth L i = some (own a m cap e k l)) (hx : Src P w xv r k news) (hnn : news.all noAgg = true) (hfit : m + r ≤ cap)
    (h : ∀ w', St B (put L i (own a (m + r) cap e k (l ++ news))) w' → WO P n D ops Q rest ((d, .slice a (m + r) cap) :: T) w') : WO P n D ops Q (⟨some d, .call ⟨.builtin .append, #[s, x], ts⟩, ty, pos, aft, none⟩ :: rest) T w := fun c f => by
  subst hts
  have hF := hS.focus i hi
  obtain ⟨⟨hl, hp, _⟩, hle⟩ := hF.own_rd
  have hz0 : (du matches .int _) = false := by cases du <;> first | rfl | exact absurd rfl (hdu _)
  have key : ∃ w', (Builtin.append_ #[t, u] ty #[.slice a m cap, xv]).run P w = .ok (.slice a (m + r) cap) w' ∧ St B (put L i (own a (m + r) cap e k (l ++ news))) w' := by
    cases a with
    | none =>
      obtain ⟨⟨rfl, rfl, rfl⟩, h0⟩ := hF.pure
      have hr : r = 0 := by omega
      subst hr
      have hnw : news = [] := by simpa using hx.size
      subst hnw
      refine ⟨w, ?_, St.unfocus hi (St.own_nil _ _ h0)⟩
      have hc := hx.cells w rfl
      simp [Builtin.append_, run_underlying ht, run_underlying hu, hz0, run_sizeOf hs, hx.len, hc]
    | some p =>
      obtain ⟨q, hq⟩ := hF.ex
      obtain ⟨⟨h1, h2, h3, h4, h5⟩, h6⟩ := hq.sep.pure
      have hsum : m * k + r * k ≤ cap * k := by rw [← Nat.add_mul]; exact Nat.mul_le_mul_right _ hfit
      obtain ⟨w', e', h'⟩ := run_storeCells (P := P) news (o := p.off + m * k) (i := 0) hnn (by simp [hx.size]; omega) h6
      have hsp : splice (q.1 ++ (l ++ q.2)) (p.off + m * k + 0) news = q.1 ++ ((l ++ news) ++ q.2.drop news.length) := by
        unfold splice
        have hlm : p.off + m * k + 0 = (q.1 ++ l).length := by simp; omega
        rw [← List.append_assoc q.1 l q.2, hlm, List.take_left, List.drop_append]
        simp
      rw [hsp] at h'
      refine ⟨w', ?_, St.unfocus hi ((St.join (St.addPure ⟨h1, h2, ?_, hfit, ?_⟩ h')).give (q.1, q.2.drop news.length))⟩
      · have hc := hx.cells w rfl
        have hadd : p.add (m * k) = ⟨p.block, p.off + m * k, none⟩ := by obtain ⟨b, o, s⟩ := p; simp only at h1; subst h1; exact add_adr
        simp [Builtin.append_, run_underlying ht, run_underlying hu, hz0, run_sizeOf hs, hx.len, hc, hfit, hadd, e']
      · simp [hl, hx.size, Nat.add_mul]
      · simp [hl, hx.size]; omega
  obtain ⟨w', hr, h'⟩ := key
  exact WO.val (v := .slice a (m + r) cap) (w' := w') (fun b fb => by simp [execOp, resolve, invoke, builtin, fb.ev he, fb.ev hex, hr]) rfl rfl hn (h w' h') c f
theorem WO.clearSp {t e : TypeId} {a : Option Addr} {m cap r c2 k : Nat} {x : Operand} {z : Value} {l : List Value} {ts : Array TypeId} (i : Nat) (hts : ts = #[t]) (ht : P.underlying t = some (.slice e))
    (hs : sizeB P e = some k) (hk : 0 < k) (hz : zeroB P e = some z) (hzs : z.cells.size = k) (hza : z.cells.toList.all noAgg = true)
    (hx : ev T x = some (.slice (if cap = m then a else a.map (·.add (m * k))) r c2)) (hS : St B L w) (hi : nth L i = some (own a m cap e k l)) (hfit : m + r ≤ cap)
    (h : ∀ w', St B L w' → WO P n D ops Q rest T w') : WO P n D ops Q (⟨none, .call ⟨.builtin .clear, #[x], ts⟩, ty, pos, aft, none⟩ :: rest) T w := fun c f => by
  subst hts
  have hF := hS.focus i hi
  have key : ∃ w', (Builtin.clear_ #[t] ty #[.slice (if cap = m then a else a.map (·.add (m * k))) r c2]).run P w = .ok (.tuple #[]) w' ∧ St B L w' := by
    have hput : ∀ {w' : World}, St B (own a m cap e k l :: del L i) w' → St B L w' := fun h' => by
      have h2 := St.unfocus hi h'
      have e2 : ∀ {L : List HP} {i : Nat} {y : HP}, nth L i = some y → put L i y = L := by
        intro L
        induction L with
        | nil => intro i y h; cases h
        | cons b l ih => intro i y h; cases i with
          | zero => cases h; rfl
          | succ i => show b :: put l i y = b :: l; rw [ih h]
      rwa [e2 hi] at h2
    cases a with
    | none =>
      obtain ⟨⟨h1, h2, h3⟩, h0⟩ := hF.pure
      have : (if cap = m then (none : Option Addr) else (none : Option Addr).map (·.add (m * k))) = none := by split <;> rfl
      rw [this]
      exact ⟨w, by simp [Builtin.clear_, run_underlying ht], hS⟩
    | some p =>
      rcases Nat.eq_zero_or_pos r with h0 | h0
      · subst h0
        refine ⟨w, ?_, hS⟩
        split <;> simp [Builtin.clear_, run_underlying ht]
      · obtain ⟨q, hq⟩ := hF.ex
        obtain ⟨⟨h1, h2, h3, h4, h5⟩, h6⟩ := hq.sep.pure
        rw [if_neg (by omega), Option.map_some]
        obtain ⟨news, hnews⟩ : ∃ nn, nn = (Builtin.zeroCells z.cells r).toList := ⟨_, rfl⟩
        have hnl : news.length = r * k := by rw [hnews]; simp [Builtin.zeroCells, hzs]
        have hna : news.all noAgg = true := by
          rw [hnews, List.all_eq_true]
          intro v hv
          rw [Array.mem_toList_iff, Builtin.zeroCells, Array.mem_map] at hv
          obtain ⟨j, _, rfl⟩ := hv
          have hlt : j % z.cells.size < z.cells.size := Nat.mod_lt _ (by omega)
          rw [getElem!_pos z.cells _ hlt]
          exact List.all_eq_true.1 hza _ (by simp)
        have hsum : m * k + r * k ≤ cap * k := by rw [← Nat.add_mul]; exact Nat.mul_le_mul_right _ hfit
        obtain ⟨w', e', h'⟩ := run_storeCells (P := P) news (o := p.off + m * k) (i := 0) hna (by simp [hnl]; omega) h6
        have hsp : splice (q.1 ++ (l ++ q.2)) (p.off + m * k + 0) news = q.1 ++ (l ++ (news ++ q.2.drop news.length)) := by
          unfold splice
          have hlm : p.off + m * k + 0 = (q.1 ++ l).length := by simp; omega
          rw [← List.append_assoc q.1 l q.2, hlm, List.take_left, List.drop_append]
          simp
        rw [hsp] at h'
        refine ⟨w', ?_, hput (St.own_shut (pre := q.1) (sp := news ++ q.2.drop news.length) h1 h2 h3 h4 ?_ h')⟩
        · have hadd : p.add (m * k) = ⟨p.block, p.off + m * k, none⟩ := by obtain ⟨b, o, s⟩ := p; simp only at h1; subst h1; exact add_adr
          have hzv : (zeroValue e).run P w = .ok z w := by
            obtain ⟨iz, hiz, hiz2⟩ := Option.bind_eq_some_iff.1 hz
            simp [zeroValue, typeInfo, hiz, hiz2]
          obtain ⟨r', rfl⟩ : ∃ r', r = r' + 1 := ⟨r - 1, by omega⟩
          rw [hadd]
          simp only [Builtin.clear_, Sem.run_bind]
          simp [run_underlying ht, hzv, ← hnews, e']
        · simp [hnl]; omega
  obtain ⟨w', hr, h'⟩ := key
  exact WO.valN (v := .tuple #[]) (w' := w') (fun b fb => by simp [execOp, resolve, invoke, builtin, fb.ev hx, hr]) rfl rfl (h w' h') c f
end
/-! Points by their times. -/
def lowN : List Pt → Int → Nat
  | [], _ => 0
  | p :: l, t => if p.t < t then lowN l t + 1 else 0
theorem lowN_le : ∀ (l : List Pt) (t : Int), lowN l t ≤ l.length
  | [], _ => Nat.le_refl _
  | p :: l, t => by rw [lowN]; split; (· exact Nat.succ_le_succ (lowN_le l t)); (· exact Nat.zero_le _)
theorem lowN_lt : ∀ {l : List Pt} {t : Int} {i : Nat} {p : Pt}, l.Pairwise (fun a b => a.t < b.t) → l[i]? = some p → (p.t < t ↔ i < lowN l t)
  | [], _, i, _, _, h => by simp at h
  | q :: l, t, 0, p, _, h => by simp at h; subst h; rw [lowN]; split <;> simp [*]
  | q :: l, t, i + 1, p, hs, h => by
    have hh := List.pairwise_cons.1 hs
    have h2 : l[i]? = some p := by simpa using h
    rw [lowN]
    split
    · rw [lowN_lt hh.2 h2]; omega
    · have := hh.1 p (List.mem_of_getElem? h2); omega
theorem lowN_zero {t : Int} : ∀ {l : List Pt}, (∀ q ∈ l, t ≤ q.t) → lowN l t = 0
  | [], _ => rfl
  | p :: l, h => by rw [lowN, if_neg (by have := h p (by simp); omega)]
theorem lowN_next {t : Int} : ∀ {l : List Pt}, l.Pairwise (fun a b => a.t < b.t) → ∀ {f : Bool}, (f = true ↔ ∃ p, l[lowN l t]? = some p ∧ p.t = t) → lowN l (t + 1) = lowN l t + if f = true then 1 else 0
  | [], _, f, h => by
    have : f = false := by cases f with | false => rfl | true => (obtain ⟨p, hp, _⟩ := h.1 rfl; simp at hp)
    subst this; rfl
  | p :: l, hs, f, h => by
    have hh := List.pairwise_cons.1 hs
    rw [lowN, lowN]
    rw [lowN] at h
    by_cases c : p.t < t
    · rw [if_pos c] at h ⊢
      rw [if_pos (by omega), lowN_next hh.2 (f := f) (by simpa using h)]; omega
    · rw [if_neg c] at h ⊢
      by_cases c2 : p.t = t
      · have : f = true := h.2 ⟨p, by simp, c2⟩
        subst this
        rw [if_pos (by omega), lowN_zero (fun q hq => by have := hh.1 q hq; omega)]; rfl
      · have : f = false := by cases f with | false => rfl | true => (obtain ⟨q, hq, e⟩ := h.1 rfl; simp at hq; subst hq; exact absurd e c2)
        subst this
        rw [if_neg (by omega)]; rfl
theorem win : ∀ {l : List Pt} {fr to : Int}, l.Pairwise (fun a b => a.t < b.t) → (l.take (max (lowN l fr) (lowN l (to + 1)))).drop (lowN l fr) = l.filter (inF fr to) ∧ l.take (lowN l fr) ++ l.drop (max (lowN l fr) (lowN l (to + 1))) = l.filter (fun p => !(decide (fr ≤ p.t ∧ p.t ≤ to)))
  | [], _, _, _ => ⟨by simp, by simp⟩
  | p :: l, fr, to, hs => by
    have hh := List.pairwise_cons.1 hs
    obtain ⟨i1, i2⟩ := win (fr := fr) (to := to) hh.2
    rw [lowN, lowN, List.filter_cons, List.filter_cons]
    by_cases c : p.t < fr
    · rw [if_pos c, if_neg (show ¬ inF fr to p = true by simp [inF]; omega), if_pos (show (!(decide (fr ≤ p.t ∧ p.t ≤ to))) = true by simp; omega)]
      by_cases d : p.t < to + 1
      · rw [if_pos d, Nat.succ_max_succ, List.take_succ_cons, List.drop_succ_cons, List.take_succ_cons, List.drop_succ_cons, List.cons_append, i1, i2]; exact ⟨rfl, rfl⟩
      · have hz : lowN l (to + 1) = 0 := lowN_zero fun q hq => by have := hh.1 q hq; omega
        rw [hz] at i1 i2
        rw [Nat.max_eq_left (Nat.zero_le _)] at i1 i2
        rw [if_neg d, Nat.max_eq_left (Nat.zero_le _)]
        simp only [List.take_succ_cons, List.drop_succ_cons, List.cons_append]
        rw [i1, i2]; exact ⟨rfl, rfl⟩
    · have hz : lowN l fr = 0 := lowN_zero fun q hq => by have := hh.1 q hq; omega
      rw [hz] at i1 i2
      rw [if_neg c]
      by_cases d : p.t < to + 1
      · rw [if_pos d, if_pos (show inF fr to p = true by simp [inF]; omega), if_neg (show ¬ (!(decide (fr ≤ p.t ∧ p.t ≤ to))) = true by simp; omega), Nat.max_eq_right (Nat.zero_le _), List.take_succ_cons, List.drop_zero, List.take_zero, List.drop_succ_cons, List.nil_append]
        rw [Nat.max_eq_right (Nat.zero_le _)] at i1 i2
        rw [List.drop_zero] at i1
        rw [List.take_zero, List.nil_append] at i2
        rw [i1, i2]; exact ⟨rfl, rfl⟩
      · have hz2 : lowN l (to + 1) = 0 := lowN_zero fun q hq => by have := hh.1 q hq; omega
        rw [hz2] at i1 i2
        rw [if_neg d, if_neg (show ¬ inF fr to p = true by simp [inF]; omega), if_pos (show (!(decide (fr ≤ p.t ∧ p.t ≤ to))) = true by simp; omega)]
        simp at i1 i2 ⊢
        exact ⟨fun q hq => i1 q hq, i2⟩
end Go.Proofs.YtidoidoelgfnaaaGreatDoor.SL

/- Iterators: what goes in rounds. -/
namespace Go.Proofs.YtidoidoelgfnaaaGreatDoor.SL
open Go.RowKit
set_option linter.unusedVariables false
section
variable {B w : World} {L : List HP} {tA tX : TypeId}
def ptrP (x : Nat × MRow) : Value := ptrG x.1
/-- A loop's record, and a row of pointers that grows in a variable. -/
def apK (tE tL : TypeId) (l : Nat) (rec : Loop) (g : Nat) (ol : List (Nat × MRow)) : HP := .ex fun q : Option Addr × Nat => .sep (.blk l (.loop rec)) (.sep (own q.1 ol.length q.2 tE 1 (ol.map ptrP)) (cel g [.slice q.1 ol.length q.2] tL))
theorem apK_open {tE tL : TypeId} {l g : Nat} {rec : Loop} {ol : List (Nat × MRow)} (h : St B (apK tE tL l rec g ol :: L) w) : ∃ (a : Option Addr) (c : Nat), St B (.blk l (.loop rec) :: own a ol.length c tE 1 (ol.map ptrP) :: cel g [.slice a ol.length c] tL :: L) w := by
  obtain ⟨⟨a, c⟩, h1⟩ := h.ex
  have h2 := h1.sep
  have h3 := (h2.permT [1, 0] (L' := .sep (own a ol.length c tE 1 (ol.map ptrP)) (cel g [.slice a ol.length c] tL) :: .blk l (.loop rec) :: L) rfl).sep
  exact ⟨a, c, h3.permT [2, 0, 0] rfl⟩
theorem apK_shut {tE tL : TypeId} {l g c : Nat} {a : Option Addr} {rec : Loop} {ol : List (Nat × MRow)} (h : St B (.blk l (.loop rec) :: own a ol.length c tE 1 (ol.map ptrP) :: cel g [.slice a ol.length c] tL :: L) w) : St B (apK tE tL l rec g ol :: L) w := by
  have h1 := (h.permT [1, 1, 0] (L' := own a ol.length c tE 1 (ol.map ptrP) :: cel g [.slice a ol.length c] tL :: .blk l (.loop rec) :: L) rfl).join
  have h2 := (h1.permT [1, 0] (L' := .blk l (.loop rec) :: .sep (own a ol.length c tE 1 (ol.map ptrP)) (cel g [.slice a ol.length c] tL) :: L) rfl).join
  exact St.give ((a, c) : Option Addr × Nat) h2
end
end Go.Proofs.YtidoidoelgfnaaaGreatDoor.SL
