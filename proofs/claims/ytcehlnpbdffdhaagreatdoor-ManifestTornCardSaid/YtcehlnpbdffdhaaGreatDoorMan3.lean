/- Manifests as plain data: what a disk has behind a manifest that is published. -/
import Derived.Test.YtcehlnpbdffdhaaGreatDoorPb4
namespace Go.Proofs.YtcehlnpbdffdhaaGreatDoor.SL
open Go.RowKit
set_option linter.unusedVariables false
set_option linter.unusedSimpArgs false
/-- A disk on which the manifest w holds (none: no file at all). -/
structure PS (D : Dk) (w : Option Man) : Prop where
  room : D.room = 1048576
  left : D.left = -1
  dead : D.dead = false
  ch : D.ch = []
  last : D.last = D.nm
  no : w = none → D.nm = []
  so : ∀ m, w = some m → RngM m ∧ checkM m = 0 ∧ ∃ i, D.nm = [([109], i)] ∧ i < D.f.length ∧ fileAt D.f i = ((encM m).1, (encM m).1.length)
theorem PS.new : PS (newD 1048576) none := ⟨rfl, rfl, rfl, rfl, rfl, fun _ => rfl, fun m h => (by cases h)⟩
theorem PS.load {D : Dk} {w : Option Man} (h : PS D w) : loadD D = (w.getD noneM, 0) := by
  have hd : ∀ k, readD D k = match findN k D.nm with
      | none => ([], 12)
      | some i => ((fileAt D.f i).1, 0) := fun k => by unfold readD; rw [if_neg (by rw [h.dead]; exact Bool.noConfusion)]; rfl
  unfold loadD
  rw [hd]
  cases w with
  | none => rw [h.no rfl]; rfl
  | some m =>
    obtain ⟨hr, hc, i, hn, hi, hf⟩ := h.so m rfl
    rw [hn]
    show (if ((fileAt D.f i).1, (0 : Int)).2 = 0 then decM (fileAt D.f i).1 else _) = _
    rw [if_pos rfl, hf]; exact (dec_enc hr hc).1
theorem PS.crash {D : Dk} {w : Option Man} {zs : List Int} (h : PS D w) : PS (crashD D zs) w := by
  have hl : applyL D.last (D.ch.take (keptF zs 0 D.ch.length)) = D.nm := by rw [h.ch, h.last, List.take_nil]; rfl
  have e : crashD D zs = ⟨D.room, crashF zs 1 D.nm D.f, D.nm, D.nm, [], false, -1⟩ := by unfold crashD; rw [hl]
  rw [e]
  refine ⟨h.room, rfl, rfl, rfl, rfl, h.no, fun m hm => ?_⟩
  obtain ⟨hr, hc, i, hn, hi, hf⟩ := h.so m hm
  have e2 : crashF zs 1 D.nm D.f = D.f.set i (cutF zs 1 (fileAt D.f i)) := by rw [hn]; rfl
  refine ⟨hr, hc, i, hn, ?_, ?_⟩
  · show i < (crashF zs 1 D.nm D.f).length; rw [e2, List.length_set]; exact hi
  · show fileAt (crashF zs 1 D.nm D.f) i = _
    rw [e2, fileAt_set hi, if_pos rfl, hf, cut_full]
theorem PS.refuse {D : Dk} {m : Man} (h : ¬ checkM m = 0) : publishD D m = (D, checkM m) := by
  have e : encM m = ([], checkM m) := by unfold encM; rw [if_neg h]
  unfold publishD
  rw [e, if_pos h]
theorem PS.used {D : Dk} {w : Option Man} (h : PS D w) : usedN D.f D.nm ≤ 1014 ∧ D.nm.length ≤ 1 ∧ findN [110] D.nm = none := by
  cases w with
  | none => rw [h.no rfl]; exact ⟨Nat.zero_le _, Nat.zero_le _, rfl⟩
  | some m =>
    obtain ⟨hr, hc, i, hn, hi, hf⟩ := h.so m rfl
    rw [hn]
    refine ⟨?_, Nat.le_refl _, rfl⟩
    show (fileAt D.f i).1.length + 0 ≤ 1014
    rw [hf]; exact enc_len hr
theorem PS.publish {D : Dk} {w : Option Man} {m : Man} (h : PS D w) (hr : RngM m) (hc : checkM m = 0) : ∃ D', publishD D m = (D', 0) ∧ PS D' (some m) := by
  have hu := h.used
  have hel := enc_len hr
  have he := enc_ok hr hc
  have e0 : (encM m).2 = 0 := by rw [he]
  obtain ⟨s, hs⟩ : ∃ s, s = (encM m).1 := ⟨_, rfl⟩
  have hrd : (readD D [110]).2 = 12 := by unfold readD; rw [if_neg (by rw [h.dead]; exact Bool.noConfusion), hu.2.2]
  have up : ∀ {E : Dk} (k : Dk → Dk × Int), E.left = -1 → E.dead = false → onWrite E k = k E := fun k h1 h2 => by unfold onWrite; rw [writeD_up h1 h2, if_pos rfl]
  obtain ⟨n1, hn1⟩ : ∃ l : Nm, l = insN ([110], D.f.length) D.nm := ⟨_, rfl⟩
  have hn1' : (n1 = [([110], D.f.length)]) ∨ ∃ i, n1 = [([109], i), ([110], D.f.length)] := by
    cases w with
    | none => left; rw [hn1, h.no rfl]; rfl
    | some m' => obtain ⟨_, _, i, hn, _, _⟩ := h.so m' rfl; right; exact ⟨i, by rw [hn1, hn]; rfl⟩
  have hkp : keepN ⟨[], [110], D.f.length⟩ D.nm = D.nm := by
    cases w with
    | none => rw [h.no rfl]; rfl
    | some m' => obtain ⟨_, _, i, hn, _, _⟩ := h.so m' rfl; rw [hn]; rfl
  have a1 : appendD D [110] s = (⟨1048576, D.f ++ [(s, 0)], n1, D.nm, [⟨[], [110], D.f.length⟩], false, -1⟩, 0) := by
    unfold appendD
    rw [up _ h.left h.dead]
    unfold append1
    have hrm := h.room
    rw [if_neg (by decide), if_neg (by intro h2; rcases h2 with h2 | ⟨_, h2⟩; (rw [hs] at h2; omega); omega), hu.2.2]
    show (({ changeD { D with f := D.f ++ [([], 0)] } ⟨[], [110], D.f.length⟩ with f := D.f ++ [(s, 0)] } : Dk), (0 : Int)) = _
    unfold changeD applyN
    rw [if_neg (by show ¬ ([110] : List UInt8) = []; decide)]
    show ((⟨D.room, D.f ++ [(s, 0)], insN ([110], D.f.length) (keepN ⟨[], [110], D.f.length⟩ D.nm), D.last, D.ch ++ [⟨[], [110], D.f.length⟩], D.dead, D.left⟩ : Dk), (0 : Int)) = _
    rw [hkp, ← hn1, h.room, h.last, h.ch, h.dead, h.left]; rfl
  have hfn : findN [110] n1 = some D.f.length := by rcases hn1' with e | ⟨i, e⟩ <;> rw [e] <;> rfl
  have hfa : fileAt (D.f ++ [(s, 0)]) D.f.length = (s, 0) := by unfold fileAt; rw [List.getD_eq_getElem?_getD, List.getElem?_append_right (Nat.le_refl _), Nat.sub_self]; rfl
  have hset : (D.f ++ [(s, 0)]).set D.f.length (s, s.length) = D.f ++ [(s, s.length)] := by rw [List.set_append_right _ _ (Nat.le_refl _), Nat.sub_self]; rfl
  have a2 : syncD ⟨1048576, D.f ++ [(s, 0)], n1, D.nm, [⟨[], [110], D.f.length⟩], false, -1⟩ [110] = (⟨1048576, D.f ++ [(s, s.length)], n1, D.nm, [⟨[], [110], D.f.length⟩], false, -1⟩, 0) := by
    unfold syncD
    rw [up _ rfl rfl]; unfold sync1
    simp only [hfn, hfa, hset]
  have hap : applyN n1 ⟨[110], [109], D.f.length⟩ = [([109], D.f.length)] := by rcases hn1' with e | ⟨i, e⟩ <;> rw [e] <;> rfl
  have a3 : renameD ⟨1048576, D.f ++ [(s, s.length)], n1, D.nm, [⟨[], [110], D.f.length⟩], false, -1⟩ [110] [109] = (⟨1048576, D.f ++ [(s, s.length)], [([109], D.f.length)], D.nm, [⟨[], [110], D.f.length⟩, ⟨[110], [109], D.f.length⟩], false, -1⟩, 0) := by
    unfold renameD
    rw [up _ rfl rfl]; unfold rename1
    simp only [hfn]
    rw [if_neg (by decide)]
    unfold changeD; simp only [hap]; rfl
  have a4 : syncNamesD ⟨1048576, D.f ++ [(s, s.length)], [([109], D.f.length)], D.nm, [⟨[], [110], D.f.length⟩, ⟨[110], [109], D.f.length⟩], false, -1⟩ = (⟨1048576, D.f ++ [(s, s.length)], [([109], D.f.length)], [([109], D.f.length)], [], false, -1⟩, 0) := rfl
  refine ⟨⟨1048576, D.f ++ [(s, s.length)], [([109], D.f.length)], [([109], D.f.length)], [], false, -1⟩, ?_, rfl, rfl, rfl, rfl, rfl, fun h => (by cases h), fun m' hm => ?_⟩
  · unfold publishD
    rw [if_neg (fun q => q e0), if_neg (by rw [hrd]; decide), ← hs]
    have r1 : runD (stepsP s) D = if (appendD D [110] s).2 = 0 then runD [fun D => syncD D [110], fun D => renameD D [110] [109], syncNamesD] (appendD D [110] s).1 else appendD D [110] s := rfl
    rw [r1, a1, if_pos rfl]
    have r2 : ∀ E : Dk, runD [fun D => syncD D [110], fun D => renameD D [110] [109], syncNamesD] E = if (syncD E [110]).2 = 0 then runD [fun D => renameD D [110] [109], syncNamesD] (syncD E [110]).1 else syncD E [110] := fun _ => rfl
    rw [r2, a2, if_pos rfl]
    have r3 : ∀ E : Dk, runD [fun D => renameD D [110] [109], syncNamesD] E = if (renameD E [110] [109]).2 = 0 then runD [syncNamesD] (renameD E [110] [109]).1 else renameD E [110] [109] := fun _ => rfl
    rw [r3, a3, if_pos rfl]
    have r4 : ∀ E : Dk, runD [syncNamesD] E = if (syncNamesD E).2 = 0 then ((syncNamesD E).1, 0) else syncNamesD E := fun _ => rfl
    rw [r4, a4, if_pos rfl]
  · cases hm
    refine ⟨hr, hc, D.f.length, rfl, by simp, ?_⟩
    show fileAt (D.f ++ [(s, s.length)]) D.f.length = _
    unfold fileAt; rw [List.getD_eq_getElem?_getD, List.getElem?_append_right (Nat.le_refl _), Nat.sub_self, hs]; rfl
end Go.Proofs.YtcehlnpbdffdhaaGreatDoor.SL
