/- Manifests as plain data: a torn file beside it does not matter. -/
import Derived.Test.YtcehlnpbdffdhaaGreatDoorMan4
namespace Go.Proofs.YtcehlnpbdffdhaaGreatDoor.SL
open Go.RowKit
set_option linter.unusedVariables false
set_option linter.unusedSimpArgs false
/-- The manifest a holds, and a file n lies beside it. -/
structure PN (D : Dk) (a : Man) : Prop where
  room : D.room = 1048576
  left : D.left = -1
  dead : D.dead = false
  r : RngM a
  c : checkM a = 0
  nm : ∃ i k, D.nm = [([109], i), ([110], k)] ∧ i < D.f.length ∧ fileAt D.f i = ((encM a).1, (encM a).1.length)
def PT (D : Dk) (a : Man) : Prop := PS D (some a) ∨ PN D a
theorem PT.load {D : Dk} {a : Man} (h : PT D a) : loadD D = (a, 0) := by
  rcases h with h | h
  · exact h.load
  · obtain ⟨i, k, hn, hi, hf⟩ := h.nm
    have hd : ∀ k, readD D k = match findN k D.nm with
        | none => ([], 12)
        | some i => ((fileAt D.f i).1, 0) := fun k => by unfold readD; rw [if_neg (by rw [h.dead]; exact Bool.noConfusion)]; rfl
    unfold loadD
    rw [hd, hn]
    show (if ((fileAt D.f i).1, (0 : Int)).2 = 0 then decM (fileAt D.f i).1 else _) = _
    rw [if_pos rfl, hf]; exact (dec_enc h.r h.c).1
theorem PT.publish {D : Dk} {a b : Man} (h : PT D a) (hr : RngM b) (hc : checkM b = 0) : ∃ D', publishD D b = (D', 0) ∧ PS D' (some b) := by
  rcases h with h | h
  · exact h.publish hr hc
  · obtain ⟨i, k, hn, hi, hf⟩ := h.nm
    have e0 : (encM b).2 = 0 := by rw [enc_ok hr hc]
    have hel := enc_len hr
    have hela := enc_len h.r
    have hd : (readD D [110]).2 = 0 := by unfold readD; rw [if_neg (by rw [h.dead]; exact Bool.noConfusion), hn]; rfl
    obtain ⟨D1, hD1⟩ : ∃ D1 : Dk, D1 = ⟨1048576, D.f, [([109], i)], D.last, D.ch ++ [⟨[110], [], 0⟩], false, -1⟩ := ⟨_, rfl⟩
    have hrm : removeD D [110] = (D1, 0) := by
      unfold removeD onWrite
      rw [writeD_up h.left h.dead, if_pos rfl]
      show remove1 D [110] = _
      have hfn : findN [110] D.nm = some k := by rw [hn]; rfl
      have hap : applyN D.nm ⟨[110], [], 0⟩ = [([109], i)] := by rw [hn]; rfl
      unfold remove1; rw [hfn]
      show (changeD D ⟨[110], [], 0⟩, (0 : Int)) = _
      unfold changeD; rw [hap, hD1, h.room, h.left, h.dead]
    have hu : usedN D1.f D1.nm ≤ 1014 := by rw [hD1]; show (fileAt D.f i).1.length + 0 ≤ 1014; rw [hf]; exact hela
    have hg := pub_go (D := D1) (s := (encM b).1) (by rw [hD1]) (by rw [hD1]) (by rw [hD1]) (by omega) (by rw [hD1]; exact .inr ⟨i, rfl⟩)
    refine ⟨_, ?_, pub_ps (f := D1.f) hr hc⟩
    unfold publishD
    rw [if_neg (fun q => q e0), if_pos hd]
    have r1 : runD (stepsR (encM b).1) D = if (removeD D [110]).2 = 0 then runD (stepsP (encM b).1) (removeD D [110]).1 else removeD D [110] := rfl
    rw [r1, hrm, if_pos rfl]; exact hg
theorem torn_crash {D : Dk} {a : Man} {t : List UInt8} (h : PS D (some a)) (ht : t.length ≤ 1000) : ∃ D1, appendD D [110] t = (D1, 0) ∧ ∀ zs, PT (crashD D1 zs) a := by
  have hu := h.used
  obtain ⟨hr, hc, i, hn, hi, hf⟩ := h.so a rfl
  have hrm := h.room
  have a1 : appendD D [110] t = (⟨1048576, D.f ++ [(t, 0)], [([109], i), ([110], D.f.length)], [([109], i)], [⟨[], [110], D.f.length⟩], false, -1⟩, 0) := by
    unfold appendD onWrite
    rw [writeD_up h.left h.dead, if_pos rfl]
    show append1 D [110] t = _
    unfold append1
    rw [if_neg (by decide), if_neg (by intro h2; rcases h2 with h2 | ⟨_, h2⟩; omega; omega), hu.2.2]
    show (({ changeD { D with f := D.f ++ [([], 0)] } ⟨[], [110], D.f.length⟩ with f := D.f ++ [(t, 0)] } : Dk), (0 : Int)) = _
    have hap : applyN D.nm ⟨[], [110], D.f.length⟩ = [([109], i), ([110], D.f.length)] := by rw [hn]; rfl
    have hla : D.last = [([109], i)] := by rw [h.last, hn]
    unfold changeD
    show ((⟨D.room, D.f ++ [(t, 0)], applyN D.nm ⟨[], [110], D.f.length⟩, D.last, D.ch ++ [⟨[], [110], D.f.length⟩], D.dead, D.left⟩ : Dk), (0 : Int)) = _
    rw [hap, hla, h.room, h.ch, h.dead, h.left]; rfl
  have hfi : fileAt (D.f ++ [(t, 0)]) i = ((encM a).1, (encM a).1.length) := by rw [← hf]; unfold fileAt; rw [List.getD_eq_getElem?_getD, List.getD_eq_getElem?_getD, List.getElem?_append_left hi]
  have hi2 : i < (D.f ++ [(t, 0)]).length := by rw [List.length_append]; omega
  have hcut : ∀ zs : List Int, cutF zs 1 (fileAt (D.f ++ [(t, 0)]) i) = ((encM a).1, (encM a).1.length) := fun zs => by rw [hfi, cut_full]
  refine ⟨_, a1, fun zs => ?_⟩
  have hk := keptF_le zs 0 1
  have : keptF zs 0 1 = 0 ∨ keptF zs 0 1 = 1 := by omega
  rcases this with e | e
  · left
    have ec : crashD (⟨1048576, D.f ++ [(t, 0)], [([109], i), ([110], D.f.length)], [([109], i)], [⟨[], [110], D.f.length⟩], false, -1⟩ : Dk) zs = ⟨1048576, (D.f ++ [(t, 0)]).set i (cutF zs 1 (fileAt (D.f ++ [(t, 0)]) i)), [([109], i)], [([109], i)], [], false, -1⟩ := by
      unfold crashD
      show (⟨1048576, crashF zs 1 (applyL [([109], i)] (List.take (keptF zs 0 1) _)) _, applyL [([109], i)] (List.take (keptF zs 0 1) _), applyL [([109], i)] (List.take (keptF zs 0 1) _), [], false, -1⟩ : Dk) = _
      rw [e]; rfl
    rw [ec]
    refine ⟨rfl, rfl, rfl, rfl, rfl, fun h => (by cases h), fun m hm => ?_⟩
    cases hm
    exact ⟨hr, hc, i, rfl, by rw [List.length_set]; exact hi2, by show fileAt (List.set _ i _) i = _; rw [fileAt_set hi2, if_pos rfl, hcut]⟩
  · right
    have ec : crashD (⟨1048576, D.f ++ [(t, 0)], [([109], i), ([110], D.f.length)], [([109], i)], [⟨[], [110], D.f.length⟩], false, -1⟩ : Dk) zs = ⟨1048576, ((D.f ++ [(t, 0)]).set i (cutF zs 1 (fileAt (D.f ++ [(t, 0)]) i))).set D.f.length (cutF zs 2 (fileAt ((D.f ++ [(t, 0)]).set i (cutF zs 1 (fileAt (D.f ++ [(t, 0)]) i))) D.f.length)), [([109], i), ([110], D.f.length)], [([109], i), ([110], D.f.length)], [], false, -1⟩ := by
      unfold crashD
      show (⟨1048576, crashF zs 1 (applyL [([109], i)] (List.take (keptF zs 0 1) _)) _, applyL [([109], i)] (List.take (keptF zs 0 1) _), applyL [([109], i)] (List.take (keptF zs 0 1) _), [], false, -1⟩ : Dk) = _
      rw [e]; rfl
    rw [ec]
    refine ⟨rfl, rfl, rfl, hr, hc, i, D.f.length, rfl, by rw [List.length_set, List.length_set]; exact hi2, ?_⟩
    show fileAt (List.set (List.set _ i _) D.f.length _) i = _
    rw [fileAt_set (by rw [List.length_set, List.length_append]; simp), if_neg (by omega), fileAt_set hi2, if_pos rfl, hcut]
end Go.Proofs.YtcehlnpbdffdhaaGreatDoor.SL
