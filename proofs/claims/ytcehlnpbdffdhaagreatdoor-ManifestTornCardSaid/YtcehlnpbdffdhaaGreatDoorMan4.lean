/- Manifests as plain data: a file that was begun beside the manifest's. -/
import Derived.Test.YtcehlnpbdffdhaaGreatDoorMan3
namespace Go.Proofs.YtcehlnpbdffdhaaGreatDoor.SL
open Go.RowKit
set_option linter.unusedVariables false
set_option linter.unusedSimpArgs false
/-- What the steps do, whatever lasts and whatever was changed since. -/
theorem pub_go {D : Dk} {s : List UInt8} (hl : D.left = -1) (hd : D.dead = false) (hr : D.room = 1048576) (hu : usedN D.f D.nm + s.length ≤ 1048576) (hn : D.nm = [] ∨ ∃ i, D.nm = [([109], i)]) :
    runD (stepsP s) D = (⟨1048576, D.f ++ [(s, s.length)], [([109], D.f.length)], [([109], D.f.length)], [], false, -1⟩, 0) := by
  have up : ∀ {E : Dk} (k : Dk → Dk × Int), E.left = -1 → E.dead = false → onWrite E k = k E := fun k h1 h2 => by unfold onWrite; rw [writeD_up h1 h2, if_pos rfl]
  obtain ⟨n1, hn1⟩ : ∃ l : Nm, l = insN ([110], D.f.length) D.nm := ⟨_, rfl⟩
  have hn1' : (n1 = [([110], D.f.length)]) ∨ ∃ i, n1 = [([109], i), ([110], D.f.length)] := by
    rcases hn with e | ⟨i, e⟩
    · left; rw [hn1, e]; rfl
    · right; exact ⟨i, by rw [hn1, e]; rfl⟩
  have hkp : keepN ⟨[], [110], D.f.length⟩ D.nm = D.nm := by rcases hn with e | ⟨i, e⟩ <;> rw [e] <;> rfl
  have hno : findN [110] D.nm = none := by rcases hn with e | ⟨i, e⟩ <;> rw [e] <;> rfl
  have hle : D.nm.length ≤ 1 := by rcases hn with e | ⟨i, e⟩; rw [e]; exact Nat.zero_le _; rw [e]; exact Nat.le_refl _
  obtain ⟨c1, hc1⟩ : ∃ c, c = D.ch ++ [⟨[], [110], D.f.length⟩] := ⟨_, rfl⟩
  obtain ⟨l0, hl0⟩ : ∃ l, l = D.last := ⟨_, rfl⟩
  have a1 : appendD D [110] s = (⟨1048576, D.f ++ [(s, 0)], n1, l0, c1, false, -1⟩, 0) := by
    unfold appendD
    rw [up _ hl hd]
    unfold append1
    rw [if_neg (by decide), if_neg (by intro h2; rcases h2 with h2 | ⟨_, h2⟩; omega; omega), hno]
    show (({ changeD { D with f := D.f ++ [([], 0)] } ⟨[], [110], D.f.length⟩ with f := D.f ++ [(s, 0)] } : Dk), (0 : Int)) = _
    unfold changeD applyN
    rw [if_neg (by show ¬ ([110] : List UInt8) = []; decide)]
    show ((⟨D.room, D.f ++ [(s, 0)], insN ([110], D.f.length) (keepN ⟨[], [110], D.f.length⟩ D.nm), D.last, D.ch ++ [⟨[], [110], D.f.length⟩], D.dead, D.left⟩ : Dk), (0 : Int)) = _
    rw [hkp, ← hn1, ← hc1, hr, hd, hl, hl0]
  have hfn : findN [110] n1 = some D.f.length := by rcases hn1' with e | ⟨i, e⟩ <;> rw [e] <;> rfl
  have hfa : fileAt (D.f ++ [(s, 0)]) D.f.length = (s, 0) := by unfold fileAt; rw [List.getD_eq_getElem?_getD, List.getElem?_append_right (Nat.le_refl _), Nat.sub_self]; rfl
  have hset : (D.f ++ [(s, 0)]).set D.f.length (s, s.length) = D.f ++ [(s, s.length)] := by rw [List.set_append_right _ _ (Nat.le_refl _), Nat.sub_self]; rfl
  have a2 : syncD ⟨1048576, D.f ++ [(s, 0)], n1, l0, c1, false, -1⟩ [110] = (⟨1048576, D.f ++ [(s, s.length)], n1, l0, c1, false, -1⟩, 0) := by
    unfold syncD
    rw [up _ rfl rfl]; unfold sync1
    simp only [hfn, hfa, hset]
  have hap : applyN n1 ⟨[110], [109], D.f.length⟩ = [([109], D.f.length)] := by rcases hn1' with e | ⟨i, e⟩ <;> rw [e] <;> rfl
  have a3 : renameD ⟨1048576, D.f ++ [(s, s.length)], n1, l0, c1, false, -1⟩ [110] [109] = (⟨1048576, D.f ++ [(s, s.length)], [([109], D.f.length)], l0, c1 ++ [⟨[110], [109], D.f.length⟩], false, -1⟩, 0) := by
    unfold renameD
    rw [up _ rfl rfl]; unfold rename1
    simp only [hfn]
    rw [if_neg (by decide)]
    unfold changeD; simp only [hap]
  have a4 : syncNamesD ⟨1048576, D.f ++ [(s, s.length)], [([109], D.f.length)], l0, c1 ++ [⟨[110], [109], D.f.length⟩], false, -1⟩ = (⟨1048576, D.f ++ [(s, s.length)], [([109], D.f.length)], [([109], D.f.length)], [], false, -1⟩, 0) := rfl
  have r1 : runD (stepsP s) D = if (appendD D [110] s).2 = 0 then runD [fun D => syncD D [110], fun D => renameD D [110] [109], syncNamesD] (appendD D [110] s).1 else appendD D [110] s := rfl
  rw [r1, a1, if_pos rfl]
  have r2 : ∀ E : Dk, runD [fun D => syncD D [110], fun D => renameD D [110] [109], syncNamesD] E = if (syncD E [110]).2 = 0 then runD [fun D => renameD D [110] [109], syncNamesD] (syncD E [110]).1 else syncD E [110] := fun _ => rfl
  rw [r2, a2, if_pos rfl]
  have r3 : ∀ E : Dk, runD [fun D => renameD D [110] [109], syncNamesD] E = if (renameD E [110] [109]).2 = 0 then runD [syncNamesD] (renameD E [110] [109]).1 else renameD E [110] [109] := fun _ => rfl
  rw [r3, a3, if_pos rfl]
  have r4 : ∀ E : Dk, runD [syncNamesD] E = if (syncNamesD E).2 = 0 then ((syncNamesD E).1, 0) else syncNamesD E := fun _ => rfl
  rw [r4, a4, if_pos rfl]
/-- Behind the steps the manifest holds. -/
theorem pub_ps {f : List (List UInt8 × Nat)} {m : Man} (hr : RngM m) (hc : checkM m = 0) : PS ⟨1048576, f ++ [((encM m).1, (encM m).1.length)], [([109], f.length)], [([109], f.length)], [], false, -1⟩ (some m) := by
  refine ⟨rfl, rfl, rfl, rfl, rfl, fun h => (by cases h), fun m' hm => ?_⟩
  cases hm
  refine ⟨hr, hc, f.length, rfl, by simp, ?_⟩
  unfold fileAt; rw [List.getD_eq_getElem?_getD, List.getElem?_append_right (Nat.le_refl _), Nat.sub_self]; rfl
end Go.Proofs.YtcehlnpbdffdhaaGreatDoor.SL
