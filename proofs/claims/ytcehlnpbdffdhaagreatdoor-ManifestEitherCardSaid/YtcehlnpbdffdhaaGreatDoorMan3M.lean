import Derived.Test.YtcehlnpbdffdhaaGreatDoorPb4
/- Manifests as plain data: what a disk has behind a manifest that is published. -/
namespace Go.Proofs.YtcehlnpbdffdhaaGreatDoor.SL
open Go.RowKit
set_option linter.unusedVariables false
set_option linter.unusedSimpArgs false
/-- A disk on which the manifest w holds (none: no file at all). -/
structure PS (D : Dk) (w : Option Man) : Prop where
  room : D.room = 1048576
  left : D.left = -1
  dead : D.dead = false
  ch : D.ch = []
  last : D.last = D.nm
  no : w = none → D.nm = []
  so : ∀ m, w = some m → RngM m ∧ checkM m = 0 ∧ ∃ i, D.nm = [([109], i)] ∧ i < D.f.length ∧ fileAt D.f i = ((encM m).1, (encM m).1.length)
theorem PS.new : PS (newD 1048576) none := ⟨rfl, rfl, rfl, rfl, rfl, fun _ => rfl, fun m h => (by cases h)⟩
theorem PS.load {D : Dk} {w : Option Man} (h : PS D w) : loadD D = (w.getD noneM, 0) := by
  have hd : ∀ k, readD D k = match findN k D.nm with
      | none => ([], 12)
      | some i => ((fileAt D.f i).1, 0) := fun k => by unfold readD; rw [if_neg (by rw [h.dead]; exact Bool.noConfusion)]; rfl
  unfold loadD
  rw [hd]
  cases w with
  | none => rw [h.no rfl]; rfl
  | some m =>
    obtain ⟨hr, hc, i, hn, hi, hf⟩ := h.so m rfl
    rw [hn]
    show (if ((fileAt D.f i).1, (0 : Int)).2 = 0 then decM (fileAt D.f i).1 else _) = _
    rw [if_pos rfl, hf]; exact (dec_enc hr hc).1
theorem PS.crash {D : Dk} {w : Option Man} {zs : List Int} (h : PS D w) : PS (crashD D zs) w := by
  have hl : applyL D.last (D.ch.take (keptF zs 0 D.ch.length)) = D.nm := by rw [h.ch, h.last, List.take_nil]; rfl
  have e : crashD D zs = ⟨D.room, crashF zs 1 D.nm D.f, D.nm, D.nm, [], false, -1⟩ := by unfold crashD; rw [hl]
  rw [e]
  refine ⟨h.room, rfl, rfl, rfl, rfl, h.no, fun m hm => ?_⟩
  obtain ⟨hr, hc, i, hn, hi, hf⟩ := h.so m hm
  have e2 : crashF zs 1 D.nm D.f = D.f.set i (cutF zs 1 (fileAt D.f i)) := by rw [hn]; rfl
  refine ⟨hr, hc, i, hn, ?_, ?_⟩
  · show i < (crashF zs 1 D.nm D.f).length; rw [e2, List.length_set]; exact hi
  · show fileAt (crashF zs 1 D.nm D.f) i = _
    rw [e2, fileAt_set hi, if_pos rfl, hf, cut_full]
theorem PS.refuse {D : Dk} {m : Man} (h : ¬ checkM m = 0) : publishD D m = (D, checkM m) := by
  have e : encM m = ([], checkM m) := by unfold encM; rw [if_neg h]
  unfold publishD
  rw [e, if_pos h]
theorem PS.used {D : Dk} {w : Option Man} (h : PS D w) : usedN D.f D.nm ≤ 1014 ∧ D.nm.length ≤ 1 ∧ findN [110] D.nm = none := by
  cases w with
  | none => rw [h.no rfl]; exact ⟨Nat.zero_le _, Nat.zero_le _, rfl⟩
  | some m =>
    obtain ⟨hr, hc, i, hn, hi, hf⟩ := h.so m rfl
    rw [hn]
    refine ⟨?_, Nat.le_refl _, rfl⟩
    show (fileAt D.f i).1.length + 0 ≤ 1014
    rw [hf]; exact enc_len hr
theorem PS.publish {D : Dk} {w : Option Man} {m : Man} (h : PS D w) (hr : RngM m) (hc : checkM m = 0) : ∃ D', publishD D m = (D', 0) ∧ PS D' (some m) := by
  have hu := h.used
  have hel := enc_len hr
  have he := enc_ok hr hc
  have e0 : (encM m).2 = 0 := by rw [he]
  obtain ⟨s, hs⟩ : ∃ s, s = (encM m).1 := ⟨_, rfl⟩
  have hrd : (readD D [110]).2 = 12 := by unfold readD; rw [if_neg (by rw [h.dead]; exact Bool.noConfusion), hu.2.2]
  have up : ∀ {E : Dk} (k : Dk → Dk × Int), E.left = -1 → E.dead = false → onWrite E k = k E := fun k h1 h2 => by unfold onWrite; rw [writeD_up h1 h2, if_pos rfl]
  obtain ⟨n1, hn1⟩ : ∃ l : Nm, l = insN ([110], D.f.length) D.nm := ⟨_, rfl⟩
  have hn1' : (n1 = [([110], D.f.length)]) ∨ ∃ i, n1 = [([109], i), ([110], D.f.length)] := by
    cases w with
    | none => left; rw [hn1, h.no rfl]; rfl
    | some m' => obtain ⟨_, _, i, hn, _, _⟩ := h.so m' rfl; right; exact ⟨i, by rw [hn1, hn]; rfl⟩
  have hkp : keepN ⟨[], [110], D.f.length⟩ D.nm = D.nm := by
    cases w with
    | none => rw [h.no rfl]; rfl
    | some m' => obtain ⟨_, _, i, hn, _, _⟩ := h.so m' rfl; rw [hn]; rfl
  have a1 : appendD D [110] s = (⟨1048576, D.f ++ [(s, 0)], n1, D.nm, [⟨[], [110], D.f.length⟩], false, -1⟩, 0) := by
    unfold appendD
    rw [up _ h.left h.dead]
    unfold append1
    have hrm := h.room
    rw [if_neg (by decide), if_neg (by intro h2; rcases h2 with h2 | ⟨_, h2⟩; (rw [hs] at h2; omega); omega), hu.2.2]
    show (({ changeD { D with f := D.f ++ [([], 0)] } ⟨[], [110], D.f.length⟩ with f := D.f ++ [(s, 0)] } : Dk), (0 : Int)) = _
    unfold changeD applyN
    rw [if_neg (by show ¬ ([110] : List UInt8) = []; decide)]
    show ((⟨D.room, D.f ++ [(s, 0)], insN ([110], D.f.length) (keepN ⟨[], [110], D.f.length⟩ D.nm), D.last, D.ch ++ [⟨[], [110], D.f.length⟩], D.dead, D.left⟩ : Dk), (0 : Int)) = _
    rw [hkp, ← hn1, h.room, h.last, h.ch, h.dead, h.left]; rfl
  have hfn : findN [110] n1 = some D.f.length := by rcases hn1' with e | ⟨i, e⟩ <;> rw [e] <;> rfl
  have hfa : fileAt (D.f ++ [(s, 0)]) D.f.length = (s, 0) := by unfold fileAt; rw [List.getD_eq_getElem?_getD, List.getElem?_append_right (Nat.le_refl _), Nat.sub_self]; rfl
  have hset : (D.f ++ [(s, 0)]).set D.f.length (s, s.length) = D.f ++ [(s, s.length)] := by rw [List.set_append_right _ _ (Nat.le_refl _), Nat.sub_self]; rfl
  have a2 : syncD ⟨1048576, D.f ++ [(s, 0)], n1, D.nm, [⟨[], [110], D.f.length⟩], false, -1⟩ [110] = (⟨1048576, D.f ++ [(s, s.length)], n1, D.nm, [⟨[], [110], D.f.length⟩], false, -1⟩, 0) := by
    unfold syncD
    rw [up _ rfl rfl]; unfold sync1
    simp only [hfn, hfa, hset]
  have hap : applyN n1 ⟨[110], [109], D.f.length⟩ = [([109], D.f.length)] := by rcases hn1' with e | ⟨i, e⟩ <;> rw [e] <;> rfl
  have a3 : renameD ⟨1048576, D.f ++ [(s, s.length)], n1, D.nm, [⟨[], [110], D.f.length⟩], false, -1⟩ [110] [109] = (⟨1048576, D.f ++ [(s, s.length)], [([109], D.f.length)], D.nm, [⟨[], [110], D.f.length⟩, ⟨[110], [109], D.f.length⟩], false, -1⟩, 0) := by
    unfold renameD
    rw [up _ rfl rfl]; unfold rename1
    simp only [hfn]
    rw [if_neg (by decide)]
    unfold changeD; simp only [hap]; rfl
  have a4 : syncNamesD ⟨1048576, D.f ++ [(s, s.length)], [([109], D.f.length)], D.nm, [⟨[], [110], D.f.length⟩, ⟨[110], [109], D.f.length⟩], false, -1⟩ = (⟨1048576, D.f ++ [(s, s.length)], [([109], D.f.length)], [([109], D.f.length)], [], false, -1⟩, 0) := rfl
  refine ⟨⟨1048576, D.f ++ [(s, s.length)], [([109], D.f.length)], [([109], D.f.length)], [], false, -1⟩, ?_, rfl, rfl, rfl, rfl, rfl, fun h => (by cases h), fun m' hm => ?_⟩
  · unfold publishD
    rw [if_neg (fun q => q e0), if_neg (by rw [hrd]; decide), ← hs]
    have r1 : runD (stepsP s) D = if (appendD D [110] s).2 = 0 then runD [fun D => syncD D [110], fun D => renameD D [110] [109], syncNamesD] (appendD D [110] s).1 else appendD D [110] s := rfl
    rw [r1, a1, if_pos rfl]
    have r2 : ∀ E : Dk, runD [fun D => syncD D [110], fun D => renameD D [110] [109], syncNamesD] E = if (syncD E [110]).2 = 0 then runD [fun D => renameD D [110] [109], syncNamesD] (syncD E [110]).1 else syncD E [110] := fun _ => rfl
    rw [r2, a2, if_pos rfl]
    have r3 : ∀ E : Dk, runD [fun D => renameD D [110] [109], syncNamesD] E = if (renameD E [110] [109]).2 = 0 then runD [syncNamesD] (renameD E [110] [109]).1 else renameD E [110] [109] := fun _ => rfl
    rw [r3, a3, if_pos rfl]
    have r4 : ∀ E : Dk, runD [syncNamesD] E = if (syncNamesD E).2 = 0 then ((syncNamesD E).1, 0) else syncNamesD E := fun _ => rfl
    rw [r4, a4, if_pos rfl]
  · cases hm
    refine ⟨hr, hc, D.f.length, rfl, by simp, ?_⟩
    show fileAt (D.f ++ [(s, s.length)]) D.f.length = _
    unfold fileAt; rw [List.getD_eq_getElem?_getD, List.getElem?_append_right (Nat.le_refl _), Nat.sub_self, hs]; rfl
end Go.Proofs.YtcehlnpbdffdhaaGreatDoor.SL

/- Manifests as plain data: a file that was begun beside the manifest's. -/
namespace Go.Proofs.YtcehlnpbdffdhaaGreatDoor.SL
open Go.RowKit
set_option linter.unusedVariables false
set_option linter.unusedSimpArgs false
/-- What the steps do, whatever lasts and whatever was changed since. -/
theorem pub_go {D : Dk} {s : List UInt8} (hl : D.left = -1) (hd : D.dead = false) (hr : D.room = 1048576) (hu : usedN D.f D.nm + s.length ≤ 1048576) (hn : D.nm = [] ∨ ∃ i, D.nm = [([109], i)]) :
    runD (stepsP s) D = (⟨1048576, D.f ++ [(s, s.length)], [([109], D.f.length)], [([109], D.f.length)], [], false, -1⟩, 0) := by
  have up : ∀ {E : Dk} (k : Dk → Dk × Int), E.left = -1 → E.dead = false → onWrite E k = k E := fun k h1 h2 => by unfold onWrite; rw [writeD_up h1 h2, if_pos rfl]
  obtain ⟨n1, hn1⟩ : ∃ l : Nm, l = insN ([110], D.f.length) D.nm := ⟨_, rfl⟩
  have hn1' : (n1 = [([110], D.f.length)]) ∨ ∃ i, n1 = [([109], i), ([110], D.f.length)] := by
    rcases hn with e | ⟨i, e⟩
    · left; rw [hn1, e]; rfl
    · right; exact ⟨i, by rw [hn1, e]; rfl⟩
  have hkp : keepN ⟨[], [110], D.f.length⟩ D.nm = D.nm := by rcases hn with e | ⟨i, e⟩ <;> rw [e] <;> rfl
  have hno : findN [110] D.nm = none := by rcases hn with e | ⟨i, e⟩ <;> rw [e] <;> rfl
  have hle : D.nm.length ≤ 1 := by rcases hn with e | ⟨i, e⟩; rw [e]; exact Nat.zero_le _; rw [e]; exact Nat.le_refl _
  obtain ⟨c1, hc1⟩ : ∃ c, c = D.ch ++ [⟨[], [110], D.f.length⟩] := ⟨_, rfl⟩
  obtain ⟨l0, hl0⟩ : ∃ l, l = D.last := ⟨_, rfl⟩
  have a1 : appendD D [110] s = (⟨1048576, D.f ++ [(s, 0)], n1, l0, c1, false, -1⟩, 0) := by
    unfold appendD
    rw [up _ hl hd]
    unfold append1
    rw [if_neg (by decide), if_neg (by intro h2; rcases h2 with h2 | ⟨_, h2⟩; omega; omega), hno]
    show (({ changeD { D with f := D.f ++ [([], 0)] } ⟨[], [110], D.f.length⟩ with f := D.f ++ [(s, 0)] } : Dk), (0 : Int)) = _
    unfold changeD applyN
    rw [if_neg (by show ¬ ([110] : List UInt8) = []; decide)]
    show ((⟨D.room, D.f ++ [(s, 0)], insN ([110], D.f.length) (keepN ⟨[], [110], D.f.length⟩ D.nm), D.last, D.ch ++ [⟨[], [110], D.f.length⟩], D.dead, D.left⟩ : Dk), (0 : Int)) = _
    rw [hkp, ← hn1, ← hc1, hr, hd, hl, hl0]
  have hfn : findN [110] n1 = some D.f.length := by rcases hn1' with e | ⟨i, e⟩ <;> rw [e] <;> rfl
  have hfa : fileAt (D.f ++ [(s, 0)]) D.f.length = (s, 0) := by unfold fileAt; rw [List.getD_eq_getElem?_getD, List.getElem?_append_right (Nat.le_refl _), Nat.sub_self]; rfl
  have hset : (D.f ++ [(s, 0)]).set D.f.length (s, s.length) = D.f ++ [(s, s.length)] := by rw [List.set_append_right _ _ (Nat.le_refl _), Nat.sub_self]; rfl
  have a2 : syncD ⟨1048576, D.f ++ [(s, 0)], n1, l0, c1, false, -1⟩ [110] = (⟨1048576, D.f ++ [(s, s.length)], n1, l0, c1, false, -1⟩, 0) := by
    unfold syncD
    rw [up _ rfl rfl]; unfold sync1
    simp only [hfn, hfa, hset]
  have hap : applyN n1 ⟨[110], [109], D.f.length⟩ = [([109], D.f.length)] := by rcases hn1' with e | ⟨i, e⟩ <;> rw [e] <;> rfl
  have a3 : renameD ⟨1048576, D.f ++ [(s, s.length)], n1, l0, c1, false, -1⟩ [110] [109] = (⟨1048576, D.f ++ [(s, s.length)], [([109], D.f.length)], l0, c1 ++ [⟨[110], [109], D.f.length⟩], false, -1⟩, 0) := by
    unfold renameD
    rw [up _ rfl rfl]; unfold rename1
    simp only [hfn]
    rw [if_neg (by decide)]
    unfold changeD; simp only [hap]
  have a4 : syncNamesD ⟨1048576, D.f ++ [(s, s.length)], [([109], D.f.length)], l0, c1 ++ [⟨[110], [109], D.f.length⟩], false, -1⟩ = (⟨1048576, D.f ++ [(s, s.length)], [([109], D.f.length)], [([109], D.f.length)], [], false, -1⟩, 0) := rfl
  have r1 : runD (stepsP s) D = if (appendD D [110] s).2 = 0 then runD [fun D => syncD D [110], fun D => renameD D [110] [109], syncNamesD] (appendD D [110] s).1 else appendD D [110] s := rfl
  rw [r1, a1, if_pos rfl]
  have r2 : ∀ E : Dk, runD [fun D => syncD D [110], fun D => renameD D [110] [109], syncNamesD] E = if (syncD E [110]).2 = 0 then runD [fun D => renameD D [110] [109], syncNamesD] (syncD E [110]).1 else syncD E [110] := fun _ => rfl
  rw [r2, a2, if_pos rfl]
  have r3 : ∀ E : Dk, runD [fun D => renameD D [110] [109], syncNamesD] E = if (renameD E [110] [109]).2 = 0 then runD [syncNamesD] (renameD E [110] [109]).1 else renameD E [110] [109] := fun _ => rfl
  rw [r3, a3, if_pos rfl]
  have r4 : ∀ E : Dk, runD [syncNamesD] E = if (syncNamesD E).2 = 0 then ((syncNamesD E).1, 0) else syncNamesD E := fun _ => rfl
  rw [r4, a4, if_pos rfl]
/-- Behind the steps the manifest holds. -/
theorem pub_ps {f : List (List UInt8 × Nat)} {m : Man} (hr : RngM m) (hc : checkM m = 0) : PS ⟨1048576, f ++ [((encM m).1, (encM m).1.length)], [([109], f.length)], [([109], f.length)], [], false, -1⟩ (some m) := by
  refine ⟨rfl, rfl, rfl, rfl, rfl, fun h => (by cases h), fun m' hm => ?_⟩
  cases hm
  refine ⟨hr, hc, f.length, rfl, by simp, ?_⟩
  unfold fileAt; rw [List.getD_eq_getElem?_getD, List.getElem?_append_right (Nat.le_refl _), Nat.sub_self]; rfl
end Go.Proofs.YtcehlnpbdffdhaaGreatDoor.SL

/- Manifests as plain data: a torn file beside it does not matter. -/
namespace Go.Proofs.YtcehlnpbdffdhaaGreatDoor.SL
open Go.RowKit
set_option linter.unusedVariables false
set_option linter.unusedSimpArgs false
/-- The manifest a holds, and a file n lies beside it. -/
structure PN (D : Dk) (a : Man) : Prop where
  room : D.room = 1048576
  left : D.left = -1
  dead : D.dead = false
  r : RngM a
  c : checkM a = 0
  nm : ∃ i k, D.nm = [([109], i), ([110], k)] ∧ i < D.f.length ∧ fileAt D.f i = ((encM a).1, (encM a).1.length)
def PT (D : Dk) (a : Man) : Prop := PS D (some a) ∨ PN D a
theorem PT.load {D : Dk} {a : Man} (h : PT D a) : loadD D = (a, 0) := by
  rcases h with h | h
  · exact h.load
  · obtain ⟨i, k, hn, hi, hf⟩ := h.nm
    have hd : ∀ k, readD D k = match findN k D.nm with
        | none => ([], 12)
        | some i => ((fileAt D.f i).1, 0) := fun k => by unfold readD; rw [if_neg (by rw [h.dead]; exact Bool.noConfusion)]; rfl
    unfold loadD
    rw [hd, hn]
    show (if ((fileAt D.f i).1, (0 : Int)).2 = 0 then decM (fileAt D.f i).1 else _) = _
    rw [if_pos rfl, hf]; exact (dec_enc h.r h.c).1
theorem PT.publish {D : Dk} {a b : Man} (h : PT D a) (hr : RngM b) (hc : checkM b = 0) : ∃ D', publishD D b = (D', 0) ∧ PS D' (some b) := by
  rcases h with h | h
  · exact h.publish hr hc
  · obtain ⟨i, k, hn, hi, hf⟩ := h.nm
    have e0 : (encM b).2 = 0 := by rw [enc_ok hr hc]
    have hel := enc_len hr
    have hela := enc_len h.r
    have hd : (readD D [110]).2 = 0 := by unfold readD; rw [if_neg (by rw [h.dead]; exact Bool.noConfusion), hn]; rfl
    obtain ⟨D1, hD1⟩ : ∃ D1 : Dk, D1 = ⟨1048576, D.f, [([109], i)], D.last, D.ch ++ [⟨[110], [], 0⟩], false, -1⟩ := ⟨_, rfl⟩
    have hrm : removeD D [110] = (D1, 0) := by
      unfold removeD onWrite
      rw [writeD_up h.left h.dead, if_pos rfl]
      show remove1 D [110] = _
      have hfn : findN [110] D.nm = some k := by rw [hn]; rfl
      have hap : applyN D.nm ⟨[110], [], 0⟩ = [([109], i)] := by rw [hn]; rfl
      unfold remove1; rw [hfn]
      show (changeD D ⟨[110], [], 0⟩, (0 : Int)) = _
      unfold changeD; rw [hap, hD1, h.room, h.left, h.dead]
    have hu : usedN D1.f D1.nm ≤ 1014 := by rw [hD1]; show (fileAt D.f i).1.length + 0 ≤ 1014; rw [hf]; exact hela
    have hg := pub_go (D := D1) (s := (encM b).1) (by rw [hD1]) (by rw [hD1]) (by rw [hD1]) (by omega) (by rw [hD1]; exact .inr ⟨i, rfl⟩)
    refine ⟨_, ?_, pub_ps (f := D1.f) hr hc⟩
    unfold publishD
    rw [if_neg (fun q => q e0), if_pos hd]
    have r1 : runD (stepsR (encM b).1) D = if (removeD D [110]).2 = 0 then runD (stepsP (encM b).1) (removeD D [110]).1 else removeD D [110] := rfl
    rw [r1, hrm, if_pos rfl]; exact hg
theorem torn_crash {D : Dk} {a : Man} {t : List UInt8} (h : PS D (some a)) (ht : t.length ≤ 1000) : ∃ D1, appendD D [110] t = (D1, 0) ∧ ∀ zs, PT (crashD D1 zs) a := by
  have hu := h.used
  obtain ⟨hr, hc, i, hn, hi, hf⟩ := h.so a rfl
  have hrm := h.room
  have a1 : appendD D [110] t = (⟨1048576, D.f ++ [(t, 0)], [([109], i), ([110], D.f.length)], [([109], i)], [⟨[], [110], D.f.length⟩], false, -1⟩, 0) := by
    unfold appendD onWrite
    rw [writeD_up h.left h.dead, if_pos rfl]
    show append1 D [110] t = _
    unfold append1
    rw [if_neg (by decide), if_neg (by intro h2; rcases h2 with h2 | ⟨_, h2⟩; omega; omega), hu.2.2]
    show (({ changeD { D with f := D.f ++ [([], 0)] } ⟨[], [110], D.f.length⟩ with f := D.f ++ [(t, 0)] } : Dk), (0 : Int)) = _
    have hap : applyN D.nm ⟨[], [110], D.f.length⟩ = [([109], i), ([110], D.f.length)] := by rw [hn]; rfl
    have hla : D.last = [([109], i)] := by rw [h.last, hn]
    unfold changeD
    show ((⟨D.room, D.f ++ [(t, 0)], applyN D.nm ⟨[], [110], D.f.length⟩, D.last, D.ch ++ [⟨[], [110], D.f.length⟩], D.dead, D.left⟩ : Dk), (0 : Int)) = _
    rw [hap, hla, h.room, h.ch, h.dead, h.left]; rfl
  have hfi : fileAt (D.f ++ [(t, 0)]) i = ((encM a).1, (encM a).1.length) := by rw [← hf]; unfold fileAt; rw [List.getD_eq_getElem?_getD, List.getD_eq_getElem?_getD, List.getElem?_append_left hi]
  have hi2 : i < (D.f ++ [(t, 0)]).length := by rw [List.length_append]; omega
  have hcut : ∀ zs : List Int, cutF zs 1 (fileAt (D.f ++ [(t, 0)]) i) = ((encM a).1, (encM a).1.length) := fun zs => by rw [hfi, cut_full]
  refine ⟨_, a1, fun zs => ?_⟩
  have hk := keptF_le zs 0 1
  have : keptF zs 0 1 = 0 ∨ keptF zs 0 1 = 1 := by omega
  rcases this with e | e
  · left
    have ec : crashD (⟨1048576, D.f ++ [(t, 0)], [([109], i), ([110], D.f.length)], [([109], i)], [⟨[], [110], D.f.length⟩], false, -1⟩ : Dk) zs = ⟨1048576, (D.f ++ [(t, 0)]).set i (cutF zs 1 (fileAt (D.f ++ [(t, 0)]) i)), [([109], i)], [([109], i)], [], false, -1⟩ := by
      unfold crashD
      show (⟨1048576, crashF zs 1 (applyL [([109], i)] (List.take (keptF zs 0 1) _)) _, applyL [([109], i)] (List.take (keptF zs 0 1) _), applyL [([109], i)] (List.take (keptF zs 0 1) _), [], false, -1⟩ : Dk) = _
      rw [e]; rfl
    rw [ec]
    refine ⟨rfl, rfl, rfl, rfl, rfl, fun h => (by cases h), fun m hm => ?_⟩
    cases hm
    exact ⟨hr, hc, i, rfl, by rw [List.length_set]; exact hi2, by show fileAt (List.set _ i _) i = _; rw [fileAt_set hi2, if_pos rfl, hcut]⟩
  · right
    have ec : crashD (⟨1048576, D.f ++ [(t, 0)], [([109], i), ([110], D.f.length)], [([109], i)], [⟨[], [110], D.f.length⟩], false, -1⟩ : Dk) zs = ⟨1048576, ((D.f ++ [(t, 0)]).set i (cutF zs 1 (fileAt (D.f ++ [(t, 0)]) i))).set D.f.length (cutF zs 2 (fileAt ((D.f ++ [(t, 0)]).set i (cutF zs 1 (fileAt (D.f ++ [(t, 0)]) i))) D.f.length)), [([109], i), ([110], D.f.length)], [([109], i), ([110], D.f.length)], [], false, -1⟩ := by
      unfold crashD
      show (⟨1048576, crashF zs 1 (applyL [([109], i)] (List.take (keptF zs 0 1) _)) _, applyL [([109], i)] (List.take (keptF zs 0 1) _), applyL [([109], i)] (List.take (keptF zs 0 1) _), [], false, -1⟩ : Dk) = _
      rw [e]; rfl
    rw [ec]
    refine ⟨rfl, rfl, rfl, hr, hc, i, D.f.length, rfl, by rw [List.length_set, List.length_set]; exact hi2, ?_⟩
    show fileAt (List.set (List.set _ i _) D.f.length _) i = _
    rw [fileAt_set (by rw [List.length_set, List.length_append]; simp), if_neg (by omega), fileAt_set hi2, if_pos rfl, hcut]
end Go.Proofs.YtcehlnpbdffdhaaGreatDoor.SL

/- Manifests as plain data: the power fails while one is published. -/
namespace Go.Proofs.YtcehlnpbdffdhaaGreatDoor.SL
open Go.RowKit
set_option linter.unusedVariables false
set_option linter.unusedSimpArgs false
/-- Between the writes: the file n is begun (z), the names changed or not. -/
def mid (f : List (List UInt8 × Nat)) (i : Nat) (z : List UInt8 × Nat) (d : Bool) (l : Int) : Dk := ⟨1048576, f ++ [z], [([109], i), ([110], f.length)], [([109], i)], [⟨[], [110], f.length⟩], d, l⟩
def mid2 (f : List (List UInt8 × Nat)) (i : Nat) (z : List UInt8 × Nat) (d : Bool) (l : Int) : Dk := ⟨1048576, f ++ [z], [([109], f.length)], [([109], i)], [⟨[], [110], f.length⟩, ⟨[110], [109], f.length⟩], d, l⟩
theorem mid_a {D : Dk} {s : List UInt8} {i k : Nat} (hn : D.nm = [([109], i)]) (hla : D.last = [([109], i)]) (hch : D.ch = []) (hr : D.room = 1048576) (hu : usedN D.f D.nm + s.length ≤ 1048576) (hl : D.left = ((k + 1 : Nat) : Int)) (hd : D.dead = false) : appendD D [110] s = (mid D.f i (s, 0) false k, 0) := by
  unfold appendD onWrite
  rw [writeD_n hl hd, if_pos rfl]
  show append1 { D with left := (k : Int) } [110] s = _
  unfold append1
  have hno : findN [110] D.nm = none := by rw [hn]; rfl
  have hle : D.nm.length = 1 := by rw [hn]; rfl
  rw [if_neg (by decide), if_neg (by
    intro h2
    rcases h2 with h2 | ⟨_, h2⟩
    · have h3 : D.room - ((usedN D.f D.nm : Nat) : Int) < (s.length : Int) := h2
      omega
    · have h3 : D.nm.length = 64 := h2
      omega)]
  show (match findN [110] D.nm with | some i => _ | none => _) = _
  rw [hno]
  have hap : applyN D.nm ⟨[], [110], D.f.length⟩ = [([109], i), ([110], D.f.length)] := by rw [hn]; rfl
  show ((⟨D.room, D.f ++ [(s, 0)], applyN D.nm ⟨[], [110], D.f.length⟩, D.last, D.ch ++ [⟨[], [110], D.f.length⟩], D.dead, (k : Int)⟩ : Dk), (0 : Int)) = _
  rw [hap, hla, hch, hr, hd]; rfl
theorem mid_b {f : List (List UInt8 × Nat)} {i k : Nat} {s : List UInt8} : syncD (mid f i (s, 0) false ((k + 1 : Nat) : Int)) [110] = (mid f i (s, s.length) false k, 0) := by
  have hfa : fileAt (f ++ [(s, 0)]) f.length = (s, 0) := by unfold fileAt; rw [List.getD_eq_getElem?_getD, List.getElem?_append_right (Nat.le_refl _), Nat.sub_self]; rfl
  have hset : (f ++ [(s, 0)]).set f.length (s, s.length) = f ++ [(s, s.length)] := by rw [List.set_append_right _ _ (Nat.le_refl _), Nat.sub_self]; rfl
  unfold syncD onWrite
  rw [writeD_n (k := k) rfl rfl, if_pos rfl]
  show ((⟨1048576, (f ++ [(s, 0)]).set f.length ((fileAt (f ++ [(s, 0)]) f.length).1, (fileAt (f ++ [(s, 0)]) f.length).1.length), [([109], i), ([110], f.length)], [([109], i)], [⟨[], [110], f.length⟩], false, (k : Int)⟩ : Dk), (0 : Int)) = _
  rw [hfa, hset]; rfl
theorem mid_c {f : List (List UInt8 × Nat)} {i k : Nat} {z : List UInt8 × Nat} : renameD (mid f i z false ((k + 1 : Nat) : Int)) [110] [109] = (mid2 f i z false k, 0) := by
  unfold renameD onWrite
  rw [writeD_n (k := k) rfl rfl, if_pos rfl]; rfl
theorem mid_e {f : List (List UInt8 × Nat)} {i k : Nat} {z : List UInt8 × Nat} : syncNamesD (mid2 f i z false ((k + 1 : Nat) : Int)) = ({ mid2 f i z false k with last := [([109], f.length)], ch := [] }, 0) := by
  unfold syncNamesD onWrite
  rw [writeD_n (k := k) rfl rfl, if_pos rfl]; rfl
end Go.Proofs.YtcehlnpbdffdhaaGreatDoor.SL

/- Manifests as plain data: what is loaded behind a power failure while one is published. -/
namespace Go.Proofs.YtcehlnpbdffdhaaGreatDoor.SL
open Go.RowKit
set_option linter.unusedVariables false
set_option linter.unusedSimpArgs false
theorem fileAt_snoc {f : List (List UInt8 × Nat)} {z : List UInt8 × Nat} {i : Nat} (hi : i < f.length) : fileAt (f ++ [z]) i = fileAt f i := by
  unfold fileAt; rw [List.getD_eq_getElem?_getD, List.getD_eq_getElem?_getD, List.getElem?_append_left hi]
/-- Behind a crash that kept no change. -/
theorem keep0 {f : List (List UInt8 × Nat)} {i : Nat} {a : Man} {zs : List Int} (hr : RngM a) (hc : checkM a = 0) (hi : i < f.length) (hf : fileAt f i = ((encM a).1, (encM a).1.length)) :
    PS ⟨1048576, crashF zs 1 [([109], i)] f, [([109], i)], [([109], i)], [], false, -1⟩ (some a) := by
  have e : crashF zs 1 [([109], i)] f = f.set i (cutF zs 1 (fileAt f i)) := rfl
  rw [e]
  refine ⟨rfl, rfl, rfl, rfl, rfl, fun h => (by cases h), fun m hm => ?_⟩
  cases hm
  exact ⟨hr, hc, i, rfl, by rw [List.length_set]; exact hi, by show fileAt (List.set _ i _) i = _; rw [fileAt_set hi, if_pos rfl, hf, cut_full]⟩
/-- Behind a crash that kept the name n. -/
theorem keep1 {f : List (List UInt8 × Nat)} {i k : Nat} {a : Man} {zs : List Int} (hr : RngM a) (hc : checkM a = 0) (hi : i < f.length) (hk : k < f.length) (hik : ¬ k = i) (hf : fileAt f i = ((encM a).1, (encM a).1.length)) :
    PN ⟨1048576, crashF zs 1 [([109], i), ([110], k)] f, [([109], i), ([110], k)], [([109], i), ([110], k)], [], false, -1⟩ a := by
  have e : crashF zs 1 [([109], i), ([110], k)] f = (f.set i (cutF zs 1 (fileAt f i))).set k (cutF zs 2 (fileAt (f.set i (cutF zs 1 (fileAt f i))) k)) := rfl
  rw [e]
  refine ⟨rfl, rfl, rfl, hr, hc, i, k, rfl, by rw [List.length_set, List.length_set]; exact hi, ?_⟩
  show fileAt (List.set (List.set _ i _) k _) i = _
  rw [fileAt_set (by rw [List.length_set]; exact hk), if_neg hik, fileAt_set hi, if_pos rfl, hf, cut_full]
theorem crash_eq {D : Dk} {zs : List Int} {l : Nm} (hr : D.room = 1048576) (h : applyL D.last (D.ch.take (keptF zs 0 D.ch.length)) = l) : crashD D zs = ⟨1048576, crashF zs 1 l D.f, l, l, [], false, -1⟩ := by
  unfold crashD; rw [h, hr]
theorem mid_crash {f : List (List UInt8 × Nat)} {i : Nat} {z : List UInt8 × Nat} {d : Bool} {l : Int} {a : Man} {zs : List Int} (hr : RngM a) (hc : checkM a = 0) (hi : i < f.length) (hf : fileAt f i = ((encM a).1, (encM a).1.length)) : PT (crashD (mid f i z d l) zs) a := by
  have hi2 : i < (f ++ [z]).length := by rw [List.length_append]; omega
  have hk := keptF_le zs 0 1
  have : keptF zs 0 1 = 0 ∨ keptF zs 0 1 = 1 := by omega
  rcases this with e | e
  · left
    rw [crash_eq (l := [([109], i)]) rfl (by show applyL [([109], i)] (List.take (keptF zs 0 1) _) = _; rw [e]; rfl)]
    exact keep0 hr hc hi2 (by show fileAt (f ++ [z]) i = _; rw [fileAt_snoc hi]; exact hf)
  · right
    rw [crash_eq (l := [([109], i), ([110], f.length)]) rfl (by show applyL [([109], i)] (List.take (keptF zs 0 1) _) = _; rw [e]; rfl)]
    exact keep1 hr hc hi2 (by show f.length < (f ++ [z]).length; simp) (by omega) (by show fileAt (f ++ [z]) i = _; rw [fileAt_snoc hi]; exact hf)
theorem mid2_crash {f : List (List UInt8 × Nat)} {i : Nat} {d : Bool} {l : Int} {a b : Man} {zs : List Int} (hr : RngM a) (hc : checkM a = 0) (hrb : RngM b) (hcb : checkM b = 0) (hi : i < f.length) (hf : fileAt f i = ((encM a).1, (encM a).1.length)) :
    PT (crashD (mid2 f i ((encM b).1, (encM b).1.length) d l) zs) a ∨ PS (crashD (mid2 f i ((encM b).1, (encM b).1.length) d l) zs) (some b) := by
  obtain ⟨z, hz⟩ : ∃ z, z = ((encM b).1, (encM b).1.length) := ⟨_, rfl⟩
  rw [← hz]
  have hi2 : i < (f ++ [z]).length := by rw [List.length_append]; omega
  have hk := keptF_le zs 0 2
  have : keptF zs 0 2 = 0 ∨ keptF zs 0 2 = 1 ∨ keptF zs 0 2 = 2 := by omega
  rcases this with e | e | e
  · left; left
    rw [crash_eq (l := [([109], i)]) rfl (by show applyL [([109], i)] (List.take (keptF zs 0 2) _) = _; rw [e]; rfl)]
    exact keep0 hr hc hi2 (by show fileAt (f ++ [z]) i = _; rw [fileAt_snoc hi]; exact hf)
  · left; right
    rw [crash_eq (l := [([109], i), ([110], f.length)]) rfl (by show applyL [([109], i)] (List.take (keptF zs 0 2) _) = _; rw [e]; rfl)]
    exact keep1 hr hc hi2 (by show f.length < (f ++ [z]).length; simp) (by omega) (by show fileAt (f ++ [z]) i = _; rw [fileAt_snoc hi]; exact hf)
  · right
    rw [crash_eq (l := [([109], f.length)]) rfl (by show applyL [([109], i)] (List.take (keptF zs 0 2) _) = _; rw [e]; rfl)]
    exact keep0 hrb hcb (by show f.length < (f ++ [z]).length; simp) (by show fileAt (f ++ [z]) f.length = _; unfold fileAt; rw [List.getD_eq_getElem?_getD, List.getElem?_append_right (Nat.le_refl _), Nat.sub_self, hz]; rfl)
end Go.Proofs.YtcehlnpbdffdhaaGreatDoor.SL

/- Manifests as plain data: one or the other. -/
namespace Go.Proofs.YtcehlnpbdffdhaaGreatDoor.SL
open Go.RowKit
set_option linter.unusedVariables false
set_option linter.unusedSimpArgs false
theorem PT.mid {D : Dk} {a : Man} (h : PT D a) : loadD D = (a, 0) := h.load
/-- What is loaded behind a crash, when a publishing stopped. -/
theorem fuse_pub {D : Dk} {a b : Man} {k : Nat} (h : PS D (some a)) (hrb : RngM b) (hcb : checkM b = 0) : ∃ D' e, publishD { D with left := (k : Int) } b = (D', e) ∧ ((e = 0 ∧ ∀ zs, loadD (crashD D' zs) = (b, 0)) ∨ (e = 11 ∧ ∀ zs, loadD (crashD D' zs) = (a, 0) ∨ loadD (crashD D' zs) = (b, 0))) := by
  obtain ⟨hra, hca, i, hn, hi, hf⟩ := h.so a rfl
  have e0 : (encM b).2 = 0 := by rw [enc_ok hrb hcb]
  have hel := enc_len hrb
  have hu := h.used.1
  obtain ⟨s, hs⟩ : ∃ s, s = (encM b).1 := ⟨_, rfl⟩
  have hla : D.last = [([109], i)] := by rw [h.last, hn]
  have hrd : (readD { D with left := (k : Int) } [110]).2 = 12 := by unfold readD; rw [if_neg (by show ¬ D.dead = true; rw [h.dead]; exact Bool.noConfusion)]; show (match findN [110] D.nm with | none => (([] : List UInt8), (12 : Int)) | some i => ((fileAt D.f i).1, 0)).2 = 12; rw [hn]; rfl
  have hp : publishD { D with left := (k : Int) } b = runD (stepsP s) { D with left := (k : Int) } := by
    unfold publishD; rw [if_neg (fun q => q e0), if_neg (by rw [hrd]; decide), ← hs]
  have r1 : ∀ E : Dk, runD (stepsP s) E = if (appendD E [110] s).2 = 0 then runD [fun D => syncD D [110], fun D => renameD D [110] [109], syncNamesD] (appendD E [110] s).1 else appendD E [110] s := fun _ => rfl
  have r2 : ∀ E : Dk, runD [fun D => syncD D [110], fun D => renameD D [110] [109], syncNamesD] E = if (syncD E [110]).2 = 0 then runD [fun D => renameD D [110] [109], syncNamesD] (syncD E [110]).1 else syncD E [110] := fun _ => rfl
  have r3 : ∀ E : Dk, runD [fun D => renameD D [110] [109], syncNamesD] E = if (renameD E [110] [109]).2 = 0 then runD [syncNamesD] (renameD E [110] [109]).1 else renameD E [110] [109] := fun _ => rfl
  have r4 : ∀ E : Dk, runD [syncNamesD] E = if (syncNamesD E).2 = 0 then ((syncNamesD E).1, 0) else syncNamesD E := fun _ => rfl
  rw [hp]
  match k with
  | 0 =>
    have e1 : appendD { D with left := ((0 : Nat) : Int) } [110] s = ({ D with left := ((0 : Nat) : Int), dead := true }, 11) := by unfold appendD onWrite; rw [writeD_0 rfl, if_neg Bool.noConfusion]
    refine ⟨_, 11, by rw [r1, e1, if_neg (by show ¬ (11 : Int) = 0; decide)], .inr ⟨rfl, fun zs => .inl ?_⟩⟩
    have e2 : crashD { D with left := ((0 : Nat) : Int), dead := true } zs = crashD D zs := rfl
    rw [e2]; exact h.crash.load
  | k + 1 =>
    have e1 := mid_a (D := { D with left := ((k + 1 : Nat) : Int) }) (s := s) (i := i) (k := k) hn hla h.ch h.room (by show usedN D.f D.nm + s.length ≤ 1048576; rw [hs]; omega) rfl h.dead
    rw [r1, e1, if_pos rfl]
    match k with
    | 0 => exact ⟨mid D.f i (s, 0) true 0, 11, rfl, .inr ⟨rfl, fun zs => .inl (mid_crash hra hca hi hf).load⟩⟩
    | k + 1 =>
      rw [r2, mid_b, if_pos rfl]
      match k with
      | 0 => exact ⟨mid D.f i (s, s.length) true 0, 11, rfl, .inr ⟨rfl, fun zs => .inl (mid_crash hra hca hi hf).load⟩⟩
      | k + 1 =>
        rw [r3, mid_c, if_pos rfl]
        match k with
        | 0 =>
          refine ⟨mid2 D.f i (s, s.length) true 0, 11, rfl, .inr ⟨rfl, fun zs => ?_⟩⟩
          rw [hs]
          rcases mid2_crash (d := true) (l := 0) (zs := zs) hra hca hrb hcb hi hf with h1 | h1
          · exact .inl h1.load
          · exact .inr h1.load
        | k + 1 =>
          rw [r4, mid_e, if_pos rfl]
          refine ⟨_, 0, rfl, .inl ⟨rfl, fun zs => ?_⟩⟩
          have hps : PS (crashD ({ mid2 D.f i (s, s.length) false (k : Int) with last := [([109], D.f.length)], ch := [] } : Dk) zs) (some b) := by
            rw [crash_eq (l := [([109], D.f.length)]) rfl (by show applyL [([109], D.f.length)] (List.take _ []) = _; rw [List.take_nil]; rfl)]
            exact keep0 hrb hcb (by show D.f.length < (D.f ++ [(s, s.length)]).length; simp) (by show fileAt (D.f ++ [(s, s.length)]) D.f.length = _; unfold fileAt; rw [List.getD_eq_getElem?_getD, List.getElem?_append_right (Nat.le_refl _), Nat.sub_self, hs]; rfl)
          exact hps.load
end Go.Proofs.YtcehlnpbdffdhaaGreatDoor.SL
