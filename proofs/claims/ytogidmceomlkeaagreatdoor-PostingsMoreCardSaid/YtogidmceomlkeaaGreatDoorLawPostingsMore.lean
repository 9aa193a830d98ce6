/- The law PostingsMore: for every input it returns true, and each argument reads as it did; no condition. -/
import Derived.Test.YtogidmceomlkeaaGreatDoorRows
import Derived.Test.YtogidmceomlkeaaGreatDoorKoMore
import Derived.Test.YtogidmceomlkeaaGreatDoorXr
import Derived.WalkKit
import Derived.ProofKit
import Derived.OpenShut
import Derived.ShutString
import Derived.ChangeOld
import Derived.Below
import Derived.SizedLaws
import Derived.Lib.SmallJoins
import Derived.LaidMore
import Derived.Lay
import Derived.SevenTiedAt
import Derived.Stop.Joined
import Derived.Test.YtogidmceomlkeaaGreatDoorTie
import Derived.Test.YtogidmceomlkeaaGreatDoorCards
namespace Go.Proofs.YtogidmceomlkeaaGreatDoor.postingsMore
open Go.ChangeShapes Go.WideShapes Go.ChangeAt Go.RowKit Go.Joins
open Go.ChangeMaps (open_string shut_string)
set_option linter.unusedVariables false
set_option linter.unusedSimpArgs false
theorem own : ownKnob Tryz.prog.godebug = none := by kernel_rfl
theorem laidOut : laidOutB Tryz.prog = true := by kernel_rfl
set_option maxRecDepth 100000 in
theorem lifted (os : Os) (started : os.Started) (H : Type) (enc : TypeId × Value → H) :
    ReturnsInHanded {} Tryz.checked os 4 .any (fun w args => (Rows.postingsMoreSpec.pre enc Tryz.prog Tryz.f4 Rows.postingsMoreRow.domain false w args ∧ laidMetH Tryz.prog Rows.postingsMoreRow.laid w) ∧ sizedMet enc Tryz.prog Tryz.f4 (OpenSpec.ofChange Rows.postingsMoreSpec) false w args) (Rows.postingsMoreSpec.post enc Tryz.prog Tryz.f4 false true false false) := by
  refine returnsInHanded_of_change_and (C := Tryz.checked) (X := fun w _ => laidMetH Tryz.prog Rows.postingsMoreRow.laid w) (fun _ _ _ hh h => h.of_heap hh) own started (by kernel_rfl) Tryz.func4
    (ChangeSpec.witness_shaped (enc := enc) (C := Tryz.checked) (os := os) (X := fun w _ => laidMetH Tryz.prog Rows.postingsMoreRow.laid w) false (World.laidAll Tryz.prog os Rows.postingsMoreRow.laid) #[.slice none 0 0, .slice none 0 0, .slice none 0 0] 8 (World.laidAll_os _ _ _)
      (World.shaped_of_ZipB (by kernel_rfl) (by kernel_rfl)) (by kernel_rfl) (by kernel_rfl) (by kernel_rfl)
      (by rw [MakeChecks.laidMetH_plain _ _ _ (by kernel_rfl)]; exact laidMet_laidAll _ (by kernel_rfl) (by kernel_rfl))) ?_
  intro W base args ds gs before hval0 hW hcnd hsz0 _ _
  have hsz : (DataW.weightsEach Tryz.prog (Tryz.f4.params.toList ++ Rows.postingsMoreSpec.plain.varTypes Tryz.prog) (ds ++ gs)).all (· ≤ reachBytes) = true := hsz0
  have hval : ∀ (j : Nat) t v, Tryz.f4.params[j]? = some t → args[j]? = some v → Value.okWide Tryz.prog W .any base t v := hval0
  have hW' := hW
  obtain ⟨p, q, hA0, hV, rfl, hfz, hnd⟩ := hW
  have hA : DataW.TrodAll enc Tryz.prog W 0 (fun _ => true) true Tryz.f4.params.toList args.toList ds p := hA0
  rw [Tryz.params4] at hA hval hsz
  obtain ⟨v0, vs0, d0, ds0, p0, q0, hargs, rfl, rfl, h0, r0⟩ := trodAll_cons hA
  obtain ⟨v1, vs1, d1, ds1, p1, q1, rfl, rfl, rfl, h1, r1⟩ := trodAll_cons r0
  obtain ⟨v2, vs2, d2, ds2, p2, q2, rfl, rfl, rfl, h2, r2⟩ := trodAll_cons r1
  obtain ⟨rfl, rfl, rfl⟩ := trodAll_nil r2
  obtain rfl : args = #[v0, v1, v2] := by cases args; simp_all
  obtain ⟨rfl, rfl⟩ := trodVars_none hV
  have k0 := h0
  have lt0 : ∀ x ∈ p0, x.block < W.heap.size := by obtain ⟨m, hm⟩ := k0; exact DataW.trod_lt m _ _ _ hm
  obtain ⟨a0, len0, cap0, rfl⟩ := okWide_slice Tryz.underlying27 (hval 0 27 v0 rfl rfl)
  obtain ⟨x0, e0, w0⟩ := SL.open_param SL.opensP27 hsz 0 rfl rfl h0
  obtain ⟨rfl, rfl, rfl⟩ : a0 = x0.a ∧ len0 = x0.l.length ∧ cap0 = x0.cap := by
    have := e0
    simp [Value.cells, SL.SlV.enc] at this
    exact this
  have k1 := h1
  have lt1 : ∀ x ∈ p1, x.block < W.heap.size := by obtain ⟨m, hm⟩ := k1; exact DataW.trod_lt m _ _ _ hm
  obtain ⟨a1, len1, cap1, rfl⟩ := okWide_slice Tryz.underlying28 (hval 1 28 v1 rfl rfl)
  obtain ⟨x1, e1, w1⟩ := SL.open_param SL.opensP28 hsz 1 rfl rfl h1
  obtain ⟨rfl, rfl, rfl⟩ : a1 = x1.a ∧ len1 = x1.l.length ∧ cap1 = x1.cap := by
    have := e1
    simp [Value.cells, SL.SlV.enc] at this
    exact this
  have k2 := h2
  have lt2 : ∀ x ∈ p2, x.block < W.heap.size := by obtain ⟨m, hm⟩ := k2; exact DataW.trod_lt m _ _ _ hm
  obtain ⟨a2, len2, cap2, rfl⟩ := okWide_slice Tryz.underlying28 (hval 2 28 v2 rfl rfl)
  obtain ⟨x2, e2, w2⟩ := SL.open_param SL.opensP28 hsz 2 rfl rfl h2
  obtain ⟨rfl, rfl, rfl⟩ : a2 = x2.a ∧ len2 = x2.l.length ∧ cap2 = x2.cap := by
    have := e2
    simp [Value.cells, SL.SlV.enc] at this
    exact this
  clear hA0 hval0 hsz0
  have hby : Tryz.prog.bytesOf 35 = 32 := by kernel_rfl
  have hbm : Tryz.prog.bytesOf 37 = 40 := by kernel_rfl
  have e : reachBytes = 140737488351232 := by decide
  refine (SL.toCalls fun hS => SL.more_core w0.1 (fun s hs => (w0.2.2 s hs).1) w1.1 w2.1 (fun m hm => ⟨Nat.le_trans (w1.2.2 m hm).2.1 (by decide), Nat.le_trans (w1.2.2 m hm).2.2 (by decide)⟩) (fun m hm => ⟨Nat.le_trans (w2.2.2 m hm).2.1 (by decide), Nat.le_trans (w2.2.2 m hm).2.2 (by decide)⟩) (fun s hs => by have := (w0.2.2 s hs).2.1; rw [hby] at this; omega) (by have := w1.2.1; rw [hbm] at this; omega) (by have := w2.2.1; rw [hbm] at this; omega) hS).mono fun e W' ⟨he, bel⟩ => ?_
  subst he
  exact ⟨_, rfl, _, _, _, [], _, [], hW', trodAll_mk1 (shut_bool Tryz.underlying4 _), (trodAll_cons_mk (Below.trod laidOut (by kernel_rfl) (of_decide_eq_true (by kernel_rfl)) k0 bel lt0) (trodAll_cons_mk (Below.trod laidOut (by kernel_rfl) (of_decide_eq_true (by kernel_rfl)) k1 bel lt1) (trodAll_cons_mk (Below.trod laidOut (by kernel_rfl) (of_decide_eq_true (by kernel_rfl)) k2 bel lt2) trodAll_mk0))), rfl, bel.frame _, fun h => by cases h⟩
theorem over : Rows.postingsMoreRow.holds Tryz.pinned (OpenSpec.ofChange Rows.postingsMoreSpec) :=
  OpenClaim.holds_of_wide 4 Tryz.f4 rfl rfl rfl rfl rfl rfl rfl ⟨rfl, rfl, rfl, rfl, rfl⟩ rfl rfl rfl rfl rfl (by kernel_rfl) Tryz.func4 (by kernel_rfl)
    (of_decide_eq_true (by kernel_rfl)) (by unfold Func.isWrapper; first | (rw [if_pos (by decide +kernel)]; kernel_rfl) | (rw [if_neg (by decide +kernel)]; exact ⟨rfl, rfl⟩))
    (fun os started H enc _ => lifted os started H enc)
theorem card_holds : Rows.PostingsMoreCardSaid :=
  Claim7.holds_tied_plain_at .later [] [.data, .pinned] true (true, "df625bc0af502dba237f1622f0be7a08a86691f364e28f03c92ccc596649acba") false over (fun _ h => by cases h) (by kernel_rfl) (fun _ h => by cases h) postingsMore_row_tie rfl ⟨rfl, rfl⟩ (by kernel_rfl) rfl
    (fun f fn hf hfn => by
      obtain rfl : f = 4 := Option.some.inj ((show Tryz.prog.funcNamed "barograph/barographlaw14.PostingsMore" = some 4 by kernel_rfl).symm.trans hf) |>.symm
      obtain rfl : fn = Tryz.f4 := (Option.some.inj (Tryz.func4.symm.trans hfn)).symm
      exact ⟨by kernel_rfl, fun j t ht => by
        rw [Tryz.params4] at ht
        have hm : t ∈ [27, 28] := by simpa using Array.mem_of_getElem? ht
        have hall : ([27, 28].all fun u => !Tryz.prog.wantsStandIn u) = true := by kernel_rfl
        exact (show Tryz.prog.wantsStandIn t = false by simpa using List.all_eq_true.1 hall t hm)⟩)
    (by kernel_rfl)
#print axioms card_holds
end Go.Proofs.YtogidmceomlkeaaGreatDoor.postingsMore
namespace Go.Proofs.YtogidmceomlkeaaGreatDoor
theorem postingsMore_holds : Rows.PostingsMoreCardSaid := postingsMore.card_holds
end Go.Proofs.YtogidmceomlkeaaGreatDoor
