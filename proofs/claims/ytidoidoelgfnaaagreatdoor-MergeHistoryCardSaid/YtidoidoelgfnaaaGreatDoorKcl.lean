/- Copies of rows. -/
import Derived.Test.YtidoidoelgfnaaaGreatDoorMgm
namespace Go.Proofs.YtidoidoelgfnaaaGreatDoor.SL
open Go.RowKit Go.Proofs.YtidoidoelgfnaaaGreatDoor
open Go.Proofs.YtidoidoelgfnaaaGreatDoorW.PrintLast (rtab opsOf)
set_option linter.unusedVariables false
set_option linter.unusedSimpArgs false

theorem flat_noAgg {α : Type} {f : α → List Value} (hf : ∀ x, (f x).all noAgg = true) (l : List α) : (l.flatMap f).all noAgg = true := by
  rw [List.all_flatMap, List.all_eq_true]; exact fun x _ => hf x
theorem prc_na (p : Pr) : (prc p).all noAgg = true := by simp [prc, noAgg, str]
theorem ptc_na (p : Pt) : (ptc p).all noAgg = true := by simp [ptc, noAgg]
theorem rcc_na (p : Rcd) : (rcc p).all noAgg = true := by simp [rcc, noAgg]
theorem mtc_na (p : Mt) : (mtc p).all noAgg = true := by simp [mtc, noAgg, str]
theorem rd_none {w : World} {n k : Nat} {l : List Value} (h : Rd w none n k l) : n = 0 ∧ l = [] := by
  have h0 : n = 0 := by
    rcases Nat.eq_zero_or_pos n with e | e
    · exact e
    · obtain ⟨p, hp, _⟩ := h.2.1 e; cases hp
  subst h0
  exact ⟨rfl, List.length_eq_zero_iff.1 (by have := h.1; omega)⟩
theorem clonePr {B w : World} {L : List HP} {X : HP} {a : Option Addr} {cap : Nat} {l : List Pr} (hX : ∀ {L : List HP} {w : World}, St B (X :: L) w → Rd w a l.length 2 (l.flatMap prc)) (hl : l.length * 32 ≤ 140737488355328) (hS : St B (X :: L) w) : Does Tryz.prog 65 [Value.slice a l.length cap] w (fun v w1 => ∃ a1 c1, v = .slice a1 l.length c1 ∧ St B (own a1 l.length c1 105 2 (l.flatMap prc) :: X :: L) w1) := by
 refine enter (n := 8) Tryz.func65 rfl rfl [Value.slice a l.length cap] rfl ?_
 refine WP.seq (WP.region rfl ?_)
 refine WO.asg rfl rfl ?_
 refine WO.nil (NX.go (WP.seq (WP.seq (WP.region rfl ?_))))
 refine WO.mv rfl rfl ?_
 refine WO.V (run_eqlNilL Tryz.underlying65 rfl rfl) ?_
 refine WO.nil (NX.go ?_)
 refine WP.condB rfl (fun g4 => ?_) (fun g4 => ?_)
 ·
  refine WP.seq (WP.region rfl ?_)
  refine WO.asg rfl rfl ?_
  refine WO.nil (NX.go (WP.ret (NX.thenRet ?_)))
  refine NX.done (l := [.tmp 2]) rfl rfl ?_
  have hn : a = none := by simpa using g4
  obtain ⟨h0, h1⟩ := rd_none (hn ▸ hX hS)
  exact ⟨none, 0, by rw [h0]; rfl, (by rw [h1, h0]; exact (hS).addPure ⟨rfl, rfl, rfl⟩)⟩
 ·
  refine WP.skip (NX.go (WP.seq (WP.region rfl ?_)))
  refine WO.buildSlice (l := []) hS Tryz.underlying65 rfl (fun w => by kernel_rfl) rfl (fun g2 w1 lg2 hS1 => ?_)
  clear hS
  have hS1 := hS1.own_of_cel (m := 0) (k := 2) rfl
  refine WO.mv rfl rfl ?_
  refine WO.append (news := (l.flatMap prc)) 0 rfl Tryz.underlying65 Tryz.underlying65 (fun _ h => by cases h) Ty.sz105 (by decide) Ty.by105 Ty.zr105 rfl rfl rfl rfl hS1 rfl ((hX (hS1.focus 1 rfl)).src) (flat_noAgg prc_na l) (by omega) (by omega) (fun a4 c5 w3 hS3 => ?_)
  replace hS3 : St B (own a4 (0 + l.length) c5 105 2 ([] ++ (l.flatMap prc)) :: X :: L) w3 := hS3
  clear hS1
  refine WO.asg rfl rfl ?_
  refine WO.nil (NX.go (WP.ret ?_))
  refine NX.done (l := [.tmp 2]) rfl rfl ?_
  have hfin := hS3
  exact ⟨_, _, by rw [Nat.zero_add]; rfl, by simpa using hfin⟩
theorem clonePt {B w : World} {L : List HP} {X : HP} {a : Option Addr} {cap : Nat} {l : List Pt} (hX : ∀ {L : List HP} {w : World}, St B (X :: L) w → Rd w a l.length 2 (l.flatMap ptc)) (hl : l.length * 16 ≤ 140737488355328) (hS : St B (X :: L) w) : Does Tryz.prog 69 [Value.slice a l.length cap] w (fun v w1 => ∃ a1 c1, v = .slice a1 l.length c1 ∧ St B (own a1 l.length c1 103 2 (l.flatMap ptc) :: X :: L) w1) := by
 refine enter (n := 8) Tryz.func69 rfl rfl [Value.slice a l.length cap] rfl ?_
 refine WP.seq (WP.region rfl ?_)
 refine WO.asg rfl rfl ?_
 refine WO.nil (NX.go (WP.seq (WP.seq (WP.region rfl ?_))))
 refine WO.mv rfl rfl ?_
 refine WO.V (run_eqlNilL Tryz.underlying66 rfl rfl) ?_
 refine WO.nil (NX.go ?_)
 refine WP.condB rfl (fun g4 => ?_) (fun g4 => ?_)
 ·
  refine WP.seq (WP.region rfl ?_)
  refine WO.asg rfl rfl ?_
  refine WO.nil (NX.go (WP.ret (NX.thenRet ?_)))
  refine NX.done (l := [.tmp 2]) rfl rfl ?_
  have hn : a = none := by simpa using g4
  obtain ⟨h0, h1⟩ := rd_none (hn ▸ hX hS)
  exact ⟨none, 0, by rw [h0]; rfl, (by rw [h1, h0]; exact (hS).addPure ⟨rfl, rfl, rfl⟩)⟩
 ·
  refine WP.skip (NX.go (WP.seq (WP.region rfl ?_)))
  refine WO.buildSlice (l := []) hS Tryz.underlying66 rfl (fun w => by kernel_rfl) rfl (fun g2 w1 lg2 hS1 => ?_)
  clear hS
  have hS1 := hS1.own_of_cel (m := 0) (k := 2) rfl
  refine WO.mv rfl rfl ?_
  refine WO.append (news := (l.flatMap ptc)) 0 rfl Tryz.underlying66 Tryz.underlying66 (fun _ h => by cases h) Ty.sz103 (by decide) Ty.by103 Ty.zr103 rfl rfl rfl rfl hS1 rfl ((hX (hS1.focus 1 rfl)).src) (flat_noAgg ptc_na l) (by omega) (by omega) (fun a4 c5 w3 hS3 => ?_)
  replace hS3 : St B (own a4 (0 + l.length) c5 103 2 ([] ++ (l.flatMap ptc)) :: X :: L) w3 := hS3
  clear hS1
  refine WO.asg rfl rfl ?_
  refine WO.nil (NX.go (WP.ret ?_))
  refine NX.done (l := [.tmp 2]) rfl rfl ?_
  have hfin := hS3
  exact ⟨_, _, by rw [Nat.zero_add]; rfl, by simpa using hfin⟩
theorem cloneRcd {B w : World} {L : List HP} {X : HP} {a : Option Addr} {cap : Nat} {l : List Rcd} (hX : ∀ {L : List HP} {w : World}, St B (X :: L) w → Rd w a l.length 5 (l.flatMap rcc)) (hl : l.length * 72 ≤ 140737488355328) (hS : St B (X :: L) w) : Does Tryz.prog 86 [Value.slice a l.length cap] w (fun v w1 => ∃ a1 c1, v = .slice a1 l.length c1 ∧ St B (own a1 l.length c1 33 5 (l.flatMap rcc) :: X :: L) w1) := by
 refine enter (n := 8) Tryz.func86 rfl rfl [Value.slice a l.length cap] rfl ?_
 refine WP.seq (WP.region rfl ?_)
 refine WO.asg rfl rfl ?_
 refine WO.nil (NX.go (WP.seq (WP.seq (WP.region rfl ?_))))
 refine WO.mv rfl rfl ?_
 refine WO.V (run_eqlNilL Tryz.underlying23 rfl rfl) ?_
 refine WO.nil (NX.go ?_)
 refine WP.condB rfl (fun g4 => ?_) (fun g4 => ?_)
 ·
  refine WP.seq (WP.region rfl ?_)
  refine WO.asg rfl rfl ?_
  refine WO.nil (NX.go (WP.ret (NX.thenRet ?_)))
  refine NX.done (l := [.tmp 2]) rfl rfl ?_
  have hn : a = none := by simpa using g4
  obtain ⟨h0, h1⟩ := rd_none (hn ▸ hX hS)
  exact ⟨none, 0, by rw [h0]; rfl, (by rw [h1, h0]; exact (hS).addPure ⟨rfl, rfl, rfl⟩)⟩
 ·
  refine WP.skip (NX.go (WP.seq (WP.region rfl ?_)))
  refine WO.buildSlice (l := []) hS Tryz.underlying23 rfl (fun w => by kernel_rfl) rfl (fun g2 w1 lg2 hS1 => ?_)
  clear hS
  have hS1 := hS1.own_of_cel (m := 0) (k := 5) rfl
  refine WO.mv rfl rfl ?_
  refine WO.append (news := (l.flatMap rcc)) 0 rfl Tryz.underlying23 Tryz.underlying23 (fun _ h => by cases h) Ty.sz33 (by decide) Ty.by33 Ty.zr33 rfl rfl rfl rfl hS1 rfl ((hX (hS1.focus 1 rfl)).src) (flat_noAgg rcc_na l) (by omega) (by omega) (fun a4 c5 w3 hS3 => ?_)
  replace hS3 : St B (own a4 (0 + l.length) c5 33 5 ([] ++ (l.flatMap rcc)) :: X :: L) w3 := hS3
  clear hS1
  refine WO.asg rfl rfl ?_
  refine WO.nil (NX.go (WP.ret ?_))
  refine NX.done (l := [.tmp 2]) rfl rfl ?_
  have hfin := hS3
  exact ⟨_, _, by rw [Nat.zero_add]; rfl, by simpa using hfin⟩
end Go.Proofs.YtidoidoelgfnaaaGreatDoor.SL
