/- Lists of numbers: Or; a copy; sorted; each once. -/
import Derived.Test.YtogidmceomlkeaaGreatDoorKp2
import Derived.Test.YtogidmceomlkeaaGreatDoorShelf
namespace Go.Proofs.YtogidmceomlkeaaGreatDoor.SL
open Go.RowKit Go.Proofs.YtogidmceomlkeaaGreatDoor
open Go.Proofs.YtogidmceomlkeaaGreatDoorW.PrintLast (rtab opsOf)
set_option linter.unusedVariables false
set_option linter.unusedSimpArgs false
theorem clone_spec {B w : World} {L : List HP} {X : HP} {a : Option Addr} {cap : Nat} {l : List Int} (hX : ∀ {L : List HP} {w : World}, St B (X :: L) w → Rd w a l.length 1 (ri l)) (hb : l.length ≤ 1000000) (hS : St B (X :: L) w) : Does Tryz.prog 24 [Value.slice a l.length cap] w (fun v w1 => ∃ a1 c1, v = .slice a1 l.length c1 ∧ St B (own a1 l.length c1 3 1 (ri l) :: X :: L) w1) := by
 refine enter (n := 8) Tryz.func24 rfl rfl [Value.slice a l.length cap] rfl ?_
 refine WP.seq ?_
 refine WP.region rfl ?_
 refine WO.val (run_assign rfl) rfl rfl rfl ?_
 refine WO.nil ?_
 refine NX.go ?_
 refine WP.seq ?_
 refine WP.seq ?_
 refine WP.region rfl ?_
 refine WO.val (run_move rfl) rfl rfl rfl ?_
 refine WO.val (run_eqlNilL Tryz.underlying22 rfl rfl) rfl rfl rfl ?_
 refine WO.nil ?_
 refine NX.go ?_
 refine WP.condB rfl (fun g4 => ?_) (fun g4 => ?_)
 ·
  have hn : l = [] := by
   have hr := hX hS
   cases l with
   | nil => rfl
   | cons x l => obtain ⟨p, hp, _⟩ := hr.2.1 (by simp); rw [hp] at g4; cases g4
  refine WP.seq ?_
  refine WP.region rfl ?_
  refine WO.val (run_assign rfl) rfl rfl rfl ?_
  refine WO.nil ?_
  refine NX.go ?_
  refine WP.ret ?_
  refine NX.thenRet ?_
  refine NX.done (l := [.tmp 2]) rfl rfl ?_
  subst hn
  exact ⟨none, 0, rfl, (hS.own_nil 3 1)⟩
 ·
  refine WP.skip ?_
  refine NX.go ?_
  refine WP.seq ?_
  refine WP.region rfl ?_
  refine WO.buildSlice (l := []) hS Tryz.underlying22 rfl (fun w => by kernel_rfl) rfl (fun g2 w1 lg2 hS1 => ?_)
  clear hS
  have hS1 := hS1.own_of_cel (m := 0) (k := 1) rfl
  refine WO.val (run_move rfl) rfl rfl rfl ?_
  refine WO.append (news := (ri l)) 0 rfl Tryz.underlying22 Tryz.underlying22 (fun _ h => by cases h) Ty.sz3 (by decide) Ty.by3 Ty.zr3 rfl rfl rfl rfl hS1 rfl ((hX (hS1.focus 1 rfl)).src) (ri_noAgg _) (by omega) (by omega) (fun a4 c5 w3 hS3 => ?_)
  replace hS3 : St B (own a4 (0 + l.length) c5 3 1 ([] ++ (ri l)) :: X :: L) w3 := hS3
  clear hS1
  refine WO.val (run_assign rfl) rfl rfl rfl ?_
  refine WO.nil ?_
  refine NX.go ?_
  refine WP.ret ?_
  refine NX.done (l := [.tmp 2]) rfl rfl ?_
  exact ⟨a4, c5, congrArg (fun z => Value.slice a4 z c5) (by omega), own_len (hS3) (by omega) rfl⟩

def srt (l : List Int) : List Int := l.mergeSort fun x y => decide (x ≤ y)
theorem srt_len (l : List Int) : (srt l).length = l.length := List.length_mergeSort l
theorem own_spot {B w : World} {L : List HP} {p : Addr} {n cap t k : Nat} {l : List Value} (h : St B (own (some p) n cap t k l :: L) w) : p.spot = none := by
  obtain ⟨x, h1⟩ := h.ex
  exact h1.sep.pure.1.1
theorem sort_spec {B w : World} {L : List HP} {a : Option Addr} {cap : Nat} {l : List Int} (hb : l.length ≤ 1000000) (hS : St B (own a l.length cap 3 1 (ri l) :: L) w) : Does Tryz.prog 33 [.slice a l.length cap] w (fun v w1 => v = .tuple #[] ∧ St B (own a l.length cap 3 1 (ri (srt l)) :: L) w1) := by
  cases a with
  | none =>
    obtain ⟨⟨h1, rfl, h2⟩, _⟩ := hS.pure
    have hl : l = [] := List.length_eq_zero_iff.1 h1
    subst hl
    refine (Tryz.slices_Sort_int_none none 0 w).mono ?_
    rintro e w' ⟨rfl, rfl⟩
    exact ⟨_, rfl, rfl, by rw [show srt [] = [] by simp [srt]]; exact hS⟩
  | some p =>
    have hs := own_spot hS
    obtain ⟨b, off, sp⟩ := p
    simp only at hs; subst hs
    obtain ⟨hH, hlt⟩ := hS.own_holds
    refine (Tryz.slices_Sort_int b off cap l w hH hlt (by omega)).mono ?_
    rintro e w' ⟨rfl, q, os, rfl⟩
    exact ⟨_, rfl, rfl, (hS.own_put (srt_len l)).grow os⟩
def cpt (l : List Int) : List Int := Go.Lib.compact l
theorem cpt_le (l : List Int) : (cpt l).length ≤ l.length := by
  unfold cpt Go.Lib.compact Go.Lib.compactUpTo
  rw [List.length_map]
  exact Nat.le_trans (List.length_filter_le _ _) (by simp)
theorem compact_spec {B w : World} {L : List HP} {a : Option Addr} {cap : Nat} {l : List Int} (hb : l.length ≤ 1000000) (hS : St B (own a l.length cap 3 1 (ri l) :: L) w) : Does Tryz.prog 34 [.slice a l.length cap] w (fun v w1 => v = .slice a (cpt l).length cap ∧ St B (own a (cpt l).length cap 3 1 (ri (cpt l)) :: L) w1) := by
  have hcap := hS.own_le_i 0 rfl
  cases a with
  | none =>
    obtain ⟨⟨h1, rfl, h2⟩, _⟩ := hS.pure
    have hl : l = [] := List.length_eq_zero_iff.1 h1
    subst hl
    refine (Tryz.slices_Compact_int_empty none 0 w).mono ?_
    rintro e w' ⟨rfl, rfl⟩
    exact ⟨_, rfl, rfl, hS⟩
  | some p =>
    have hs := own_spot hS
    obtain ⟨b, off, sp⟩ := p
    simp only at hs; subst hs
    obtain ⟨hH, hlt⟩ := hS.own_holds
    refine (Tryz.slices_Compact_int b off cap l w hH (by omega) hcap).mono ?_
    rintro e w' ⟨rfl, q, rfl⟩
    have hle := cpt_le l
    refine ⟨_, rfl, rfl, ?_⟩
    have h1 := hS.own_put (q := q) (zs := cpt l ++ List.replicate (l.length - (cpt l).length) 0) (by simp; omega)
    have h2 := h1.own_take hle
    have e : (ri (cpt l ++ List.replicate (l.length - (cpt l).length) 0)).take ((cpt l).length * 1) = ri (cpt l) := by
      unfold ri; rw [List.map_append, List.take_left' (by simp)]
    rw [e] at h2
    exact h2
def rising (l : List Int) : List Int := cpt (srt l)
theorem rising_len (l : List Int) : (rising l).length ≤ l.length := by have := cpt_le (srt l); rw [srt_len] at this; exact this
theorem rising_spec {B w : World} {L : List HP} {X : HP} {a : Option Addr} {cap : Nat} {l : List Int} (hX : ∀ {L : List HP} {w : World}, St B (X :: L) w → Rd w a l.length 1 (ri l)) (hb : l.length ≤ 1000000) (hS : St B (X :: L) w) : Does Tryz.prog 25 [Value.slice a l.length cap] w (fun v w1 => ∃ a1 c1, v = .slice a1 (rising l).length c1 ∧ St B (own a1 (rising l).length c1 3 1 (ri (rising l)) :: X :: L) w1) := by
 refine enter (n := 9) Tryz.func25 rfl rfl [Value.slice a l.length cap] rfl ?_
 refine WP.seq ?_
 refine WP.region rfl ?_
 refine WO.val (run_assign rfl) rfl rfl rfl ?_
 refine WO.nil ?_
 refine NX.go ?_
 refine WP.seq ?_
 refine WP.region rfl ?_
 refine WO.val (run_move rfl) rfl rfl rfl ?_
 refine WO.call rfl rfl Ty.hd24 rfl (clone_spec hX hb hS) (fun v2 w1 pv2 => ?_)
 obtain ⟨a1, c1, rfl, hS1⟩ := pv2
 clear hS
 refine WO.val (run_assign rfl) rfl rfl rfl ?_
 refine WO.nil ?_
 refine NX.go ?_
 refine WP.seq ?_
 refine WP.region rfl ?_
 refine WO.val (run_move rfl) rfl rfl rfl ?_
 refine WO.call rfl rfl Ty.hd33 rfl (sort_spec hb hS1) (fun v4 w3 pv4 => ?_)
 obtain ⟨rfl, hS3⟩ := pv4
 clear hS1
 refine WO.nil ?_
 refine NX.go ?_
 refine WP.seq ?_
 refine WP.region rfl ?_
 refine WO.val (run_moveAs (v := Value.slice a1 ((srt l).length) c1) rfl (by rw [srt_len])) rfl rfl rfl ?_
 replace hS3 := own_len hS3 (srt_len l).symm rfl
 refine WO.call rfl rfl Ty.hd34 rfl (compact_spec (l := srt l) (by rw [srt_len]; exact hb) hS3) (fun v6 w5 pv6 => ?_)
 obtain ⟨rfl, hS5⟩ := pv6
 clear hS3
 refine WO.val (run_assign rfl) rfl rfl rfl ?_
 refine WO.nil ?_
 refine NX.go ?_
 refine WP.ret ?_
 refine NX.done (l := [.tmp 2]) rfl rfl ?_
 exact ⟨a1, c1, rfl, hS5⟩
end Go.Proofs.YtogidmceomlkeaaGreatDoor.SL
