/- Lists of numbers: Or; a copy; sorted; each once. -/
import Derived.Test.YtogidmceomlkeaaKp2
import Derived.Test.YtogidmceomlkeaaShelf
namespace Go.Proofs.Ytogidmceomlkeaa.SL
open Go.RowKit Go.Proofs.Ytogidmceomlkeaa
open Go.Proofs.YtogidmceomlkeaaW.PrintLast (rtab opsOf)
set_option linter.unusedVariables false
set_option linter.unusedSimpArgs false
theorem rOr_spec {B w : World} {L : List HP} {X Y : HP} {a b : Option Addr} {cap cap2 : Nat} {l m : List Int} (hX : ∀ {L : List HP} {w : World}, St B (X :: L) w → Rd w a l.length 1 (ri l)) (hY : ∀ {L : List HP} {w : World}, St B (Y :: L) w → Rd w b m.length 1 (ri m)) (hb : l.length ≤ 400000) (hb2 : m.length ≤ 400000) (hS : St B (X :: Y :: L) w) : Does Try.prog 8 [Value.slice a l.length cap, Value.slice b m.length cap2] w (fun v w1 => ∃ a1 c1, v = .slice a1 (orR (orR [] l) m).length c1 ∧ St B (own a1 (orR (orR [] l) m).length c1 3 1 (ri (orR (orR [] l) m)) :: X :: Y :: L) w1) := by
 refine enter (n := 33) Try.func8 rfl rfl [Value.slice a l.length cap, Value.slice b m.length cap2] rfl ?_
 refine WP.seq ?_
 refine WP.region rfl ?_
 refine WO.val (run_assign rfl) rfl rfl rfl ?_
 refine WO.nil ?_
 refine NX.go ?_
 refine WP.seq ?_
 refine WP.region rfl ?_
 refine WO.val (run_assign rfl) rfl rfl rfl ?_
 refine WO.nil ?_
 refine NX.go ?_
 refine WP.seq ?_
 refine WP.seq ?_
 refine WP.region rfl ?_
 refine WO.val (run_assign rfl) rfl rfl rfl ?_
 refine WO.nil ?_
 refine NX.go ?_
 refine WP.block ?_
 have hq0 := (hS.own_nil 3 1).permT [1, 1, 0] (L' := X :: Y :: own none 0 0 3 1 [] :: L) rfl
 refine WP.loop (α := Nat × Option Addr × Nat) (fun x => match x with | ⟨i, ao, co⟩ => [(0, Value.slice a l.length cap), (1, Value.slice b m.length cap2), (5, Value.slice ao ((orR [] (l.take i)).length) co), (6, Value.int .i64 (i : Int))]) (fun x w => match x with | ⟨i, ao, co⟩ => (i ≤ l.length) ∧ St B (X :: Y :: own ao ((orR [] (l.take i)).length) co 3 1 (ri (orR [] (l.take i))) :: L) w) (fun x => match x with | ⟨i, ao, co⟩ => l.length - i) (0, none, 0) ⟨by omega, hq0⟩ (Sub.cons rfl (Sub.cons rfl (Sub.consE rfl (by first | rfl | first | rfl | (congr 1; omega) | (simp; done) | (simp; omega)) (Sub.consE rfl (by first | rfl | first | rfl | (congr 1; omega) | (simp; done) | (simp; omega)) (Sub.nil _))))) ?_
 rintro ⟨i, ao, co⟩ w1 ⟨hi, hS1⟩
 clear hS
 have hln := orR_len [] (l.take i)
 have hlt := List.length_take_le i l
 simp only [List.length_nil] at hln
 refine WP.seq ?_
 refine WP.seq ?_
 refine WP.region rfl ?_
 refine WO.val (run_move rfl) rfl rfl rfl ?_
 refine WO.val (run_move rfl) rfl rfl rfl ?_
 refine WO.val (run_len rfl Try.underlying22 rfl) rfl rfl rfl ?_
 refine WO.val (run_lss rfl rfl) rfl rfl rfl ?_
 refine WO.nil ?_
 refine NX.go ?_
 refine WP.condP rfl (fun g11 => ?_) (fun g11 => ?_)
 ·
  refine WP.skip ?_
  refine NX.go ?_
  refine WP.seq ?_
  refine WP.block ?_
  refine WP.region rfl ?_
  refine WO.val (run_move rfl) rfl rfl rfl ?_
  refine WO.val (run_move rfl) rfl rfl rfl ?_
  refine WO.val (run_move rfl) rfl rfl rfl ?_
  obtain ⟨x, hx⟩ : ∃ x, l[i]? = some x := ⟨_, List.getElem?_eq_getElem (by omega)⟩
  refine WO.val (run_indexAddr (q := adr a i) Try.underlying22 Ty.sz3 rfl rfl (by omega) (by omega) ((hX (hS1.focus 0 rfl)).2.1 (by omega)) (by simp)) rfl rfl rfl ?_
  refine WO.val (run_load Ty.ag3 rfl ((hX (hS1.focus 0 rfl)).cell (ri_get hx))) rfl rfl rfl ?_
  have hS4 := hS1.permT [2, 0, 0] (L' := own ao ((orR [] (l.take i)).length) co 3 1 (ri (orR [] (l.take i))) :: X :: Y :: L) rfl
  clear hS1
  refine WO.call rfl rfl Ty.hd14 rfl (put_spec (l := orR [] (l.take i)) x (by omega) hS4) (fun v6 w5 pv6 => ?_)
  obtain ⟨a2, c3, rfl, hS5⟩ := pv6
  clear hS4
  refine WO.val (run_assign rfl) rfl rfl rfl ?_
  refine WO.nil ?_
  refine NX.blk ?_
  refine NX.go ?_
  refine WP.region rfl ?_
  refine WO.val (run_move rfl) rfl rfl rfl ?_
  refine WO.val (run_add rfl rfl (IntWalk.i64_in _ (by omega))) rfl rfl rfl ?_
  refine WO.val (run_assign rfl) rfl rfl rfl ?_
  refine WO.nil ?_
  have hst : orR [] (l.take (i + 1)) = putF (orR [] (l.take i)) x := fold_take _ _ hx
  have hq := hS5
  rw [← hst] at hq
  exact NX.again (i + 1, a2, c3) ⟨by omega, hq.permT [1, 1, 0] rfl⟩ (by show l.length - (i + 1) < l.length - i; omega) (Sub.cons rfl (Sub.cons rfl (Sub.consE rfl (by rw [hst]) (Sub.consE rfl (by congr 1) (Sub.nil _)))))
 ·
  refine WP.exit ?_
  refine NX.thenExit ?_
  refine NX.thenExit ?_
  refine NX.blkExit ?_
  refine NX.go ?_
  refine WP.seq ?_
  refine WP.seq ?_
  refine WP.region rfl ?_
  refine WO.val (run_assign rfl) rfl rfl rfl ?_
  refine WO.nil ?_
  refine NX.go ?_
  refine WP.block ?_
  have hfl : l.take i = l := List.take_of_length_le (by omega)
  have hq1 := hS1
  rw [hfl] at hq1
  refine WP.loop (α := Nat × Option Addr × Nat) (fun x => match x with | ⟨i, ao, co⟩ => [(0, Value.slice a l.length cap), (1, Value.slice b m.length cap2), (5, Value.slice ao ((orR (orR [] l) (m.take i)).length) co), (7, Value.int .i64 (i : Int))]) (fun x w => match x with | ⟨i, ao, co⟩ => (i ≤ m.length) ∧ St B (X :: Y :: own ao ((orR (orR [] l) (m.take i)).length) co 3 1 (ri (orR (orR [] l) (m.take i))) :: L) w) (fun x => match x with | ⟨i, ao, co⟩ => m.length - i) (0, ao, co) ⟨by omega, hq1⟩ (Sub.cons rfl (Sub.cons rfl (Sub.consE rfl (by rw [hfl]; rfl) (Sub.consE rfl (by first | rfl | first | rfl | (congr 1; omega) | (simp; done) | (simp; omega)) (Sub.nil _))))) ?_
  rintro ⟨i, ao, co⟩ w7 ⟨hi, hS7⟩
  clear hS1
  have hln2 := orR_len (orR [] l) (m.take i)
  have hln3 := orR_len [] l
  have hlt2 := List.length_take_le i m
  simp only [List.length_nil] at hln3
  refine WP.seq ?_
  refine WP.seq ?_
  refine WP.region rfl ?_
  refine WO.val (run_move rfl) rfl rfl rfl ?_
  refine WO.val (run_move rfl) rfl rfl rfl ?_
  refine WO.val (run_len rfl Try.underlying22 rfl) rfl rfl rfl ?_
  refine WO.val (run_lss rfl rfl) rfl rfl rfl ?_
  refine WO.nil ?_
  refine NX.go ?_
  refine WP.condP rfl (fun g23 => ?_) (fun g23 => ?_)
  ·
   refine WP.skip ?_
   refine NX.go ?_
   refine WP.seq ?_
   refine WP.block ?_
   refine WP.region rfl ?_
   refine WO.val (run_move rfl) rfl rfl rfl ?_
   refine WO.val (run_move rfl) rfl rfl rfl ?_
   refine WO.val (run_move rfl) rfl rfl rfl ?_
   obtain ⟨x, hx⟩ : ∃ x, m[i]? = some x := ⟨_, List.getElem?_eq_getElem (by omega)⟩
   refine WO.val (run_indexAddr (q := adr b i) Try.underlying22 Ty.sz3 rfl rfl (by omega) (by omega) ((hY (hS7.focus 1 rfl)).2.1 (by omega)) (by simp)) rfl rfl rfl ?_
   refine WO.val (run_load Ty.ag3 rfl ((hY (hS7.focus 1 rfl)).cell (ri_get hx))) rfl rfl rfl ?_
   have hS10 := hS7.permT [2, 0, 0] (L' := own ao ((orR (orR [] l) (m.take i)).length) co 3 1 (ri (orR (orR [] l) (m.take i))) :: X :: Y :: L) rfl
   clear hS7
   refine WO.call rfl rfl Ty.hd14 rfl (put_spec (l := orR (orR [] l) (m.take i)) x (by omega) hS10) (fun v12 w11 pv12 => ?_)
   obtain ⟨a8, c9, rfl, hS11⟩ := pv12
   clear hS10
   refine WO.val (run_assign rfl) rfl rfl rfl ?_
   refine WO.nil ?_
   refine NX.blk ?_
   refine NX.go ?_
   refine WP.region rfl ?_
   refine WO.val (run_move rfl) rfl rfl rfl ?_
   refine WO.val (run_add rfl rfl (IntWalk.i64_in _ (by omega))) rfl rfl rfl ?_
   refine WO.val (run_assign rfl) rfl rfl rfl ?_
   refine WO.nil ?_
   have hst : orR (orR [] l) (m.take (i + 1)) = putF (orR (orR [] l) (m.take i)) x := fold_take _ _ hx
   have hq := hS11
   rw [← hst] at hq
   exact NX.again (i + 1, a8, c9) ⟨by omega, hq.permT [1, 1, 0] rfl⟩ (by show m.length - (i + 1) < m.length - i; omega) (Sub.cons rfl (Sub.cons rfl (Sub.consE rfl (by rw [hst]) (Sub.consE rfl (by congr 1) (Sub.nil _)))))
  ·
   refine WP.exit ?_
   refine NX.thenExit ?_
   refine NX.thenExit ?_
   refine NX.blkExit ?_
   refine NX.go ?_
   refine WP.seq ?_
   refine WP.region rfl ?_
   refine WO.val (run_move rfl) rfl rfl rfl ?_
   refine WO.val (run_assign rfl) rfl rfl rfl ?_
   refine WO.nil ?_
   refine NX.go ?_
   refine WP.ret ?_
   refine NX.done (l := [.tmp 4]) rfl rfl ?_
   refine ⟨ao, co, congrArg (fun z => Value.slice ao z co) (by rw [List.take_of_length_le (by omega)]), ?_⟩
   have hq := (hS7.permT [2, 0, 0] (L' := own ao ((orR (orR [] l) (m.take i)).length) co 3 1 (ri (orR (orR [] l) (m.take i))) :: X :: Y :: L) rfl)
   rw [List.take_of_length_le (l := m) (by omega)] at hq
   exact hq
theorem clone_spec {B w : World} {L : List HP} {X : HP} {a : Option Addr} {cap : Nat} {l : List Int} (hX : ∀ {L : List HP} {w : World}, St B (X :: L) w → Rd w a l.length 1 (ri l)) (hb : l.length ≤ 1000000) (hS : St B (X :: L) w) : Does Try.prog 18 [Value.slice a l.length cap] w (fun v w1 => ∃ a1 c1, v = .slice a1 l.length c1 ∧ St B (own a1 l.length c1 3 1 (ri l) :: X :: L) w1) := by
 refine enter (n := 8) Try.func18 rfl rfl [Value.slice a l.length cap] rfl ?_
 refine WP.seq ?_
 refine WP.region rfl ?_
 refine WO.val (run_assign rfl) rfl rfl rfl ?_
 refine WO.nil ?_
 refine NX.go ?_
 refine WP.seq ?_
 refine WP.seq ?_
 refine WP.region rfl ?_
 refine WO.val (run_move rfl) rfl rfl rfl ?_
 refine WO.val (run_eqlNilL Try.underlying22 rfl rfl) rfl rfl rfl ?_
 refine WO.nil ?_
 refine NX.go ?_
 refine WP.condB rfl (fun g4 => ?_) (fun g4 => ?_)
 ·
  have hn : l = [] := by
   have hr := hX hS
   cases l with
   | nil => rfl
   | cons x l => obtain ⟨p, hp, _⟩ := hr.2.1 (by simp); rw [hp] at g4; cases g4
  refine WP.seq ?_
  refine WP.region rfl ?_
  refine WO.val (run_assign rfl) rfl rfl rfl ?_
  refine WO.nil ?_
  refine NX.go ?_
  refine WP.ret ?_
  refine NX.thenRet ?_
  refine NX.done (l := [.tmp 2]) rfl rfl ?_
  subst hn
  exact ⟨none, 0, rfl, (hS.own_nil 3 1)⟩
 ·
  refine WP.skip ?_
  refine NX.go ?_
  refine WP.seq ?_
  refine WP.region rfl ?_
  refine WO.buildSlice (l := []) hS Try.underlying22 rfl (fun w => by kernel_rfl) rfl (fun g2 w1 lg2 hS1 => ?_)
  clear hS
  have hS1 := hS1.own_of_cel (m := 0) (k := 1) rfl
  refine WO.val (run_move rfl) rfl rfl rfl ?_
  refine WO.append (news := (ri l)) 0 rfl Try.underlying22 Try.underlying22 (fun _ h => by cases h) Ty.sz3 (by decide) Ty.by3 Ty.zr3 rfl rfl rfl rfl hS1 rfl ((hX (hS1.focus 1 rfl)).src) (ri_noAgg _) (by omega) (by omega) (fun a4 c5 w3 hS3 => ?_)
  replace hS3 : St B (own a4 (0 + l.length) c5 3 1 ([] ++ (ri l)) :: X :: L) w3 := hS3
  clear hS1
  refine WO.val (run_assign rfl) rfl rfl rfl ?_
  refine WO.nil ?_
  refine NX.go ?_
  refine WP.ret ?_
  refine NX.done (l := [.tmp 2]) rfl rfl ?_
  exact ⟨a4, c5, congrArg (fun z => Value.slice a4 z c5) (by omega), own_len (hS3) (by omega) rfl⟩

def srt (l : List Int) : List Int := l.mergeSort fun x y => decide (x ≤ y)
theorem srt_len (l : List Int) : (srt l).length = l.length := List.length_mergeSort l
theorem own_spot {B w : World} {L : List HP} {p : Addr} {n cap t k : Nat} {l : List Value} (h : St B (own (some p) n cap t k l :: L) w) : p.spot = none := by
  obtain ⟨x, h1⟩ := h.ex
  exact h1.sep.pure.1.1
theorem sort_spec {B w : World} {L : List HP} {a : Option Addr} {cap : Nat} {l : List Int} (hb : l.length ≤ 1000000) (hS : St B (own a l.length cap 3 1 (ri l) :: L) w) : Does Try.prog 19 [.slice a l.length cap] w (fun v w1 => v = .tuple #[] ∧ St B (own a l.length cap 3 1 (ri (srt l)) :: L) w1) := by
  cases a with
  | none =>
    obtain ⟨⟨h1, rfl, h2⟩, _⟩ := hS.pure
    have hl : l = [] := List.length_eq_zero_iff.1 h1
    subst hl
    refine (Try.slices_Sort_int_none none 0 w).mono ?_
    rintro e w' ⟨rfl, rfl⟩
    exact ⟨_, rfl, rfl, by rw [show srt [] = [] by simp [srt]]; exact hS⟩
  | some p =>
    have hs := own_spot hS
    obtain ⟨b, off, sp⟩ := p
    simp only at hs; subst hs
    obtain ⟨hH, hlt⟩ := hS.own_holds
    refine (Try.slices_Sort_int b off cap l w hH hlt (by omega)).mono ?_
    rintro e w' ⟨rfl, q, os, rfl⟩
    exact ⟨_, rfl, rfl, (hS.own_put (srt_len l)).grow os⟩
def cpt (l : List Int) : List Int := Go.Lib.compact l
theorem cpt_le (l : List Int) : (cpt l).length ≤ l.length := by
  unfold cpt Go.Lib.compact Go.Lib.compactUpTo
  rw [List.length_map]
  exact Nat.le_trans (List.length_filter_le _ _) (by simp)
theorem compact_spec {B w : World} {L : List HP} {a : Option Addr} {cap : Nat} {l : List Int} (hb : l.length ≤ 1000000) (hS : St B (own a l.length cap 3 1 (ri l) :: L) w) : Does Try.prog 20 [.slice a l.length cap] w (fun v w1 => v = .slice a (cpt l).length cap ∧ St B (own a (cpt l).length cap 3 1 (ri (cpt l)) :: L) w1) := by
  have hcap := hS.own_le_i 0 rfl
  cases a with
  | none =>
    obtain ⟨⟨h1, rfl, h2⟩, _⟩ := hS.pure
    have hl : l = [] := List.length_eq_zero_iff.1 h1
    subst hl
    refine (Try.slices_Compact_int_empty none 0 w).mono ?_
    rintro e w' ⟨rfl, rfl⟩
    exact ⟨_, rfl, rfl, hS⟩
  | some p =>
    have hs := own_spot hS
    obtain ⟨b, off, sp⟩ := p
    simp only at hs; subst hs
    obtain ⟨hH, hlt⟩ := hS.own_holds
    refine (Try.slices_Compact_int b off cap l w hH (by omega) hcap).mono ?_
    rintro e w' ⟨rfl, q, rfl⟩
    have hle := cpt_le l
    refine ⟨_, rfl, rfl, ?_⟩
    have h1 := hS.own_put (q := q) (zs := cpt l ++ List.replicate (l.length - (cpt l).length) 0) (by simp; omega)
    have h2 := h1.own_take hle
    have e : (ri (cpt l ++ List.replicate (l.length - (cpt l).length) 0)).take ((cpt l).length * 1) = ri (cpt l) := by
      unfold ri; rw [List.map_append, List.take_left' (by simp)]
    rw [e] at h2
    exact h2
def rising (l : List Int) : List Int := cpt (srt l)
theorem rising_len (l : List Int) : (rising l).length ≤ l.length := by have := cpt_le (srt l); rw [srt_len] at this; exact this
theorem rising_spec {B w : World} {L : List HP} {X : HP} {a : Option Addr} {cap : Nat} {l : List Int} (hX : ∀ {L : List HP} {w : World}, St B (X :: L) w → Rd w a l.length 1 (ri l)) (hb : l.length ≤ 1000000) (hS : St B (X :: L) w) : Does Try.prog 17 [Value.slice a l.length cap] w (fun v w1 => ∃ a1 c1, v = .slice a1 (rising l).length c1 ∧ St B (own a1 (rising l).length c1 3 1 (ri (rising l)) :: X :: L) w1) := by
 refine enter (n := 9) Try.func17 rfl rfl [Value.slice a l.length cap] rfl ?_
 refine WP.seq ?_
 refine WP.region rfl ?_
 refine WO.val (run_assign rfl) rfl rfl rfl ?_
 refine WO.nil ?_
 refine NX.go ?_
 refine WP.seq ?_
 refine WP.region rfl ?_
 refine WO.val (run_move rfl) rfl rfl rfl ?_
 refine WO.call rfl rfl Ty.hd18 rfl (clone_spec hX hb hS) (fun v2 w1 pv2 => ?_)
 obtain ⟨a1, c1, rfl, hS1⟩ := pv2
 clear hS
 refine WO.val (run_assign rfl) rfl rfl rfl ?_
 refine WO.nil ?_
 refine NX.go ?_
 refine WP.seq ?_
 refine WP.region rfl ?_
 refine WO.val (run_move rfl) rfl rfl rfl ?_
 refine WO.call rfl rfl Ty.hd19 rfl (sort_spec hb hS1) (fun v4 w3 pv4 => ?_)
 obtain ⟨rfl, hS3⟩ := pv4
 clear hS1
 refine WO.nil ?_
 refine NX.go ?_
 refine WP.seq ?_
 refine WP.region rfl ?_
 refine WO.val (run_moveAs (v := Value.slice a1 ((srt l).length) c1) rfl (by rw [srt_len])) rfl rfl rfl ?_
 replace hS3 := own_len hS3 (srt_len l).symm rfl
 refine WO.call rfl rfl Ty.hd20 rfl (compact_spec (l := srt l) (by rw [srt_len]; exact hb) hS3) (fun v6 w5 pv6 => ?_)
 obtain ⟨rfl, hS5⟩ := pv6
 clear hS3
 refine WO.val (run_assign rfl) rfl rfl rfl ?_
 refine WO.nil ?_
 refine NX.go ?_
 refine WP.ret ?_
 refine NX.done (l := [.tmp 2]) rfl rfl ?_
 exact ⟨a1, c1, rfl, hS5⟩
end Go.Proofs.Ytogidmceomlkeaa.SL
