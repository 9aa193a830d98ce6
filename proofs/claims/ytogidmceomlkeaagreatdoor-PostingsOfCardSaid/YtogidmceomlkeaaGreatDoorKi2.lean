/- Rows: the reference of Find; copies. -/
import Derived.Test.YtogidmceomlkeaaGreatDoorKi
namespace Go.Proofs.YtogidmceomlkeaaGreatDoor.SL
open Go.RowKit Go.Proofs.YtogidmceomlkeaaGreatDoor
open Go.Proofs.YtogidmceomlkeaaGreatDoorW.PrintLast (rtab opsOf)
set_option linter.unusedVariables false
set_option linter.unusedSimpArgs false
theorem rFind_spec {B w : World} {L : List HP} {X M : HP} {a b : Option Addr} {cap cap2 : Nat} {R : List RowV} {ms : List Mt} (hX : ∀ {L : List HP} {w : World}, St B (X :: L) w → RdRows w a R) (hM : ∀ {L : List HP} {w : World}, St B (M :: L) w → Rd w b ms.length 3 (ms.flatMap mtc)) (hn : R.length ≤ 1000000000) (hbR : ∀ r ∈ R, r.l.length ≤ 4398046511104) (hmz : SzM ms) (hml : ms.length ≤ 4398046511104) (hS : St B (X :: M :: L) w) : Does Tryz.prog 13 [Value.slice a R.length cap, Value.slice b ms.length cap2] w (fun v w1 => ∃ a1 c1, v = .slice a1 (findF (R.map RowV.l) ms).length c1 ∧ St B (own a1 (findF (R.map RowV.l) ms).length c1 3 1 (ri (findF (R.map RowV.l) ms)) :: X :: M :: L) w1) := by
 refine enter (n := 24) Tryz.func13 rfl rfl [Value.slice a R.length cap, Value.slice b ms.length cap2] rfl ?_
 refine WP.seq ?_
 refine WP.region rfl ?_
 refine WO.val (run_assign rfl) rfl rfl rfl ?_
 refine WO.nil ?_
 refine NX.go ?_
 refine WP.seq ?_
 refine WP.region rfl ?_
 refine WO.val (run_assign rfl) rfl rfl rfl ?_
 refine WO.nil ?_
 refine NX.go ?_
 refine WP.seq ?_
 refine WP.seq ?_
 refine WP.region rfl ?_
 refine WO.val (run_assign rfl) rfl rfl rfl ?_
 refine WO.nil ?_
 refine NX.go ?_
 refine WP.block ?_
 have hq0 := (hS.own_nil 3 1).permT [1, 1, 0] (L' := X :: M :: own none 0 0 3 1 [] :: L) rfl
 refine WP.loop (α := Nat × List Int × Option Addr × Nat) (fun x => match x with | ⟨i, o, ao, co⟩ => [(0, Value.slice a R.length cap), (1, Value.slice b ms.length cap2), (5, Value.slice ao o.length co), (6, Value.int .i64 (i : Int))]) (fun x w => match x with | ⟨i, o, ao, co⟩ => (i ≤ R.length ∧ o.length ≤ i ∧ o ++ idxGo (fun r => isF ms r) i ((R.map RowV.l).drop i) = findF (R.map RowV.l) ms) ∧ St B (X :: M :: own ao o.length co 3 1 (ri o) :: L) w) (fun x => match x with | ⟨i, o, ao, co⟩ => R.length - i) (0, [], none, 0) ⟨⟨Nat.zero_le _, by simp, rfl⟩, hq0⟩ (Sub.cons rfl (Sub.cons rfl (Sub.consE rfl (by first | rfl | first | rfl | (congr 1; omega) | (simp; done) | (simp; omega)) (Sub.consE rfl (by first | rfl | first | rfl | (congr 1; omega) | (simp; done) | (simp; omega)) (Sub.nil _))))) ?_
 rintro ⟨i, o, ao, co⟩ w1 ⟨⟨hi, hoi, hT⟩, hS1⟩
 clear hS
 refine WP.seq ?_
 refine WP.seq ?_
 refine WP.region rfl ?_
 refine WO.val (run_move rfl) rfl rfl rfl ?_
 refine WO.val (run_move rfl) rfl rfl rfl ?_
 refine WO.val (run_len rfl Tryz.underlying27 rfl) rfl rfl rfl ?_
 refine WO.val (run_lss rfl rfl) rfl rfl rfl ?_
 refine WO.nil ?_
 refine NX.go ?_
 refine WP.condP rfl (fun g10 => ?_) (fun g10 => ?_)
 ·
  obtain ⟨r, hr⟩ : ∃ r, R[i]? = some r := ⟨_, List.getElem?_eq_getElem (by omega)⟩
  have hrm : r ∈ R := List.mem_of_getElem? hr
  have hrl := hbR r hrm
  refine WP.skip ?_
  refine NX.go ?_
  refine WP.seq ?_
  refine WP.block ?_
  refine WP.seq ?_
  refine WP.region rfl ?_
  refine WO.val (run_move rfl) rfl rfl rfl ?_
  refine WO.val (run_move rfl) rfl rfl rfl ?_
  refine WO.val (run_move rfl) rfl rfl rfl ?_
  refine WO.val (run_indexAddr (q := adr a i) Tryz.underlying27 Ty.sz29 rfl rfl (by omega) (by omega) (((fun h => (hX h).1) (hS1.focus 0 rfl)).2.1 (by omega)) (by simp)) rfl rfl rfl ?_
  refine WO.val (run_load Ty.ag29 rfl (((fun h => (hX h).1) (hS1.focus 0 rfl)).cell (row_get hr))) rfl rfl rfl ?_
  have hS2 := hS1.permT [1, 0, 0] (L' := M :: X :: own ao o.length co 3 1 (ri o) :: L) rfl
  clear hS1
  refine WO.call rfl rfl Ty.hd21 rfl (ris_spec hM (fun h => (hX h).2 r hrm) hmz hml (hbR r hrm) hS2) (fun v4 w3 pv4 => ?_)
  obtain ⟨rfl, hS3⟩ := pv4
  clear hS2
  refine WO.nil ?_
  refine NX.go ?_
  refine WP.meet (α := List Int × Option Addr × Nat) (fun x => match x with | ⟨o2, ao2, co2⟩ => [(0, Value.slice a R.length cap), (1, Value.slice b ms.length cap2), (5, Value.slice ao2 o2.length co2), (6, Value.int .i64 (i : Int))]) (fun x w => match x with | ⟨o2, ao2, co2⟩ => (o2 = o ++ (if isF ms r.l then [(i : Int)] else [])) ∧ St B (X :: M :: own ao2 o2.length co2 3 1 (ri o2) :: L) w) ?_ (fun K5 => ?_)
  ·
   rintro ⟨o2, ao2, co2⟩ w6 ⟨ho2, hS6⟩
   clear hS3
   refine NX.blk ?_
   refine NX.go ?_
   refine WP.region rfl ?_
   refine WO.val (run_move rfl) rfl rfl rfl ?_
   refine WO.val (run_add rfl rfl (IntWalk.i64_in _ (by omega))) rfl rfl rfl ?_
   refine WO.val (run_assign rfl) rfl rfl rfl ?_
   refine WO.nil ?_
   exact NX.again (i + 1, o2, ao2, co2) ⟨⟨by omega, by have := if_len (c := isF ms r.l) (i := (i : Int)); rw [ho2, List.length_append]; omega, by rw [ho2]; exact idx_step (f := (fun r => isF ms r)) hr hT⟩, hS6⟩ (by show R.length - (i + 1) < R.length - i; omega) (Sub.cons rfl (Sub.cons rfl (Sub.consE rfl rfl (Sub.consE rfl (by congr 1) (Sub.nil _)))))
  ·
   refine WP.condB rfl (fun g18 => ?_) (fun g18 => ?_)
   ·
    refine WP.region rfl ?_
    refine WO.val (run_move rfl) rfl rfl rfl ?_
    refine WO.val (run_move rfl) rfl rfl rfl ?_
    refine WO.buildSlice (l := [Value.int .i64 (i : Int)]) hS3 Tryz.underlying22 rfl (fun w => by kernel_rfl) rfl (fun g8 w7 lg8 hS7 => ?_)
    clear hS3
    have hS7 := hS7.own_of_cel (m := 1) (k := 1) rfl
    refine WO.append (news := [Value.int .i64 (i : Int)]) 3 rfl Tryz.underlying22 Tryz.underlying22 (fun _ h => by cases h) Ty.sz3 (by decide) Ty.by3 Ty.zr3 rfl rfl rfl rfl hS7 rfl ((hS7.own_rd_i 0 rfl).src) rfl (by omega) (by omega) (fun a10 c11 w9 hS9 => ?_)
    replace hS9 : St B (own (some ⟨g8, 0, none⟩) 1 1 3 1 [Value.int .i64 (i : Int)] :: M :: X :: own a10 (o.length + 1) c11 3 1 ((ri o) ++ [Value.int .i64 (i : Int)]) :: L) w9 := hS9
    clear hS7
    refine WO.val (run_assign rfl) rfl rfl rfl ?_
    refine WO.nil ?_
    exact K5 (o ++ [(i : Int)], a10, c11) _ _ ⟨by rw [g18]; rfl, (own_len (hS9.permT [0, 2, 1, 0] (L' := own (some ⟨g8, 0, none⟩) 1 1 3 1 [Value.int .i64 (i : Int)] :: own a10 (o.length + 1) c11 3 1 ((ri o) ++ [Value.int .i64 (i : Int)]) :: X :: M :: L) rfl).drop (by simp) (by simp [ri])).permT [1, 1, 0] rfl⟩ (Sub.cons rfl (Sub.cons rfl (Sub.consE rfl (by simp) (Sub.cons rfl (Sub.nil _)))))
   ·
    refine WP.skip ?_
    exact K5 (o, ao, co) _ _ ⟨by rw [g18]; exact (List.append_nil o).symm, ((hS3.permT [2, 1, 0] (L' := own ao o.length co 3 1 (ri o) :: X :: M :: L) rfl)).permT [1, 1, 0] rfl⟩ (Sub.cons rfl (Sub.cons rfl (Sub.consE rfl rfl (Sub.cons rfl (Sub.nil _)))))
 ·
  refine WP.exit ?_
  refine NX.thenExit ?_
  refine NX.thenExit ?_
  refine NX.blkExit ?_
  refine NX.go ?_
  refine WP.seq ?_
  refine WP.region rfl ?_
  refine WO.val (run_move rfl) rfl rfl rfl ?_
  refine WO.val (run_assign rfl) rfl rfl rfl ?_
  refine WO.nil ?_
  refine NX.go ?_
  refine WP.ret ?_
  refine NX.done (l := [.tmp 4]) rfl rfl ?_
  have hTT := idx_end (by omega) hT
  exact ⟨ao, co, congrArg (fun z => Value.slice ao z co) (by rw [hTT]), own_len ((hS1.permT [2, 0, 0] (L' := own ao o.length co 3 1 (ri o) :: X :: M :: L) rfl)) (by rw [hTT]) (by rw [hTT])⟩
theorem prs_noAgg (l : List Pr) : (l.flatMap prc).all noAgg = true := by
  rw [List.all_flatMap]; exact List.all_eq_true.2 fun p _ => rfl
theorem clonep_spec {B w : World} {L : List HP} {X : HP} {a : Option Addr} {cap : Nat} {l : List Pr} (hX : ∀ {L : List HP} {w : World}, St B (X :: L) w → Rd w a l.length 2 (l.flatMap prc)) (hb : l.length ≤ 4398046511104) (hS : St B (X :: L) w) : Does Tryz.prog 19 [Value.slice a l.length cap] w (fun v w1 => ∃ a1 c1, v = .slice a1 l.length c1 ∧ St B (own a1 l.length c1 35 2 (l.flatMap prc) :: X :: L) w1) := by
 refine enter (n := 8) Tryz.func19 rfl rfl [Value.slice a l.length cap] rfl ?_
 refine WP.seq ?_
 refine WP.region rfl ?_
 refine WO.val (run_assign rfl) rfl rfl rfl ?_
 refine WO.nil ?_
 refine NX.go ?_
 refine WP.seq ?_
 refine WP.seq ?_
 refine WP.region rfl ?_
 refine WO.val (run_move rfl) rfl rfl rfl ?_
 refine WO.val (run_eqlNilL Tryz.underlying29 rfl rfl) rfl rfl rfl ?_
 refine WO.nil ?_
 refine NX.go ?_
 refine WP.condB rfl (fun g4 => ?_) (fun g4 => ?_)
 ·
  have hn : l = [] := by
   have hr := hX hS
   cases l with
   | nil => rfl
   | cons x l => obtain ⟨p, hp, _⟩ := hr.2.1 (by simp); rw [hp] at g4; cases g4
  refine WP.seq ?_
  refine WP.region rfl ?_
  refine WO.val (run_assign rfl) rfl rfl rfl ?_
  refine WO.nil ?_
  refine NX.go ?_
  refine WP.ret ?_
  refine NX.thenRet ?_
  refine NX.done (l := [.tmp 2]) rfl rfl ?_
  subst hn
  exact ⟨none, 0, rfl, (hS.own_nil 35 2)⟩
 ·
  refine WP.skip ?_
  refine NX.go ?_
  refine WP.seq ?_
  refine WP.region rfl ?_
  refine WO.buildSlice (l := []) hS Tryz.underlying29 rfl (fun w => by kernel_rfl) rfl (fun g2 w1 lg2 hS1 => ?_)
  clear hS
  have hS1 := hS1.own_of_cel (m := 0) (k := 2) rfl
  refine WO.val (run_move rfl) rfl rfl rfl ?_
  refine WO.append (news := (l.flatMap prc)) 0 rfl Tryz.underlying29 Tryz.underlying29 (fun _ h => by cases h) Ty.sz35 (by decide) Ty.by35 Ty.zr35 rfl rfl rfl rfl hS1 rfl ((hX (hS1.focus 1 rfl)).src) (prs_noAgg l) (by omega) (by omega) (fun a4 c5 w3 hS3 => ?_)
  replace hS3 : St B (own a4 (0 + l.length) c5 35 2 ([] ++ (l.flatMap prc)) :: X :: L) w3 := hS3
  clear hS1
  refine WO.val (run_assign rfl) rfl rfl rfl ?_
  refine WO.nil ?_
  refine NX.go ?_
  refine WP.ret ?_
  refine NX.done (l := [.tmp 2]) rfl rfl ?_
  exact ⟨a4, c5, congrArg (fun z => Value.slice a4 z c5) (by omega), own_len (hS3) (by omega) rfl⟩
end Go.Proofs.YtogidmceomlkeaaGreatDoor.SL
