/- The law of And, Or and Less. -/
import Derived.Test.YtogidmceomlkeaaKp5
namespace Go.Proofs.Ytogidmceomlkeaa.SL
open Go.RowKit Go.Proofs.Ytogidmceomlkeaa
open Go.Proofs.YtogidmceomlkeaaW.PrintLast (rtab opsOf)
set_option linter.unusedVariables false
set_option linter.unusedSimpArgs false

theorem pick_len (F : Bool → Bool → Bool) (l m : List Int) : (pickF F l m).length ≤ l.length + m.length := by
  have key : ∀ k xs ys, (pkF F k xs ys).length ≤ k := by
    intro k
    induction k with
    | zero => intro xs ys; simp [pkF]
    | succ k ih => intro xs ys; simp only [pkF]; split
                   · simp
                   · rw [List.length_append]; have := ih (tl (inB xs ys) xs) (tl (inB ys xs) ys); split <;> simp <;> omega
  have h := key ((rising l).length + (rising m).length) (rising l) (rising m)
  have h1 := rising_len l
  have h2 := rising_len m
  show (pkF F _ _ _).length ≤ _
  omega
theorem postingsSets_core {B w : World} {L : List HP} {a b : Option Addr} {cap cap2 : Nat} {l m : List Int} (hA : Rd B a l.length 1 (ri l)) (hC : Rd B b m.length 1 (ri m)) (hS : St B L w) : Does Try.prog 3 [Value.slice a l.length cap, Value.slice b m.length cap2] w (fun v w1 => v = .bool true ∧ St B L w1) := by
 replace hS := (hS.addPure (p := True) trivial).addPure (p := True) trivial
 refine enter (n := 56) Try.func3 rfl rfl [Value.slice a l.length cap, Value.slice b m.length cap2] rfl ?_
 refine WP.seq ?_
 refine WP.region rfl ?_
 refine WO.val (run_assign rfl) rfl rfl rfl ?_
 refine WO.nil ?_
 refine NX.go ?_
 refine WP.seq ?_
 refine WP.seq ?_
 refine WP.region rfl ?_
 refine WO.val (run_move rfl) rfl rfl rfl ?_
 refine WO.val (run_len rfl Try.underlying22 rfl) rfl rfl rfl ?_
 refine WO.val (run_gtr rfl rfl) rfl rfl rfl ?_
 refine WO.val (run_move rfl) rfl rfl rfl ?_
 by_cases g10 : 200 < ((l.length : Nat) : Int)
 ·
  refine WO.off rfl rfl (decide_eq_true g10) rfl ?_
  refine WO.off rfl rfl (decide_eq_true g10) rfl ?_
  refine WO.off rfl rfl (decide_eq_true g10) rfl ?_
  refine WO.val (run_pickT rfl (decide_eq_true g10) rfl) rfl rfl rfl ?_
  refine WO.nil ?_
  refine NX.go ?_
  refine WP.condT rfl rfl ?_
  refine WP.seq ?_
  refine WP.region rfl ?_
  refine WO.val (run_assign rfl) rfl rfl rfl ?_
  refine WO.nil ?_
  refine NX.go ?_
  refine WP.ret ?_
  refine NX.thenRet ?_
  refine NX.done (l := [.tmp 4]) rfl rfl ?_
  exact ⟨rfl, hS.drop.drop⟩
 ·
  refine WO.on rfl rfl (decide_eq_false g10) ?_
  refine WO.val (run_move rfl) rfl rfl rfl ?_
  refine WO.on rfl rfl (decide_eq_false g10) ?_
  refine WO.val (run_len rfl Try.underlying22 rfl) rfl rfl rfl ?_
  refine WO.on rfl rfl (decide_eq_false g10) ?_
  refine WO.val (run_gtr rfl rfl) rfl rfl rfl ?_
  refine WO.val (run_pickF rfl (decide_eq_false g10) rfl) rfl rfl rfl ?_
  refine WO.nil ?_
  refine NX.go ?_
  refine WP.condP rfl (fun g14 => ?_) (fun g14 => ?_)
  ·
   refine WP.seq ?_
   refine WP.region rfl ?_
   refine WO.val (run_assign rfl) rfl rfl rfl ?_
   refine WO.nil ?_
   refine NX.go ?_
   refine WP.ret ?_
   refine NX.thenRet ?_
   refine NX.done (l := [.tmp 4]) rfl rfl ?_
   exact ⟨rfl, hS.drop.drop⟩
  ·
   refine WP.skip ?_
   refine NX.go ?_
   refine WP.seq ?_
   refine WP.region rfl ?_
   refine WO.buildSlice (l := []) hS Try.underlying22 rfl (fun w => by kernel_rfl) rfl (fun g2 w1 lg2 hS1 => ?_)
   clear hS
   have hS1 := hS1.own_of_cel (m := 0) (k := 1) rfl
   refine WO.val (run_move rfl) rfl rfl rfl ?_
   refine WO.append (news := (ri l)) 0 rfl Try.underlying22 Try.underlying22 (fun _ h => by cases h) Ty.sz3 (by decide) Ty.by3 Ty.zr3 rfl rfl rfl rfl hS1 rfl (((fun h => St.rdB h hA) (hS1.focus 1 rfl)).src) (ri_noAgg _) (by omega) (by omega) (fun a4 c5 w3 hS3 => ?_)
   replace hS3 : St B (own a4 l.length c5 3 1 (ri l) :: (.pure True) :: (.pure True) :: L) w3 := own_len hS3 (by omega) rfl
   refine WO.as (d := 17) (v := Value.slice a4 l.length c5) rfl (congrArg (fun z => Value.slice _ z _) (Nat.zero_add _)) ?_
   clear hS1
   refine WO.buildSlice (l := []) hS3 Try.underlying22 rfl (fun w => by kernel_rfl) rfl (fun g7 w6 lg7 hS6 => ?_)
   clear hS3
   have hS6 := hS6.own_of_cel (m := 0) (k := 1) rfl
   refine WO.val (run_move rfl) rfl rfl rfl ?_
   refine WO.append (news := (ri m)) 0 rfl Try.underlying22 Try.underlying22 (fun _ h => by cases h) Ty.sz3 (by decide) Ty.by3 Ty.zr3 rfl rfl rfl rfl hS6 rfl (((fun h => St.rdB h hC) (hS6.focus 3 rfl)).src) (ri_noAgg _) (by omega) (by omega) (fun a9 c10 w8 hS8 => ?_)
   replace hS8 : St B (own a9 m.length c10 3 1 (ri m) :: own a4 l.length c5 3 1 (ri l) :: (.pure True) :: (.pure True) :: L) w8 := own_len hS8 (by omega) rfl
   refine WO.as (d := 20) (v := Value.slice a9 m.length c10) rfl (congrArg (fun z => Value.slice _ z _) (Nat.zero_add _)) ?_
   clear hS6
   refine WO.val (run_assign rfl) rfl rfl rfl ?_
   refine WO.val (run_assign rfl) rfl rfl rfl ?_
   refine WO.nil ?_
   refine NX.go ?_
   refine WP.seq ?_
   refine WP.region rfl ?_
   refine WO.val (run_move rfl) rfl rfl rfl ?_
   refine WO.val (run_move rfl) rfl rfl rfl ?_
   have hS13 := hS8.permT [1, 0, 0, 0] (L' := own a4 l.length c5 3 1 (ri l) :: own a9 m.length c10 3 1 (ri m) :: (.pure True) :: (.pure True) :: L) rfl
   clear hS8
   refine WO.call rfl rfl Ty.hd5 rfl (pAnd_spec (fun h => h.own_rd.1) (fun h => h.own_rd.1) (by omega) (by omega) hS13) (fun v15 w14 pv15 => ?_)
   obtain ⟨a11, c12, rfl, hS14⟩ := pv15
   clear hS13
   refine WO.val (run_move rfl) rfl rfl rfl ?_
   refine WO.val (run_move rfl) rfl rfl rfl ?_
   have hS18 := hS14.permT [3, 3, 0, 0, 0] (L' := (.pure True) :: (.pure True) :: own a11 ((pickF fAnd l m).length) c12 3 1 (ri (pickF fAnd l m)) :: own a4 l.length c5 3 1 (ri l) :: own a9 m.length c10 3 1 (ri m) :: L) rfl
   clear hS14
   refine WO.call rfl rfl Ty.hd6 rfl (rAnd_spec (fun h => St.rdB h hA) (fun h => St.rdB h hC) (by omega) (by omega) hS18) (fun v20 w19 pv20 => ?_)
   obtain ⟨a16, c17, rfl, hS19⟩ := pv20
   clear hS18
   have hS21 := hS19.permT [3, 0, 0, 0, 0, 0] (L' := own a11 ((pickF fAnd l m).length) c12 3 1 (ri (pickF fAnd l m)) :: own a16 ((andR m l).length) c17 3 1 (ri (andR m l)) :: (.pure True) :: (.pure True) :: own a4 l.length c5 3 1 (ri l) :: own a9 m.length c10 3 1 (ri m) :: L) rfl
   clear hS19
   refine WO.call rfl rfl Ty.hd4 rfl (same_spec (fun h => h.own_rd.1) (fun h => h.own_rd.1) (by first | omega | exact Nat.le_trans (pick_len _ _ _) (by omega)) hS21) (fun v23 w22 pv23 => ?_)
   obtain ⟨hv, hS22⟩ := pv23
   clear hS21
   replace hv : v23 = Value.bool true := hv.trans (congrArg Value.bool (decide_eq_true (pick_and l m)))
   subst hv
   replace hS22 : St B (own a11 ((pickF fAnd l m).length) c12 3 1 (ri (pickF fAnd l m)) :: own a16 ((andR m l).length) c17 3 1 (ri (andR m l)) :: (.pure True) :: (.pure True) :: own a4 l.length c5 3 1 (ri l) :: own a9 m.length c10 3 1 (ri m) :: L) w22 := hS22
   refine WO.val (run_move rfl) rfl rfl rfl ?_
   refine WO.on rfl rfl rfl ?_
   refine WO.val (run_move rfl) rfl rfl rfl ?_
   refine WO.on rfl rfl rfl ?_
   refine WO.val (run_move rfl) rfl rfl rfl ?_
   refine WO.on rfl rfl rfl ?_
   have hS26 := hS22.permT [4, 4, 0, 0, 0, 0] (L' := own a4 l.length c5 3 1 (ri l) :: own a9 m.length c10 3 1 (ri m) :: own a11 ((pickF fAnd l m).length) c12 3 1 (ri (pickF fAnd l m)) :: own a16 ((andR m l).length) c17 3 1 (ri (andR m l)) :: (.pure True) :: (.pure True) :: L) rfl
   clear hS22
   refine WO.call rfl rfl Ty.hd7 rfl (pOr_spec (fun h => h.own_rd.1) (fun h => h.own_rd.1) (by omega) (by omega) hS26) (fun v28 w27 pv28 => ?_)
   obtain ⟨a24, c25, rfl, hS27⟩ := pv28
   clear hS26
   refine WO.on rfl rfl rfl ?_
   refine WO.val (run_move rfl) rfl rfl rfl ?_
   refine WO.on rfl rfl rfl ?_
   refine WO.val (run_move rfl) rfl rfl rfl ?_
   refine WO.on rfl rfl rfl ?_
   have hS31 := hS27.permT [5, 5, 0, 0, 0, 0, 0] (L' := (.pure True) :: (.pure True) :: own a24 ((pickF fOr l m).length) c25 3 1 (ri (pickF fOr l m)) :: own a4 l.length c5 3 1 (ri l) :: own a9 m.length c10 3 1 (ri m) :: own a11 ((pickF fAnd l m).length) c12 3 1 (ri (pickF fAnd l m)) :: own a16 ((andR m l).length) c17 3 1 (ri (andR m l)) :: L) rfl
   clear hS27
   refine WO.call rfl rfl Ty.hd8 rfl (rOr_spec (fun h => St.rdB h hA) (fun h => St.rdB h hC) (by omega) (by omega) hS31) (fun v33 w32 pv33 => ?_)
   obtain ⟨a29, c30, rfl, hS32⟩ := pv33
   clear hS31
   refine WO.on rfl rfl rfl ?_
   have hS34 := hS32.permT [3, 0, 0, 0, 0, 0, 0, 0] (L' := own a24 ((pickF fOr l m).length) c25 3 1 (ri (pickF fOr l m)) :: own a29 ((orR (orR [] l) m).length) c30 3 1 (ri (orR (orR [] l) m)) :: (.pure True) :: (.pure True) :: own a4 l.length c5 3 1 (ri l) :: own a9 m.length c10 3 1 (ri m) :: own a11 ((pickF fAnd l m).length) c12 3 1 (ri (pickF fAnd l m)) :: own a16 ((andR m l).length) c17 3 1 (ri (andR m l)) :: L) rfl
   clear hS32
   refine WO.call rfl rfl Ty.hd4 rfl (same_spec (fun h => h.own_rd.1) (fun h => h.own_rd.1) (by first | omega | exact Nat.le_trans (pick_len _ _ _) (by omega)) hS34) (fun v36 w35 pv36 => ?_)
   obtain ⟨hv, hS35⟩ := pv36
   clear hS34
   replace hv : v36 = Value.bool true := hv.trans (congrArg Value.bool (decide_eq_true (pick_or l m)))
   subst hv
   replace hS35 : St B (own a24 ((pickF fOr l m).length) c25 3 1 (ri (pickF fOr l m)) :: own a29 ((orR (orR [] l) m).length) c30 3 1 (ri (orR (orR [] l) m)) :: (.pure True) :: (.pure True) :: own a4 l.length c5 3 1 (ri l) :: own a9 m.length c10 3 1 (ri m) :: own a11 ((pickF fAnd l m).length) c12 3 1 (ri (pickF fAnd l m)) :: own a16 ((andR m l).length) c17 3 1 (ri (andR m l)) :: L) w35 := hS35
   refine WO.val (run_pickT rfl rfl rfl) rfl rfl rfl ?_
   refine WO.val (run_move rfl) rfl rfl rfl ?_
   refine WO.on rfl rfl rfl ?_
   refine WO.val (run_move rfl) rfl rfl rfl ?_
   refine WO.on rfl rfl rfl ?_
   refine WO.val (run_move rfl) rfl rfl rfl ?_
   refine WO.on rfl rfl rfl ?_
   have hS39 := hS35.permT [4, 4, 0, 0, 0, 0, 0, 0] (L' := own a4 l.length c5 3 1 (ri l) :: own a9 m.length c10 3 1 (ri m) :: own a24 ((pickF fOr l m).length) c25 3 1 (ri (pickF fOr l m)) :: own a29 ((orR (orR [] l) m).length) c30 3 1 (ri (orR (orR [] l) m)) :: (.pure True) :: (.pure True) :: own a11 ((pickF fAnd l m).length) c12 3 1 (ri (pickF fAnd l m)) :: own a16 ((andR m l).length) c17 3 1 (ri (andR m l)) :: L) rfl
   clear hS35
   refine WO.call rfl rfl Ty.hd9 rfl (pLess_spec (fun h => h.own_rd.1) (fun h => h.own_rd.1) (by omega) (by omega) hS39) (fun v41 w40 pv41 => ?_)
   obtain ⟨a37, c38, rfl, hS40⟩ := pv41
   clear hS39
   refine WO.on rfl rfl rfl ?_
   refine WO.val (run_move rfl) rfl rfl rfl ?_
   refine WO.on rfl rfl rfl ?_
   refine WO.val (run_move rfl) rfl rfl rfl ?_
   refine WO.on rfl rfl rfl ?_
   have hS44 := hS40.permT [5, 5, 0, 0, 0, 0, 0, 0, 0] (L' := (.pure True) :: (.pure True) :: own a37 ((pickF fLess l m).length) c38 3 1 (ri (pickF fLess l m)) :: own a4 l.length c5 3 1 (ri l) :: own a9 m.length c10 3 1 (ri m) :: own a24 ((pickF fOr l m).length) c25 3 1 (ri (pickF fOr l m)) :: own a29 ((orR (orR [] l) m).length) c30 3 1 (ri (orR (orR [] l) m)) :: own a11 ((pickF fAnd l m).length) c12 3 1 (ri (pickF fAnd l m)) :: own a16 ((andR m l).length) c17 3 1 (ri (andR m l)) :: L) rfl
   clear hS40
   refine WO.call rfl rfl Ty.hd10 rfl (rLess_spec (fun h => St.rdB h hA) (fun h => St.rdB h hC) (by omega) (by omega) hS44) (fun v46 w45 pv46 => ?_)
   obtain ⟨a42, c43, rfl, hS45⟩ := pv46
   clear hS44
   refine WO.on rfl rfl rfl ?_
   have hS47 := hS45.permT [3, 0, 0, 0, 0, 0, 0, 0, 0, 0] (L' := own a37 ((pickF fLess l m).length) c38 3 1 (ri (pickF fLess l m)) :: own a42 ((lessR m l).length) c43 3 1 (ri (lessR m l)) :: (.pure True) :: (.pure True) :: own a4 l.length c5 3 1 (ri l) :: own a9 m.length c10 3 1 (ri m) :: own a24 ((pickF fOr l m).length) c25 3 1 (ri (pickF fOr l m)) :: own a29 ((orR (orR [] l) m).length) c30 3 1 (ri (orR (orR [] l) m)) :: own a11 ((pickF fAnd l m).length) c12 3 1 (ri (pickF fAnd l m)) :: own a16 ((andR m l).length) c17 3 1 (ri (andR m l)) :: L) rfl
   clear hS45
   refine WO.call rfl rfl Ty.hd4 rfl (same_spec (fun h => h.own_rd.1) (fun h => h.own_rd.1) (by first | omega | exact Nat.le_trans (pick_len _ _ _) (by omega)) hS47) (fun v49 w48 pv49 => ?_)
   obtain ⟨hv, hS48⟩ := pv49
   clear hS47
   replace hv : v49 = Value.bool true := hv.trans (congrArg Value.bool (decide_eq_true (pick_less l m)))
   subst hv
   replace hS48 : St B (own a37 ((pickF fLess l m).length) c38 3 1 (ri (pickF fLess l m)) :: own a42 ((lessR m l).length) c43 3 1 (ri (lessR m l)) :: (.pure True) :: (.pure True) :: own a4 l.length c5 3 1 (ri l) :: own a9 m.length c10 3 1 (ri m) :: own a24 ((pickF fOr l m).length) c25 3 1 (ri (pickF fOr l m)) :: own a29 ((orR (orR [] l) m).length) c30 3 1 (ri (orR (orR [] l) m)) :: own a11 ((pickF fAnd l m).length) c12 3 1 (ri (pickF fAnd l m)) :: own a16 ((andR m l).length) c17 3 1 (ri (andR m l)) :: L) w48 := hS48
   refine WO.val (run_pickT rfl rfl rfl) rfl rfl rfl ?_
   refine WO.val (run_move rfl) rfl rfl rfl ?_
   refine WO.on rfl rfl rfl ?_
   refine WO.val (run_move rfl) rfl rfl rfl ?_
   refine WO.on rfl rfl rfl ?_
   refine WO.val (run_move rfl) rfl rfl rfl ?_
   refine WO.on rfl rfl rfl ?_
   have hS50 := hS48.permT [4, 2, 0, 0, 0, 0, 0, 0, 0, 0] (L' := own a4 l.length c5 3 1 (ri l) :: (.pure True) :: own a37 ((pickF fLess l m).length) c38 3 1 (ri (pickF fLess l m)) :: own a42 ((lessR m l).length) c43 3 1 (ri (lessR m l)) :: (.pure True) :: own a9 m.length c10 3 1 (ri m) :: own a24 ((pickF fOr l m).length) c25 3 1 (ri (pickF fOr l m)) :: own a29 ((orR (orR [] l) m).length) c30 3 1 (ri (orR (orR [] l) m)) :: own a11 ((pickF fAnd l m).length) c12 3 1 (ri (pickF fAnd l m)) :: own a16 ((andR m l).length) c17 3 1 (ri (andR m l)) :: L) rfl
   clear hS48
   refine WO.call rfl rfl Ty.hd4 rfl (same_spec (fun h => h.own_rd.1) (fun h => St.rdB h hA) (by first | omega | exact Nat.le_trans (pick_len _ _ _) (by omega)) hS50) (fun v52 w51 pv52 => ?_)
   obtain ⟨hv, hS51⟩ := pv52
   clear hS50
   replace hv : v52 = Value.bool true := hv.trans (congrArg Value.bool (decide_eq_true rfl))
   subst hv
   replace hS51 : St B (own a4 l.length c5 3 1 (ri l) :: (.pure True) :: own a37 ((pickF fLess l m).length) c38 3 1 (ri (pickF fLess l m)) :: own a42 ((lessR m l).length) c43 3 1 (ri (lessR m l)) :: (.pure True) :: own a9 m.length c10 3 1 (ri m) :: own a24 ((pickF fOr l m).length) c25 3 1 (ri (pickF fOr l m)) :: own a29 ((orR (orR [] l) m).length) c30 3 1 (ri (orR (orR [] l) m)) :: own a11 ((pickF fAnd l m).length) c12 3 1 (ri (pickF fAnd l m)) :: own a16 ((andR m l).length) c17 3 1 (ri (andR m l)) :: L) w51 := hS51
   refine WO.val (run_pickT rfl rfl rfl) rfl rfl rfl ?_
   refine WO.val (run_move rfl) rfl rfl rfl ?_
   refine WO.on rfl rfl rfl ?_
   refine WO.val (run_move rfl) rfl rfl rfl ?_
   refine WO.on rfl rfl rfl ?_
   refine WO.val (run_move rfl) rfl rfl rfl ?_
   refine WO.on rfl rfl rfl ?_
   have hS53 := hS51.permT [5, 4, 0, 0, 0, 0, 0, 0, 0, 0] (L' := own a9 m.length c10 3 1 (ri m) :: (.pure True) :: own a4 l.length c5 3 1 (ri l) :: (.pure True) :: own a37 ((pickF fLess l m).length) c38 3 1 (ri (pickF fLess l m)) :: own a42 ((lessR m l).length) c43 3 1 (ri (lessR m l)) :: own a24 ((pickF fOr l m).length) c25 3 1 (ri (pickF fOr l m)) :: own a29 ((orR (orR [] l) m).length) c30 3 1 (ri (orR (orR [] l) m)) :: own a11 ((pickF fAnd l m).length) c12 3 1 (ri (pickF fAnd l m)) :: own a16 ((andR m l).length) c17 3 1 (ri (andR m l)) :: L) rfl
   clear hS51
   refine WO.call rfl rfl Ty.hd4 rfl (same_spec (fun h => h.own_rd.1) (fun h => St.rdB h hC) (by first | omega | exact Nat.le_trans (pick_len _ _ _) (by omega)) hS53) (fun v55 w54 pv55 => ?_)
   obtain ⟨hv, hS54⟩ := pv55
   clear hS53
   replace hv : v55 = Value.bool true := hv.trans (congrArg Value.bool (decide_eq_true rfl))
   subst hv
   replace hS54 : St B (own a9 m.length c10 3 1 (ri m) :: (.pure True) :: own a4 l.length c5 3 1 (ri l) :: (.pure True) :: own a37 ((pickF fLess l m).length) c38 3 1 (ri (pickF fLess l m)) :: own a42 ((lessR m l).length) c43 3 1 (ri (lessR m l)) :: own a24 ((pickF fOr l m).length) c25 3 1 (ri (pickF fOr l m)) :: own a29 ((orR (orR [] l) m).length) c30 3 1 (ri (orR (orR [] l) m)) :: own a11 ((pickF fAnd l m).length) c12 3 1 (ri (pickF fAnd l m)) :: own a16 ((andR m l).length) c17 3 1 (ri (andR m l)) :: L) w54 := hS54
   refine WO.val (run_pickT rfl rfl rfl) rfl rfl rfl ?_
   refine WO.val (run_assign rfl) rfl rfl rfl ?_
   refine WO.nil ?_
   refine NX.go ?_
   refine WP.ret ?_
   refine NX.done (l := [.tmp 4]) rfl rfl ?_
   exact ⟨rfl, hS54.drop.drop.drop.drop.drop.drop.drop.drop.drop.drop⟩
end Go.Proofs.Ytogidmceomlkeaa.SL
