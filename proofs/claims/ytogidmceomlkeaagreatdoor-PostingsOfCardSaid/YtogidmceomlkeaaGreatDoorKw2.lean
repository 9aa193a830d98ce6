/- The usual laws of sets. -/
import Derived.Test.YtogidmceomlkeaaGreatDoorKw
namespace Go.Proofs.YtogidmceomlkeaaGreatDoor.SL
open Go.RowKit Go.Proofs.YtogidmceomlkeaaGreatDoor
open Go.Proofs.YtogidmceomlkeaaGreatDoorW.PrintLast (rtab opsOf)
set_option linter.unusedVariables false
set_option linter.unusedSimpArgs false

theorem and_less_nil {l m : List Int} : pickF fAnd (pickF fAnd l m) (pickF fLess l m) = [] := by
  refine asc_ext (pickF_spec fAnd _ _).1 List.Pairwise.nil fun z => ?_
  rw [mem_pAnd, mem_pAnd, mem_pLess]
  simp only [List.not_mem_nil, iff_false]
  rintro ⟨⟨_, h⟩, _, h'⟩; exact h' h
set_option maxHeartbeats 2000000 in
theorem postingsLaws_core {B w : World} {L : List HP} {a b c : Option Addr} {cap cap2 cap3 : Nat} {l m n : List Int} (hA : Rd B a l.length 1 (ri l)) (hC : Rd B b m.length 1 (ri m)) (hD : Rd B c n.length 1 (ri n)) (hS : St B L w) : Does Tryz.prog 3 [Value.slice a l.length cap, Value.slice b m.length cap2, Value.slice c n.length cap3] w (fun v w1 => v = .bool true ∧ St B L w1) := by
 replace hS := ((hS.addPure (p := True) trivial).addPure (p := True) trivial).addPure (p := True) trivial
 refine enter (n := 85) Tryz.func3 rfl rfl [Value.slice a l.length cap, Value.slice b m.length cap2, Value.slice c n.length cap3] rfl ?_
 refine WP.seq ?_
 refine WP.region rfl ?_
 refine WO.val (run_assign rfl) rfl rfl rfl ?_
 refine WO.nil ?_
 refine NX.go ?_
 refine WP.seq ?_
 refine WP.seq ?_
 refine WP.region rfl ?_
 refine WO.call rfl rfl Ty.hd6 rfl (pworks_spec hS) (fun v2 w1 pv2 => ?_)
 obtain ⟨rfl, hS1⟩ := pv2
 clear hS
 refine WO.val (run_not rfl rfl) rfl rfl rfl ?_
 refine WO.nil ?_
 refine NX.go ?_
 refine WP.condF rfl (notB_t rfl) ?_
 refine WP.skip ?_
 refine NX.go ?_
 refine WP.seq ?_
 refine WP.seq ?_
 refine WP.region rfl ?_
 refine WO.val (run_move rfl) rfl rfl rfl ?_
 refine WO.val (run_len rfl Tryz.underlying22 rfl) rfl rfl rfl ?_
 refine WO.val (run_gtr rfl rfl) rfl rfl rfl ?_
 refine WO.val (run_move rfl) rfl rfl rfl ?_
 by_cases g15 : 100 < ((l.length : Nat) : Int)
 ·
  refine WO.off rfl rfl (decide_eq_true g15) rfl ?_
  refine WO.off rfl rfl (decide_eq_true g15) rfl ?_
  refine WO.off rfl rfl (decide_eq_true g15) rfl ?_
  refine WO.val (run_pickT rfl (decide_eq_true g15) rfl) rfl rfl rfl ?_
  refine WO.val (run_move rfl) rfl rfl rfl ?_
  refine WO.off rfl rfl rfl rfl ?_
  refine WO.off rfl rfl rfl rfl ?_
  refine WO.off rfl rfl rfl rfl ?_
  refine WO.val (run_pickT rfl rfl rfl) rfl rfl rfl ?_
  refine WO.nil ?_
  refine NX.go ?_
  refine WP.condT rfl rfl ?_
  refine WP.seq ?_
  refine WP.region rfl ?_
  refine WO.val (run_assign rfl) rfl rfl rfl ?_
  refine WO.nil ?_
  refine NX.go ?_
  refine WP.ret ?_
  refine NX.thenRet ?_
  refine NX.done (l := [.tmp 6]) rfl rfl ?_
  exact ⟨rfl, hS1.drop.drop.drop⟩
 ·
  refine WO.on rfl rfl (decide_eq_false g15) ?_
  refine WO.val (run_move rfl) rfl rfl rfl ?_
  refine WO.on rfl rfl (decide_eq_false g15) ?_
  refine WO.val (run_len rfl Tryz.underlying22 rfl) rfl rfl rfl ?_
  refine WO.on rfl rfl (decide_eq_false g15) ?_
  refine WO.val (run_gtr rfl rfl) rfl rfl rfl ?_
  refine WO.val (run_pickF rfl (decide_eq_false g15) rfl) rfl rfl rfl ?_
  refine WO.val (run_move rfl) rfl rfl rfl ?_
  by_cases g20 : 100 < ((m.length : Nat) : Int)
  ·
   refine WO.off rfl rfl (decide_eq_true g20) rfl ?_
   refine WO.off rfl rfl (decide_eq_true g20) rfl ?_
   refine WO.off rfl rfl (decide_eq_true g20) rfl ?_
   refine WO.val (run_pickT rfl (decide_eq_true g20) rfl) rfl rfl rfl ?_
   refine WO.nil ?_
   refine NX.go ?_
   refine WP.condT rfl rfl ?_
   refine WP.seq ?_
   refine WP.region rfl ?_
   refine WO.val (run_assign rfl) rfl rfl rfl ?_
   refine WO.nil ?_
   refine NX.go ?_
   refine WP.ret ?_
   refine NX.thenRet ?_
   refine NX.done (l := [.tmp 6]) rfl rfl ?_
   exact ⟨rfl, hS1.drop.drop.drop⟩
  ·
   refine WO.on rfl rfl (decide_eq_false g20) ?_
   refine WO.val (run_move rfl) rfl rfl rfl ?_
   refine WO.on rfl rfl (decide_eq_false g20) ?_
   refine WO.val (run_len rfl Tryz.underlying22 rfl) rfl rfl rfl ?_
   refine WO.on rfl rfl (decide_eq_false g20) ?_
   refine WO.val (run_gtr rfl rfl) rfl rfl rfl ?_
   refine WO.val (run_pickF rfl (decide_eq_false g20) rfl) rfl rfl rfl ?_
   refine WO.nil ?_
   refine NX.go ?_
   refine WP.condP rfl (fun g24 => ?_) (fun g24 => ?_)
   ·
    refine WP.seq ?_
    refine WP.region rfl ?_
    refine WO.val (run_assign rfl) rfl rfl rfl ?_
    refine WO.nil ?_
    refine NX.go ?_
    refine WP.ret ?_
    refine NX.thenRet ?_
    refine NX.done (l := [.tmp 6]) rfl rfl ?_
    exact ⟨rfl, hS1.drop.drop.drop⟩
   ·
    refine WP.skip ?_
    refine NX.go ?_
    refine WP.seq ?_
    refine WP.region rfl ?_
    refine WO.val (run_move rfl) rfl rfl rfl ?_
    refine WO.val (run_move rfl) rfl rfl rfl ?_
    refine WO.call rfl rfl Ty.hd7 rfl (pAnd_spec (l := l) (m := m) (fun h => St.rdB h hA) (fun h => St.rdB h hC) (by first | omega | (have := pick_len fAnd l m; have := pick_len fOr l m; have := pick_len fLess l m; have := pick_len fAnd n l; have := pick_len fAnd n m; have := pick_len fLess n l; (try simp only [List.length_nil]); omega)) (by first | omega | (have := pick_len fAnd l m; have := pick_len fOr l m; have := pick_len fLess l m; have := pick_len fAnd n l; have := pick_len fAnd n m; have := pick_len fLess n l; (try simp only [List.length_nil]); omega)) hS1) (fun v6 w5 pv6 => ?_)
    obtain ⟨a3, c4, rfl, hS5⟩ := pv6
    clear hS1
    refine WO.val (run_move rfl) rfl rfl rfl ?_
    refine WO.val (run_move rfl) rfl rfl rfl ?_
    have hS9 := hS5.permT [1, 1, 0, 0] (L' := (.pure True) :: (.pure True) :: own a3 ((pickF fAnd l m).length) c4 3 1 (ri (pickF fAnd l m)) :: (.pure True) :: L) rfl
    clear hS5
    refine WO.call rfl rfl Ty.hd8 rfl (pOr_spec (l := l) (m := m) (fun h => St.rdB h hA) (fun h => St.rdB h hC) (by first | omega | (have := pick_len fAnd l m; have := pick_len fOr l m; have := pick_len fLess l m; have := pick_len fAnd n l; have := pick_len fAnd n m; have := pick_len fLess n l; (try simp only [List.length_nil]); omega)) (by first | omega | (have := pick_len fAnd l m; have := pick_len fOr l m; have := pick_len fLess l m; have := pick_len fAnd n l; have := pick_len fAnd n m; have := pick_len fLess n l; (try simp only [List.length_nil]); omega)) hS9) (fun v11 w10 pv11 => ?_)
    obtain ⟨a7, c8, rfl, hS10⟩ := pv11
    clear hS9
    refine WO.val (run_move rfl) rfl rfl rfl ?_
    refine WO.val (run_move rfl) rfl rfl rfl ?_
    have hS14 := hS10.permT [1, 1, 0, 0, 0] (L' := (.pure True) :: (.pure True) :: own a7 ((pickF fOr l m).length) c8 3 1 (ri (pickF fOr l m)) :: own a3 ((pickF fAnd l m).length) c4 3 1 (ri (pickF fAnd l m)) :: (.pure True) :: L) rfl
    clear hS10
    refine WO.call rfl rfl Ty.hd9 rfl (pLess_spec (l := l) (m := m) (fun h => St.rdB h hA) (fun h => St.rdB h hC) (by first | omega | (have := pick_len fAnd l m; have := pick_len fOr l m; have := pick_len fLess l m; have := pick_len fAnd n l; have := pick_len fAnd n m; have := pick_len fLess n l; (try simp only [List.length_nil]); omega)) (by first | omega | (have := pick_len fAnd l m; have := pick_len fOr l m; have := pick_len fLess l m; have := pick_len fAnd n l; have := pick_len fAnd n m; have := pick_len fLess n l; (try simp only [List.length_nil]); omega)) hS14) (fun v16 w15 pv16 => ?_)
    obtain ⟨a12, c13, rfl, hS15⟩ := pv16
    clear hS14
    refine WO.val (run_assign rfl) rfl rfl rfl ?_
    refine WO.val (run_assign rfl) rfl rfl rfl ?_
    refine WO.val (run_assign rfl) rfl rfl rfl ?_
    refine WO.nil ?_
    refine NX.go ?_
    refine WP.seq ?_
    refine WP.region rfl ?_
    refine WO.val (run_move rfl) rfl rfl rfl ?_
    refine WO.val (run_move rfl) rfl rfl rfl ?_
    refine WO.val (run_move rfl) rfl rfl rfl ?_
    have hS19 := hS15.permT [2, 1, 0, 0, 0, 0] (L' := (.pure True) :: (.pure True) :: own a12 ((pickF fLess l m).length) c13 3 1 (ri (pickF fLess l m)) :: own a7 ((pickF fOr l m).length) c8 3 1 (ri (pickF fOr l m)) :: own a3 ((pickF fAnd l m).length) c4 3 1 (ri (pickF fAnd l m)) :: (.pure True) :: L) rfl
    clear hS15
    refine WO.call rfl rfl Ty.hd7 rfl (pAnd_spec (l := m) (m := l) (fun h => St.rdB h hC) (fun h => St.rdB h hA) (by first | omega | (have := pick_len fAnd l m; have := pick_len fOr l m; have := pick_len fLess l m; have := pick_len fAnd n l; have := pick_len fAnd n m; have := pick_len fLess n l; (try simp only [List.length_nil]); omega)) (by first | omega | (have := pick_len fAnd l m; have := pick_len fOr l m; have := pick_len fLess l m; have := pick_len fAnd n l; have := pick_len fAnd n m; have := pick_len fLess n l; (try simp only [List.length_nil]); omega)) hS19) (fun v21 w20 pv21 => ?_)
    obtain ⟨a17, c18, rfl, hS20⟩ := pv21
    clear hS19
    have hS22 := hS20.permT [5, 0, 0, 0, 0, 0, 0] (L' := own a3 ((pickF fAnd l m).length) c4 3 1 (ri (pickF fAnd l m)) :: own a17 ((pickF fAnd m l).length) c18 3 1 (ri (pickF fAnd m l)) :: (.pure True) :: (.pure True) :: own a12 ((pickF fLess l m).length) c13 3 1 (ri (pickF fLess l m)) :: own a7 ((pickF fOr l m).length) c8 3 1 (ri (pickF fOr l m)) :: (.pure True) :: L) rfl
    clear hS20
    refine WO.call rfl rfl Ty.hd10 rfl (same_spec (l := (pickF fAnd l m)) (m := (pickF fAnd m l)) (fun h => h.own_rd.1) (fun h => h.own_rd.1) (Nat.le_trans (pick_len _ _ _) (by have := pick_len fAnd l m; have := pick_len fOr l m; have := pick_len fLess l m; have := pick_len fAnd n l; have := pick_len fAnd n m; have := pick_len fLess n l; have := pick_len fLess n m; omega)) hS22) (fun v24 w23 pv24 => ?_)
    obtain ⟨hv, hS23⟩ := pv24
    clear hS22
    replace hv : v24 = Value.bool true := hv.trans (congrArg Value.bool (decide_eq_true (pk_eq fun z => by rw [mem_pAnd, mem_pAnd, and_comm])))
    subst hv
    replace hS23 : St B (own a3 ((pickF fAnd l m).length) c4 3 1 (ri (pickF fAnd l m)) :: own a17 ((pickF fAnd m l).length) c18 3 1 (ri (pickF fAnd m l)) :: (.pure True) :: (.pure True) :: own a12 ((pickF fLess l m).length) c13 3 1 (ri (pickF fLess l m)) :: own a7 ((pickF fOr l m).length) c8 3 1 (ri (pickF fOr l m)) :: (.pure True) :: L) w23 := hS23
    have hS25 : St B (own a3 ((pickF fAnd l m).length) c4 3 1 (ri (pickF fAnd l m)) :: (.pure True) :: (.pure True) :: own a12 ((pickF fLess l m).length) c13 3 1 (ri (pickF fLess l m)) :: own a7 ((pickF fOr l m).length) c8 3 1 (ri (pickF fOr l m)) :: (.pure True) :: L) w23 := (hS23.permT [1, 0, 0, 0, 0, 0, 0] (L' := own a17 ((pickF fAnd m l).length) c18 3 1 (ri (pickF fAnd m l)) :: own a3 ((pickF fAnd l m).length) c4 3 1 (ri (pickF fAnd l m)) :: (.pure True) :: (.pure True) :: own a12 ((pickF fLess l m).length) c13 3 1 (ri (pickF fLess l m)) :: own a7 ((pickF fOr l m).length) c8 3 1 (ri (pickF fOr l m)) :: (.pure True) :: L) rfl).drop
    clear hS23
    refine WO.val (run_move rfl) rfl rfl rfl ?_
    refine WO.on rfl rfl rfl ?_
    refine WO.val (run_move rfl) rfl rfl rfl ?_
    refine WO.on rfl rfl rfl ?_
    refine WO.val (run_move rfl) rfl rfl rfl ?_
    refine WO.on rfl rfl rfl ?_
    refine WO.val (run_move rfl) rfl rfl rfl ?_
    refine WO.on rfl rfl rfl ?_
    have hS28 := hS25.permT [1, 1, 0, 0, 0, 0] (L' := (.pure True) :: (.pure True) :: own a3 ((pickF fAnd l m).length) c4 3 1 (ri (pickF fAnd l m)) :: own a12 ((pickF fLess l m).length) c13 3 1 (ri (pickF fLess l m)) :: own a7 ((pickF fOr l m).length) c8 3 1 (ri (pickF fOr l m)) :: (.pure True) :: L) rfl
    clear hS25
    refine WO.call rfl rfl Ty.hd8 rfl (pOr_spec (l := m) (m := l) (fun h => St.rdB h hC) (fun h => St.rdB h hA) (by first | omega | (have := pick_len fAnd l m; have := pick_len fOr l m; have := pick_len fLess l m; have := pick_len fAnd n l; have := pick_len fAnd n m; have := pick_len fLess n l; (try simp only [List.length_nil]); omega)) (by first | omega | (have := pick_len fAnd l m; have := pick_len fOr l m; have := pick_len fLess l m; have := pick_len fAnd n l; have := pick_len fAnd n m; have := pick_len fLess n l; (try simp only [List.length_nil]); omega)) hS28) (fun v30 w29 pv30 => ?_)
    obtain ⟨a26, c27, rfl, hS29⟩ := pv30
    clear hS28
    refine WO.on rfl rfl rfl ?_
    have hS31 := hS29.permT [5, 0, 0, 0, 0, 0, 0] (L' := own a7 ((pickF fOr l m).length) c8 3 1 (ri (pickF fOr l m)) :: own a26 ((pickF fOr m l).length) c27 3 1 (ri (pickF fOr m l)) :: (.pure True) :: (.pure True) :: own a3 ((pickF fAnd l m).length) c4 3 1 (ri (pickF fAnd l m)) :: own a12 ((pickF fLess l m).length) c13 3 1 (ri (pickF fLess l m)) :: (.pure True) :: L) rfl
    clear hS29
    refine WO.call rfl rfl Ty.hd10 rfl (same_spec (l := (pickF fOr l m)) (m := (pickF fOr m l)) (fun h => h.own_rd.1) (fun h => h.own_rd.1) (Nat.le_trans (pick_len _ _ _) (by have := pick_len fAnd l m; have := pick_len fOr l m; have := pick_len fLess l m; have := pick_len fAnd n l; have := pick_len fAnd n m; have := pick_len fLess n l; have := pick_len fLess n m; omega)) hS31) (fun v33 w32 pv33 => ?_)
    obtain ⟨hv, hS32⟩ := pv33
    clear hS31
    replace hv : v33 = Value.bool true := hv.trans (congrArg Value.bool (decide_eq_true (pk_eq fun z => by rw [mem_pOr, mem_pOr, or_comm])))
    subst hv
    replace hS32 : St B (own a7 ((pickF fOr l m).length) c8 3 1 (ri (pickF fOr l m)) :: own a26 ((pickF fOr m l).length) c27 3 1 (ri (pickF fOr m l)) :: (.pure True) :: (.pure True) :: own a3 ((pickF fAnd l m).length) c4 3 1 (ri (pickF fAnd l m)) :: own a12 ((pickF fLess l m).length) c13 3 1 (ri (pickF fLess l m)) :: (.pure True) :: L) w32 := hS32
    have hS34 : St B (own a7 ((pickF fOr l m).length) c8 3 1 (ri (pickF fOr l m)) :: (.pure True) :: (.pure True) :: own a3 ((pickF fAnd l m).length) c4 3 1 (ri (pickF fAnd l m)) :: own a12 ((pickF fLess l m).length) c13 3 1 (ri (pickF fLess l m)) :: (.pure True) :: L) w32 := (hS32.permT [1, 0, 0, 0, 0, 0, 0] (L' := own a26 ((pickF fOr m l).length) c27 3 1 (ri (pickF fOr m l)) :: own a7 ((pickF fOr l m).length) c8 3 1 (ri (pickF fOr l m)) :: (.pure True) :: (.pure True) :: own a3 ((pickF fAnd l m).length) c4 3 1 (ri (pickF fAnd l m)) :: own a12 ((pickF fLess l m).length) c13 3 1 (ri (pickF fLess l m)) :: (.pure True) :: L) rfl).drop
    clear hS32
    refine WO.val (run_pickT rfl rfl rfl) rfl rfl rfl ?_
    refine WO.val (run_move rfl) rfl rfl rfl ?_
    refine WO.on rfl rfl rfl ?_
    refine WO.val (run_move rfl) rfl rfl rfl ?_
    refine WO.on rfl rfl rfl ?_
    refine WO.val (run_move rfl) rfl rfl rfl ?_
    refine WO.on rfl rfl rfl ?_
    have hS37 := hS34.permT [3, 3, 0, 0, 0, 0] (L' := own a3 ((pickF fAnd l m).length) c4 3 1 (ri (pickF fAnd l m)) :: own a12 ((pickF fLess l m).length) c13 3 1 (ri (pickF fLess l m)) :: own a7 ((pickF fOr l m).length) c8 3 1 (ri (pickF fOr l m)) :: (.pure True) :: (.pure True) :: (.pure True) :: L) rfl
    clear hS34
    refine WO.call rfl rfl Ty.hd8 rfl (pOr_spec (l := (pickF fAnd l m)) (m := (pickF fLess l m)) (fun h => h.own_rd.1) (fun h => h.own_rd.1) (by first | omega | (have := pick_len fAnd l m; have := pick_len fOr l m; have := pick_len fLess l m; have := pick_len fAnd n l; have := pick_len fAnd n m; have := pick_len fLess n l; (try simp only [List.length_nil]); omega)) (by first | omega | (have := pick_len fAnd l m; have := pick_len fOr l m; have := pick_len fLess l m; have := pick_len fAnd n l; have := pick_len fAnd n m; have := pick_len fLess n l; (try simp only [List.length_nil]); omega)) hS37) (fun v39 w38 pv39 => ?_)
    obtain ⟨a35, c36, rfl, hS38⟩ := pv39
    clear hS37
    refine WO.on rfl rfl rfl ?_
    refine WO.val (run_move rfl) rfl rfl rfl ?_
    refine WO.on rfl rfl rfl ?_
    have hS40 := hS38.own_nil 3 1
    clear hS38
    have hS43 := hS40.permT [6, 0, 0, 0, 0, 0, 0, 0] (L' := (.pure True) :: own none 0 0 3 1 (ri []) :: own a35 ((pickF fOr (pickF fAnd l m) (pickF fLess l m)).length) c36 3 1 (ri (pickF fOr (pickF fAnd l m) (pickF fLess l m))) :: own a3 ((pickF fAnd l m).length) c4 3 1 (ri (pickF fAnd l m)) :: own a12 ((pickF fLess l m).length) c13 3 1 (ri (pickF fLess l m)) :: own a7 ((pickF fOr l m).length) c8 3 1 (ri (pickF fOr l m)) :: (.pure True) :: (.pure True) :: L) rfl
    clear hS40
    refine WO.call rfl rfl Ty.hd8 rfl (pOr_spec (l := l) (m := []) (fun h => St.rdB h hA) (fun h => h.own_rd.1) (by first | omega | (have := pick_len fAnd l m; have := pick_len fOr l m; have := pick_len fLess l m; have := pick_len fAnd n l; have := pick_len fAnd n m; have := pick_len fLess n l; (try simp only [List.length_nil]); omega)) (by first | omega | (have := pick_len fAnd l m; have := pick_len fOr l m; have := pick_len fLess l m; have := pick_len fAnd n l; have := pick_len fAnd n m; have := pick_len fLess n l; (try simp only [List.length_nil]); omega)) hS43) (fun v45 w44 pv45 => ?_)
    obtain ⟨a41, c42, rfl, hS44⟩ := pv45
    clear hS43
    refine WO.on rfl rfl rfl ?_
    have hS46 := hS44.permT [3, 0, 0, 0, 0, 0, 0, 0, 0] (L' := own a35 ((pickF fOr (pickF fAnd l m) (pickF fLess l m)).length) c36 3 1 (ri (pickF fOr (pickF fAnd l m) (pickF fLess l m))) :: own a41 ((pickF fOr l []).length) c42 3 1 (ri (pickF fOr l [])) :: (.pure True) :: own none 0 0 3 1 (ri []) :: own a3 ((pickF fAnd l m).length) c4 3 1 (ri (pickF fAnd l m)) :: own a12 ((pickF fLess l m).length) c13 3 1 (ri (pickF fLess l m)) :: own a7 ((pickF fOr l m).length) c8 3 1 (ri (pickF fOr l m)) :: (.pure True) :: (.pure True) :: L) rfl
    clear hS44
    refine WO.call rfl rfl Ty.hd10 rfl (same_spec (l := (pickF fOr (pickF fAnd l m) (pickF fLess l m))) (m := (pickF fOr l [])) (fun h => h.own_rd.1) (fun h => h.own_rd.1) (Nat.le_trans (pick_len _ _ _) (by have := pick_len fAnd l m; have := pick_len fOr l m; have := pick_len fLess l m; have := pick_len fAnd n l; have := pick_len fAnd n m; have := pick_len fLess n l; have := pick_len fLess n m; omega)) hS46) (fun v48 w47 pv48 => ?_)
    obtain ⟨hv, hS47⟩ := pv48
    clear hS46
    replace hv : v48 = Value.bool true := hv.trans (congrArg Value.bool (decide_eq_true (pk_eq fun z => by simp only [mem_pAnd, mem_pOr, mem_pLess]; by_cases h1 : z ∈ l <;> by_cases h2 : z ∈ m <;> by_cases h3 : z ∈ n <;> simp [h1, h2, h3])))
    subst hv
    replace hS47 : St B (own a35 ((pickF fOr (pickF fAnd l m) (pickF fLess l m)).length) c36 3 1 (ri (pickF fOr (pickF fAnd l m) (pickF fLess l m))) :: own a41 ((pickF fOr l []).length) c42 3 1 (ri (pickF fOr l [])) :: (.pure True) :: own none 0 0 3 1 (ri []) :: own a3 ((pickF fAnd l m).length) c4 3 1 (ri (pickF fAnd l m)) :: own a12 ((pickF fLess l m).length) c13 3 1 (ri (pickF fLess l m)) :: own a7 ((pickF fOr l m).length) c8 3 1 (ri (pickF fOr l m)) :: (.pure True) :: (.pure True) :: L) w47 := hS47
    have hS49 : St B ((.pure True) :: own a3 ((pickF fAnd l m).length) c4 3 1 (ri (pickF fAnd l m)) :: own a12 ((pickF fLess l m).length) c13 3 1 (ri (pickF fLess l m)) :: own a7 ((pickF fOr l m).length) c8 3 1 (ri (pickF fOr l m)) :: (.pure True) :: (.pure True) :: L) w47 := (hS47.permT [0, 0, 1, 0, 0, 0, 0, 0, 0] (L' := own a35 ((pickF fOr (pickF fAnd l m) (pickF fLess l m)).length) c36 3 1 (ri (pickF fOr (pickF fAnd l m) (pickF fLess l m))) :: own a41 ((pickF fOr l []).length) c42 3 1 (ri (pickF fOr l [])) :: own none 0 0 3 1 (ri []) :: (.pure True) :: own a3 ((pickF fAnd l m).length) c4 3 1 (ri (pickF fAnd l m)) :: own a12 ((pickF fLess l m).length) c13 3 1 (ri (pickF fLess l m)) :: own a7 ((pickF fOr l m).length) c8 3 1 (ri (pickF fOr l m)) :: (.pure True) :: (.pure True) :: L) rfl).drop.drop.drop
    clear hS47
    refine WO.val (run_pickT rfl rfl rfl) rfl rfl rfl ?_
    refine WO.val (run_move rfl) rfl rfl rfl ?_
    refine WO.on rfl rfl rfl ?_
    refine WO.val (run_move rfl) rfl rfl rfl ?_
    refine WO.on rfl rfl rfl ?_
    refine WO.val (run_move rfl) rfl rfl rfl ?_
    refine WO.on rfl rfl rfl ?_
    have hS52 := hS49.permT [1, 1, 0, 0, 0, 0] (L' := own a3 ((pickF fAnd l m).length) c4 3 1 (ri (pickF fAnd l m)) :: own a12 ((pickF fLess l m).length) c13 3 1 (ri (pickF fLess l m)) :: (.pure True) :: own a7 ((pickF fOr l m).length) c8 3 1 (ri (pickF fOr l m)) :: (.pure True) :: (.pure True) :: L) rfl
    clear hS49
    refine WO.call rfl rfl Ty.hd7 rfl (pAnd_spec (l := (pickF fAnd l m)) (m := (pickF fLess l m)) (fun h => h.own_rd.1) (fun h => h.own_rd.1) (by first | omega | (have := pick_len fAnd l m; have := pick_len fOr l m; have := pick_len fLess l m; have := pick_len fAnd n l; have := pick_len fAnd n m; have := pick_len fLess n l; (try simp only [List.length_nil]); omega)) (by first | omega | (have := pick_len fAnd l m; have := pick_len fOr l m; have := pick_len fLess l m; have := pick_len fAnd n l; have := pick_len fAnd n m; have := pick_len fLess n l; (try simp only [List.length_nil]); omega)) hS52) (fun v54 w53 pv54 => ?_)
    obtain ⟨a50, c51, rfl, hS53⟩ := pv54
    clear hS52
    refine WO.on rfl rfl rfl ?_
    refine WO.val (run_len rfl Tryz.underlying22 rfl) rfl rfl rfl ?_
    refine WO.on rfl rfl rfl ?_
    refine WO.val (run_eql rfl rfl) rfl rfl rfl ?_
    refine WO.val (run_pickT rfl rfl rfl) rfl rfl rfl ?_
    refine WO.val (run_move rfl) rfl rfl rfl ?_
    by_cases g61 : (((pickF fAnd (pickF fAnd l m) (pickF fLess l m)).length : Nat) : Int) = 0
    ·
     refine WO.on rfl rfl (decide_eq_true g61) ?_
     refine WO.val (run_move rfl) rfl rfl rfl ?_
     refine WO.on rfl rfl (decide_eq_true g61) ?_
     refine WO.val (run_move rfl) rfl rfl rfl ?_
     refine WO.on rfl rfl (decide_eq_true g61) ?_
     have hS57 := hS53.permT [6, 4, 0, 0, 0, 0, 0] (L' := (.pure True) :: own a7 ((pickF fOr l m).length) c8 3 1 (ri (pickF fOr l m)) :: own a50 ((pickF fAnd (pickF fAnd l m) (pickF fLess l m)).length) c51 3 1 (ri (pickF fAnd (pickF fAnd l m) (pickF fLess l m))) :: own a3 ((pickF fAnd l m).length) c4 3 1 (ri (pickF fAnd l m)) :: own a12 ((pickF fLess l m).length) c13 3 1 (ri (pickF fLess l m)) :: (.pure True) :: (.pure True) :: L) rfl
     clear hS53
     refine WO.call rfl rfl Ty.hd7 rfl (pAnd_spec (l := n) (m := (pickF fOr l m)) (fun h => St.rdB h hD) (fun h => h.own_rd.1) (by first | omega | (have := pick_len fAnd l m; have := pick_len fOr l m; have := pick_len fLess l m; have := pick_len fAnd n l; have := pick_len fAnd n m; have := pick_len fLess n l; (try simp only [List.length_nil]); omega)) (by first | omega | (have := pick_len fAnd l m; have := pick_len fOr l m; have := pick_len fLess l m; have := pick_len fAnd n l; have := pick_len fAnd n m; have := pick_len fLess n l; (try simp only [List.length_nil]); omega)) hS57) (fun v59 w58 pv59 => ?_)
     obtain ⟨a55, c56, rfl, hS58⟩ := pv59
     clear hS57
     refine WO.on rfl rfl (decide_eq_true g61) ?_
     refine WO.val (run_move rfl) rfl rfl rfl ?_
     refine WO.on rfl rfl (decide_eq_true g61) ?_
     refine WO.val (run_move rfl) rfl rfl rfl ?_
     refine WO.on rfl rfl (decide_eq_true g61) ?_
     have hS62 := hS58.permT [1, 5, 0, 0, 0, 0, 0, 0] (L' := (.pure True) :: (.pure True) :: own a55 ((pickF fAnd n (pickF fOr l m)).length) c56 3 1 (ri (pickF fAnd n (pickF fOr l m))) :: own a7 ((pickF fOr l m).length) c8 3 1 (ri (pickF fOr l m)) :: own a50 ((pickF fAnd (pickF fAnd l m) (pickF fLess l m)).length) c51 3 1 (ri (pickF fAnd (pickF fAnd l m) (pickF fLess l m))) :: own a3 ((pickF fAnd l m).length) c4 3 1 (ri (pickF fAnd l m)) :: own a12 ((pickF fLess l m).length) c13 3 1 (ri (pickF fLess l m)) :: (.pure True) :: L) rfl
     clear hS58
     refine WO.call rfl rfl Ty.hd7 rfl (pAnd_spec (l := n) (m := l) (fun h => St.rdB h hD) (fun h => St.rdB h hA) (by first | omega | (have := pick_len fAnd l m; have := pick_len fOr l m; have := pick_len fLess l m; have := pick_len fAnd n l; have := pick_len fAnd n m; have := pick_len fLess n l; (try simp only [List.length_nil]); omega)) (by first | omega | (have := pick_len fAnd l m; have := pick_len fOr l m; have := pick_len fLess l m; have := pick_len fAnd n l; have := pick_len fAnd n m; have := pick_len fLess n l; (try simp only [List.length_nil]); omega)) hS62) (fun v64 w63 pv64 => ?_)
     obtain ⟨a60, c61, rfl, hS63⟩ := pv64
     clear hS62
     refine WO.on rfl rfl (decide_eq_true g61) ?_
     refine WO.val (run_move rfl) rfl rfl rfl ?_
     refine WO.on rfl rfl (decide_eq_true g61) ?_
     refine WO.val (run_move rfl) rfl rfl rfl ?_
     refine WO.on rfl rfl (decide_eq_true g61) ?_
     have hS67 := hS63.permT [1, 7, 0, 0, 0, 0, 0, 0, 0] (L' := (.pure True) :: (.pure True) :: own a60 ((pickF fAnd n l).length) c61 3 1 (ri (pickF fAnd n l)) :: (.pure True) :: own a55 ((pickF fAnd n (pickF fOr l m)).length) c56 3 1 (ri (pickF fAnd n (pickF fOr l m))) :: own a7 ((pickF fOr l m).length) c8 3 1 (ri (pickF fOr l m)) :: own a50 ((pickF fAnd (pickF fAnd l m) (pickF fLess l m)).length) c51 3 1 (ri (pickF fAnd (pickF fAnd l m) (pickF fLess l m))) :: own a3 ((pickF fAnd l m).length) c4 3 1 (ri (pickF fAnd l m)) :: own a12 ((pickF fLess l m).length) c13 3 1 (ri (pickF fLess l m)) :: L) rfl
     clear hS63
     refine WO.call rfl rfl Ty.hd7 rfl (pAnd_spec (l := n) (m := m) (fun h => St.rdB h hD) (fun h => St.rdB h hC) (by first | omega | (have := pick_len fAnd l m; have := pick_len fOr l m; have := pick_len fLess l m; have := pick_len fAnd n l; have := pick_len fAnd n m; have := pick_len fLess n l; (try simp only [List.length_nil]); omega)) (by first | omega | (have := pick_len fAnd l m; have := pick_len fOr l m; have := pick_len fLess l m; have := pick_len fAnd n l; have := pick_len fAnd n m; have := pick_len fLess n l; (try simp only [List.length_nil]); omega)) hS67) (fun v69 w68 pv69 => ?_)
     obtain ⟨a65, c66, rfl, hS68⟩ := pv69
     clear hS67
     refine WO.on rfl rfl (decide_eq_true g61) ?_
     have hS72 := hS68.permT [3, 0, 0, 0, 0, 0, 0, 0, 0, 0] (L' := own a60 ((pickF fAnd n l).length) c61 3 1 (ri (pickF fAnd n l)) :: own a65 ((pickF fAnd n m).length) c66 3 1 (ri (pickF fAnd n m)) :: (.pure True) :: (.pure True) :: (.pure True) :: own a55 ((pickF fAnd n (pickF fOr l m)).length) c56 3 1 (ri (pickF fAnd n (pickF fOr l m))) :: own a7 ((pickF fOr l m).length) c8 3 1 (ri (pickF fOr l m)) :: own a50 ((pickF fAnd (pickF fAnd l m) (pickF fLess l m)).length) c51 3 1 (ri (pickF fAnd (pickF fAnd l m) (pickF fLess l m))) :: own a3 ((pickF fAnd l m).length) c4 3 1 (ri (pickF fAnd l m)) :: own a12 ((pickF fLess l m).length) c13 3 1 (ri (pickF fLess l m)) :: L) rfl
     clear hS68
     refine WO.call rfl rfl Ty.hd8 rfl (pOr_spec (l := (pickF fAnd n l)) (m := (pickF fAnd n m)) (fun h => h.own_rd.1) (fun h => h.own_rd.1) (by first | omega | (have := pick_len fAnd l m; have := pick_len fOr l m; have := pick_len fLess l m; have := pick_len fAnd n l; have := pick_len fAnd n m; have := pick_len fLess n l; (try simp only [List.length_nil]); omega)) (by first | omega | (have := pick_len fAnd l m; have := pick_len fOr l m; have := pick_len fLess l m; have := pick_len fAnd n l; have := pick_len fAnd n m; have := pick_len fLess n l; (try simp only [List.length_nil]); omega)) hS72) (fun v74 w73 pv74 => ?_)
     obtain ⟨a70, c71, rfl, hS73⟩ := pv74
     clear hS72
     refine WO.on rfl rfl (decide_eq_true g61) ?_
     have hS75 := hS73.permT [6, 0, 0, 0, 0, 0, 0, 0, 0, 0, 0] (L' := own a55 ((pickF fAnd n (pickF fOr l m)).length) c56 3 1 (ri (pickF fAnd n (pickF fOr l m))) :: own a70 ((pickF fOr (pickF fAnd n l) (pickF fAnd n m)).length) c71 3 1 (ri (pickF fOr (pickF fAnd n l) (pickF fAnd n m))) :: own a60 ((pickF fAnd n l).length) c61 3 1 (ri (pickF fAnd n l)) :: own a65 ((pickF fAnd n m).length) c66 3 1 (ri (pickF fAnd n m)) :: (.pure True) :: (.pure True) :: (.pure True) :: own a7 ((pickF fOr l m).length) c8 3 1 (ri (pickF fOr l m)) :: own a50 ((pickF fAnd (pickF fAnd l m) (pickF fLess l m)).length) c51 3 1 (ri (pickF fAnd (pickF fAnd l m) (pickF fLess l m))) :: own a3 ((pickF fAnd l m).length) c4 3 1 (ri (pickF fAnd l m)) :: own a12 ((pickF fLess l m).length) c13 3 1 (ri (pickF fLess l m)) :: L) rfl
     clear hS73
     refine WO.call rfl rfl Ty.hd10 rfl (same_spec (l := (pickF fAnd n (pickF fOr l m))) (m := (pickF fOr (pickF fAnd n l) (pickF fAnd n m))) (fun h => h.own_rd.1) (fun h => h.own_rd.1) (Nat.le_trans (pick_len _ _ _) (by have := pick_len fAnd l m; have := pick_len fOr l m; have := pick_len fLess l m; have := pick_len fAnd n l; have := pick_len fAnd n m; have := pick_len fLess n l; have := pick_len fLess n m; omega)) hS75) (fun v77 w76 pv77 => ?_)
     obtain ⟨hv, hS76⟩ := pv77
     clear hS75
     replace hv : v77 = Value.bool true := hv.trans (congrArg Value.bool (decide_eq_true (pk_eq fun z => by simp only [mem_pAnd, mem_pOr, mem_pLess]; by_cases h1 : z ∈ l <;> by_cases h2 : z ∈ m <;> by_cases h3 : z ∈ n <;> simp [h1, h2, h3])))
     subst hv
     replace hS76 : St B (own a55 ((pickF fAnd n (pickF fOr l m)).length) c56 3 1 (ri (pickF fAnd n (pickF fOr l m))) :: own a70 ((pickF fOr (pickF fAnd n l) (pickF fAnd n m)).length) c71 3 1 (ri (pickF fOr (pickF fAnd n l) (pickF fAnd n m))) :: own a60 ((pickF fAnd n l).length) c61 3 1 (ri (pickF fAnd n l)) :: own a65 ((pickF fAnd n m).length) c66 3 1 (ri (pickF fAnd n m)) :: (.pure True) :: (.pure True) :: (.pure True) :: own a7 ((pickF fOr l m).length) c8 3 1 (ri (pickF fOr l m)) :: own a50 ((pickF fAnd (pickF fAnd l m) (pickF fLess l m)).length) c51 3 1 (ri (pickF fAnd (pickF fAnd l m) (pickF fLess l m))) :: own a3 ((pickF fAnd l m).length) c4 3 1 (ri (pickF fAnd l m)) :: own a12 ((pickF fLess l m).length) c13 3 1 (ri (pickF fLess l m)) :: L) w76 := hS76
     have hS78 : St B ((.pure True) :: (.pure True) :: (.pure True) :: own a7 ((pickF fOr l m).length) c8 3 1 (ri (pickF fOr l m)) :: own a3 ((pickF fAnd l m).length) c4 3 1 (ri (pickF fAnd l m)) :: own a12 ((pickF fLess l m).length) c13 3 1 (ri (pickF fLess l m)) :: L) w76 := (hS76.permT [0, 0, 0, 0, 4, 0, 0, 0, 0, 0, 0] (L' := own a55 ((pickF fAnd n (pickF fOr l m)).length) c56 3 1 (ri (pickF fAnd n (pickF fOr l m))) :: own a70 ((pickF fOr (pickF fAnd n l) (pickF fAnd n m)).length) c71 3 1 (ri (pickF fOr (pickF fAnd n l) (pickF fAnd n m))) :: own a60 ((pickF fAnd n l).length) c61 3 1 (ri (pickF fAnd n l)) :: own a65 ((pickF fAnd n m).length) c66 3 1 (ri (pickF fAnd n m)) :: own a50 ((pickF fAnd (pickF fAnd l m) (pickF fLess l m)).length) c51 3 1 (ri (pickF fAnd (pickF fAnd l m) (pickF fLess l m))) :: (.pure True) :: (.pure True) :: (.pure True) :: own a7 ((pickF fOr l m).length) c8 3 1 (ri (pickF fOr l m)) :: own a3 ((pickF fAnd l m).length) c4 3 1 (ri (pickF fAnd l m)) :: own a12 ((pickF fLess l m).length) c13 3 1 (ri (pickF fLess l m)) :: L) rfl).drop.drop.drop.drop.drop
     clear hS76
     refine WO.val (run_pickT rfl (decide_eq_true g61) rfl) rfl rfl rfl ?_
     refine WO.val (run_move rfl) rfl rfl rfl ?_
     refine WO.on rfl rfl rfl ?_
     refine WO.val (run_move rfl) rfl rfl rfl ?_
     refine WO.on rfl rfl rfl ?_
     refine WO.val (run_move rfl) rfl rfl rfl ?_
     refine WO.on rfl rfl rfl ?_
     have hS81 := hS78.permT [0, 2, 0, 0, 0, 0] (L' := (.pure True) :: own a7 ((pickF fOr l m).length) c8 3 1 (ri (pickF fOr l m)) :: (.pure True) :: (.pure True) :: own a3 ((pickF fAnd l m).length) c4 3 1 (ri (pickF fAnd l m)) :: own a12 ((pickF fLess l m).length) c13 3 1 (ri (pickF fLess l m)) :: L) rfl
     clear hS78
     refine WO.call rfl rfl Ty.hd9 rfl (pLess_spec (l := n) (m := (pickF fOr l m)) (fun h => St.rdB h hD) (fun h => h.own_rd.1) (by first | omega | (have := pick_len fAnd l m; have := pick_len fOr l m; have := pick_len fLess l m; have := pick_len fAnd n l; have := pick_len fAnd n m; have := pick_len fLess n l; (try simp only [List.length_nil]); omega)) (by first | omega | (have := pick_len fAnd l m; have := pick_len fOr l m; have := pick_len fLess l m; have := pick_len fAnd n l; have := pick_len fAnd n m; have := pick_len fLess n l; (try simp only [List.length_nil]); omega)) hS81) (fun v83 w82 pv83 => ?_)
     obtain ⟨a79, c80, rfl, hS82⟩ := pv83
     clear hS81
     refine WO.on rfl rfl rfl ?_
     refine WO.val (run_move rfl) rfl rfl rfl ?_
     refine WO.on rfl rfl rfl ?_
     refine WO.val (run_move rfl) rfl rfl rfl ?_
     refine WO.on rfl rfl rfl ?_
     have hS86 := hS82.permT [1, 3, 0, 0, 0, 0, 0] (L' := (.pure True) :: (.pure True) :: own a79 ((pickF fLess n (pickF fOr l m)).length) c80 3 1 (ri (pickF fLess n (pickF fOr l m))) :: own a7 ((pickF fOr l m).length) c8 3 1 (ri (pickF fOr l m)) :: (.pure True) :: own a3 ((pickF fAnd l m).length) c4 3 1 (ri (pickF fAnd l m)) :: own a12 ((pickF fLess l m).length) c13 3 1 (ri (pickF fLess l m)) :: L) rfl
     clear hS82
     refine WO.call rfl rfl Ty.hd9 rfl (pLess_spec (l := n) (m := l) (fun h => St.rdB h hD) (fun h => St.rdB h hA) (by first | omega | (have := pick_len fAnd l m; have := pick_len fOr l m; have := pick_len fLess l m; have := pick_len fAnd n l; have := pick_len fAnd n m; have := pick_len fLess n l; (try simp only [List.length_nil]); omega)) (by first | omega | (have := pick_len fAnd l m; have := pick_len fOr l m; have := pick_len fLess l m; have := pick_len fAnd n l; have := pick_len fAnd n m; have := pick_len fLess n l; (try simp only [List.length_nil]); omega)) hS86) (fun v88 w87 pv88 => ?_)
     obtain ⟨a84, c85, rfl, hS87⟩ := pv88
     clear hS86
     refine WO.on rfl rfl rfl ?_
     refine WO.val (run_move rfl) rfl rfl rfl ?_
     refine WO.on rfl rfl rfl ?_
     have hS91 := hS87.permT [0, 4, 0, 0, 0, 0, 0, 0] (L' := own a84 ((pickF fLess n l).length) c85 3 1 (ri (pickF fLess n l)) :: (.pure True) :: (.pure True) :: (.pure True) :: own a79 ((pickF fLess n (pickF fOr l m)).length) c80 3 1 (ri (pickF fLess n (pickF fOr l m))) :: own a7 ((pickF fOr l m).length) c8 3 1 (ri (pickF fOr l m)) :: own a3 ((pickF fAnd l m).length) c4 3 1 (ri (pickF fAnd l m)) :: own a12 ((pickF fLess l m).length) c13 3 1 (ri (pickF fLess l m)) :: L) rfl
     clear hS87
     refine WO.call rfl rfl Ty.hd9 rfl (pLess_spec (l := (pickF fLess n l)) (m := m) (fun h => h.own_rd.1) (fun h => St.rdB h hC) (by first | omega | (have := pick_len fAnd l m; have := pick_len fOr l m; have := pick_len fLess l m; have := pick_len fAnd n l; have := pick_len fAnd n m; have := pick_len fLess n l; (try simp only [List.length_nil]); omega)) (by first | omega | (have := pick_len fAnd l m; have := pick_len fOr l m; have := pick_len fLess l m; have := pick_len fAnd n l; have := pick_len fAnd n m; have := pick_len fLess n l; (try simp only [List.length_nil]); omega)) hS91) (fun v93 w92 pv93 => ?_)
     obtain ⟨a89, c90, rfl, hS92⟩ := pv93
     clear hS91
     refine WO.on rfl rfl rfl ?_
     have hS94 := hS92.permT [5, 0, 0, 0, 0, 0, 0, 0, 0] (L' := own a79 ((pickF fLess n (pickF fOr l m)).length) c80 3 1 (ri (pickF fLess n (pickF fOr l m))) :: own a89 ((pickF fLess (pickF fLess n l) m).length) c90 3 1 (ri (pickF fLess (pickF fLess n l) m)) :: own a84 ((pickF fLess n l).length) c85 3 1 (ri (pickF fLess n l)) :: (.pure True) :: (.pure True) :: (.pure True) :: own a7 ((pickF fOr l m).length) c8 3 1 (ri (pickF fOr l m)) :: own a3 ((pickF fAnd l m).length) c4 3 1 (ri (pickF fAnd l m)) :: own a12 ((pickF fLess l m).length) c13 3 1 (ri (pickF fLess l m)) :: L) rfl
     clear hS92
     refine WO.call rfl rfl Ty.hd10 rfl (same_spec (l := (pickF fLess n (pickF fOr l m))) (m := (pickF fLess (pickF fLess n l) m)) (fun h => h.own_rd.1) (fun h => h.own_rd.1) (Nat.le_trans (pick_len _ _ _) (by have := pick_len fAnd l m; have := pick_len fOr l m; have := pick_len fLess l m; have := pick_len fAnd n l; have := pick_len fAnd n m; have := pick_len fLess n l; have := pick_len fLess n m; omega)) hS94) (fun v96 w95 pv96 => ?_)
     obtain ⟨hv, hS95⟩ := pv96
     clear hS94
     replace hv : v96 = Value.bool true := hv.trans (congrArg Value.bool (decide_eq_true (pk_eq fun z => by simp only [mem_pAnd, mem_pOr, mem_pLess]; by_cases h1 : z ∈ l <;> by_cases h2 : z ∈ m <;> by_cases h3 : z ∈ n <;> simp [h1, h2, h3])))
     subst hv
     replace hS95 : St B (own a79 ((pickF fLess n (pickF fOr l m)).length) c80 3 1 (ri (pickF fLess n (pickF fOr l m))) :: own a89 ((pickF fLess (pickF fLess n l) m).length) c90 3 1 (ri (pickF fLess (pickF fLess n l) m)) :: own a84 ((pickF fLess n l).length) c85 3 1 (ri (pickF fLess n l)) :: (.pure True) :: (.pure True) :: (.pure True) :: own a7 ((pickF fOr l m).length) c8 3 1 (ri (pickF fOr l m)) :: own a3 ((pickF fAnd l m).length) c4 3 1 (ri (pickF fAnd l m)) :: own a12 ((pickF fLess l m).length) c13 3 1 (ri (pickF fLess l m)) :: L) w95 := hS95
     have hS97 : St B ((.pure True) :: (.pure True) :: (.pure True) :: own a7 ((pickF fOr l m).length) c8 3 1 (ri (pickF fOr l m)) :: own a3 ((pickF fAnd l m).length) c4 3 1 (ri (pickF fAnd l m)) :: own a12 ((pickF fLess l m).length) c13 3 1 (ri (pickF fLess l m)) :: L) w95 := hS95.drop.drop.drop
     clear hS95
     refine WO.val (run_pickT rfl rfl rfl) rfl rfl rfl ?_
     refine WO.val (run_assign rfl) rfl rfl rfl ?_
     refine WO.nil ?_
     refine NX.go ?_
     refine WP.ret ?_
     refine NX.done (l := [.tmp 6]) rfl rfl ?_
     exact ⟨rfl, hS97.drop.drop.drop.drop.drop.drop⟩
    ·
     exact absurd (by rw [and_less_nil]; rfl) g61
end Go.Proofs.YtogidmceomlkeaaGreatDoor.SL
