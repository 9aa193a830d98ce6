/- What was synced is there behind any crash. -/
import Derived.Test.YtcehlnpbdffdhaaDoorDk5
namespace Go.Proofs.YtcehlnpbdffdhaaDoor.SL
open Go.RowKit Go.Proofs.YtcehlnpbdffdhaaDoor
open Go.Proofs.YtcehlnpbdffdhaaDoorW.PrintLast (rtab opsOf)
set_option linter.unusedVariables false
set_option linter.unusedSimpArgs false
theorem diskLasts_core_t11 : rtab .any (opsOf Tryd.f8 11) = (true, [([], []), ([], []), ([], []), ([0, 1, 2, 1], [0, 1, 2])]) := by kernel_rfl
theorem diskLasts_core {B w : World} {L : List HP} {aa ka : Option Addr} {ac kc : Nat} {l : List ActA} {zs : List Int} (xx yy : List UInt8) (hA : Rd B aa l.length 6 (l.flatMap aac)) (hall : ∀ x ∈ l, ActOk B x) (hK : Rd B ka zs.length 1 (ri zs)) (hS : St B L w) : Does Tryd.prog 8 [Value.slice aa l.length ac, str xx, str yy, Value.slice ka zs.length kc] w (fun v w1 => v = .bool true ∧ St B L w1) := by
 replace hS := (hS.addPure (p := True) trivial).addPure (p := True) trivial
 refine enter (n := 136) Tryd.func8 rfl rfl [Value.slice aa l.length ac, str xx, str yy, Value.slice ka zs.length kc] rfl ?_
 refine WP.seq ?_
 refine WP.region rfl ?_
 refine WO.val (run_assign rfl) rfl rfl rfl ?_
 refine WO.nil ?_
 refine NX.go ?_
 refine WP.seq ?_
 refine WP.seq ?_
 refine WP.region rfl ?_
 refine WO.call rfl rfl Ty.hd21 rfl (dworks_spec hS) (fun v2 w1 pv2 => ?_)
 obtain ⟨rfl, hS1⟩ := pv2
 clear hS
 refine WO.val (run_not rfl rfl) rfl rfl rfl ?_
 refine WO.nil ?_
 refine NX.go ?_
 refine WP.condF rfl (notB_t rfl) ?_
 refine WP.skip ?_
 refine NX.go ?_
 refine WP.seq ?_
 refine WP.seq ?_
 refine WP.region rfl ?_
 refine WO.val (run_move rfl) rfl rfl rfl ?_
 refine WO.val (run_lenS rfl Tryd.underlying9 rfl) rfl rfl rfl ?_
 refine WO.val (run_gtr rfl rfl) rfl rfl rfl ?_
 refine WO.val (run_move rfl) rfl rfl rfl ?_
 by_cases g19 : 1000 < (xx.length : Int)
 ·
  refine WO.off rfl rfl (decide_eq_true g19) rfl ?_
  refine WO.off rfl rfl (decide_eq_true g19) rfl ?_
  refine WO.off rfl rfl (decide_eq_true g19) rfl ?_
  refine WO.val (run_pickT rfl (decide_eq_true g19) rfl) rfl rfl rfl ?_
  refine WO.val (run_move rfl) rfl rfl rfl ?_
  refine WO.off rfl rfl rfl rfl ?_
  refine WO.off rfl rfl rfl rfl ?_
  refine WO.off rfl rfl rfl rfl ?_
  refine WO.val (run_pickT rfl rfl rfl) rfl rfl rfl ?_
  refine WO.nil ?_
  refine NX.go ?_
  refine WP.condT rfl rfl ?_
  refine WP.seq ?_
  refine WP.region rfl ?_
  refine WO.val (run_assign rfl) rfl rfl rfl ?_
  refine WO.nil ?_
  refine NX.go ?_
  refine WP.ret ?_
  refine NX.thenRet ?_
  refine NX.done (l := [.tmp 8]) rfl rfl ?_
  exact ⟨rfl, hS1.drop.drop⟩
 ·
  refine WO.on rfl rfl (decide_eq_false g19) ?_
  refine WO.val (run_move rfl) rfl rfl rfl ?_
  refine WO.on rfl rfl (decide_eq_false g19) ?_
  refine WO.val (run_lenS rfl Tryd.underlying9 rfl) rfl rfl rfl ?_
  refine WO.on rfl rfl (decide_eq_false g19) ?_
  refine WO.val (run_gtr rfl rfl) rfl rfl rfl ?_
  refine WO.val (run_pickF rfl (decide_eq_false g19) rfl) rfl rfl rfl ?_
  refine WO.val (run_move rfl) rfl rfl rfl ?_
  by_cases g24 : 1000 < (yy.length : Int)
  ·
   refine WO.off rfl rfl (decide_eq_true g24) rfl ?_
   refine WO.off rfl rfl (decide_eq_true g24) rfl ?_
   refine WO.off rfl rfl (decide_eq_true g24) rfl ?_
   refine WO.val (run_pickT rfl (decide_eq_true g24) rfl) rfl rfl rfl ?_
   refine WO.nil ?_
   refine NX.go ?_
   refine WP.condT rfl rfl ?_
   refine WP.seq ?_
   refine WP.region rfl ?_
   refine WO.val (run_assign rfl) rfl rfl rfl ?_
   refine WO.nil ?_
   refine NX.go ?_
   refine WP.ret ?_
   refine NX.thenRet ?_
   refine NX.done (l := [.tmp 8]) rfl rfl ?_
   exact ⟨rfl, hS1.drop.drop⟩
  ·
   refine WO.on rfl rfl (decide_eq_false g24) ?_
   refine WO.val (run_move rfl) rfl rfl rfl ?_
   refine WO.on rfl rfl (decide_eq_false g24) ?_
   refine WO.val (run_len rfl Tryd.underlying50 rfl) rfl rfl rfl ?_
   refine WO.on rfl rfl (decide_eq_false g24) ?_
   refine WO.val (run_gtr rfl rfl) rfl rfl rfl ?_
   refine WO.val (run_pickF rfl (decide_eq_false g24) rfl) rfl rfl rfl ?_
   refine WO.nil ?_
   refine NX.go ?_
   refine WP.condP rfl (fun g28 => ?_) (fun g28 => ?_)
   ·
    refine WP.seq ?_
    refine WP.region rfl ?_
    refine WO.val (run_assign rfl) rfl rfl rfl ?_
    refine WO.nil ?_
    refine NX.go ?_
    refine WP.ret ?_
    refine NX.thenRet ?_
    refine NX.done (l := [.tmp 8]) rfl rfl ?_
    exact ⟨rfl, hS1.drop.drop⟩
   ·
    refine WP.skip ?_
    refine NX.go ?_
    refine WP.seq ?_
    refine WP.region rfl ?_
    refine WO.call rfl rfl Ty.hd22 rfl (dnew_spec 1048576 hS1) (fun v5 w4 pv5 => ?_)
    obtain ⟨g3, rfl, hS4⟩ := pv5
    clear hS1
    refine WO.val (run_assign rfl) rfl rfl rfl ?_
    refine WO.nil ?_
    refine NX.go ?_
    refine WP.seq ?_
    refine WP.seq ?_
    refine WP.region rfl ?_
    refine WO.val (run_assign rfl) rfl rfl rfl ?_
    refine WO.nil ?_
    refine NX.go ?_
    refine WP.block ?_
    refine WP.loop (α := Nat × Dk) (fun x => match x with | ⟨i, D⟩ => [(0, Value.slice aa l.length ac), (1, str xx), (2, str yy), (3, Value.slice ka zs.length kc), (8, Value.bool false), (9, Value.pointer (some ⟨g3, 0, none⟩)), (10, Value.int .i64 (i : Int))]) (fun x w => match x with | ⟨i, D⟩ => (OkD D i (1000 * i) ∧ LI D (1000 * i) ∧ i ≤ 40) ∧ St B (dkA g3 D :: (.pure True) :: (.pure True) :: L) w) (fun x => match x with | ⟨i, D⟩ => 40 - i) (0, newD 1048576) ⟨⟨OkD.new (by omega), LI.new, Nat.zero_le _⟩, hS4⟩ (Sub.cons rfl (Sub.cons rfl (Sub.cons rfl (Sub.cons rfl (Sub.cons rfl (Sub.cons rfl (Sub.consE rfl (by first | rfl | first | rfl | (congr 1; omega) | (simp; done) | (simp; omega)) (Sub.nil _)))))))) ?_
    rintro ⟨i, D⟩ w6 ⟨⟨kD, hli, hi⟩, hS6⟩
    clear hS4
    refine WP.seq ?_
    refine WP.seq ?_
    refine WP.region rfl ?_
    refine WO.val (run_move rfl) rfl rfl rfl ?_
    refine WO.val (run_move rfl) rfl rfl rfl ?_
    refine WO.val (run_len rfl Tryd.underlying59 rfl) rfl rfl rfl ?_
    refine WO.val (run_lss rfl rfl) rfl rfl rfl ?_
    refine WO.val (run_move rfl) rfl rfl rfl ?_
    by_cases g34 : (i : Int) < ((l.length : Nat) : Int)
    ·
     refine WO.on rfl rfl (decide_eq_true g34) ?_
     refine WO.val (run_move rfl) rfl rfl rfl ?_
     refine WO.on rfl rfl (decide_eq_true g34) ?_
     refine WO.val (run_lss rfl rfl) rfl rfl rfl ?_
     refine WO.val (run_pickT rfl (decide_eq_true g34) rfl) rfl rfl rfl ?_
     refine WO.nil ?_
     refine NX.go ?_
     refine WP.condP rfl (fun g37 => ?_) (fun g37 => ?_)
     ·
      refine WP.skip ?_
      refine NX.go ?_
      refine WP.seq ?_
      refine WP.block ?_
      refine WP.seq ?_
      obtain ⟨x, hx0⟩ : ∃ x, l[i]? = some x := ⟨_, List.getElem?_eq_getElem (by omega)⟩
      have hx := hall x (List.mem_of_getElem? hx0)
      have hsa : aa.isSome = true := by obtain ⟨q, hq, _⟩ := (((fun h => St.rdB h hA) (hS6.focus 1 rfl))).2.1 (by omega); rw [hq]; rfl
      refine WP.region rfl ?_
      refine WO.val (run_move rfl) rfl rfl rfl ?_
      refine WO.val (run_move rfl) rfl rfl rfl ?_
      refine WO.val (run_indexAddr (q := adr aa (i * 6)) Tryd.underlying59 Ty.sz63 rfl rfl (by omega) (by omega) (((fun h => St.rdB h hA) (hS6.focus 1 rfl)).2.1 (by omega)) rfl) rfl rfl rfl ?_
      refine WO.val (run_loadAgg (vs := [Value.int .i64 x.kind, str x.name, str x.to_, str x.text, Value.int .i64 x.fuse, Value.slice x.keep.a x.keep.l.length x.keep.cap]) Ty.ag63 Ty.sz63 rfl (((fun h => St.rdB h hA) (hS6.focus 1 rfl)).cells (by rw [flat_len aac_len]; omega) (flat_part aac_len hx0)).1 (((fun h => St.rdB h hA) (hS6.focus 1 rfl)).cells (by rw [flat_len aac_len]; omega) (flat_part aac_len hx0)).2) rfl rfl rfl ?_
      refine WO.alloc (l := [Value.int .i64 0, str [], str [], str [], Value.int .i64 0, Value.slice none 0 0]) hS6 Ty.zr63 rfl rfl (fun g8 w7 lg8 hS7 => ?_)
      clear hS6
      refine WO.store (l' := [Value.int .i64 x.kind, str x.name, str x.to_, str x.text, Value.int .i64 x.fuse, Value.slice x.keep.a x.keep.l.length x.keep.cap]) 0 hS7 rfl Ty.sz63 rfl rfl rfl rfl rfl (Nat.le_of_ble_eq_true rfl) rfl (fun w9 (hS9 : St B (cel g8 [Value.int .i64 x.kind, str x.name, str x.to_, str x.text, Value.int .i64 x.fuse, Value.slice x.keep.a x.keep.l.length x.keep.cap] 63 :: dkA g3 D :: (.pure True) :: (.pure True) :: L) w9) => ?_)
      clear hS7
      refine WO.nil ?_
      refine NX.go ?_
      refine WP.seq ?_
      refine WP.seq ?_
      refine WP.region rfl ?_
      refine WO.val (run_fieldAddr (q := ⟨g8, 1, none⟩) (show fieldB Tryd.prog 63 1 = some 1 from by kernel_rfl) rfl rfl) rfl rfl rfl ?_
      refine WO.val (run_load Ty.ag9 rfl ((hS9.cel_at 0 rfl 1).trans rfl)) rfl rfl rfl ?_
      refine WO.val (run_eqlS rfl rfl) rfl rfl rfl ?_
      refine WO.val (run_move rfl) rfl rfl rfl ?_
      by_cases g47 : x.name = [105, 116]
      ·
       refine WO.off rfl rfl (decide_eq_true g47) rfl ?_
       refine WO.off rfl rfl (decide_eq_true g47) rfl ?_
       refine WO.off rfl rfl (decide_eq_true g47) rfl ?_
       refine WO.val (run_pickT rfl (decide_eq_true g47) rfl) rfl rfl rfl ?_
       refine WO.val (run_move rfl) rfl rfl rfl ?_
       refine WO.off rfl rfl rfl rfl ?_
       refine WO.off rfl rfl rfl rfl ?_
       refine WO.off rfl rfl rfl rfl ?_
       refine WO.off rfl rfl rfl rfl ?_
       refine WO.val (run_pickT rfl rfl rfl) rfl rfl rfl ?_
       refine WO.val (run_move rfl) rfl rfl rfl ?_
       refine WO.off rfl rfl rfl rfl ?_
       refine WO.off rfl rfl rfl rfl ?_
       refine WO.off rfl rfl rfl rfl ?_
       refine WO.off rfl rfl rfl rfl ?_
       refine WO.val (run_pickT rfl rfl rfl) rfl rfl rfl ?_
       refine WO.val (run_move rfl) rfl rfl rfl ?_
       refine WO.off rfl rfl rfl rfl ?_
       refine WO.off rfl rfl rfl rfl ?_
       refine WO.off rfl rfl rfl rfl ?_
       refine WO.val (run_pickT rfl rfl rfl) rfl rfl rfl ?_
       refine WO.nil ?_
       refine NX.go ?_
       refine WP.condT rfl rfl ?_
       refine WP.exit ?_
       refine NX.thenExit ?_
       refine NX.blkExit ?_
       refine NX.go ?_
       refine WP.region rfl ?_
       refine WO.val (run_move rfl) rfl rfl rfl ?_
       refine WO.val (run_add rfl rfl (IntWalk.i64_in _ (by omega))) rfl rfl rfl ?_
       refine WO.val (run_assign rfl) rfl rfl rfl ?_
       refine WO.nil ?_
       exact NX.again (i + 1, D) ⟨⟨kD.mono (by omega) (by omega), hli.mono (by omega), by omega⟩, hS9.drop⟩ (by show 40 - (i + 1) < 40 - i; omega) (Sub.cons rfl (Sub.cons rfl (Sub.cons rfl (Sub.cons rfl (Sub.cons rfl (Sub.cons rfl (Sub.consE rfl (by congr 1) (Sub.nil _))))))))
      ·
       refine WO.on rfl rfl (decide_eq_false g47) ?_
       refine WO.val (run_fieldAddr (q := ⟨g8, 2, none⟩) (show fieldB Tryd.prog 63 2 = some 2 from by kernel_rfl) rfl rfl) rfl rfl rfl ?_
       refine WO.on rfl rfl (decide_eq_false g47) ?_
       refine WO.val (run_load Ty.ag9 rfl ((hS9.cel_at 0 rfl 2).trans rfl)) rfl rfl rfl ?_
       refine WO.on rfl rfl (decide_eq_false g47) ?_
       refine WO.val (run_eqlS rfl rfl) rfl rfl rfl ?_
       refine WO.val (run_pickF rfl (decide_eq_false g47) rfl) rfl rfl rfl ?_
       refine WO.val (run_move rfl) rfl rfl rfl ?_
       by_cases g52 : x.to_ = [105, 116]
       ·
        refine WO.off rfl rfl (decide_eq_true g52) rfl ?_
        refine WO.off rfl rfl (decide_eq_true g52) rfl ?_
        refine WO.off rfl rfl (decide_eq_true g52) rfl ?_
        refine WO.off rfl rfl (decide_eq_true g52) rfl ?_
        refine WO.val (run_pickT rfl (decide_eq_true g52) rfl) rfl rfl rfl ?_
        refine WO.val (run_move rfl) rfl rfl rfl ?_
        refine WO.off rfl rfl rfl rfl ?_
        refine WO.off rfl rfl rfl rfl ?_
        refine WO.off rfl rfl rfl rfl ?_
        refine WO.off rfl rfl rfl rfl ?_
        refine WO.val (run_pickT rfl rfl rfl) rfl rfl rfl ?_
        refine WO.val (run_move rfl) rfl rfl rfl ?_
        refine WO.off rfl rfl rfl rfl ?_
        refine WO.off rfl rfl rfl rfl ?_
        refine WO.off rfl rfl rfl rfl ?_
        refine WO.val (run_pickT rfl rfl rfl) rfl rfl rfl ?_
        refine WO.nil ?_
        refine NX.go ?_
        refine WP.condT rfl rfl ?_
        refine WP.exit ?_
        refine NX.thenExit ?_
        refine NX.blkExit ?_
        refine NX.go ?_
        refine WP.region rfl ?_
        refine WO.val (run_move rfl) rfl rfl rfl ?_
        refine WO.val (run_add rfl rfl (IntWalk.i64_in _ (by omega))) rfl rfl rfl ?_
        refine WO.val (run_assign rfl) rfl rfl rfl ?_
        refine WO.nil ?_
        exact NX.again (i + 1, D) ⟨⟨kD.mono (by omega) (by omega), hli.mono (by omega), by omega⟩, hS9.drop⟩ (by show 40 - (i + 1) < 40 - i; omega) (Sub.cons rfl (Sub.cons rfl (Sub.cons rfl (Sub.cons rfl (Sub.cons rfl (Sub.cons rfl (Sub.consE rfl (by congr 1) (Sub.nil _))))))))
       ·
        refine WO.on rfl rfl (decide_eq_false g52) ?_
        refine WO.val (run_fieldAddr (q := ⟨g8, 3, none⟩) (show fieldB Tryd.prog 63 3 = some 3 from by kernel_rfl) rfl rfl) rfl rfl rfl ?_
        refine WO.on rfl rfl (decide_eq_false g52) ?_
        refine WO.val (run_load Ty.ag9 rfl ((hS9.cel_at 0 rfl 3).trans rfl)) rfl rfl rfl ?_
        refine WO.on rfl rfl (decide_eq_false g52) ?_
        refine WO.val (run_lenS rfl Tryd.underlying9 rfl) rfl rfl rfl ?_
        refine WO.on rfl rfl (decide_eq_false g52) ?_
        refine WO.val (run_gtr rfl rfl) rfl rfl rfl ?_
        refine WO.val (run_pickF rfl (decide_eq_false g52) rfl) rfl rfl rfl ?_
        refine WO.val (run_move rfl) rfl rfl rfl ?_
        by_cases g58 : 1000 < (x.text.length : Int)
        ·
         refine WO.off rfl rfl (decide_eq_true g58) rfl ?_
         refine WO.off rfl rfl (decide_eq_true g58) rfl ?_
         refine WO.off rfl rfl (decide_eq_true g58) rfl ?_
         refine WO.off rfl rfl (decide_eq_true g58) rfl ?_
         refine WO.val (run_pickT rfl (decide_eq_true g58) rfl) rfl rfl rfl ?_
         refine WO.val (run_move rfl) rfl rfl rfl ?_
         refine WO.off rfl rfl rfl rfl ?_
         refine WO.off rfl rfl rfl rfl ?_
         refine WO.off rfl rfl rfl rfl ?_
         refine WO.val (run_pickT rfl rfl rfl) rfl rfl rfl ?_
         refine WO.nil ?_
         refine NX.go ?_
         refine WP.condT rfl rfl ?_
         refine WP.exit ?_
         refine NX.thenExit ?_
         refine NX.blkExit ?_
         refine NX.go ?_
         refine WP.region rfl ?_
         refine WO.val (run_move rfl) rfl rfl rfl ?_
         refine WO.val (run_add rfl rfl (IntWalk.i64_in _ (by omega))) rfl rfl rfl ?_
         refine WO.val (run_assign rfl) rfl rfl rfl ?_
         refine WO.nil ?_
         exact NX.again (i + 1, D) ⟨⟨kD.mono (by omega) (by omega), hli.mono (by omega), by omega⟩, hS9.drop⟩ (by show 40 - (i + 1) < 40 - i; omega) (Sub.cons rfl (Sub.cons rfl (Sub.cons rfl (Sub.cons rfl (Sub.cons rfl (Sub.cons rfl (Sub.consE rfl (by congr 1) (Sub.nil _))))))))
        ·
         refine WO.on rfl rfl (decide_eq_false g58) ?_
         refine WO.val (run_fieldAddr (q := ⟨g8, 5, none⟩) (show fieldB Tryd.prog 63 5 = some 5 from by kernel_rfl) rfl rfl) rfl rfl rfl ?_
         refine WO.on rfl rfl (decide_eq_false g58) ?_
         refine WO.val (run_load Ty.ag50 rfl ((hS9.cel_at 0 rfl 5).trans rfl)) rfl rfl rfl ?_
         refine WO.on rfl rfl (decide_eq_false g58) ?_
         refine WO.val (run_len rfl Tryd.underlying50 rfl) rfl rfl rfl ?_
         refine WO.on rfl rfl (decide_eq_false g58) ?_
         refine WO.val (run_gtr rfl rfl) rfl rfl rfl ?_
         refine WO.val (run_pickF rfl (decide_eq_false g58) rfl) rfl rfl rfl ?_
         refine WO.val (run_move rfl) rfl rfl rfl ?_
         by_cases g64 : 200 < ((x.keep.l.length : Nat) : Int)
         ·
          refine WO.off rfl rfl (decide_eq_true g64) rfl ?_
          refine WO.off rfl rfl (decide_eq_true g64) rfl ?_
          refine WO.off rfl rfl (decide_eq_true g64) rfl ?_
          refine WO.val (run_pickT rfl (decide_eq_true g64) rfl) rfl rfl rfl ?_
          refine WO.nil ?_
          refine NX.go ?_
          refine WP.condT rfl rfl ?_
          refine WP.exit ?_
          refine NX.thenExit ?_
          refine NX.blkExit ?_
          refine NX.go ?_
          refine WP.region rfl ?_
          refine WO.val (run_move rfl) rfl rfl rfl ?_
          refine WO.val (run_add rfl rfl (IntWalk.i64_in _ (by omega))) rfl rfl rfl ?_
          refine WO.val (run_assign rfl) rfl rfl rfl ?_
          refine WO.nil ?_
          exact NX.again (i + 1, D) ⟨⟨kD.mono (by omega) (by omega), hli.mono (by omega), by omega⟩, hS9.drop⟩ (by show 40 - (i + 1) < 40 - i; omega) (Sub.cons rfl (Sub.cons rfl (Sub.cons rfl (Sub.cons rfl (Sub.cons rfl (Sub.cons rfl (Sub.consE rfl (by congr 1) (Sub.nil _))))))))
         ·
          refine WO.on rfl rfl (decide_eq_false g64) ?_
          refine WO.val (run_fieldAddr (q := ⟨g8, 0, none⟩) (show fieldB Tryd.prog 63 0 = some 0 from by kernel_rfl) rfl rfl) rfl rfl rfl ?_
          refine WO.on rfl rfl (decide_eq_false g64) ?_
          refine WO.val (run_load Ty.ag3 rfl ((hS9.cel_at 0 rfl 0).trans rfl)) rfl rfl rfl ?_
          refine WO.on rfl rfl (decide_eq_false g64) ?_
          refine WO.val (run_eql rfl rfl) rfl rfl rfl ?_
          refine WO.val (run_pickF rfl (decide_eq_false g64) rfl) rfl rfl rfl ?_
          refine WO.nil ?_
          refine NX.go ?_
          refine WP.condP rfl (fun g68 => ?_) (fun g68 => ?_)
          ·
           refine WP.exit ?_
           refine NX.thenExit ?_
           refine NX.blkExit ?_
           refine NX.go ?_
           refine WP.region rfl ?_
           refine WO.val (run_move rfl) rfl rfl rfl ?_
           refine WO.val (run_add rfl rfl (IntWalk.i64_in _ (by omega))) rfl rfl rfl ?_
           refine WO.val (run_assign rfl) rfl rfl rfl ?_
           refine WO.nil ?_
           exact NX.again (i + 1, D) ⟨⟨kD.mono (by omega) (by omega), hli.mono (by omega), by omega⟩, hS9.drop⟩ (by show 40 - (i + 1) < 40 - i; omega) (Sub.cons rfl (Sub.cons rfl (Sub.cons rfl (Sub.cons rfl (Sub.cons rfl (Sub.cons rfl (Sub.consE rfl (by congr 1) (Sub.nil _))))))))
          ·
           refine WP.skip ?_
           refine NX.go ?_
           refine WD.start (fun w => (∀ j, World.cell? w ⟨g8, j, none⟩ = [Value.int .i64 x.kind, str x.name, str x.to_, str x.text, Value.int .i64 x.fuse, Value.slice x.keep.a x.keep.l.length x.keep.cap][j]?)) [] #[false, false, false, false] Ty.mo rfl (by kernel_rfl) hS9 (fun _ h => h.cel_at 0 rfl) (fun w10 hS10 s11 => ?_)
           clear hS9
           refine WD.pure (i := 0) diskLasts_core_t11 #[true, false, false, false] rfl rfl rfl (by kernel_rfl) (PQ.blk (PQ.then (PQ.then (PQ.blk (PQ.then PQ.body))))) rfl (fun w => run_move rfl) ?_
           refine WD.take (i := 2) diskLasts_core_t11 #[true, false, true, false] s11 rfl rfl rfl (by kernel_rfl) (PQ.blk (PQ.then (PQ.then (PQ.blk (PQ.then PQ.body))))) rfl (fun w hs => run_loadAgg (vs := [Value.int .i64 x.kind, str x.name, str x.to_, str x.text, Value.int .i64 x.fuse, Value.slice x.keep.a x.keep.l.length x.keep.cap]) Ty.ag63 Ty.sz63 rfl rfl (cell_all (hs) 0 rfl)) ?_
           refine WD.one (i := 1) diskLasts_core_t11 #[true, true, true, false] rfl (by kernel_rfl) ?_
           refine WO.call rfl rfl Ty.hd32 rfl (r4new_spec 0 hS10) (fun v14 w13 pv14 => ?_)
           obtain ⟨g12, rfl, hS13⟩ := pv14
           clear hS10
           refine WO.nil ?_
           have s15 : (∀ j, World.cell? w13 ⟨g8, j, none⟩ = [Value.int .i64 x.kind, str x.name, str x.to_, str x.text, Value.int .i64 x.fuse, Value.slice x.keep.a x.keep.l.length x.keep.cap][j]?) := hS13.cel_at 1 rfl
           refine NX.held s15 ?_
           refine WD.one (i := 3) diskLasts_core_t11 #[true, true, true, true] rfl (by kernel_rfl) ?_
           have hS16 := hS13.permT [2, 0, 0, 0, 0] (L' := dkA g3 D :: refA g12 (newD 0) :: cel g8 [Value.int .i64 x.kind, str x.name, str x.to_, str x.text, Value.int .i64 x.fuse, Value.slice x.keep.a x.keep.l.length x.keep.cap] 63 :: (.pure True) :: (.pure True) :: L) rfl
           clear hS13
           refine WO.call rfl rfl Ty.hd33 rfl (act_spec kD (by omega) (by omega) (OkD.new (by omega)) (by omega) (by omega) hx hS16) (fun v18 w17 pv18 => ?_)
           obtain ⟨rfl, hS17⟩ := pv18
           clear hS16
           obtain ⟨D2, eD2⟩ : ∃ qq, qq = (actD D x).1 := ⟨_, rfl⟩
           rw [← eD2] at hS17
           have kD2 : OkD D2 (i + 1) (1000 * (i + 1)) := by rw [eD2]; exact (kD.act hx.fl.2).mono (Nat.le_refl _) (by omega)
           have iD2 : LI D2 (1000 * (i + 1)) := by rw [eD2]; exact (hli.act kD g47 g52 g68).mono (by omega)
           refine WO.nil ?_
           have s19 : (∀ j, World.cell? w17 ⟨g8, j, none⟩ = [Value.int .i64 x.kind, str x.name, str x.to_, str x.text, Value.int .i64 x.fuse, Value.slice x.keep.a x.keep.l.length x.keep.cap][j]?) := hS17.cel_at 2 rfl
           refine NX.held s19 ?_
           refine WD.done diskLasts_core_t11 (by kernel_rfl) ?_
           refine NX.blk ?_
           refine NX.go ?_
           refine WP.region rfl ?_
           refine WO.val (run_move rfl) rfl rfl rfl ?_
           refine WO.val (run_add rfl rfl (IntWalk.i64_in _ (by omega))) rfl rfl rfl ?_
           refine WO.val (run_assign rfl) rfl rfl rfl ?_
           refine WO.nil ?_
           exact NX.again (i + 1, D2) ⟨⟨kD2, iD2, by omega⟩, (hS17.permT [1, 1, 0, 0, 0] (L' := refA g12 (actD (newD 0) x).1 :: cel g8 [Value.int .i64 x.kind, str x.name, str x.to_, str x.text, Value.int .i64 x.fuse, Value.slice x.keep.a x.keep.l.length x.keep.cap] 63 :: dkA g3 D2 :: (.pure True) :: (.pure True) :: L) rfl).drop.drop⟩ (by show 40 - (i + 1) < 40 - i; omega) (Sub.cons rfl (Sub.cons rfl (Sub.cons rfl (Sub.cons rfl (Sub.cons rfl (Sub.cons rfl (Sub.consE rfl (by congr 1) (Sub.nil _))))))))
     ·
      refine WP.exit ?_
      refine NX.thenExit ?_
      refine NX.thenExit ?_
      refine NX.blkExit ?_
      refine NX.go ?_
      refine WP.seq ?_
      refine WP.seq ?_
      have hnl : (namesD D).length = D.nm.length := by unfold namesD; rw [hli.dead, if_neg Bool.noConfusion, List.length_map]
      refine WP.region rfl ?_
      refine WO.val (run_move rfl) rfl rfl rfl ?_
      refine WO.call rfl rfl Ty.hd36 rfl (dnames_spec kD.w hS6) (fun v21 w20 pv21 => ?_)
      obtain ⟨na, nc, rfl, hS20⟩ := pv21
      clear hS6
      refine WO.val (run_len rfl Tryd.underlying22 rfl) rfl rfl rfl ?_
      refine WO.val (run_geq rfl rfl) rfl rfl rfl ?_
      refine WO.nil ?_
      refine NX.go ?_
      refine WP.condP rfl (fun g76 => ?_) (fun g76 => ?_)
      ·
       refine WP.seq ?_
       refine WP.region rfl ?_
       refine WO.val (run_assign rfl) rfl rfl rfl ?_
       refine WO.nil ?_
       refine NX.go ?_
       refine WP.ret ?_
       refine NX.thenRet ?_
       refine NX.done (l := [.tmp 8]) rfl rfl ?_
       exact ⟨rfl, hS20.drop.drop.drop.drop⟩
      ·
       refine WP.skip ?_
       refine NX.go ?_
       refine WP.seq ?_
       refine WP.seq ?_
       refine WP.region rfl ?_
       refine WO.val (run_move rfl) rfl rfl rfl ?_
       refine WO.val (run_move rfl) rfl rfl rfl ?_
       have hS22 := hS20.permT [1, 0, 0, 0] (L' := dkA g3 D :: own na ((namesD D).length) nc 9 1 ((namesD D).map str) :: (.pure True) :: (.pure True) :: L) rfl
       clear hS20
       refine WO.call rfl rfl Ty.hd24 rfl (dappend_spec kD.w kD.b (by omega) (by omega) [105, 116] xx (by decide) (by omega) hS22) (fun v24 w23 pv24 => ?_)
       obtain ⟨hv, hS23⟩ := pv24
       clear hS22
       obtain ⟨D1, mm, eqD1, kD1, is1⟩ := it_new hli kD (by omega) (x := xx) (by omega); change appendD D [105, 116] xx = (D1, 0) at eqD1
       rw [eqD1] at hv
       rw [eqD1] at hS23
       change _ = Value.int .i64 0 at hv
       subst hv
       replace hS23 : St B (dkA g3 D1 :: own na ((namesD D).length) nc 9 1 ((namesD D).map str) :: (.pure True) :: (.pure True) :: L) w23 := hS23
       refine WO.val (run_neq rfl rfl) rfl rfl rfl ?_
       refine WO.val (run_move rfl) rfl rfl rfl ?_
       refine WO.on rfl rfl (by decide) ?_
       refine WO.val (run_move rfl) rfl rfl rfl ?_
       refine WO.on rfl rfl (by decide) ?_
       refine WO.call rfl rfl Ty.hd28 rfl (dsync_spec kD1.w [105, 116] hS23) (fun v26 w25 pv26 => ?_)
       obtain ⟨hv, hS25⟩ := pv26
       clear hS23
       obtain ⟨D2, eqD2, kD2, is2⟩ := it_sync is1 kD1; change syncD D1 [105, 116] = (D2, 0) at eqD2
       rw [eqD2] at hv
       rw [eqD2] at hS25
       change _ = Value.int .i64 0 at hv
       subst hv
       replace hS25 : St B (dkA g3 D2 :: own na ((namesD D).length) nc 9 1 ((namesD D).map str) :: (.pure True) :: (.pure True) :: L) w25 := hS25
       refine WO.on rfl rfl (by decide) ?_
       refine WO.val (run_neq rfl rfl) rfl rfl rfl ?_
       refine WO.val (run_pickF rfl (by decide) rfl) rfl rfl rfl ?_
       refine WO.val (run_move rfl) rfl rfl rfl ?_
       refine WO.on rfl rfl (by decide) ?_
       refine WO.val (run_move rfl) rfl rfl rfl ?_
       refine WO.on rfl rfl (by decide) ?_
       refine WO.call rfl rfl Ty.hd29 rfl (dsyncNames_spec kD2.w hS25) (fun v28 w27 pv28 => ?_)
       obtain ⟨hv, hS27⟩ := pv28
       clear hS25
       obtain ⟨D3, eqD3, kD3, is3, hc3, hl3⟩ := it_names is2 kD2
       rw [eqD3] at hv
       rw [eqD3] at hS27
       change _ = Value.int .i64 0 at hv
       subst hv
       replace hS27 : St B (dkA g3 D3 :: own na ((namesD D).length) nc 9 1 ((namesD D).map str) :: (.pure True) :: (.pure True) :: L) w27 := hS27
       refine WO.on rfl rfl (by decide) ?_
       refine WO.val (run_neq rfl rfl) rfl rfl rfl ?_
       refine WO.val (run_pickF rfl (by decide) rfl) rfl rfl rfl ?_
       refine WO.val (run_move rfl) rfl rfl rfl ?_
       refine WO.on rfl rfl (by decide) ?_
       refine WO.val (run_move rfl) rfl rfl rfl ?_
       refine WO.on rfl rfl (by decide) ?_
       refine WO.val (run_move rfl) rfl rfl rfl ?_
       refine WO.on rfl rfl (by decide) ?_
       refine WO.call rfl rfl Ty.hd24 rfl (dappend_spec kD3.w kD3.b (by omega) (by omega) [105, 116] yy (by decide) (by omega) hS27) (fun v30 w29 pv30 => ?_)
       obtain ⟨hv, hS29⟩ := pv30
       clear hS27
       obtain ⟨D4, eqD4, kD4, is4, hc4, hl4⟩ := it_more is3 kD3 hc3 hl3 (y := yy) (by omega); change appendD D3 [105, 116] yy = (D4, 0) at eqD4
       rw [eqD4] at hv
       rw [eqD4] at hS29
       change _ = Value.int .i64 0 at hv
       subst hv
       replace hS29 : St B (dkA g3 D4 :: own na ((namesD D).length) nc 9 1 ((namesD D).map str) :: (.pure True) :: (.pure True) :: L) w29 := hS29
       refine WO.on rfl rfl (by decide) ?_
       refine WO.val (run_neq rfl rfl) rfl rfl rfl ?_
       refine WO.val (run_pickF rfl (by decide) rfl) rfl rfl rfl ?_
       refine WO.nil ?_
       refine NX.go ?_
       refine WP.condF rfl (by decide) ?_
       refine WP.skip ?_
       refine NX.go ?_
       refine WP.seq ?_
       refine WP.region rfl ?_
       refine WO.val (run_move rfl) rfl rfl rfl ?_
       refine WO.buildSlice (l := []) hS29 Tryd.underlying50 rfl (fun w => by kernel_rfl) rfl (fun g32 w31 lg32 hS31 => ?_)
       clear hS29
       have hS31 := hS31.own_of_cel (m := 0) (k := 1) rfl
       refine WO.val (run_move rfl) rfl rfl rfl ?_
       refine WO.append (news := (ri zs)) 0 rfl Tryd.underlying50 Tryd.underlying50 (fun _ h => by cases h) Ty.sz3 (by decide) Ty.by3 Ty.zr3 rfl rfl rfl rfl hS31 rfl (((fun h => St.rdB h hK) (hS31.focus 4 rfl)).src) (ri_noAgg _) (by omega) (by omega) (fun a34 c35 w33 hS33 => ?_)
       replace hS33 : St B (own a34 zs.length c35 3 1 (ri zs) :: dkA g3 D4 :: own na ((namesD D).length) nc 9 1 ((namesD D).map str) :: (.pure True) :: (.pure True) :: L) w33 := (by have z := hS33; rw [Nat.zero_add] at z; exact z)
       refine WO.as (d := 100) (v := Value.slice a34 zs.length c35) rfl (by rw [Nat.zero_add]) ?_
       clear hS31
       have hcap := hS33.own_le_i 0 rfl
       have hS36 := hS33.permT [1, 0, 0, 0, 0] (L' := dkA g3 D4 :: own a34 zs.length c35 3 1 (ri zs) :: own na ((namesD D).length) nc 9 1 ((namesD D).map str) :: (.pure True) :: (.pure True) :: L) rfl
       clear hS33
       refine WO.call rfl rfl Ty.hd26 rfl (dcrash_spec (zs := zs) kD4.w kD4.b (by omega) (by omega) (fun h => h.own_rd.1) (by omega) (by omega) hS36) (fun v38 w37 pv38 => ?_)
       obtain ⟨rfl, hS37⟩ := pv38
       clear hS36
       refine WO.nil ?_
       refine NX.go ?_
       refine WP.seq ?_
       refine WP.region rfl ?_
       refine WO.val (run_move rfl) rfl rfl rfl ?_
       refine WO.call rfl rfl Ty.hd31 rfl (dread_spec kD4.crash.w [105, 116] hS37) (fun v40 w39 pv40 => ?_)
       obtain ⟨hv, hS39⟩ := pv40
       clear hS37
       obtain ⟨q, hq, er⟩ := it_read (zs := zs) is4 kD4 hc4 hl4
       change readD (crashD D4 zs) [105, 116] = _ at er
       obtain ⟨tt, ett⟩ : ∃ qq, qq = (xx ++ yy).take (xx.length + q) := ⟨_, rfl⟩
       rw [er, ← ett] at hv
       change _ = Value.tuple #[str tt, Value.int .i64 0] at hv
       subst hv
       have htl : tt.length = xx.length + q := by rw [ett, List.length_take, List.length_append]; omega
       refine WO.val (run_move rfl) rfl rfl rfl ?_
       refine WO.val (run_extract rfl rfl) rfl rfl rfl ?_
       refine WO.val (run_extract rfl rfl) rfl rfl rfl ?_
       refine WO.val (run_assign rfl) rfl rfl rfl ?_
       refine WO.val (run_assign rfl) rfl rfl rfl ?_
       refine WO.nil ?_
       refine NX.go ?_
       refine WP.seq ?_
       refine WP.region rfl ?_
       refine WO.val (run_move rfl) rfl rfl rfl ?_
       refine WO.val (run_eql rfl rfl) rfl rfl rfl ?_
       refine WO.val (run_move rfl) rfl rfl rfl ?_
       refine WO.on rfl rfl (by decide) ?_
       refine WO.val (run_move rfl) rfl rfl rfl ?_
       refine WO.on rfl rfl (by decide) ?_
       refine WO.val (run_lenS rfl Tryd.underlying9 rfl) rfl rfl rfl ?_
       refine WO.on rfl rfl (by decide) ?_
       refine WO.val (run_move rfl) rfl rfl rfl ?_
       refine WO.on rfl rfl (by decide) ?_
       refine WO.val (run_lenS rfl Tryd.underlying9 rfl) rfl rfl rfl ?_
       refine WO.on rfl rfl (by decide) ?_
       refine WO.val (run_geq rfl rfl) rfl rfl rfl ?_
       refine WO.val (run_pickT rfl (by decide) rfl) rfl rfl rfl ?_
       refine WO.val (run_move rfl) rfl rfl rfl ?_
       by_cases g116 : (xx.length : Int) ≤ (tt.length : Int)
       ·
        refine WO.on rfl rfl (decide_eq_true g116) ?_
        refine WO.val (run_move rfl) rfl rfl rfl ?_
        refine WO.on rfl rfl (decide_eq_true g116) ?_
        refine WO.val (run_lenS rfl Tryd.underlying9 rfl) rfl rfl rfl ?_
        refine WO.on rfl rfl (decide_eq_true g116) ?_
        refine WO.val (run_move rfl) rfl rfl rfl ?_
        refine WO.on rfl rfl (decide_eq_true g116) ?_
        refine WO.val (run_lenS rfl Tryd.underlying9 rfl) rfl rfl rfl ?_
        refine WO.on rfl rfl (decide_eq_true g116) ?_
        refine WO.val (run_move rfl) rfl rfl rfl ?_
        refine WO.on rfl rfl (decide_eq_true g116) ?_
        refine WO.val (run_lenS rfl Tryd.underlying9 rfl) rfl rfl rfl ?_
        refine WO.on rfl rfl (decide_eq_true g116) ?_
        refine WO.val (run_add rfl rfl (IntWalk.i64_in _ (by omega))) rfl rfl rfl ?_
        refine WO.on rfl rfl (decide_eq_true g116) ?_
        refine WO.val (run_leq rfl rfl) rfl rfl rfl ?_
        refine WO.val (run_pickT rfl (decide_eq_true g116) rfl) rfl rfl rfl ?_
        refine WO.val (run_move rfl) rfl rfl rfl ?_
        by_cases g126 : (tt.length : Int) ≤ ((xx.length : Int) + (yy.length : Int))
        ·
         refine WO.on rfl rfl (decide_eq_true g126) ?_
         refine WO.val (run_move rfl) rfl rfl rfl ?_
         refine WO.on rfl rfl (decide_eq_true g126) ?_
         refine WO.val (run_move rfl) rfl rfl rfl ?_
         refine WO.on rfl rfl (decide_eq_true g126) ?_
         refine WO.val (run_move rfl) rfl rfl rfl ?_
         refine WO.on rfl rfl (decide_eq_true g126) ?_
         refine WO.val (run_cat rfl rfl (by omega)) rfl rfl rfl ?_
         refine WO.on rfl rfl (decide_eq_true g126) ?_
         refine WO.val (run_move rfl) rfl rfl rfl ?_
         refine WO.on rfl rfl (decide_eq_true g126) ?_
         refine WO.val (run_lenS rfl Tryd.underlying9 rfl) rfl rfl rfl ?_
         refine WO.on rfl rfl (decide_eq_true g126) ?_
         refine WO.val (run_sliceS (i := 0) (j := tt.length) Tryd.underlying9 rfl rfl ⟨_, rfl⟩ (Nat.zero_le _) (by rw [List.length_append]; omega) (List.drop_zero)) rfl rfl rfl ?_
         refine WO.on rfl rfl (decide_eq_true g126) ?_
         refine WO.val (run_eqlS rfl rfl) rfl rfl rfl ?_
         refine WO.val (run_pickT rfl (decide_eq_true g126) rfl) rfl rfl rfl ?_
         refine WO.val (run_assign rfl) rfl rfl rfl ?_
         refine WO.nil ?_
         refine NX.go ?_
         refine WP.ret ?_
         refine NX.done (l := [.tmp 8]) rfl rfl ?_
         exact ⟨congrArg Value.bool (decide_eq_true (by rw [htl]; exact ett)), hS39.drop.drop.drop.drop.drop⟩
        ·
         exfalso; omega
       ·
        exfalso; omega
    ·
     refine WO.off rfl rfl (decide_eq_false g34) rfl ?_
     refine WO.off rfl rfl (decide_eq_false g34) rfl ?_
     refine WO.val (run_pickF rfl (decide_eq_false g34) rfl) rfl rfl rfl ?_
     refine WO.nil ?_
     refine NX.go ?_
     refine WP.condF rfl rfl ?_
     refine WP.exit ?_
     refine NX.thenExit ?_
     refine NX.thenExit ?_
     refine NX.blkExit ?_
     refine NX.go ?_
     refine WP.seq ?_
     refine WP.seq ?_
     have hnl : (namesD D).length = D.nm.length := by unfold namesD; rw [hli.dead, if_neg Bool.noConfusion, List.length_map]
     refine WP.region rfl ?_
     refine WO.val (run_move rfl) rfl rfl rfl ?_
     refine WO.call rfl rfl Ty.hd36 rfl (dnames_spec kD.w hS6) (fun v42 w41 pv42 => ?_)
     obtain ⟨na, nc, rfl, hS41⟩ := pv42
     clear hS6
     refine WO.val (run_len rfl Tryd.underlying22 rfl) rfl rfl rfl ?_
     refine WO.val (run_geq rfl rfl) rfl rfl rfl ?_
     refine WO.nil ?_
     refine NX.go ?_
     refine WP.condP rfl (fun g76 => ?_) (fun g76 => ?_)
     ·
      refine WP.seq ?_
      refine WP.region rfl ?_
      refine WO.val (run_assign rfl) rfl rfl rfl ?_
      refine WO.nil ?_
      refine NX.go ?_
      refine WP.ret ?_
      refine NX.thenRet ?_
      refine NX.done (l := [.tmp 8]) rfl rfl ?_
      exact ⟨rfl, hS41.drop.drop.drop.drop⟩
     ·
      refine WP.skip ?_
      refine NX.go ?_
      refine WP.seq ?_
      refine WP.seq ?_
      refine WP.region rfl ?_
      refine WO.val (run_move rfl) rfl rfl rfl ?_
      refine WO.val (run_move rfl) rfl rfl rfl ?_
      have hS43 := hS41.permT [1, 0, 0, 0] (L' := dkA g3 D :: own na ((namesD D).length) nc 9 1 ((namesD D).map str) :: (.pure True) :: (.pure True) :: L) rfl
      clear hS41
      refine WO.call rfl rfl Ty.hd24 rfl (dappend_spec kD.w kD.b (by omega) (by omega) [105, 116] xx (by decide) (by omega) hS43) (fun v45 w44 pv45 => ?_)
      obtain ⟨hv, hS44⟩ := pv45
      clear hS43
      obtain ⟨D1, mm, eqD1, kD1, is1⟩ := it_new hli kD (by omega) (x := xx) (by omega); change appendD D [105, 116] xx = (D1, 0) at eqD1
      rw [eqD1] at hv
      rw [eqD1] at hS44
      change _ = Value.int .i64 0 at hv
      subst hv
      replace hS44 : St B (dkA g3 D1 :: own na ((namesD D).length) nc 9 1 ((namesD D).map str) :: (.pure True) :: (.pure True) :: L) w44 := hS44
      refine WO.val (run_neq rfl rfl) rfl rfl rfl ?_
      refine WO.val (run_move rfl) rfl rfl rfl ?_
      refine WO.on rfl rfl (by decide) ?_
      refine WO.val (run_move rfl) rfl rfl rfl ?_
      refine WO.on rfl rfl (by decide) ?_
      refine WO.call rfl rfl Ty.hd28 rfl (dsync_spec kD1.w [105, 116] hS44) (fun v47 w46 pv47 => ?_)
      obtain ⟨hv, hS46⟩ := pv47
      clear hS44
      obtain ⟨D2, eqD2, kD2, is2⟩ := it_sync is1 kD1; change syncD D1 [105, 116] = (D2, 0) at eqD2
      rw [eqD2] at hv
      rw [eqD2] at hS46
      change _ = Value.int .i64 0 at hv
      subst hv
      replace hS46 : St B (dkA g3 D2 :: own na ((namesD D).length) nc 9 1 ((namesD D).map str) :: (.pure True) :: (.pure True) :: L) w46 := hS46
      refine WO.on rfl rfl (by decide) ?_
      refine WO.val (run_neq rfl rfl) rfl rfl rfl ?_
      refine WO.val (run_pickF rfl (by decide) rfl) rfl rfl rfl ?_
      refine WO.val (run_move rfl) rfl rfl rfl ?_
      refine WO.on rfl rfl (by decide) ?_
      refine WO.val (run_move rfl) rfl rfl rfl ?_
      refine WO.on rfl rfl (by decide) ?_
      refine WO.call rfl rfl Ty.hd29 rfl (dsyncNames_spec kD2.w hS46) (fun v49 w48 pv49 => ?_)
      obtain ⟨hv, hS48⟩ := pv49
      clear hS46
      obtain ⟨D3, eqD3, kD3, is3, hc3, hl3⟩ := it_names is2 kD2
      rw [eqD3] at hv
      rw [eqD3] at hS48
      change _ = Value.int .i64 0 at hv
      subst hv
      replace hS48 : St B (dkA g3 D3 :: own na ((namesD D).length) nc 9 1 ((namesD D).map str) :: (.pure True) :: (.pure True) :: L) w48 := hS48
      refine WO.on rfl rfl (by decide) ?_
      refine WO.val (run_neq rfl rfl) rfl rfl rfl ?_
      refine WO.val (run_pickF rfl (by decide) rfl) rfl rfl rfl ?_
      refine WO.val (run_move rfl) rfl rfl rfl ?_
      refine WO.on rfl rfl (by decide) ?_
      refine WO.val (run_move rfl) rfl rfl rfl ?_
      refine WO.on rfl rfl (by decide) ?_
      refine WO.val (run_move rfl) rfl rfl rfl ?_
      refine WO.on rfl rfl (by decide) ?_
      refine WO.call rfl rfl Ty.hd24 rfl (dappend_spec kD3.w kD3.b (by omega) (by omega) [105, 116] yy (by decide) (by omega) hS48) (fun v51 w50 pv51 => ?_)
      obtain ⟨hv, hS50⟩ := pv51
      clear hS48
      obtain ⟨D4, eqD4, kD4, is4, hc4, hl4⟩ := it_more is3 kD3 hc3 hl3 (y := yy) (by omega); change appendD D3 [105, 116] yy = (D4, 0) at eqD4
      rw [eqD4] at hv
      rw [eqD4] at hS50
      change _ = Value.int .i64 0 at hv
      subst hv
      replace hS50 : St B (dkA g3 D4 :: own na ((namesD D).length) nc 9 1 ((namesD D).map str) :: (.pure True) :: (.pure True) :: L) w50 := hS50
      refine WO.on rfl rfl (by decide) ?_
      refine WO.val (run_neq rfl rfl) rfl rfl rfl ?_
      refine WO.val (run_pickF rfl (by decide) rfl) rfl rfl rfl ?_
      refine WO.nil ?_
      refine NX.go ?_
      refine WP.condF rfl (by decide) ?_
      refine WP.skip ?_
      refine NX.go ?_
      refine WP.seq ?_
      refine WP.region rfl ?_
      refine WO.val (run_move rfl) rfl rfl rfl ?_
      refine WO.buildSlice (l := []) hS50 Tryd.underlying50 rfl (fun w => by kernel_rfl) rfl (fun g53 w52 lg53 hS52 => ?_)
      clear hS50
      have hS52 := hS52.own_of_cel (m := 0) (k := 1) rfl
      refine WO.val (run_move rfl) rfl rfl rfl ?_
      refine WO.append (news := (ri zs)) 0 rfl Tryd.underlying50 Tryd.underlying50 (fun _ h => by cases h) Ty.sz3 (by decide) Ty.by3 Ty.zr3 rfl rfl rfl rfl hS52 rfl (((fun h => St.rdB h hK) (hS52.focus 4 rfl)).src) (ri_noAgg _) (by omega) (by omega) (fun a55 c56 w54 hS54 => ?_)
      replace hS54 : St B (own a55 zs.length c56 3 1 (ri zs) :: dkA g3 D4 :: own na ((namesD D).length) nc 9 1 ((namesD D).map str) :: (.pure True) :: (.pure True) :: L) w54 := (by have z := hS54; rw [Nat.zero_add] at z; exact z)
      refine WO.as (d := 100) (v := Value.slice a55 zs.length c56) rfl (by rw [Nat.zero_add]) ?_
      clear hS52
      have hcap := hS54.own_le_i 0 rfl
      have hS57 := hS54.permT [1, 0, 0, 0, 0] (L' := dkA g3 D4 :: own a55 zs.length c56 3 1 (ri zs) :: own na ((namesD D).length) nc 9 1 ((namesD D).map str) :: (.pure True) :: (.pure True) :: L) rfl
      clear hS54
      refine WO.call rfl rfl Ty.hd26 rfl (dcrash_spec (zs := zs) kD4.w kD4.b (by omega) (by omega) (fun h => h.own_rd.1) (by omega) (by omega) hS57) (fun v59 w58 pv59 => ?_)
      obtain ⟨rfl, hS58⟩ := pv59
      clear hS57
      refine WO.nil ?_
      refine NX.go ?_
      refine WP.seq ?_
      refine WP.region rfl ?_
      refine WO.val (run_move rfl) rfl rfl rfl ?_
      refine WO.call rfl rfl Ty.hd31 rfl (dread_spec kD4.crash.w [105, 116] hS58) (fun v61 w60 pv61 => ?_)
      obtain ⟨hv, hS60⟩ := pv61
      clear hS58
      obtain ⟨q, hq, er⟩ := it_read (zs := zs) is4 kD4 hc4 hl4
      change readD (crashD D4 zs) [105, 116] = _ at er
      obtain ⟨tt, ett⟩ : ∃ qq, qq = (xx ++ yy).take (xx.length + q) := ⟨_, rfl⟩
      rw [er, ← ett] at hv
      change _ = Value.tuple #[str tt, Value.int .i64 0] at hv
      subst hv
      have htl : tt.length = xx.length + q := by rw [ett, List.length_take, List.length_append]; omega
      refine WO.val (run_move rfl) rfl rfl rfl ?_
      refine WO.val (run_extract rfl rfl) rfl rfl rfl ?_
      refine WO.val (run_extract rfl rfl) rfl rfl rfl ?_
      refine WO.val (run_assign rfl) rfl rfl rfl ?_
      refine WO.val (run_assign rfl) rfl rfl rfl ?_
      refine WO.nil ?_
      refine NX.go ?_
      refine WP.seq ?_
      refine WP.region rfl ?_
      refine WO.val (run_move rfl) rfl rfl rfl ?_
      refine WO.val (run_eql rfl rfl) rfl rfl rfl ?_
      refine WO.val (run_move rfl) rfl rfl rfl ?_
      refine WO.on rfl rfl (by decide) ?_
      refine WO.val (run_move rfl) rfl rfl rfl ?_
      refine WO.on rfl rfl (by decide) ?_
      refine WO.val (run_lenS rfl Tryd.underlying9 rfl) rfl rfl rfl ?_
      refine WO.on rfl rfl (by decide) ?_
      refine WO.val (run_move rfl) rfl rfl rfl ?_
      refine WO.on rfl rfl (by decide) ?_
      refine WO.val (run_lenS rfl Tryd.underlying9 rfl) rfl rfl rfl ?_
      refine WO.on rfl rfl (by decide) ?_
      refine WO.val (run_geq rfl rfl) rfl rfl rfl ?_
      refine WO.val (run_pickT rfl (by decide) rfl) rfl rfl rfl ?_
      refine WO.val (run_move rfl) rfl rfl rfl ?_
      by_cases g116 : (xx.length : Int) ≤ (tt.length : Int)
      ·
       refine WO.on rfl rfl (decide_eq_true g116) ?_
       refine WO.val (run_move rfl) rfl rfl rfl ?_
       refine WO.on rfl rfl (decide_eq_true g116) ?_
       refine WO.val (run_lenS rfl Tryd.underlying9 rfl) rfl rfl rfl ?_
       refine WO.on rfl rfl (decide_eq_true g116) ?_
       refine WO.val (run_move rfl) rfl rfl rfl ?_
       refine WO.on rfl rfl (decide_eq_true g116) ?_
       refine WO.val (run_lenS rfl Tryd.underlying9 rfl) rfl rfl rfl ?_
       refine WO.on rfl rfl (decide_eq_true g116) ?_
       refine WO.val (run_move rfl) rfl rfl rfl ?_
       refine WO.on rfl rfl (decide_eq_true g116) ?_
       refine WO.val (run_lenS rfl Tryd.underlying9 rfl) rfl rfl rfl ?_
       refine WO.on rfl rfl (decide_eq_true g116) ?_
       refine WO.val (run_add rfl rfl (IntWalk.i64_in _ (by omega))) rfl rfl rfl ?_
       refine WO.on rfl rfl (decide_eq_true g116) ?_
       refine WO.val (run_leq rfl rfl) rfl rfl rfl ?_
       refine WO.val (run_pickT rfl (decide_eq_true g116) rfl) rfl rfl rfl ?_
       refine WO.val (run_move rfl) rfl rfl rfl ?_
       by_cases g126 : (tt.length : Int) ≤ ((xx.length : Int) + (yy.length : Int))
       ·
        refine WO.on rfl rfl (decide_eq_true g126) ?_
        refine WO.val (run_move rfl) rfl rfl rfl ?_
        refine WO.on rfl rfl (decide_eq_true g126) ?_
        refine WO.val (run_move rfl) rfl rfl rfl ?_
        refine WO.on rfl rfl (decide_eq_true g126) ?_
        refine WO.val (run_move rfl) rfl rfl rfl ?_
        refine WO.on rfl rfl (decide_eq_true g126) ?_
        refine WO.val (run_cat rfl rfl (by omega)) rfl rfl rfl ?_
        refine WO.on rfl rfl (decide_eq_true g126) ?_
        refine WO.val (run_move rfl) rfl rfl rfl ?_
        refine WO.on rfl rfl (decide_eq_true g126) ?_
        refine WO.val (run_lenS rfl Tryd.underlying9 rfl) rfl rfl rfl ?_
        refine WO.on rfl rfl (decide_eq_true g126) ?_
        refine WO.val (run_sliceS (i := 0) (j := tt.length) Tryd.underlying9 rfl rfl ⟨_, rfl⟩ (Nat.zero_le _) (by rw [List.length_append]; omega) (List.drop_zero)) rfl rfl rfl ?_
        refine WO.on rfl rfl (decide_eq_true g126) ?_
        refine WO.val (run_eqlS rfl rfl) rfl rfl rfl ?_
        refine WO.val (run_pickT rfl (decide_eq_true g126) rfl) rfl rfl rfl ?_
        refine WO.val (run_assign rfl) rfl rfl rfl ?_
        refine WO.nil ?_
        refine NX.go ?_
        refine WP.ret ?_
        refine NX.done (l := [.tmp 8]) rfl rfl ?_
        exact ⟨congrArg Value.bool (decide_eq_true (by rw [htl]; exact ett)), hS60.drop.drop.drop.drop.drop⟩
       ·
        exfalso; omega
      ·
       exfalso; omega
end Go.Proofs.YtcehlnpbdffdhaaDoor.SL
