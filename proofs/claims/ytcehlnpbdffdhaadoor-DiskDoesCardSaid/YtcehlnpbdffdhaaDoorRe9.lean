/- What is in which file. -/
import Derived.Test.YtcehlnpbdffdhaaDoorRe8
namespace Go.Proofs.YtcehlnpbdffdhaaDoor.SL
open Go.RowKit Go.Proofs.YtcehlnpbdffdhaaDoor
open Go.Proofs.YtcehlnpbdffdhaaDoorW.PrintLast (rtab opsOf)
set_option linter.unusedVariables false
set_option linter.unusedSimpArgs false
theorem diskDoes_core_t14 : rtab .any (opsOf Tryd.f7 14) = (true, [([], []), ([], []), ([0, 1], [0, 1]), ([2], [2]), ([3], [3]), ([3], [3]), ([4, 5, 3], [3, 4, 5]), ([3, 6], [3, 6]), ([7, 3], [7]), ([8], [8]), ([9, 8, 8], [8, 9]), ([8], [8]), ([11, 10, 8], [8, 11]), ([10, 12, 12, 8], [8, 10, 12]), ([13, 8], [8, 13]), ([8, 14], [8, 14]), ([15, 13], [15]), ([16], [16]), ([17, 16, 16], [16, 17]), ([16], [16]), ([19, 16], [16, 19]), ([20, 16], [16, 20]), ([21, 16], [16, 21]), ([18, 22, 16], [16, 18, 22]), ([16, 23], [16, 23]), ([24, 18], [24]), ([25], [25]), ([26, 25, 25], [25, 26]), ([25], [25]), ([28, 27, 25], [25, 28]), ([27, 29, 25], [25, 27, 29]), ([25, 30], [25, 30])]) := by kernel_rfl
theorem diskDoes_core {B w : World} {L : List HP} {room : Int} {aa : Option Addr} {ac : Nat} {l : List ActA} (hr : -9223372036854775808 ≤ room ∧ room ≤ 9223372036854775807) (hA : Rd B aa l.length 6 (l.flatMap aac)) (hall : ∀ x ∈ l, ActOk B x) (hS : St B L w) : Does Tryd.prog 7 [Value.int .i64 room, Value.slice aa l.length ac] w (fun v w1 => v = .bool true ∧ St B L w1) := by
 replace hS := hS.addPure (p := True) trivial
 refine enter (n := 94) Tryd.func7 rfl rfl [Value.int .i64 room, Value.slice aa l.length ac] rfl ?_
 refine WP.seq ?_
 refine WP.region rfl ?_
 refine WO.val (run_assign rfl) rfl rfl rfl ?_
 refine WO.nil ?_
 refine NX.go ?_
 refine WP.seq ?_
 refine WP.region rfl ?_
 refine WO.val (run_move rfl) rfl rfl rfl ?_
 refine WO.call rfl rfl Ty.hd22 rfl (dnew_spec room hS) (fun v3 w2 pv3 => ?_)
 obtain ⟨g1, rfl, hS2⟩ := pv3
 clear hS
 refine WO.val (run_move rfl) rfl rfl rfl ?_
 refine WO.call rfl rfl Ty.hd32 rfl (r4new_spec room hS2) (fun v6 w5 pv6 => ?_)
 obtain ⟨g4, rfl, hS5⟩ := pv6
 clear hS2
 refine WO.val (run_assign rfl) rfl rfl rfl ?_
 refine WO.val (run_assign rfl) rfl rfl rfl ?_
 refine WO.nil ?_
 refine NX.go ?_
 refine WP.seq ?_
 refine WP.seq ?_
 refine WP.region rfl ?_
 refine WO.val (run_move rfl) rfl rfl rfl ?_
 refine WO.val (run_eqlNilP Tryd.underlying45 rfl rfl) rfl rfl rfl ?_
 refine WO.nil ?_
 refine NX.go ?_
 refine WP.condF rfl rfl ?_
 refine WP.skip ?_
 refine NX.go ?_
 refine WP.seq ?_
 refine WP.seq ?_
 refine WP.region rfl ?_
 refine WO.val (run_assign rfl) rfl rfl rfl ?_
 refine WO.nil ?_
 refine NX.go ?_
 refine WP.block ?_
 refine WP.loop (α := Nat × Dk) (fun x => match x with | ⟨i, D⟩ => [(1, Value.slice aa l.length ac), (4, Value.bool false), (5, Value.pointer (some ⟨g1, 0, none⟩)), (6, Value.pointer (some ⟨g4, 0, none⟩)), (7, Value.int .i64 (i : Int))]) (fun x w => match x with | ⟨i, D⟩ => (OkD D i (1000 * i) ∧ i ≤ 120) ∧ St B (refA g4 D :: dkA g1 D :: (.pure True) :: L) w) (fun x => match x with | ⟨i, D⟩ => 120 - i) (0, newD room) ⟨⟨OkD.new hr, Nat.zero_le _⟩, hS5⟩ (Sub.cons rfl (Sub.cons rfl (Sub.cons rfl (Sub.cons rfl (Sub.consE rfl (by first | rfl | first | rfl | (congr 1; omega) | (simp; done) | (simp; omega)) (Sub.nil _)))))) ?_
 rintro ⟨i, D⟩ w7 ⟨⟨kD, hi⟩, hS7⟩
 clear hS5
 refine WP.seq ?_
 refine WP.seq ?_
 refine WP.region rfl ?_
 refine WO.val (run_move rfl) rfl rfl rfl ?_
 refine WO.val (run_move rfl) rfl rfl rfl ?_
 refine WO.val (run_len rfl Tryd.underlying59 rfl) rfl rfl rfl ?_
 refine WO.val (run_lss rfl rfl) rfl rfl rfl ?_
 refine WO.val (run_move rfl) rfl rfl rfl ?_
 by_cases g23 : (i : Int) < ((l.length : Nat) : Int)
 ·
  refine WO.on rfl rfl (decide_eq_true g23) ?_
  refine WO.val (run_move rfl) rfl rfl rfl ?_
  refine WO.on rfl rfl (decide_eq_true g23) ?_
  refine WO.val (run_lss rfl rfl) rfl rfl rfl ?_
  refine WO.val (run_pickT rfl (decide_eq_true g23) rfl) rfl rfl rfl ?_
  refine WO.nil ?_
  refine NX.go ?_
  refine WP.condP rfl (fun g26 => ?_) (fun g26 => ?_)
  ·
   refine WP.skip ?_
   refine NX.go ?_
   refine WP.seq ?_
   refine WP.block ?_
   refine WP.seq ?_
   obtain ⟨x, hx0⟩ : ∃ x, l[i]? = some x := ⟨_, List.getElem?_eq_getElem (by omega)⟩
   have hx := hall x (List.mem_of_getElem? hx0)
   have hsa : aa.isSome = true := by obtain ⟨q, hq, _⟩ := (((fun h => St.rdB h hA) (hS7.focus 2 rfl))).2.1 (by omega); rw [hq]; rfl
   refine WP.region rfl ?_
   refine WO.val (run_move rfl) rfl rfl rfl ?_
   refine WO.val (run_move rfl) rfl rfl rfl ?_
   refine WO.val (run_indexAddr (q := adr aa (i * 6)) Tryd.underlying59 Ty.sz63 rfl rfl (by omega) (by omega) (((fun h => St.rdB h hA) (hS7.focus 2 rfl)).2.1 (by omega)) rfl) rfl rfl rfl ?_
   refine WO.val (run_loadAgg (vs := [Value.int .i64 x.kind, str x.name, str x.to_, str x.text, Value.int .i64 x.fuse, Value.slice x.keep.a x.keep.l.length x.keep.cap]) Ty.ag63 Ty.sz63 rfl (((fun h => St.rdB h hA) (hS7.focus 2 rfl)).cells (by rw [flat_len aac_len]; omega) (flat_part aac_len hx0)).1 (((fun h => St.rdB h hA) (hS7.focus 2 rfl)).cells (by rw [flat_len aac_len]; omega) (flat_part aac_len hx0)).2) rfl rfl rfl ?_
   refine WO.alloc (l := [Value.int .i64 0, str [], str [], str [], Value.int .i64 0, Value.slice none 0 0]) hS7 Ty.zr63 rfl rfl (fun g9 w8 lg9 hS8 => ?_)
   clear hS7
   refine WO.store (l' := [Value.int .i64 x.kind, str x.name, str x.to_, str x.text, Value.int .i64 x.fuse, Value.slice x.keep.a x.keep.l.length x.keep.cap]) 0 hS8 rfl Ty.sz63 rfl rfl rfl rfl rfl (Nat.le_of_ble_eq_true rfl) rfl (fun w10 (hS10 : St B (cel g9 [Value.int .i64 x.kind, str x.name, str x.to_, str x.text, Value.int .i64 x.fuse, Value.slice x.keep.a x.keep.l.length x.keep.cap] 63 :: refA g4 D :: dkA g1 D :: (.pure True) :: L) w10) => ?_)
   clear hS8
   refine WO.nil ?_
   refine NX.go ?_
   refine WP.seq ?_
   refine WP.seq ?_
   refine WP.region rfl ?_
   refine WO.val (run_fieldAddr (q := ⟨g9, 3, none⟩) (show fieldB Tryd.prog 63 3 = some 3 from by kernel_rfl) rfl rfl) rfl rfl rfl ?_
   refine WO.val (run_load Ty.ag9 rfl ((hS10.cel_at 0 rfl 3).trans rfl)) rfl rfl rfl ?_
   refine WO.val (run_lenS rfl Tryd.underlying9 rfl) rfl rfl rfl ?_
   refine WO.val (run_gtr rfl rfl) rfl rfl rfl ?_
   refine WO.val (run_move rfl) rfl rfl rfl ?_
   by_cases g37 : 1000 < (x.text.length : Int)
   ·
    refine WO.off rfl rfl (decide_eq_true g37) rfl ?_
    refine WO.off rfl rfl (decide_eq_true g37) rfl ?_
    refine WO.off rfl rfl (decide_eq_true g37) rfl ?_
    refine WO.off rfl rfl (decide_eq_true g37) rfl ?_
    refine WO.val (run_pickT rfl (decide_eq_true g37) rfl) rfl rfl rfl ?_
    refine WO.nil ?_
    refine NX.go ?_
    refine WP.condT rfl rfl ?_
    refine WP.seq ?_
    refine WP.region rfl ?_
    refine WO.val (run_assign rfl) rfl rfl rfl ?_
    refine WO.nil ?_
    refine NX.go ?_
    refine WP.ret ?_
    refine NX.thenRet ?_
    refine NX.blkRet ?_
    refine NX.thenRet ?_
    refine NX.thenRet ?_
    refine NX.blkRet ?_
    refine NX.thenRet ?_
    refine NX.done (l := [.tmp 4]) rfl rfl ?_
    exact ⟨rfl, hS10.drop.drop.drop.drop⟩
   ·
    refine WO.on rfl rfl (decide_eq_false g37) ?_
    refine WO.val (run_fieldAddr (q := ⟨g9, 5, none⟩) (show fieldB Tryd.prog 63 5 = some 5 from by kernel_rfl) rfl rfl) rfl rfl rfl ?_
    refine WO.on rfl rfl (decide_eq_false g37) ?_
    refine WO.val (run_load Ty.ag50 rfl ((hS10.cel_at 0 rfl 5).trans rfl)) rfl rfl rfl ?_
    refine WO.on rfl rfl (decide_eq_false g37) ?_
    refine WO.val (run_len rfl Tryd.underlying50 rfl) rfl rfl rfl ?_
    refine WO.on rfl rfl (decide_eq_false g37) ?_
    refine WO.val (run_gtr rfl rfl) rfl rfl rfl ?_
    refine WO.val (run_pickF rfl (decide_eq_false g37) rfl) rfl rfl rfl ?_
    refine WO.nil ?_
    refine NX.go ?_
    refine WP.condP rfl (fun g42 => ?_) (fun g42 => ?_)
    ·
     refine WP.seq ?_
     refine WP.region rfl ?_
     refine WO.val (run_assign rfl) rfl rfl rfl ?_
     refine WO.nil ?_
     refine NX.go ?_
     refine WP.ret ?_
     refine NX.thenRet ?_
     refine NX.blkRet ?_
     refine NX.thenRet ?_
     refine NX.thenRet ?_
     refine NX.blkRet ?_
     refine NX.thenRet ?_
     refine NX.done (l := [.tmp 4]) rfl rfl ?_
     exact ⟨rfl, hS10.drop.drop.drop.drop⟩
    ·
     refine WP.skip ?_
     refine NX.go ?_
     refine WP.seq ?_
     refine WP.seq ?_
     refine WP.region rfl ?_
     refine WO.val (run_move rfl) rfl rfl rfl ?_
     refine WO.val (run_move rfl) rfl rfl rfl ?_
     refine WO.val (run_loadAgg (vs := [Value.int .i64 x.kind, str x.name, str x.to_, str x.text, Value.int .i64 x.fuse, Value.slice x.keep.a x.keep.l.length x.keep.cap]) Ty.ag63 Ty.sz63 rfl rfl (cell_all (hS10.cel_at 0 rfl) 0 rfl)) rfl rfl rfl ?_
     have hS11 := hS10.permT [2, 1, 0, 0] (L' := dkA g1 D :: refA g4 D :: cel g9 [Value.int .i64 x.kind, str x.name, str x.to_, str x.text, Value.int .i64 x.fuse, Value.slice x.keep.a x.keep.l.length x.keep.cap] 63 :: (.pure True) :: L) rfl
     clear hS10
     refine WO.call rfl rfl Ty.hd33 rfl (act_spec kD (by omega) (by omega) kD (by omega) (by omega) hx hS11) (fun v13 w12 pv13 => ?_)
     obtain ⟨rfl, hS12⟩ := pv13
     clear hS11
     obtain ⟨D2, eD2⟩ : ∃ qq, qq = (actD D x).1 := ⟨_, rfl⟩
     rw [← eD2] at hS12
     have kD2 : OkD D2 (i + 1) (1000 * (i + 1)) := by rw [eD2]; exact (kD.act hx.fl.2).mono (Nat.le_refl _) (by omega)
     refine WO.val (run_not rfl rfl) rfl rfl rfl ?_
     refine WO.nil ?_
     refine NX.go ?_
     refine WP.condF rfl (notB_t (decide_eq_true rfl)) ?_
     refine WP.skip ?_
     refine NX.go ?_
     refine WP.seq ?_
     refine WP.region rfl ?_
     refine WO.val (run_move rfl) rfl rfl rfl ?_
     refine WO.val (run_fieldAddr (q := ⟨g9, 1, none⟩) (show fieldB Tryd.prog 63 1 = some 1 from by kernel_rfl) rfl rfl) rfl rfl rfl ?_
     refine WO.val (run_load Ty.ag9 rfl ((hS12.cel_at 2 rfl 1).trans rfl)) rfl rfl rfl ?_
     refine WO.call rfl rfl Ty.hd31 rfl (dread_spec kD2.w x.name hS12) (fun v15 w14 pv15 => ?_)
     obtain ⟨rfl, hS14⟩ := pv15
     clear hS12
     refine WO.val (run_move rfl) rfl rfl rfl ?_
     refine WO.val (run_extract rfl rfl) rfl rfl rfl ?_
     refine WO.val (run_extract rfl rfl) rfl rfl rfl ?_
     refine WO.val (run_assign rfl) rfl rfl rfl ?_
     refine WO.val (run_assign rfl) rfl rfl rfl ?_
     refine WO.nil ?_
     refine NX.go ?_
     refine WP.seq ?_
     refine WP.region rfl ?_
     refine WO.val (run_move rfl) rfl rfl rfl ?_
     refine WO.val (run_fieldAddr (q := ⟨g9, 1, none⟩) (show fieldB Tryd.prog 63 1 = some 1 from by kernel_rfl) rfl rfl) rfl rfl rfl ?_
     refine WO.val (run_load Ty.ag9 rfl ((hS14.cel_at 2 rfl 1).trans rfl)) rfl rfl rfl ?_
     have hS16 := hS14.permT [1, 0, 0, 0] (L' := refA g4 D2 :: dkA g1 D2 :: cel g9 [Value.int .i64 x.kind, str x.name, str x.to_, str x.text, Value.int .i64 x.fuse, Value.slice x.keep.a x.keep.l.length x.keep.cap] 63 :: (.pure True) :: L) rfl
     clear hS14
     refine WO.call rfl rfl Ty.hd34 rfl (r4read_spec kD2 (by omega) (by omega) x.name hS16) (fun v18 w17 pv18 => ?_)
     obtain ⟨rfl, hS17⟩ := pv18
     clear hS16
     refine WO.val (run_move rfl) rfl rfl rfl ?_
     refine WO.val (run_extract rfl rfl) rfl rfl rfl ?_
     refine WO.val (run_extract rfl rfl) rfl rfl rfl ?_
     refine WO.val (run_assign rfl) rfl rfl rfl ?_
     refine WO.val (run_assign rfl) rfl rfl rfl ?_
     refine WO.nil ?_
     refine NX.go ?_
     refine WP.seq ?_
     have hnl : (namesD D2).length ≤ 4294967296 := by unfold namesD; split; exact Nat.zero_le _; rw [List.length_map]; have := kD2.w.nm64; omega
     refine WD.start (fun w => (∀ j, World.cell? w ⟨g9, j, none⟩ = [Value.int .i64 x.kind, str x.name, str x.to_, str x.text, Value.int .i64 x.fuse, Value.slice x.keep.a x.keep.l.length x.keep.cap][j]?) ∧ Rd w aa l.length 6 (l.flatMap aac)) [] #[false, false, false, false, false, false, false, false, false, false, false, false, false, false, false, false, false, false, false, false, false, false, false, false, false, false, false, false, false, false, false, false] Ty.mo rfl (by kernel_rfl) hS17 (fun _ h => ⟨h.cel_at 2 rfl, ((fun h => St.rdB h hA) (h.focus 3 rfl))⟩) (fun w19 hS19 s20 => ?_)
     clear hS17
     refine WD.pure (i := 0) diskDoes_core_t14 #[true, false, false, false, false, false, false, false, false, false, false, false, false, false, false, false, false, false, false, false, false, false, false, false, false, false, false, false, false, false, false, false] rfl rfl rfl (by kernel_rfl) (PQ.then (PQ.blk (PQ.then (PQ.then (PQ.blk (PQ.then PQ.body)))))) rfl (fun w => run_move rfl) ?_
     refine WD.pure (i := 1) diskDoes_core_t14 #[true, true, false, false, false, false, false, false, false, false, false, false, false, false, false, false, false, false, false, false, false, false, false, false, false, false, false, false, false, false, false, false] rfl rfl rfl (by kernel_rfl) (PQ.then (PQ.blk (PQ.then (PQ.then (PQ.blk (PQ.then PQ.body)))))) rfl (fun w => run_move rfl) ?_
     refine WD.pure (i := 2) diskDoes_core_t14 #[true, true, true, false, false, false, false, false, false, false, false, false, false, false, false, false, false, false, false, false, false, false, false, false, false, false, false, false, false, false, false, false] rfl rfl rfl (by kernel_rfl) (PQ.then (PQ.blk (PQ.then (PQ.then (PQ.blk (PQ.then PQ.body)))))) rfl (fun w => run_neqS rfl rfl) ?_
     refine WD.pure (i := 3) diskDoes_core_t14 #[true, true, true, true, false, false, false, false, false, false, false, false, false, false, false, false, false, false, false, false, false, false, false, false, false, false, false, false, false, false, false, false] rfl rfl rfl (by kernel_rfl) (PQ.then (PQ.blk (PQ.then (PQ.then (PQ.blk (PQ.then PQ.body)))))) rfl (fun w => run_move rfl) ?_
     refine WD.pureOn (i := 4) diskDoes_core_t14 #[true, true, true, true, true, false, false, false, false, false, false, false, false, false, false, false, false, false, false, false, false, false, false, false, false, false, false, false, false, false, false, false] rfl rfl rfl (decide_eq_false (fun h => h rfl)) (by kernel_rfl) (PQ.then (PQ.blk (PQ.then (PQ.then (PQ.blk (PQ.then PQ.body)))))) rfl (fun w => run_move rfl) ?_
     refine WD.pureOn (i := 5) diskDoes_core_t14 #[true, true, true, true, true, true, false, false, false, false, false, false, false, false, false, false, false, false, false, false, false, false, false, false, false, false, false, false, false, false, false, false] rfl rfl rfl (decide_eq_false (fun h => h rfl)) (by kernel_rfl) (PQ.then (PQ.blk (PQ.then (PQ.then (PQ.blk (PQ.then PQ.body)))))) rfl (fun w => run_move rfl) ?_
     refine WD.pureOn (i := 6) diskDoes_core_t14 #[true, true, true, true, true, true, true, false, false, false, false, false, false, false, false, false, false, false, false, false, false, false, false, false, false, false, false, false, false, false, false, false] rfl rfl rfl (decide_eq_false (fun h => h rfl)) (by kernel_rfl) (PQ.then (PQ.blk (PQ.then (PQ.then (PQ.blk (PQ.then PQ.body)))))) rfl (fun w => run_neq rfl rfl) ?_
     refine WD.pure (i := 7) diskDoes_core_t14 #[true, true, true, true, true, true, true, true, false, false, false, false, false, false, false, false, false, false, false, false, false, false, false, false, false, false, false, false, false, false, false, false] rfl rfl rfl (by kernel_rfl) (PQ.then (PQ.blk (PQ.then (PQ.then (PQ.blk (PQ.then PQ.body)))))) rfl (fun w => run_pickF rfl (decide_eq_false (fun h => h rfl)) rfl) ?_
     refine WD.pure (i := 8) diskDoes_core_t14 #[true, true, true, true, true, true, true, true, true, false, false, false, false, false, false, false, false, false, false, false, false, false, false, false, false, false, false, false, false, false, false, false] rfl rfl rfl (by kernel_rfl) (PQ.then (PQ.blk (PQ.then (PQ.then (PQ.blk (PQ.then PQ.body)))))) rfl (fun w => run_move rfl) ?_
     refine WD.pureOn (i := 9) diskDoes_core_t14 #[true, true, true, true, true, true, true, true, true, true, false, false, false, false, false, false, false, false, false, false, false, false, false, false, false, false, false, false, false, false, false, false] rfl rfl rfl (decide_eq_false (fun h => h rfl)) (by kernel_rfl) (PQ.then (PQ.blk (PQ.then (PQ.then (PQ.blk (PQ.then PQ.body)))))) rfl (fun w => run_move rfl) ?_
     refine WD.pureOn (i := 11) diskDoes_core_t14 #[true, true, true, true, true, true, true, true, true, true, false, true, false, false, false, false, false, false, false, false, false, false, false, false, false, false, false, false, false, false, false, false] rfl rfl rfl (decide_eq_false (fun h => h rfl)) (by kernel_rfl) (PQ.then (PQ.blk (PQ.then (PQ.then (PQ.blk (PQ.then PQ.body)))))) rfl (fun w => run_move rfl) ?_
     refine WD.one (i := 10) diskDoes_core_t14 #[true, true, true, true, true, true, true, true, true, true, true, true, false, false, false, false, false, false, false, false, false, false, false, false, false, false, false, false, false, false, false, false] rfl (by kernel_rfl) ?_
     refine WO.on rfl rfl (decide_eq_false (fun h => h rfl)) ?_
     have hS21 := hS19.permT [1, 0, 0, 0] (L' := dkA g1 D2 :: refA g4 D2 :: cel g9 [Value.int .i64 x.kind, str x.name, str x.to_, str x.text, Value.int .i64 x.fuse, Value.slice x.keep.a x.keep.l.length x.keep.cap] 63 :: (.pure True) :: L) rfl
     clear hS19
     refine WO.call rfl rfl Ty.hd36 rfl (dnames_spec kD2.w hS21) (fun v23 w22 pv23 => ?_)
     obtain ⟨na, nc, rfl, hS22⟩ := pv23
     clear hS21
     refine WO.nil ?_
     have s24 : (∀ j, World.cell? w22 ⟨g9, j, none⟩ = [Value.int .i64 x.kind, str x.name, str x.to_, str x.text, Value.int .i64 x.fuse, Value.slice x.keep.a x.keep.l.length x.keep.cap][j]?) ∧ Rd w22 aa l.length 6 (l.flatMap aac) := ⟨hS22.cel_at 3 rfl, ((fun h => St.rdB h hA) (hS22.focus 4 rfl))⟩
     refine NX.held s24 ?_
     refine WD.one (i := 12) diskDoes_core_t14 #[true, true, true, true, true, true, true, true, true, true, true, true, true, false, false, false, false, false, false, false, false, false, false, false, false, false, false, false, false, false, false, false] rfl (by kernel_rfl) ?_
     refine WO.on rfl rfl (decide_eq_false (fun h => h rfl)) ?_
     have hS25 := hS22.permT [2, 0, 0, 0, 0] (L' := refA g4 D2 :: own na ((namesD D2).length) nc 9 1 ((namesD D2).map str) :: dkA g1 D2 :: cel g9 [Value.int .i64 x.kind, str x.name, str x.to_, str x.text, Value.int .i64 x.fuse, Value.slice x.keep.a x.keep.l.length x.keep.cap] 63 :: (.pure True) :: L) rfl
     clear hS22
     refine WO.call rfl rfl Ty.hd37 rfl (r4list_spec kD2 (by omega) (by omega) hS25) (fun v27 w26 pv27 => ?_)
     obtain ⟨nb, nd, rfl, hS26⟩ := pv27
     clear hS25
     refine WO.nil ?_
     have s28 : (∀ j, World.cell? w26 ⟨g9, j, none⟩ = [Value.int .i64 x.kind, str x.name, str x.to_, str x.text, Value.int .i64 x.fuse, Value.slice x.keep.a x.keep.l.length x.keep.cap][j]?) ∧ Rd w26 aa l.length 6 (l.flatMap aac) := ⟨hS26.cel_at 4 rfl, ((fun h => St.rdB h hA) (hS26.focus 5 rfl))⟩
     refine NX.held s28 ?_
     refine WD.one (i := 13) diskDoes_core_t14 #[true, true, true, true, true, true, true, true, true, true, true, true, true, true, false, false, false, false, false, false, false, false, false, false, false, false, false, false, false, false, false, false] rfl (by kernel_rfl) ?_
     refine WO.on rfl rfl (decide_eq_false (fun h => h rfl)) ?_
     have hS29 := hS26.permT [2, 0, 0, 0, 0, 0] (L' := own na ((namesD D2).length) nc 9 1 ((namesD D2).map str) :: own nb ((namesD D2).length) nd 9 1 ((namesD D2).map str) :: refA g4 D2 :: dkA g1 D2 :: cel g9 [Value.int .i64 x.kind, str x.name, str x.to_, str x.text, Value.int .i64 x.fuse, Value.slice x.keep.a x.keep.l.length x.keep.cap] 63 :: (.pure True) :: L) rfl
     clear hS26
     refine WO.call rfl rfl Ty.hd35 rfl (sameTexts_spec (fun h => h.own_rd.1) (fun h => h.own_rd.1) hnl hS29) (fun v31 w30 pv31 => ?_)
     obtain ⟨rfl, hS30⟩ := pv31
     clear hS29
     refine WO.nil ?_
     have s32 : (∀ j, World.cell? w30 ⟨g9, j, none⟩ = [Value.int .i64 x.kind, str x.name, str x.to_, str x.text, Value.int .i64 x.fuse, Value.slice x.keep.a x.keep.l.length x.keep.cap][j]?) ∧ Rd w30 aa l.length 6 (l.flatMap aac) := ⟨hS30.cel_at 4 rfl, ((fun h => St.rdB h hA) (hS30.focus 5 rfl))⟩
     refine NX.held s32 ?_
     refine WD.pureOn (i := 14) diskDoes_core_t14 #[true, true, true, true, true, true, true, true, true, true, true, true, true, true, true, false, false, false, false, false, false, false, false, false, false, false, false, false, false, false, false, false] rfl rfl rfl (decide_eq_false (fun h => h rfl)) (by kernel_rfl) (PQ.then (PQ.blk (PQ.then (PQ.then (PQ.blk (PQ.then PQ.body)))))) rfl (fun w => run_not rfl rfl) ?_
     refine WD.pure (i := 15) diskDoes_core_t14 #[true, true, true, true, true, true, true, true, true, true, true, true, true, true, true, true, false, false, false, false, false, false, false, false, false, false, false, false, false, false, false, false] rfl rfl rfl (by kernel_rfl) (PQ.then (PQ.blk (PQ.then (PQ.then (PQ.blk (PQ.then PQ.body)))))) rfl (fun w => run_pickF rfl (decide_eq_false (fun h => h rfl)) rfl) ?_
     refine WD.pure (i := 16) diskDoes_core_t14 #[true, true, true, true, true, true, true, true, true, true, true, true, true, true, true, true, true, false, false, false, false, false, false, false, false, false, false, false, false, false, false, false] rfl rfl rfl (by kernel_rfl) (PQ.then (PQ.blk (PQ.then (PQ.then (PQ.blk (PQ.then PQ.body)))))) rfl (fun w => run_move rfl) ?_
     refine WD.pureOn (i := 17) diskDoes_core_t14 #[true, true, true, true, true, true, true, true, true, true, true, true, true, true, true, true, true, true, false, false, false, false, false, false, false, false, false, false, false, false, false, false] rfl rfl rfl (notB_t (decide_eq_true rfl)) (by kernel_rfl) (PQ.then (PQ.blk (PQ.then (PQ.then (PQ.blk (PQ.then PQ.body)))))) rfl (fun w => run_move rfl) ?_
     refine WD.pureOn (i := 19) diskDoes_core_t14 #[true, true, true, true, true, true, true, true, true, true, true, true, true, true, true, true, true, true, false, true, false, false, false, false, false, false, false, false, false, false, false, false] rfl rfl rfl (notB_t (decide_eq_true rfl)) (by kernel_rfl) (PQ.then (PQ.blk (PQ.then (PQ.then (PQ.blk (PQ.then PQ.body)))))) rfl (fun w => run_move rfl) ?_
     refine WD.pureOn (i := 20) diskDoes_core_t14 #[true, true, true, true, true, true, true, true, true, true, true, true, true, true, true, true, true, true, false, true, true, false, false, false, false, false, false, false, false, false, false, false] rfl rfl rfl (notB_t (decide_eq_true rfl)) (by kernel_rfl) (PQ.then (PQ.blk (PQ.then (PQ.then (PQ.blk (PQ.then PQ.body)))))) rfl (fun w => run_nilCheck rfl) ?_
     refine WD.pureOn (i := 21) diskDoes_core_t14 #[true, true, true, true, true, true, true, true, true, true, true, true, true, true, true, true, true, true, false, true, true, true, false, false, false, false, false, false, false, false, false, false] rfl rfl rfl (notB_t (decide_eq_true rfl)) (by kernel_rfl) (PQ.then (PQ.blk (PQ.then (PQ.then (PQ.blk (PQ.then PQ.body)))))) rfl (fun w => run_fieldAddr (q := ⟨g4, 5, none⟩) (show fieldB Tryd.prog 71 5 = some 5 from by kernel_rfl) rfl rfl) ?_
     refine WD.two (i := 18) (k := 22) diskDoes_core_t14 #[true, true, true, true, true, true, true, true, true, true, true, true, true, true, true, true, true, true, true, true, true, true, false, false, false, false, false, false, false, false, false, false] #[true, true, true, true, true, true, true, true, true, true, true, true, true, true, true, true, true, true, false, true, true, true, true, false, false, false, false, false, false, false, false, false] rfl rfl (by kernel_rfl) ?_ ?_
     ·
      refine WO.on rfl rfl (notB_t (decide_eq_true rfl)) ?_
      have hS33 := hS30.permT [3, 0, 0, 0, 0, 0] (L' := dkA g1 D2 :: own na ((namesD D2).length) nc 9 1 ((namesD D2).map str) :: own nb ((namesD D2).length) nd 9 1 ((namesD D2).map str) :: refA g4 D2 :: cel g9 [Value.int .i64 x.kind, str x.name, str x.to_, str x.text, Value.int .i64 x.fuse, Value.slice x.keep.a x.keep.l.length x.keep.cap] 63 :: (.pure True) :: L) rfl
      clear hS30
      refine WO.call rfl rfl Ty.hd25 rfl (dup_spec hS33) (fun v35 w34 pv35 => ?_)
      obtain ⟨rfl, hS34⟩ := pv35
      clear hS33
      refine WO.nil ?_
      have s36 : (∀ j, World.cell? w34 ⟨g9, j, none⟩ = [Value.int .i64 x.kind, str x.name, str x.to_, str x.text, Value.int .i64 x.fuse, Value.slice x.keep.a x.keep.l.length x.keep.cap][j]?) ∧ Rd w34 aa l.length 6 (l.flatMap aac) := ⟨hS34.cel_at 4 rfl, ((fun h => St.rdB h hA) (hS34.focus 5 rfl))⟩
      refine NX.held s36 ?_
      refine WD.one (i := 22) diskDoes_core_t14 #[true, true, true, true, true, true, true, true, true, true, true, true, true, true, true, true, true, true, true, true, true, true, true, false, false, false, false, false, false, false, false, false] rfl (by kernel_rfl) ?_
      refine WO.on rfl rfl (notB_t (decide_eq_true rfl)) ?_
      refine WO.val (run_load Ty.ag4 rfl (rf_dead (hS34.focus 3 rfl))) rfl rfl rfl ?_
      refine WO.nil ?_
      have s37 : (∀ j, World.cell? w34 ⟨g9, j, none⟩ = [Value.int .i64 x.kind, str x.name, str x.to_, str x.text, Value.int .i64 x.fuse, Value.slice x.keep.a x.keep.l.length x.keep.cap][j]?) ∧ Rd w34 aa l.length 6 (l.flatMap aac) := ⟨hS34.cel_at 4 rfl, ((fun h => St.rdB h hA) (hS34.focus 5 rfl))⟩
      refine NX.held s37 ?_
      refine WD.pureOn (i := 23) diskDoes_core_t14 #[true, true, true, true, true, true, true, true, true, true, true, true, true, true, true, true, true, true, true, true, true, true, true, true, false, false, false, false, false, false, false, false] rfl rfl rfl (notB_t (decide_eq_true rfl)) (by kernel_rfl) (PQ.then (PQ.blk (PQ.then (PQ.then (PQ.blk (PQ.then PQ.body)))))) rfl (fun w => run_eqlB Tryd.underlying4 rfl rfl rfl) ?_
      refine WD.pure (i := 24) diskDoes_core_t14 #[true, true, true, true, true, true, true, true, true, true, true, true, true, true, true, true, true, true, true, true, true, true, true, true, true, false, false, false, false, false, false, false] rfl rfl rfl (by kernel_rfl) (PQ.then (PQ.blk (PQ.then (PQ.then (PQ.blk (PQ.then PQ.body)))))) rfl (fun w => run_pickF rfl (notB_t (decide_eq_true rfl)) rfl) ?_
      refine WD.pure (i := 25) diskDoes_core_t14 #[true, true, true, true, true, true, true, true, true, true, true, true, true, true, true, true, true, true, true, true, true, true, true, true, true, true, false, false, false, false, false, false] rfl rfl rfl (by kernel_rfl) (PQ.then (PQ.blk (PQ.then (PQ.then (PQ.blk (PQ.then PQ.body)))))) rfl (fun w => run_move rfl) ?_
      rcases Bool.eq_false_or_eq_true ((!D2.dead) == D2.dead) with g87 | g87
      ·
       exfalso; cases hdd : D2.dead <;> rw [hdd] at g87 <;> exact Bool.noConfusion g87
      ·
       refine WD.pureOn (i := 26) diskDoes_core_t14 #[true, true, true, true, true, true, true, true, true, true, true, true, true, true, true, true, true, true, true, true, true, true, true, true, true, true, true, false, false, false, false, false] rfl rfl rfl g87 (by kernel_rfl) (PQ.then (PQ.blk (PQ.then (PQ.then (PQ.blk (PQ.then PQ.body)))))) rfl (fun w => run_move rfl) ?_
       refine WD.pureOn (i := 28) diskDoes_core_t14 #[true, true, true, true, true, true, true, true, true, true, true, true, true, true, true, true, true, true, true, true, true, true, true, true, true, true, true, false, true, false, false, false] rfl rfl rfl g87 (by kernel_rfl) (PQ.then (PQ.blk (PQ.then (PQ.then (PQ.blk (PQ.then PQ.body)))))) rfl (fun w => run_move rfl) ?_
       refine WD.one (i := 27) diskDoes_core_t14 #[true, true, true, true, true, true, true, true, true, true, true, true, true, true, true, true, true, true, true, true, true, true, true, true, true, true, true, true, true, false, false, false] rfl (by kernel_rfl) ?_
       refine WO.on rfl rfl g87 ?_
       refine WO.call rfl rfl Ty.hd27 rfl (dused_spec kD2.w kD2.b (by omega) hS34) (fun v39 w38 pv39 => ?_)
       obtain ⟨rfl, hS38⟩ := pv39
       clear hS34
       refine WO.nil ?_
       have s40 : (∀ j, World.cell? w38 ⟨g9, j, none⟩ = [Value.int .i64 x.kind, str x.name, str x.to_, str x.text, Value.int .i64 x.fuse, Value.slice x.keep.a x.keep.l.length x.keep.cap][j]?) ∧ Rd w38 aa l.length 6 (l.flatMap aac) := ⟨hS38.cel_at 4 rfl, ((fun h => St.rdB h hA) (hS38.focus 5 rfl))⟩
       refine NX.held s40 ?_
       refine WD.one (i := 29) diskDoes_core_t14 #[true, true, true, true, true, true, true, true, true, true, true, true, true, true, true, true, true, true, true, true, true, true, true, true, true, true, true, true, true, true, false, false] rfl (by kernel_rfl) ?_
       refine WO.on rfl rfl g87 ?_
       have hS41 := hS38.permT [3, 0, 0, 0, 0, 0] (L' := refA g4 D2 :: dkA g1 D2 :: own na ((namesD D2).length) nc 9 1 ((namesD D2).map str) :: own nb ((namesD D2).length) nd 9 1 ((namesD D2).map str) :: cel g9 [Value.int .i64 x.kind, str x.name, str x.to_, str x.text, Value.int .i64 x.fuse, Value.slice x.keep.a x.keep.l.length x.keep.cap] 63 :: (.pure True) :: L) rfl
       clear hS38
       refine WO.call rfl rfl Ty.hd38 rfl (r4used_fold kD2.w kD2.b (by omega) hS41) (fun v43 w42 pv43 => ?_)
       obtain ⟨rfl, hS42⟩ := pv43
       clear hS41
       refine WO.nil ?_
       have s44 : (∀ j, World.cell? w42 ⟨g9, j, none⟩ = [Value.int .i64 x.kind, str x.name, str x.to_, str x.text, Value.int .i64 x.fuse, Value.slice x.keep.a x.keep.l.length x.keep.cap][j]?) ∧ Rd w42 aa l.length 6 (l.flatMap aac) := ⟨hS42.cel_at 4 rfl, ((fun h => St.rdB h hA) (hS42.focus 5 rfl))⟩
       refine NX.held s44 ?_
       refine WD.pureOn (i := 30) diskDoes_core_t14 #[true, true, true, true, true, true, true, true, true, true, true, true, true, true, true, true, true, true, true, true, true, true, true, true, true, true, true, true, true, true, true, false] rfl rfl rfl g87 (by kernel_rfl) (PQ.then (PQ.blk (PQ.then (PQ.then (PQ.blk (PQ.then PQ.body)))))) rfl (fun w => run_neq rfl rfl) ?_
       refine WD.pure (i := 31) diskDoes_core_t14 #[true, true, true, true, true, true, true, true, true, true, true, true, true, true, true, true, true, true, true, true, true, true, true, true, true, true, true, true, true, true, true, true] rfl rfl rfl (by kernel_rfl) (PQ.then (PQ.blk (PQ.then (PQ.then (PQ.blk (PQ.then PQ.body)))))) rfl (fun w => run_pickF rfl g87 rfl) ?_
       refine WD.done diskDoes_core_t14 (by kernel_rfl) ?_
       refine NX.go ?_
       refine WP.condF rfl (decide_eq_false (fun h => h rfl)) ?_
       refine WP.skip ?_
       refine NX.blk ?_
       refine NX.go ?_
       refine WP.region rfl ?_
       refine WO.val (run_move rfl) rfl rfl rfl ?_
       refine WO.val (run_add rfl rfl (IntWalk.i64_in _ (by omega))) rfl rfl rfl ?_
       refine WO.val (run_assign rfl) rfl rfl rfl ?_
       refine WO.nil ?_
       exact NX.again (i + 1, D2) ⟨⟨kD2, by omega⟩, (hS42.permT [2, 2, 2, 0, 0, 0] (L' := own na ((namesD D2).length) nc 9 1 ((namesD D2).map str) :: own nb ((namesD D2).length) nd 9 1 ((namesD D2).map str) :: cel g9 [Value.int .i64 x.kind, str x.name, str x.to_, str x.text, Value.int .i64 x.fuse, Value.slice x.keep.a x.keep.l.length x.keep.cap] 63 :: refA g4 D2 :: dkA g1 D2 :: (.pure True) :: L) rfl).drop.drop.drop⟩ (by show 120 - (i + 1) < 120 - i; omega) (Sub.cons rfl (Sub.cons rfl (Sub.cons rfl (Sub.cons rfl (Sub.consE rfl (by congr 1) (Sub.nil _))))))
     ·
      refine WO.on rfl rfl (notB_t (decide_eq_true rfl)) ?_
      refine WO.val (run_load Ty.ag4 rfl (rf_dead (hS30.focus 2 rfl))) rfl rfl rfl ?_
      refine WO.nil ?_
      have s45 : (∀ j, World.cell? w30 ⟨g9, j, none⟩ = [Value.int .i64 x.kind, str x.name, str x.to_, str x.text, Value.int .i64 x.fuse, Value.slice x.keep.a x.keep.l.length x.keep.cap][j]?) ∧ Rd w30 aa l.length 6 (l.flatMap aac) := ⟨hS30.cel_at 4 rfl, ((fun h => St.rdB h hA) (hS30.focus 5 rfl))⟩
      refine NX.held s45 ?_
      refine WD.one (i := 18) diskDoes_core_t14 #[true, true, true, true, true, true, true, true, true, true, true, true, true, true, true, true, true, true, true, true, true, true, true, false, false, false, false, false, false, false, false, false] rfl (by kernel_rfl) ?_
      refine WO.on rfl rfl (notB_t (decide_eq_true rfl)) ?_
      have hS46 := hS30.permT [3, 0, 0, 0, 0, 0] (L' := dkA g1 D2 :: own na ((namesD D2).length) nc 9 1 ((namesD D2).map str) :: own nb ((namesD D2).length) nd 9 1 ((namesD D2).map str) :: refA g4 D2 :: cel g9 [Value.int .i64 x.kind, str x.name, str x.to_, str x.text, Value.int .i64 x.fuse, Value.slice x.keep.a x.keep.l.length x.keep.cap] 63 :: (.pure True) :: L) rfl
      clear hS30
      refine WO.call rfl rfl Ty.hd25 rfl (dup_spec hS46) (fun v48 w47 pv48 => ?_)
      obtain ⟨rfl, hS47⟩ := pv48
      clear hS46
      refine WO.nil ?_
      have s49 : (∀ j, World.cell? w47 ⟨g9, j, none⟩ = [Value.int .i64 x.kind, str x.name, str x.to_, str x.text, Value.int .i64 x.fuse, Value.slice x.keep.a x.keep.l.length x.keep.cap][j]?) ∧ Rd w47 aa l.length 6 (l.flatMap aac) := ⟨hS47.cel_at 4 rfl, ((fun h => St.rdB h hA) (hS47.focus 5 rfl))⟩
      refine NX.held s49 ?_
      refine WD.pureOn (i := 23) diskDoes_core_t14 #[true, true, true, true, true, true, true, true, true, true, true, true, true, true, true, true, true, true, true, true, true, true, true, true, false, false, false, false, false, false, false, false] rfl rfl rfl (notB_t (decide_eq_true rfl)) (by kernel_rfl) (PQ.then (PQ.blk (PQ.then (PQ.then (PQ.blk (PQ.then PQ.body)))))) rfl (fun w => run_eqlB Tryd.underlying4 rfl rfl rfl) ?_
      refine WD.pure (i := 24) diskDoes_core_t14 #[true, true, true, true, true, true, true, true, true, true, true, true, true, true, true, true, true, true, true, true, true, true, true, true, true, false, false, false, false, false, false, false] rfl rfl rfl (by kernel_rfl) (PQ.then (PQ.blk (PQ.then (PQ.then (PQ.blk (PQ.then PQ.body)))))) rfl (fun w => run_pickF rfl (notB_t (decide_eq_true rfl)) rfl) ?_
      refine WD.pure (i := 25) diskDoes_core_t14 #[true, true, true, true, true, true, true, true, true, true, true, true, true, true, true, true, true, true, true, true, true, true, true, true, true, true, false, false, false, false, false, false] rfl rfl rfl (by kernel_rfl) (PQ.then (PQ.blk (PQ.then (PQ.then (PQ.blk (PQ.then PQ.body)))))) rfl (fun w => run_move rfl) ?_
      rcases Bool.eq_false_or_eq_true ((!D2.dead) == D2.dead) with g87 | g87
      ·
       exfalso; cases hdd : D2.dead <;> rw [hdd] at g87 <;> exact Bool.noConfusion g87
      ·
       refine WD.pureOn (i := 26) diskDoes_core_t14 #[true, true, true, true, true, true, true, true, true, true, true, true, true, true, true, true, true, true, true, true, true, true, true, true, true, true, true, false, false, false, false, false] rfl rfl rfl g87 (by kernel_rfl) (PQ.then (PQ.blk (PQ.then (PQ.then (PQ.blk (PQ.then PQ.body)))))) rfl (fun w => run_move rfl) ?_
       refine WD.pureOn (i := 28) diskDoes_core_t14 #[true, true, true, true, true, true, true, true, true, true, true, true, true, true, true, true, true, true, true, true, true, true, true, true, true, true, true, false, true, false, false, false] rfl rfl rfl g87 (by kernel_rfl) (PQ.then (PQ.blk (PQ.then (PQ.then (PQ.blk (PQ.then PQ.body)))))) rfl (fun w => run_move rfl) ?_
       refine WD.one (i := 27) diskDoes_core_t14 #[true, true, true, true, true, true, true, true, true, true, true, true, true, true, true, true, true, true, true, true, true, true, true, true, true, true, true, true, true, false, false, false] rfl (by kernel_rfl) ?_
       refine WO.on rfl rfl g87 ?_
       refine WO.call rfl rfl Ty.hd27 rfl (dused_spec kD2.w kD2.b (by omega) hS47) (fun v51 w50 pv51 => ?_)
       obtain ⟨rfl, hS50⟩ := pv51
       clear hS47
       refine WO.nil ?_
       have s52 : (∀ j, World.cell? w50 ⟨g9, j, none⟩ = [Value.int .i64 x.kind, str x.name, str x.to_, str x.text, Value.int .i64 x.fuse, Value.slice x.keep.a x.keep.l.length x.keep.cap][j]?) ∧ Rd w50 aa l.length 6 (l.flatMap aac) := ⟨hS50.cel_at 4 rfl, ((fun h => St.rdB h hA) (hS50.focus 5 rfl))⟩
       refine NX.held s52 ?_
       refine WD.one (i := 29) diskDoes_core_t14 #[true, true, true, true, true, true, true, true, true, true, true, true, true, true, true, true, true, true, true, true, true, true, true, true, true, true, true, true, true, true, false, false] rfl (by kernel_rfl) ?_
       refine WO.on rfl rfl g87 ?_
       have hS53 := hS50.permT [3, 0, 0, 0, 0, 0] (L' := refA g4 D2 :: dkA g1 D2 :: own na ((namesD D2).length) nc 9 1 ((namesD D2).map str) :: own nb ((namesD D2).length) nd 9 1 ((namesD D2).map str) :: cel g9 [Value.int .i64 x.kind, str x.name, str x.to_, str x.text, Value.int .i64 x.fuse, Value.slice x.keep.a x.keep.l.length x.keep.cap] 63 :: (.pure True) :: L) rfl
       clear hS50
       refine WO.call rfl rfl Ty.hd38 rfl (r4used_fold kD2.w kD2.b (by omega) hS53) (fun v55 w54 pv55 => ?_)
       obtain ⟨rfl, hS54⟩ := pv55
       clear hS53
       refine WO.nil ?_
       have s56 : (∀ j, World.cell? w54 ⟨g9, j, none⟩ = [Value.int .i64 x.kind, str x.name, str x.to_, str x.text, Value.int .i64 x.fuse, Value.slice x.keep.a x.keep.l.length x.keep.cap][j]?) ∧ Rd w54 aa l.length 6 (l.flatMap aac) := ⟨hS54.cel_at 4 rfl, ((fun h => St.rdB h hA) (hS54.focus 5 rfl))⟩
       refine NX.held s56 ?_
       refine WD.pureOn (i := 30) diskDoes_core_t14 #[true, true, true, true, true, true, true, true, true, true, true, true, true, true, true, true, true, true, true, true, true, true, true, true, true, true, true, true, true, true, true, false] rfl rfl rfl g87 (by kernel_rfl) (PQ.then (PQ.blk (PQ.then (PQ.then (PQ.blk (PQ.then PQ.body)))))) rfl (fun w => run_neq rfl rfl) ?_
       refine WD.pure (i := 31) diskDoes_core_t14 #[true, true, true, true, true, true, true, true, true, true, true, true, true, true, true, true, true, true, true, true, true, true, true, true, true, true, true, true, true, true, true, true] rfl rfl rfl (by kernel_rfl) (PQ.then (PQ.blk (PQ.then (PQ.then (PQ.blk (PQ.then PQ.body)))))) rfl (fun w => run_pickF rfl g87 rfl) ?_
       refine WD.done diskDoes_core_t14 (by kernel_rfl) ?_
       refine NX.go ?_
       refine WP.condF rfl (decide_eq_false (fun h => h rfl)) ?_
       refine WP.skip ?_
       refine NX.blk ?_
       refine NX.go ?_
       refine WP.region rfl ?_
       refine WO.val (run_move rfl) rfl rfl rfl ?_
       refine WO.val (run_add rfl rfl (IntWalk.i64_in _ (by omega))) rfl rfl rfl ?_
       refine WO.val (run_assign rfl) rfl rfl rfl ?_
       refine WO.nil ?_
       exact NX.again (i + 1, D2) ⟨⟨kD2, by omega⟩, (hS54.permT [2, 2, 2, 0, 0, 0] (L' := own na ((namesD D2).length) nc 9 1 ((namesD D2).map str) :: own nb ((namesD D2).length) nd 9 1 ((namesD D2).map str) :: cel g9 [Value.int .i64 x.kind, str x.name, str x.to_, str x.text, Value.int .i64 x.fuse, Value.slice x.keep.a x.keep.l.length x.keep.cap] 63 :: refA g4 D2 :: dkA g1 D2 :: (.pure True) :: L) rfl).drop.drop.drop⟩ (by show 120 - (i + 1) < 120 - i; omega) (Sub.cons rfl (Sub.cons rfl (Sub.cons rfl (Sub.cons rfl (Sub.consE rfl (by congr 1) (Sub.nil _))))))
  ·
   refine WP.exit ?_
   refine NX.thenExit ?_
   refine NX.thenExit ?_
   refine NX.blkExit ?_
   refine NX.go ?_
   refine WP.seq ?_
   refine WP.region rfl ?_
   refine WO.val (run_assign rfl) rfl rfl rfl ?_
   refine WO.nil ?_
   refine NX.go ?_
   refine WP.ret ?_
   refine NX.done (l := [.tmp 4]) rfl rfl ?_
   exact ⟨rfl, hS7.drop.drop.drop⟩
 ·
  refine WO.off rfl rfl (decide_eq_false g23) rfl ?_
  refine WO.off rfl rfl (decide_eq_false g23) rfl ?_
  refine WO.val (run_pickF rfl (decide_eq_false g23) rfl) rfl rfl rfl ?_
  refine WO.nil ?_
  refine NX.go ?_
  refine WP.condF rfl rfl ?_
  refine WP.exit ?_
  refine NX.thenExit ?_
  refine NX.thenExit ?_
  refine NX.blkExit ?_
  refine NX.go ?_
  refine WP.seq ?_
  refine WP.region rfl ?_
  refine WO.val (run_assign rfl) rfl rfl rfl ?_
  refine WO.nil ?_
  refine NX.go ?_
  refine WP.ret ?_
  refine NX.done (l := [.tmp 4]) rfl rfl ?_
  exact ⟨rfl, hS7.drop.drop.drop⟩
end Go.Proofs.YtcehlnpbdffdhaaDoor.SL
