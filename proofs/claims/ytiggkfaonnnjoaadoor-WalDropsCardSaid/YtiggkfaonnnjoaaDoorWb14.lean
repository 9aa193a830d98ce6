/- The log: segments are let go. -/
import Derived.Test.YtiggkfaonnnjoaaDoorWb7M
import Derived.Test.YtiggkfaonnnjoaaDoorWu
namespace Go.Proofs.YtiggkfaonnnjoaaDoor.SL
open Go.RowKit Go.Proofs.YtiggkfaonnnjoaaDoor
open Go.Proofs.YtiggkfaonnnjoaaDoorW.PrintLast (rtab opsOf)
set_option linter.unusedVariables false
set_option linter.unusedSimpArgs false
theorem ldrop_spec_t3 : rtab .any (opsOf Tryd.f18 3) = (true, [([], []), ([0], [0]), ([1], [1]), ([2], [2]), ([], []), ([4], [4]), ([5], [5]), ([6], [6]), ([7], [7]), ([8], [8]), ([9], [9]), ([10], [10]), ([11], [11]), ([12], [12]), ([3, 13, 13], [3, 13]), ([14, 14, 0, 1, 2, 3, 4, 5, 6, 7, 8, 9, 10, 11, 12, 13, 14], [14])]) := by kernel_rfl
theorem ldrop_spec {B w : World} {L : List HP} {g gd m t : Nat} {lg : Lg} {D : Dk} (nb : Int) (hk : OkL lg) (hd : OkD D m t) (hm : m ≤ 100000000) (hrm : (rmAll (nmsW (lg.l.take (dropC nb lg.l))) D).2 = 0) (hsn : ¬ (dropC nb lg.l) = 0 → (syncNamesD (rmAll (nmsW (lg.l.take (dropC nb lg.l))) D).1).2 = 0) (hS : St B (lgA g gd lg :: dkA gd D :: L) w) : Does Tryd.prog 18 [Value.pointer (some ⟨g, 0, none⟩), Value.int .i64 nb] w (fun v w1 => v = .int .i64 0 ∧ St B (lgA g gd ⟨lg.l.drop (dropC nb lg.l), lg.hand, lg.begun, lg.last, lg.durable⟩ :: dkA gd (if (dropC nb lg.l) = 0 then D else (syncNamesD (rmAll (nmsW (lg.l.take (dropC nb lg.l))) D).1).1) :: L) w1) := by
 have hln := hk.n
 obtain ⟨y, hgl, h0⟩ := hS.lg_open
 clear hS
 refine enter (n := 57) Tryd.func18 rfl rfl [Value.pointer (some ⟨g, 0, none⟩), Value.int .i64 nb] rfl ?_
 refine WP.seq (WP.region rfl ?_)
 refine WO.asg rfl rfl ?_
 refine WO.nil (NX.go (WP.seq (WP.region rfl ?_)))
 refine WO.asg rfl rfl ?_
 refine WO.nil (NX.go (WP.seq ?_))
 refine WP.meet (α := Nat × Option Addr × Nat × Dk) (fun x => match x with | ⟨jf, af, cf, Df⟩ => [(0, Value.pointer (some ⟨g, 0, none⟩)), (5, Value.bool (decide (0 < jf)))]) (fun x w => match x with | ⟨jf, af, cf, Df⟩ => (jf ≤ lg.l.length ∧ (jf = 0 ∨ jf < lg.l.length) ∧ rmAll (nmsW (lg.l.take jf)) D = (Df, 0) ∧ OkD Df (m + jf) t ∧ (dropC nb lg.l) = jf) ∧ St B (cel g [Value.pointer (some ⟨gd, 0, none⟩), Value.slice af (lg.l.length - jf) cf, handV lg.hand y.gs, Value.bool lg.begun, Value.int .i64 (lg.last : Int), Value.int .i64 (lg.durable : Int)] 55 :: own af (lg.l.length - jf) cf 53 1 ((y.gs.drop jf).map ptrV) :: sqA sgA (y.gs.drop jf) (lg.l.drop jf) :: dkA gd Df :: L) w) ?_ (fun K1 => ?_)
 ·
  rintro ⟨jf, af, cf, Df⟩ w2 ⟨⟨hj, hj0, hrm1, hkq, hdc⟩, hS2⟩
  clear h0
  refine NX.go (WP.seq (WP.seq (WP.region rfl ?_)))
  refine WO.mv rfl rfl ?_
  refine WO.val (run_notP rfl) rfl rfl rfl ?_
  refine WO.nil (NX.go ?_)
  refine WP.condP rfl (fun g51 => ?_) (fun g51 => ?_)
  ·
   refine WP.seq (WP.region rfl ?_)
   refine WO.asg rfl rfl ?_
   refine WO.nil (NX.go (WP.ret (NX.thenRet ?_)))
   refine NX.done (l := [.tmp 4]) rfl rfl ?_
   have hhv : handV lg.hand y.gs = handV lg.hand (y.gs.drop jf) := by unfold handV; cases hj0 with | inl h0 => (rw [h0]; rfl) | inr h0 => (rw [getLastD_drop (by omega)])
   have hD : Df = (if (dropC nb lg.l) = 0 then D else (syncNamesD (rmAll (nmsW (lg.l.take (dropC nb lg.l))) D).1).1) := by rw [hdc, if_pos (by omega)]; have h0 : jf = 0 := (by omega); rw [h0] at hrm1; exact (congrArg Prod.fst hrm1).symm
   have z := hS2
   rw [hhv, hD, ← List.length_drop, ← hdc] at z
   exact ⟨rfl, St.lg_shut (lg := ⟨lg.l.drop (dropC nb lg.l), lg.hand, lg.begun, lg.last, lg.durable⟩) ⟨af, cf, y.gs.drop (dropC nb lg.l)⟩ z⟩
  ·
   refine WP.skip (NX.go (WP.seq (WP.region rfl ?_)))
   refine WO.mv rfl rfl ?_
   refine WO.val (run_nilCheck rfl) rfl rfl rfl ?_
   refine WO.val (run_fieldAddr (q := ⟨g, 0, none⟩) (show fieldB Tryd.prog 55 0 = some 0 from by kernel_rfl) rfl rfl) rfl rfl rfl ?_
   refine WO.val (run_load Ty.ag26 rfl ((hS2.cel_at 0 rfl 0).trans rfl)) rfl rfl rfl ?_
   have hS3 := hS2.permT [3, 0, 0, 0] (L' := dkA gd Df :: cel g [Value.pointer (some ⟨gd, 0, none⟩), Value.slice af (lg.l.length - jf) cf, handV lg.hand y.gs, Value.bool lg.begun, Value.int .i64 (lg.last : Int), Value.int .i64 (lg.durable : Int)] 55 :: own af (lg.l.length - jf) cf 53 1 ((y.gs.drop jf).map ptrV) :: sqA sgA (y.gs.drop jf) (lg.l.drop jf) :: L) rfl
   clear hS2
   refine WO.call rfl rfl Ty.hd34 rfl (dsyncNames_spec hkq.w hS3) (fun v5 w4 pv5 => ?_)
   obtain ⟨hv, hS4⟩ := pv5
   clear hS3
   have hs0 : (syncNamesD Df).2 = 0 := by have z := hsn (by omega); rw [hdc, hrm1] at z; exact z
   rw [hs0] at hv
   subst hv
   refine WO.asg rfl rfl ?_
   refine WO.nil (NX.go (WP.ret ?_))
   refine NX.done (l := [.tmp 4]) rfl rfl ?_
   have hhv : handV lg.hand y.gs = handV lg.hand (y.gs.drop jf) := by unfold handV; cases hj0 with | inl h0 => (rw [h0]; rfl) | inr h0 => (rw [getLastD_drop (by omega)])
   have hD : (syncNamesD Df).1 = (if (dropC nb lg.l) = 0 then D else (syncNamesD (rmAll (nmsW (lg.l.take (dropC nb lg.l))) D).1).1) := by rw [hdc, if_neg (by omega), hrm1]
   have z := (hS4.permT [1, 1, 1, 0] (L' := cel g [Value.pointer (some ⟨gd, 0, none⟩), Value.slice af (lg.l.length - jf) cf, handV lg.hand y.gs, Value.bool lg.begun, Value.int .i64 (lg.last : Int), Value.int .i64 (lg.durable : Int)] 55 :: own af (lg.l.length - jf) cf 53 1 ((y.gs.drop jf).map ptrV) :: sqA sgA (y.gs.drop jf) (lg.l.drop jf) :: dkA gd ((syncNamesD Df).1) :: L) rfl)
   rw [hhv, hD, ← List.length_drop, ← hdc] at z
   exact ⟨rfl, St.lg_shut (lg := ⟨lg.l.drop (dropC nb lg.l), lg.hand, lg.begun, lg.last, lg.durable⟩) ⟨af, cf, y.gs.drop (dropC nb lg.l)⟩ z⟩
 ·
  refine WP.block ?_
  refine WP.loop (α := Nat × Option Addr × Nat × Dk) (fun x => match x with | ⟨j, aq, cq, Dq⟩ => [(0, Value.pointer (some ⟨g, 0, none⟩)), (1, Value.int .i64 nb), (5, Value.bool (decide (0 < j)))]) (fun x w => match x with | ⟨j, aq, cq, Dq⟩ => (j ≤ lg.l.length ∧ (j = 0 ∨ j < lg.l.length) ∧ rmAll (nmsW (lg.l.take j)) D = (Dq, 0) ∧ OkD Dq (m + j) t ∧ (dropC nb lg.l) = j + dropC nb (lg.l.drop j)) ∧ St B (cel g [Value.pointer (some ⟨gd, 0, none⟩), Value.slice aq (lg.l.length - j) cq, handV lg.hand y.gs, Value.bool lg.begun, Value.int .i64 (lg.last : Int), Value.int .i64 (lg.durable : Int)] 55 :: own aq (lg.l.length - j) cq 53 1 ((y.gs.drop j).map ptrV) :: sqA sgA (y.gs.drop j) (lg.l.drop j) :: dkA gd Dq :: L) w) (fun x => match x with | ⟨j, aq, cq, Dq⟩ => lg.l.length - j) (0, y.a, y.cap, D) ⟨⟨Nat.zero_le _, .inl rfl, rfl, hd, by rw [List.drop_zero, Nat.zero_add]⟩, h0⟩ (Sub.cons rfl (Sub.cons rfl (Sub.consE rfl (by first | rfl | first | rfl | (congr 1; omega) | (simp; done) | (simp; omega)) (Sub.nil _)))) ?_
  rintro ⟨j, aq, cq, Dq⟩ w6 ⟨⟨hj, hj0, hrm1, hkq, hdc⟩, hS6⟩
  clear h0
  refine WP.seq (WP.seq (WP.region rfl ?_))
  refine WO.mv rfl rfl ?_
  refine WO.val (run_nilCheck rfl) rfl rfl rfl ?_
  refine WO.val (run_fieldAddr (q := ⟨g, 1, none⟩) (show fieldB Tryd.prog 55 1 = some 1 from by kernel_rfl) rfl rfl) rfl rfl rfl ?_
  refine WO.val (run_load Ty.ag52 rfl ((hS6.cel_at 0 rfl 1).trans rfl)) rfl rfl rfl ?_
  refine WO.val (run_len rfl Tryd.underlying52 rfl) rfl rfl rfl ?_
  refine WO.val (run_gtr rfl rfl) rfl rfl rfl ?_
  refine WO.mv rfl rfl ?_
  by_cases g13 : 1 < (((lg.l.length - j) : Nat) : Int)
  ·
   obtain ⟨x, hx⟩ : ∃ x, lg.l[j]? = some x := ⟨_, List.getElem?_eq_getElem (by omega)⟩
   have hx0 : (lg.l.drop j)[0]? = some x := by rw [List.getElem?_drop, Nat.add_zero]; exact hx
   have hxm := List.mem_of_getElem? hx
   have hxb := hk.b x hxm
   have hxo := hk.one hx
   obtain ⟨gi, hgi, hS7⟩ := sqA_pick (i := 0) hx0 (hS6.permT [2, 0, 0, 0] (L' := sqA sgA (y.gs.drop j) (lg.l.drop j) :: cel g [Value.pointer (some ⟨gd, 0, none⟩), Value.slice aq (lg.l.length - j) cq, handV lg.hand y.gs, Value.bool lg.begun, Value.int .i64 (lg.last : Int), Value.int .i64 (lg.durable : Int)] 55 :: own aq (lg.l.length - j) cq 53 1 ((y.gs.drop j).map ptrV) :: dkA gd Dq :: L) rfl)
   clear hS6
   obtain ⟨pi, hS8⟩ := hS7.sg_open
   clear hS7
   replace hS8 : St B (cel gi [Value.int .i64 (x.first : Int), Value.slice pi.1 x.rs.length pi.2, Value.int .i64 ((encR x.rs).length : Int), Value.bool x.dirty] 68 :: own pi.1 x.rs.length pi.2 3 1 (pis x.rs) :: sqBut sgA 0 (y.gs.drop j) (lg.l.drop j) :: cel g [Value.pointer (some ⟨gd, 0, none⟩), Value.slice aq (lg.l.length - j) cq, handV lg.hand y.gs, Value.bool lg.begun, Value.int .i64 (lg.last : Int), Value.int .i64 (lg.durable : Int)] 55 :: own aq (lg.l.length - j) cq 53 1 ((y.gs.drop j).map ptrV) :: dkA gd Dq :: L) w6 := hS8
   have hcq := hS8.own_le_i 4 rfl
   have hsaq : aq.isSome = true := by obtain ⟨qq, hq, _⟩ := (hS8.own_rd_i 4 rfl).2.1 (by omega); rw [hq]; rfl
   refine WO.on rfl rfl (decide_eq_true g13) ?_
   refine WO.mv rfl rfl ?_
   refine WO.on rfl rfl (decide_eq_true g13) ?_
   refine WO.val (run_nilCheck rfl) rfl rfl rfl ?_
   refine WO.on rfl rfl (decide_eq_true g13) ?_
   refine WO.val (run_fieldAddr (q := ⟨g, 1, none⟩) (show fieldB Tryd.prog 55 1 = some 1 from by kernel_rfl) rfl rfl) rfl rfl rfl ?_
   refine WO.on rfl rfl (decide_eq_true g13) ?_
   refine WO.val (run_load Ty.ag52 rfl ((hS8.cel_at 3 rfl 1).trans rfl)) rfl rfl rfl ?_
   refine WO.on rfl rfl (decide_eq_true g13) ?_
   refine WO.val (run_indexAddr (q := adr aq 0) Tryd.underlying52 Ty.sz53 rfl rfl (by omega) (by omega) ((hS8.own_rd_i 4 rfl).2.1 (by omega)) (by simp)) rfl rfl rfl ?_
   refine WO.on rfl rfl (decide_eq_true g13) ?_
   refine WO.val (run_load Ty.ag53 rfl ((hS8.own_rd_i 4 rfl).cell (by rw [List.getElem?_map, hgi]; rfl))) rfl rfl rfl ?_
   refine WO.on rfl rfl (decide_eq_true g13) ?_
   refine WO.call rfl rfl Ty.hd39 rfl (slast_spec (x := x) (by omega) hS8) (fun v10 w9 pv10 => ?_)
   obtain ⟨rfl, hS9⟩ := pv10
   clear hS8
   refine WO.on rfl rfl (decide_eq_true g13) ?_
   refine WO.mv rfl rfl ?_
   refine WO.on rfl rfl (decide_eq_true g13) ?_
   refine WO.val (run_lss rfl rfl) rfl rfl rfl ?_
   refine WO.val (run_pickT rfl (decide_eq_true g13) rfl) rfl rfl rfl ?_
   refine WO.nil (NX.go ?_)
   refine WP.condP rfl (fun g23 => ?_) (fun g23 => ?_)
   ·
    have hlt : (endS x : Int) < nb := by unfold endS; omega
    have hdg := dropC_go hx (by omega) hlt
    have hrn := rm_next (K := dropC nb lg.l) hx (by omega) hrm1 hrm
    refine WP.skip (NX.go (WP.block (WP.seq (WP.seq ?_))))
    refine WD.start (fun w => (∀ jz, World.cell? w ⟨gi, jz, none⟩ = [Value.int .i64 (x.first : Int), Value.slice pi.1 x.rs.length pi.2, Value.int .i64 ((encR x.rs).length : Int), Value.bool x.dirty][jz]?) ∧ (∀ jz, World.cell? w ⟨g, jz, none⟩ = [Value.pointer (some ⟨gd, 0, none⟩), Value.slice aq (lg.l.length - j) cq, handV lg.hand y.gs, Value.bool lg.begun, Value.int .i64 (lg.last : Int), Value.int .i64 (lg.durable : Int)][jz]?) ∧ Rd w aq (lg.l.length - j) 1 ((y.gs.drop j).map ptrV)) [] (bt 16 0) Ty.mo rfl (by kernel_rfl) hS9 (fun _ h => ⟨h.cel_at 0 rfl, h.cel_at 3 rfl, (h.own_rd_i 4 rfl)⟩) (fun w11 hS11 s12 => ?_)
    clear hS9
    refine WD.pure (i := 0) ldrop_spec_t3 (bt 16 1) rfl rfl rfl (by kernel_rfl) (PQ.then (PQ.then (PQ.blk (PQ.then (PQ.blk (PQ.then PQ.body)))))) rfl (fun w => run_move rfl) ?_
    refine WD.pure (i := 1) ldrop_spec_t3 (bt 16 3) rfl rfl rfl (by kernel_rfl) (PQ.then (PQ.then (PQ.blk (PQ.then (PQ.blk (PQ.then PQ.body)))))) rfl (fun w => run_nilCheck rfl) ?_
    refine WD.pure (i := 2) ldrop_spec_t3 (bt 16 7) rfl rfl rfl (by kernel_rfl) (PQ.then (PQ.then (PQ.blk (PQ.then (PQ.blk (PQ.then PQ.body)))))) rfl (fun w => run_fieldAddr (q := ⟨g, 0, none⟩) (show fieldB Tryd.prog 55 0 = some 0 from by kernel_rfl) rfl rfl) ?_
    refine WD.take (i := 3) ldrop_spec_t3 (bt 16 15) s12 rfl rfl rfl (by kernel_rfl) (PQ.then (PQ.then (PQ.blk (PQ.then (PQ.blk (PQ.then PQ.body)))))) rfl (fun w hs => run_load Ty.ag26 rfl ((hs.2.1 0).trans rfl)) ?_
    refine WD.pure (i := 4) ldrop_spec_t3 (bt 16 31) rfl rfl rfl (by kernel_rfl) (PQ.then (PQ.then (PQ.blk (PQ.then (PQ.blk (PQ.then PQ.body)))))) rfl (fun w => run_move rfl) ?_
    refine WD.pure (i := 5) ldrop_spec_t3 (bt 16 63) rfl rfl rfl (by kernel_rfl) (PQ.then (PQ.then (PQ.blk (PQ.then (PQ.blk (PQ.then PQ.body)))))) rfl (fun w => run_nilCheck rfl) ?_
    refine WD.pure (i := 6) ldrop_spec_t3 (bt 16 127) rfl rfl rfl (by kernel_rfl) (PQ.then (PQ.then (PQ.blk (PQ.then (PQ.blk (PQ.then PQ.body)))))) rfl (fun w => run_fieldAddr (q := ⟨g, 1, none⟩) (show fieldB Tryd.prog 55 1 = some 1 from by kernel_rfl) rfl rfl) ?_
    refine WD.take (i := 7) ldrop_spec_t3 (bt 16 255) s12 rfl rfl rfl (by kernel_rfl) (PQ.then (PQ.then (PQ.blk (PQ.then (PQ.blk (PQ.then PQ.body)))))) rfl (fun w hs => run_load Ty.ag52 rfl ((hs.2.1 1).trans rfl)) ?_
    refine WD.take (i := 8) ldrop_spec_t3 (bt 16 511) s12 rfl rfl rfl (by kernel_rfl) (PQ.then (PQ.then (PQ.blk (PQ.then (PQ.blk (PQ.then PQ.body)))))) rfl (fun w hs => run_indexAddr (q := adr aq 0) Tryd.underlying52 Ty.sz53 rfl rfl (by omega) (by omega) ((hs.2.2).2.1 (by omega)) (by simp)) ?_
    refine WD.take (i := 9) ldrop_spec_t3 (bt 16 1023) s12 rfl rfl rfl (by kernel_rfl) (PQ.then (PQ.then (PQ.blk (PQ.then (PQ.blk (PQ.then PQ.body)))))) rfl (fun w hs => run_load Ty.ag53 rfl ((hs.2.2).cell (by rw [List.getElem?_map, hgi]; rfl))) ?_
    refine WD.pure (i := 10) ldrop_spec_t3 (bt 16 2047) rfl rfl rfl (by kernel_rfl) (PQ.then (PQ.then (PQ.blk (PQ.then (PQ.blk (PQ.then PQ.body)))))) rfl (fun w => run_nilCheck rfl) ?_
    refine WD.pure (i := 11) ldrop_spec_t3 (bt 16 4095) rfl rfl rfl (by kernel_rfl) (PQ.then (PQ.then (PQ.blk (PQ.then (PQ.blk (PQ.then PQ.body)))))) rfl (fun w => run_fieldAddr (q := ⟨gi, 0, none⟩) (show fieldB Tryd.prog 68 0 = some 0 from by kernel_rfl) rfl rfl) ?_
    refine WD.take (i := 12) ldrop_spec_t3 (bt 16 8191) s12 rfl rfl rfl (by kernel_rfl) (PQ.then (PQ.then (PQ.blk (PQ.then (PQ.blk (PQ.then PQ.body)))))) rfl (fun w hs => run_load Ty.ag3 rfl ((hs.1 0).trans rfl)) ?_
    refine WD.one (i := 13) ldrop_spec_t3 (bt 16 16383) rfl (by kernel_rfl) ?_
    refine WO.call rfl rfl Ty.hd32 rfl (wname_spec x.first (by omega) hS11) (fun v14 w13 pv14 => ?_)
    obtain ⟨rfl, hS13⟩ := pv14
    clear hS11
    refine WO.nil ?_
    have s15 : (∀ jz, World.cell? w13 ⟨gi, jz, none⟩ = [Value.int .i64 (x.first : Int), Value.slice pi.1 x.rs.length pi.2, Value.int .i64 ((encR x.rs).length : Int), Value.bool x.dirty][jz]?) ∧ (∀ jz, World.cell? w13 ⟨g, jz, none⟩ = [Value.pointer (some ⟨gd, 0, none⟩), Value.slice aq (lg.l.length - j) cq, handV lg.hand y.gs, Value.bool lg.begun, Value.int .i64 (lg.last : Int), Value.int .i64 (lg.durable : Int)][jz]?) ∧ Rd w13 aq (lg.l.length - j) 1 ((y.gs.drop j).map ptrV) := ⟨hS13.cel_at 0 rfl, hS13.cel_at 3 rfl, (hS13.own_rd_i 4 rfl)⟩
    refine NX.held s15 ?_
    refine WD.one (i := 14) ldrop_spec_t3 (bt 16 32767) rfl (by kernel_rfl) ?_
    have hS16 := hS13.permT [5, 0, 0, 0, 0, 0] (L' := dkA gd Dq :: cel gi [Value.int .i64 (x.first : Int), Value.slice pi.1 x.rs.length pi.2, Value.int .i64 ((encR x.rs).length : Int), Value.bool x.dirty] 68 :: own pi.1 x.rs.length pi.2 3 1 (pis x.rs) :: sqBut sgA 0 (y.gs.drop j) (lg.l.drop j) :: cel g [Value.pointer (some ⟨gd, 0, none⟩), Value.slice aq (lg.l.length - j) cq, handV lg.hand y.gs, Value.bool lg.begun, Value.int .i64 (lg.last : Int), Value.int .i64 (lg.durable : Int)] 55 :: own aq (lg.l.length - j) cq 53 1 ((y.gs.drop j).map ptrV) :: L) rfl
    clear hS13
    refine WO.call rfl rfl Ty.hd41 rfl (dremove_spec hkq.w hkq.b (by omega) (nameW x.first) hS16) (fun v18 w17 pv18 => ?_)
    obtain ⟨hv, hS17⟩ := pv18
    clear hS16
    rw [hrn.1] at hv
    subst hv
    refine WO.nil ?_
    have s19 : (∀ jz, World.cell? w17 ⟨gi, jz, none⟩ = [Value.int .i64 (x.first : Int), Value.slice pi.1 x.rs.length pi.2, Value.int .i64 ((encR x.rs).length : Int), Value.bool x.dirty][jz]?) ∧ (∀ jz, World.cell? w17 ⟨g, jz, none⟩ = [Value.pointer (some ⟨gd, 0, none⟩), Value.slice aq (lg.l.length - j) cq, handV lg.hand y.gs, Value.bool lg.begun, Value.int .i64 (lg.last : Int), Value.int .i64 (lg.durable : Int)][jz]?) ∧ Rd w17 aq (lg.l.length - j) 1 ((y.gs.drop j).map ptrV) := ⟨hS17.cel_at 1 rfl, hS17.cel_at 4 rfl, (hS17.own_rd_i 5 rfl)⟩
    refine NX.held s19 ?_
    refine WD.pure (i := 15) ldrop_spec_t3 (bt 16 65535) rfl rfl rfl (by kernel_rfl) (PQ.then (PQ.then (PQ.blk (PQ.then (PQ.blk (PQ.then PQ.body)))))) rfl (fun w => run_assign rfl) ?_
    refine WD.done ldrop_spec_t3 (by kernel_rfl) ?_
    refine NX.go (WP.seq (WP.region rfl ?_))
    refine WO.mv rfl rfl ?_
    refine WO.val (run_neq rfl rfl) rfl rfl rfl ?_
    refine WO.nil (NX.go ?_)
    refine WP.condF rfl (by decide) ?_
    refine WP.skip (NX.go (WP.region rfl ?_))
    refine WO.mv rfl rfl ?_
    refine WO.mv rfl rfl ?_
    refine WO.val (run_nilCheck rfl) rfl rfl rfl ?_
    refine WO.val (run_fieldAddr (q := ⟨g, 1, none⟩) (show fieldB Tryd.prog 55 1 = some 1 from by kernel_rfl) rfl rfl) rfl rfl rfl ?_
    refine WO.val (run_load Ty.ag52 rfl ((hS17.cel_at 4 rfl 1).trans rfl)) rfl rfl rfl ?_
    refine WO.val (run_sliceL (i := 1) (j := (lg.l.length - j)) Tryd.underlying52 Ty.sz53 rfl ⟨_, rfl⟩ rfl (by omega) (by omega)) rfl rfl rfl ?_
    refine WO.val (run_nilCheck rfl) rfl rfl rfl ?_
    refine WO.val (run_fieldAddr (q := ⟨g, 1, none⟩) (show fieldB Tryd.prog 55 1 = some 1 from by kernel_rfl) rfl rfl) rfl rfl rfl ?_
    refine WO.store (l' := [Value.pointer (some ⟨gd, 0, none⟩), Value.slice (if cq = 1 then aq else aq.map (·.add (1 * 1))) (lg.l.length - j - 1) (cq - 1), handV lg.hand y.gs, Value.bool lg.begun, Value.int .i64 (lg.last : Int), Value.int .i64 (lg.durable : Int)]) 4 hS17 rfl Ty.sz52 rfl rfl rfl rfl rfl (Nat.le_of_ble_eq_true rfl) rfl (fun w20 (hS20 : St B (dkA gd ((removeD Dq (nameW x.first)).1) :: cel gi [Value.int .i64 (x.first : Int), Value.slice pi.1 x.rs.length pi.2, Value.int .i64 ((encR x.rs).length : Int), Value.bool x.dirty] 68 :: own pi.1 x.rs.length pi.2 3 1 (pis x.rs) :: sqBut sgA 0 (y.gs.drop j) (lg.l.drop j) :: cel g [Value.pointer (some ⟨gd, 0, none⟩), Value.slice (if cq = 1 then aq else aq.map (·.add (1 * 1))) (lg.l.length - j - 1) (cq - 1), handV lg.hand y.gs, Value.bool lg.begun, Value.int .i64 (lg.last : Int), Value.int .i64 (lg.durable : Int)] 55 :: own aq (lg.l.length - j) cq 53 1 ((y.gs.drop j).map ptrV) :: L) w20) => ?_)
    clear hS17
    refine WO.asg rfl rfl ?_
    refine WO.nil (NX.blk ?_)
    have hS21 := sqA_same hx0 hgi (St.sg_shut (x := x) (pi.1, pi.2) (hS20.permT [1, 1, 1, 0, 0, 0] (L' := cel gi [Value.int .i64 (x.first : Int), Value.slice pi.1 x.rs.length pi.2, Value.int .i64 ((encR x.rs).length : Int), Value.bool x.dirty] 68 :: own pi.1 x.rs.length pi.2 3 1 (pis x.rs) :: sqBut sgA 0 (y.gs.drop j) (lg.l.drop j) :: dkA gd ((removeD Dq (nameW x.first)).1) :: cel g [Value.pointer (some ⟨gd, 0, none⟩), Value.slice (if cq = 1 then aq else aq.map (·.add (1 * 1))) (lg.l.length - j - 1) (cq - 1), handV lg.hand y.gs, Value.bool lg.begun, Value.int .i64 (lg.last : Int), Value.int .i64 (lg.durable : Int)] 55 :: own aq (lg.l.length - j) cq 53 1 ((y.gs.drop j).map ptrV) :: L) rfl))
    clear hS20
    replace hS21 : St B (sqA sgA (y.gs.drop j) (lg.l.drop j) :: dkA gd ((removeD Dq (nameW x.first)).1) :: cel g [Value.pointer (some ⟨gd, 0, none⟩), Value.slice (if cq = 1 then aq else aq.map (·.add (1 * 1))) (lg.l.length - j - 1) (cq - 1), handV lg.hand y.gs, Value.bool lg.begun, Value.int .i64 (lg.last : Int), Value.int .i64 (lg.durable : Int)] 55 :: own aq (lg.l.length - j) cq 53 1 ((y.gs.drop j).map ptrV) :: L) w20 := hS21
    have hS22 := sqA_drop (k := 1) (hS21.permT [0, 2, 1, 0] (L' := sqA sgA (y.gs.drop j) (lg.l.drop j) :: own aq (lg.l.length - j) cq 53 1 ((y.gs.drop j).map ptrV) :: cel g [Value.pointer (some ⟨gd, 0, none⟩), Value.slice (if cq = 1 then aq else aq.map (·.add (1 * 1))) (lg.l.length - j - 1) (cq - 1), handV lg.hand y.gs, Value.bool lg.begun, Value.int .i64 (lg.last : Int), Value.int .i64 (lg.durable : Int)] 55 :: dkA gd ((removeD Dq (nameW x.first)).1) :: L) rfl)
    rw [List.drop_drop, List.drop_drop] at hS22
    have hS23 := St.own_drop (m := 1) (hS22.permT [1, 0] (L' := own aq (lg.l.length - j) cq 53 1 ((y.gs.drop j).map ptrV) :: sqA sgA (y.gs.drop (j + 1)) (lg.l.drop (j + 1)) :: cel g [Value.pointer (some ⟨gd, 0, none⟩), Value.slice (if cq = 1 then aq else aq.map (·.add (1 * 1))) (lg.l.length - j - 1) (cq - 1), handV lg.hand y.gs, Value.bool lg.begun, Value.int .i64 (lg.last : Int), Value.int .i64 (lg.durable : Int)] 55 :: dkA gd ((removeD Dq (nameW x.first)).1) :: L) rfl) (by omega)
    rw [← List.map_drop, List.drop_drop, Nat.sub_sub, if_neg (show ¬ cq = 1 by omega)] at hS23
    exact NX.again (j + 1, (aq.map (·.add (1 * 1))), cq - 1, (removeD Dq (nameW x.first)).1) ⟨⟨by omega, .inr (by omega), hrn.2, hkq.remove, by rw [hdc, dropC_go hx (by omega) hlt]; omega⟩, hS23.permT [2, 0, 0, 0] (L' := cel g [Value.pointer (some ⟨gd, 0, none⟩), Value.slice (aq.map (·.add (1 * 1))) (lg.l.length - (j + 1)) (cq - 1), handV lg.hand y.gs, Value.bool lg.begun, Value.int .i64 (lg.last : Int), Value.int .i64 (lg.durable : Int)] 55 :: own (aq.map (·.add (1 * 1))) (lg.l.length - (j + 1)) (cq - 1) 53 1 ((y.gs.drop (j + 1)).map ptrV) :: sqA sgA (y.gs.drop (j + 1)) (lg.l.drop (j + 1)) :: dkA gd (removeD Dq (nameW x.first)).1 :: L) rfl⟩ (by show lg.l.length - (j + 1) < lg.l.length - j; omega) (Sub.cons rfl (Sub.cons rfl (Sub.consE rfl (congrArg Value.bool (decide_eq_true (by omega)).symm) (Sub.nil _))))
   ·
    have hlt : ¬ (endS x : Int) < nb := by unfold endS; omega
    refine WP.exit (NX.thenExit (NX.thenExit ?_))
    refine NX.blkExit ?_
    have hS24 := sqA_same hx0 hgi (St.sg_shut (x := x) (pi.1, pi.2) hS9)
    clear hS9
    replace hS24 : St B (sqA sgA (y.gs.drop j) (lg.l.drop j) :: cel g [Value.pointer (some ⟨gd, 0, none⟩), Value.slice aq (lg.l.length - j) cq, handV lg.hand y.gs, Value.bool lg.begun, Value.int .i64 (lg.last : Int), Value.int .i64 (lg.durable : Int)] 55 :: own aq (lg.l.length - j) cq 53 1 ((y.gs.drop j).map ptrV) :: dkA gd Dq :: L) w9 := hS24
    exact K1 (j, aq, cq, Dq) _ _ ⟨⟨hj, hj0, hrm1, hkq, by rw [hdc, dropC_stop hx hlt]; omega⟩, (hS24.permT [1, 1, 0, 0] (L' := cel g [Value.pointer (some ⟨gd, 0, none⟩), Value.slice aq (lg.l.length - j) cq, handV lg.hand y.gs, Value.bool lg.begun, Value.int .i64 (lg.last : Int), Value.int .i64 (lg.durable : Int)] 55 :: own aq (lg.l.length - j) cq 53 1 ((y.gs.drop j).map ptrV) :: sqA sgA (y.gs.drop j) (lg.l.drop j) :: dkA gd Dq :: L) rfl)⟩ (Sub.cons rfl (Sub.consE rfl (by first | rfl | first | rfl | (congr 1; omega) | (simp; done) | (simp; omega)) (Sub.nil _)))
  ·
   refine WO.off rfl rfl (decide_eq_false g13) rfl ?_
   refine WO.off rfl rfl (decide_eq_false g13) rfl ?_
   refine WO.off rfl rfl (decide_eq_false g13) rfl ?_
   refine WO.off rfl rfl (decide_eq_false g13) rfl ?_
   refine WO.off rfl rfl (decide_eq_false g13) rfl ?_
   refine WO.off rfl rfl (decide_eq_false g13) rfl ?_
   refine WO.off rfl rfl (decide_eq_false g13) rfl ?_
   refine WO.off rfl rfl (decide_eq_false g13) rfl ?_
   refine WO.off rfl rfl (decide_eq_false g13) rfl ?_
   refine WO.val (run_pickF rfl (decide_eq_false g13) rfl) rfl rfl rfl ?_
   refine WO.nil (NX.go ?_)
   refine WP.condF rfl rfl ?_
   refine WP.exit (NX.thenExit (NX.thenExit ?_))
   refine NX.blkExit ?_
   exact K1 (j, aq, cq, Dq) _ _ ⟨⟨hj, hj0, hrm1, hkq, by rw [hdc, dropC_one (by rw [List.length_drop]; omega)]; omega⟩, hS6⟩ (Sub.cons rfl (Sub.consE rfl (by first | rfl | first | rfl | (congr 1; omega) | (simp; done) | (simp; omega)) (Sub.nil _)))
end Go.Proofs.YtiggkfaonnnjoaaDoor.SL
