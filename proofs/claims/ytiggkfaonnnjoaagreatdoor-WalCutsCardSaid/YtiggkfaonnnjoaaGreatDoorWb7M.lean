import Derived.Test.YtiggkfaonnnjoaaGreatDoorWbM
/- The log: a record more. -/
namespace Go.Proofs.YtiggkfaonnnjoaaGreatDoor.SL
open Go.RowKit Go.Proofs.YtiggkfaonnnjoaaGreatDoor
open Go.Proofs.YtiggkfaonnnjoaaGreatDoorW.PrintLast (rtab opsOf)
set_option linter.unusedVariables false
set_option linter.unusedSimpArgs false
theorem lapp_none_t9 : rtab .any (opsOf Tryz.f7 9) = (true, [([], []), ([0], [0]), ([1], [1]), ([2], [2]), ([], []), ([4], [4]), ([5], [5]), ([6], [6]), ([7], [7]), ([], []), ([3, 8, 9, 8], [3, 8, 9]), ([10, 10, 0, 1, 2, 3, 4, 5, 6, 7, 8, 9, 10], [10])]) := by kernel_rfl
theorem lapp_none_t15 : rtab .any (opsOf Tryz.f7 15) = (true, [([], []), ([], []), ([1], [1]), ([2], [2]), ([3], [3]), ([], []), ([5], [5]), ([6], [6]), ([7], [7]), ([8], [8]), ([4, 9], [4, 9]), ([0, 0, 1, 2, 3, 4, 5, 6, 7, 8, 9, 10], [0]), ([11, 0, 1, 2, 3, 4, 5, 6, 7, 8, 9, 10], [11]), ([12, 10, 10, 0, 1, 2, 3, 4, 5, 6, 7, 8, 9, 10], [10, 12])]) := by kernel_rfl
theorem lapp_none {B w : World} {L : List HP} {g gd n t : Nat} {lg : Lg} {D : Dk} (hh : lg.hand = false) (hk : OkL lg) (hd : OkD D n t) (hn : n ≤ 100000000) (ht : t ≤ 1099511627776) (s : List UInt8) (hs : s.length ≤ 1099511627776) (hS : St B (lgA g gd lg :: dkA gd D :: L) w) : Does Tryz.prog 7 [Value.pointer (some ⟨g, 0, none⟩), str s] w (fun v w1 => v = .tuple #[.int .i64 ((appendL lg D s).n : Int), .int .i64 (appendL lg D s).e] ∧ St B (lgA g gd (appendL lg D s).lg :: dkA gd (appendL lg D s).D :: L) w1) := by
 have hln := hk.n
 have hla := hk.la
 obtain ⟨y, hgl, h9⟩ := hS.lg_open
 clear hS
 rw [hh] at h9
 have h0 : St B (cel g [Value.pointer (some ⟨gd, 0, none⟩), Value.slice y.a lg.l.length y.cap, Value.pointer none, Value.bool lg.begun, Value.int .i64 (lg.last : Int), Value.int .i64 (lg.durable : Int)] 49 :: own y.a lg.l.length y.cap 47 1 (y.gs.map ptrV) :: sqA sgA y.gs lg.l :: dkA gd D :: L) w := h9
 clear h9
 refine enter (n := 120) Tryz.func7 rfl rfl [Value.pointer (some ⟨g, 0, none⟩), str s] rfl ?_
 refine WP.seq (WP.region rfl ?_)
 refine WO.asg rfl rfl ?_
 refine WO.asg rfl rfl ?_
 refine WO.nil (NX.go (WP.seq (WP.region rfl ?_)))
 refine WO.mv rfl rfl ?_
 refine WO.val (run_build (v := Value.agg #[Value.int .i64 1, str s]) rfl (fun w => by kernel_rfl)) rfl rfl rfl ?_
 refine WO.call rfl rfl Ty.hd23 rfl (put_spec 1 s (by decide) (by decide) (by omega) h0) (fun v2 w1 pv2 => ?_)
 obtain ⟨rfl, hS1⟩ := pv2
 clear h0
 refine WO.mv rfl rfl ?_
 refine WO.val (run_extract rfl rfl) rfl rfl rfl ?_
 refine WO.val (run_extract rfl rfl) rfl rfl rfl ?_
 refine WO.asg rfl rfl ?_
 refine WO.asg rfl rfl ?_
 refine WO.nil (NX.go (WP.seq (WP.block (WP.seq (WP.region rfl ?_)))))
 refine WO.mv rfl rfl ?_
 refine WO.val (run_neq rfl rfl) rfl rfl rfl ?_
 refine WO.asg rfl rfl ?_
 refine WO.nil (NX.go ?_)
 refine WP.condP rfl (fun g16 => ?_) (fun g16 => ?_)
 ·
  refine WP.seq (WP.region rfl ?_)
  refine WO.mv rfl rfl ?_
  refine WO.asg rfl rfl ?_
  refine WO.asg rfl rfl ?_
  refine WO.nil (NX.go (WP.ret (NX.blkRet (NX.thenRet ?_))))
  refine NX.done (l := [.tmp 4, .tmp 5]) rfl rfl ?_
  have e0 : appendL lg D s = ⟨lg, D, 0, (putF 1 s).2⟩ := by unfold appendL; rw [if_pos g16]
  rw [e0]
  exact ⟨rfl, St.lg_shut (lg := lg) y (by have z := hS1; rw [show Value.pointer none = handV lg.hand y.gs from (by rw [hh]; rfl)] at z; exact z)⟩
 ·
  refine WP.seq (WP.region rfl ?_)
  refine WO.mv rfl rfl ?_
  refine WO.val (run_nilCheck rfl) rfl rfl rfl ?_
  refine WO.val (run_fieldAddr (q := ⟨g, 4, none⟩) (show fieldB Tryz.prog 49 4 = some 4 from by kernel_rfl) rfl rfl) rfl rfl rfl ?_
  refine WO.val (run_load Ty.ag3 rfl ((hS1.cel_at 0 rfl 4).trans rfl)) rfl rfl rfl ?_
  refine WO.val (run_geq rfl rfl) rfl rfl rfl ?_
  refine WO.asg rfl rfl ?_
  refine WO.nil (NX.go ?_)
  refine WP.condP rfl (fun g20 => ?_) (fun g20 => ?_)
  ·
   refine WP.seq (WP.region rfl ?_)
   refine WO.asg rfl rfl ?_
   refine WO.asg rfl rfl ?_
   refine WO.nil (NX.go (WP.ret (NX.blkRet (NX.thenRet ?_))))
   refine NX.done (l := [.tmp 4, .tmp 5]) rfl rfl ?_
   have e0 : appendL lg D s = ⟨lg, D, 0, 4⟩ := by unfold appendL; rw [if_neg g16, if_pos (by omega)]
   rw [e0]
   exact ⟨rfl, St.lg_shut (lg := lg) y (by have z := hS1; rw [show Value.pointer none = handV lg.hand y.gs from (by rw [hh]; rfl)] at z; exact z)⟩
  ·
   refine WP.skip (NX.blk (NX.go (WP.seq (WP.region rfl ?_))))
   refine WO.mv rfl rfl ?_
   refine WO.val (run_nilCheck rfl) rfl rfl rfl ?_
   refine WO.val (run_fieldAddr (q := ⟨g, 2, none⟩) (show fieldB Tryz.prog 49 2 = some 2 from by kernel_rfl) rfl rfl) rfl rfl rfl ?_
   refine WO.val (run_load Ty.ag47 rfl ((hS1.cel_at 0 rfl 2).trans rfl)) rfl rfl rfl ?_
   refine WO.asg rfl rfl ?_
   refine WO.nil (NX.go (WP.seq (WP.seq (WP.region rfl ?_))))
   refine WO.mv rfl rfl ?_
   refine WO.val (run_eqlNilP Tryz.underlying47 rfl rfl) rfl rfl rfl ?_
   refine WO.mv rfl rfl ?_
   refine WO.off rfl rfl rfl rfl ?_
   refine WO.off rfl rfl rfl rfl ?_
   refine WO.off rfl rfl rfl rfl ?_
   refine WO.off rfl rfl rfl rfl ?_
   refine WO.off rfl rfl rfl rfl ?_
   refine WO.off rfl rfl rfl rfl ?_
   refine WO.val (run_pickT rfl rfl rfl) rfl rfl rfl ?_
   refine WO.nil (NX.go ?_)
   refine WP.condT rfl rfl ?_
   refine WP.region rfl ?_
   refine WO.mv rfl rfl ?_
   refine WO.val (run_nilCheck rfl) rfl rfl rfl ?_
   refine WO.val (run_fieldAddr (q := ⟨g, 4, none⟩) (show fieldB Tryz.prog 49 4 = some 4 from by kernel_rfl) rfl rfl) rfl rfl rfl ?_
   refine WO.val (run_load Ty.ag3 rfl ((hS1.cel_at 0 rfl 4).trans rfl)) rfl rfl rfl ?_
   refine WO.val (run_add rfl rfl (IntWalk.i64_in _ (by omega))) rfl rfl rfl ?_
   refine WO.val (run_build (v := Value.agg #[Value.int .i64 ((lg.last : Int) + 1), Value.slice none 0 0, Value.int .i64 0, Value.bool false]) rfl (fun w => by kernel_rfl)) rfl rfl rfl ?_
   refine WO.box (l := [Value.int .i64 ((lg.last : Int) + 1), Value.slice none 0 0, Value.int .i64 0, Value.bool false]) hS1 rfl rfl rfl (fun g4 w3 lg4 hS3 => ?_)
   clear hS1
   refine WO.asg rfl rfl ?_
   refine WO.nil (NX.go (WP.seq (WP.seq ?_)))
   have hhs : handS lg = none := handS_none hh
   have hnq : appN lg = (lg.last + 1) := by unfold appN; rw [hhs]
   have hfl : (frB s).length ≤ 65550 ∧ s.length ≤ 65536 := by have h1 := (putF_zero (Decidable.of_not_not g16)).2.2; have := (frB_len h1).2; omega
   have hfl2 : (putF 1 s).1.length ≤ 65550 := hfl.1
   refine WD.start (fun w => (∀ jz, World.cell? w ⟨g, jz, none⟩ = [Value.pointer (some ⟨gd, 0, none⟩), Value.slice y.a lg.l.length y.cap, Value.pointer none, Value.bool lg.begun, Value.int .i64 (lg.last : Int), Value.int .i64 (lg.durable : Int)][jz]?) ∧ (∀ jz, World.cell? w ⟨g4, jz, none⟩ = [Value.int .i64 ((lg.last : Int) + 1), Value.slice none 0 0, Value.int .i64 0, Value.bool false][jz]?)) [] (bt 12 0) Ty.mo rfl (by kernel_rfl) hS3 (fun _ h => ⟨h.cel_at 1 rfl, h.cel_at 0 rfl⟩) (fun w5 hS5 s6 => ?_)
   clear hS3
   refine WD.pure (i := 0) lapp_none_t9 (bt 12 1) rfl rfl rfl (by kernel_rfl) (PQ.then (PQ.then PQ.body)) rfl (fun w => run_move rfl) ?_
   refine WD.pure (i := 1) lapp_none_t9 (bt 12 3) rfl rfl rfl (by kernel_rfl) (PQ.then (PQ.then PQ.body)) rfl (fun w => run_nilCheck rfl) ?_
   refine WD.pure (i := 2) lapp_none_t9 (bt 12 7) rfl rfl rfl (by kernel_rfl) (PQ.then (PQ.then PQ.body)) rfl (fun w => run_fieldAddr (q := ⟨g, 0, none⟩) (show fieldB Tryz.prog 49 0 = some 0 from by kernel_rfl) rfl rfl) ?_
   refine WD.take (i := 3) lapp_none_t9 (bt 12 15) s6 rfl rfl rfl (by kernel_rfl) (PQ.then (PQ.then PQ.body)) rfl (fun w hs => run_load Ty.ag25 rfl ((hs.1 0).trans rfl)) ?_
   refine WD.pure (i := 4) lapp_none_t9 (bt 12 31) rfl rfl rfl (by kernel_rfl) (PQ.then (PQ.then PQ.body)) rfl (fun w => run_move rfl) ?_
   refine WD.pure (i := 5) lapp_none_t9 (bt 12 63) rfl rfl rfl (by kernel_rfl) (PQ.then (PQ.then PQ.body)) rfl (fun w => run_nilCheck rfl) ?_
   refine WD.pure (i := 6) lapp_none_t9 (bt 12 127) rfl rfl rfl (by kernel_rfl) (PQ.then (PQ.then PQ.body)) rfl (fun w => run_fieldAddr (q := ⟨g4, 0, none⟩) (show fieldB Tryz.prog 63 0 = some 0 from by kernel_rfl) rfl rfl) ?_
   refine WD.take (i := 7) lapp_none_t9 (bt 12 255) s6 rfl rfl rfl (by kernel_rfl) (PQ.then (PQ.then PQ.body)) rfl (fun w hs => run_load Ty.ag3 rfl ((hs.2 0).trans rfl)) ?_
   refine WD.pure (i := 9) lapp_none_t9 (bt 12 767) rfl rfl rfl (by kernel_rfl) (PQ.then (PQ.then PQ.body)) rfl (fun w => run_move rfl) ?_
   refine WD.one (i := 8) lapp_none_t9 (bt 12 1023) rfl (by kernel_rfl) ?_
   refine WO.call rfl rfl Ty.hd25 rfl (wname_spec (lg.last + 1) (by omega) hS5) (fun v8 w7 pv8 => ?_)
   obtain ⟨rfl, hS7⟩ := pv8
   clear hS5
   refine WO.nil ?_
   have s9 : (∀ jz, World.cell? w7 ⟨g, jz, none⟩ = [Value.pointer (some ⟨gd, 0, none⟩), Value.slice y.a lg.l.length y.cap, Value.pointer none, Value.bool lg.begun, Value.int .i64 (lg.last : Int), Value.int .i64 (lg.durable : Int)][jz]?) ∧ (∀ jz, World.cell? w7 ⟨g4, jz, none⟩ = [Value.int .i64 ((lg.last : Int) + 1), Value.slice none 0 0, Value.int .i64 0, Value.bool false][jz]?) := ⟨hS7.cel_at 1 rfl, hS7.cel_at 0 rfl⟩
   refine NX.held s9 ?_
   refine WD.one (i := 10) lapp_none_t9 (bt 12 2047) rfl (by kernel_rfl) ?_
   have hS10 := hS7.permT [4, 0, 0, 0, 0] (L' := dkA gd D :: cel g4 [Value.int .i64 ((lg.last : Int) + 1), Value.slice none 0 0, Value.int .i64 0, Value.bool false] 63 :: cel g [Value.pointer (some ⟨gd, 0, none⟩), Value.slice y.a lg.l.length y.cap, Value.pointer none, Value.bool lg.begun, Value.int .i64 (lg.last : Int), Value.int .i64 (lg.durable : Int)] 49 :: own y.a lg.l.length y.cap 47 1 (y.gs.map ptrV) :: sqA sgA y.gs lg.l :: L) rfl
   clear hS7
   refine WO.call rfl rfl Ty.hd24 rfl (dappend_spec hd.w hd.b (by omega) ht (nameW (lg.last + 1)) (frB s) (by rw [nameW_length]; decide) (by omega) hS10) (fun v12 w11 pv12 => ?_)
   obtain ⟨rfl, hS11⟩ := pv12
   clear hS10
   refine WO.nil ?_
   have s13 : (∀ jz, World.cell? w11 ⟨g, jz, none⟩ = [Value.pointer (some ⟨gd, 0, none⟩), Value.slice y.a lg.l.length y.cap, Value.pointer none, Value.bool lg.begun, Value.int .i64 (lg.last : Int), Value.int .i64 (lg.durable : Int)][jz]?) ∧ (∀ jz, World.cell? w11 ⟨g4, jz, none⟩ = [Value.int .i64 ((lg.last : Int) + 1), Value.slice none 0 0, Value.int .i64 0, Value.bool false][jz]?) := ⟨hS11.cel_at 2 rfl, hS11.cel_at 1 rfl⟩
   refine NX.held s13 ?_
   refine WD.pure (i := 11) lapp_none_t9 (bt 12 4095) rfl rfl rfl (by kernel_rfl) (PQ.then (PQ.then PQ.body)) rfl (fun w => run_assign rfl) ?_
   refine WD.done lapp_none_t9 (by kernel_rfl) ?_
   refine NX.go (WP.seq (WP.region rfl ?_))
   refine WO.mv rfl rfl ?_
   refine WO.val (run_neq rfl rfl) rfl rfl rfl ?_
   refine WO.nil (NX.go ?_)
   refine WP.condP rfl (fun g59 => ?_) (fun g59 => ?_)
   ·
    refine WP.seq (WP.region rfl ?_)
    refine WO.mv rfl rfl ?_
    refine WO.asg rfl rfl ?_
    refine WO.asg rfl rfl ?_
    refine WO.nil (NX.go (WP.ret (NX.thenRet ?_)))
    refine NX.done (l := [.tmp 4, .tmp 5]) rfl rfl ?_
    have e0 : appendL lg D s = ⟨lg, (appendD D (nameW (lg.last + 1)) (frB s)).1, 0, (appendD D (nameW (lg.last + 1)) (frB s)).2⟩ := by unfold appendL; rw [if_neg g16, if_neg (by omega), hnq, if_neg g59]
    rw [e0]
    exact ⟨rfl, St.lg_shut (lg := lg) y (by have z := (hS11.permT [1, 1, 1, 1, 0] (L' := cel g4 [Value.int .i64 ((lg.last : Int) + 1), Value.slice none 0 0, Value.int .i64 0, Value.bool false] 63 :: cel g [Value.pointer (some ⟨gd, 0, none⟩), Value.slice y.a lg.l.length y.cap, Value.pointer none, Value.bool lg.begun, Value.int .i64 (lg.last : Int), Value.int .i64 (lg.durable : Int)] 49 :: own y.a lg.l.length y.cap 47 1 (y.gs.map ptrV) :: sqA sgA y.gs lg.l :: dkA gd ((appendD D (nameW (lg.last + 1)) (frB s)).1) :: L) rfl).drop; rw [show Value.pointer none = handV lg.hand y.gs from (by rw [hh]; rfl)] at z; exact z)⟩
   ·
    refine WP.skip (NX.go (WP.seq (WP.seq (WP.region rfl ?_))))
    refine WO.mv rfl rfl ?_
    refine WO.val (run_nilCheck rfl) rfl rfl rfl ?_
    refine WO.val (run_fieldAddr (q := ⟨g4, 1, none⟩) (show fieldB Tryz.prog 63 1 = some 1 from by kernel_rfl) rfl rfl) rfl rfl rfl ?_
    refine WO.val (run_load Ty.ag22 rfl ((hS11.cel_at 1 rfl 1).trans rfl)) rfl rfl rfl ?_
    refine WO.val (run_len rfl Tryz.underlying22 rfl) rfl rfl rfl ?_
    refine WO.val (run_eql rfl rfl) rfl rfl rfl ?_
    refine WO.nil (NX.go ?_)
    refine WP.condP rfl (fun g66 => ?_) (fun g66 => ?_)
    ·
     refine WP.seq (WP.region rfl ?_)
     refine WO.mv rfl rfl ?_
     refine WO.mv rfl rfl ?_
     refine WO.val (run_nilCheck rfl) rfl rfl rfl ?_
     refine WO.val (run_fieldAddr (q := ⟨g, 1, none⟩) (show fieldB Tryz.prog 49 1 = some 1 from by kernel_rfl) rfl rfl) rfl rfl rfl ?_
     refine WO.val (run_load Ty.ag46 rfl ((hS11.cel_at 2 rfl 1).trans rfl)) rfl rfl rfl ?_
     refine WO.mv rfl rfl ?_
     refine WO.buildSlice (l := [Value.pointer (some ⟨g4, 0, none⟩)]) hS11 Tryz.underlying46 rfl (fun w => by kernel_rfl) rfl (fun g15 w14 lg15 hS14 => ?_)
     clear hS11
     refine WO.append (news := [Value.pointer (some ⟨g4, 0, none⟩)]) 4 rfl Tryz.underlying46 Tryz.underlying46 (fun _ h => by cases h) Ty.sz47 (by decide) Ty.by47 Ty.zr47 rfl rfl rfl rfl hS14 rfl ((hS14.cel_rd 0 rfl (o := 0) (m := 1) (k := 1) rfl (Nat.le_of_ble_eq_true rfl)).src) rfl (by omega) (by omega) (fun a17 c18 w16 hS16 => ?_)
     replace hS16 : St B (cel g15 [Value.pointer (some ⟨g4, 0, none⟩)] 47 :: dkA gd ((appendD D (nameW (lg.last + 1)) (frB s)).1) :: cel g4 [Value.int .i64 ((lg.last : Int) + 1), Value.slice none 0 0, Value.int .i64 0, Value.bool false] 63 :: cel g [Value.pointer (some ⟨gd, 0, none⟩), Value.slice y.a lg.l.length y.cap, Value.pointer none, Value.bool lg.begun, Value.int .i64 (lg.last : Int), Value.int .i64 (lg.durable : Int)] 49 :: own a17 (lg.l.length + 1) c18 47 1 ((y.gs.map ptrV) ++ [Value.pointer (some ⟨g4, 0, none⟩)]) :: sqA sgA y.gs lg.l :: L) w16 := hS16
     clear hS14
     refine WO.val (run_nilCheck rfl) rfl rfl rfl ?_
     refine WO.val (run_fieldAddr (q := ⟨g, 1, none⟩) (show fieldB Tryz.prog 49 1 = some 1 from by kernel_rfl) rfl rfl) rfl rfl rfl ?_
     refine WO.store (l' := [Value.pointer (some ⟨gd, 0, none⟩), Value.slice a17 (lg.l.length + 1) c18, Value.pointer none, Value.bool lg.begun, Value.int .i64 (lg.last : Int), Value.int .i64 (lg.durable : Int)]) 3 hS16 rfl Ty.sz46 rfl rfl rfl rfl rfl (Nat.le_of_ble_eq_true rfl) rfl (fun w19 (hS19 : St B (cel g15 [Value.pointer (some ⟨g4, 0, none⟩)] 47 :: dkA gd ((appendD D (nameW (lg.last + 1)) (frB s)).1) :: cel g4 [Value.int .i64 ((lg.last : Int) + 1), Value.slice none 0 0, Value.int .i64 0, Value.bool false] 63 :: cel g [Value.pointer (some ⟨gd, 0, none⟩), Value.slice a17 (lg.l.length + 1) c18, Value.pointer none, Value.bool lg.begun, Value.int .i64 (lg.last : Int), Value.int .i64 (lg.durable : Int)] 49 :: own a17 (lg.l.length + 1) c18 47 1 ((y.gs.map ptrV) ++ [Value.pointer (some ⟨g4, 0, none⟩)]) :: sqA sgA y.gs lg.l :: L) w19) => ?_)
     clear hS16
     refine WO.nil (NX.go (WP.region rfl ?_))
     refine WO.mv rfl rfl ?_
     refine WO.val (run_nilCheck rfl) rfl rfl rfl ?_
     refine WO.val (run_fieldAddr (q := ⟨g, 3, none⟩) (show fieldB Tryz.prog 49 3 = some 3 from by kernel_rfl) rfl rfl) rfl rfl rfl ?_
     refine WO.store (l' := [Value.pointer (some ⟨gd, 0, none⟩), Value.slice a17 (lg.l.length + 1) c18, Value.pointer none, Value.bool true, Value.int .i64 (lg.last : Int), Value.int .i64 (lg.durable : Int)]) 3 hS19 rfl Ty.sz4 rfl rfl rfl rfl rfl (Nat.le_of_ble_eq_true rfl) rfl (fun w20 (hS20 : St B (cel g15 [Value.pointer (some ⟨g4, 0, none⟩)] 47 :: dkA gd ((appendD D (nameW (lg.last + 1)) (frB s)).1) :: cel g4 [Value.int .i64 ((lg.last : Int) + 1), Value.slice none 0 0, Value.int .i64 0, Value.bool false] 63 :: cel g [Value.pointer (some ⟨gd, 0, none⟩), Value.slice a17 (lg.l.length + 1) c18, Value.pointer none, Value.bool true, Value.int .i64 (lg.last : Int), Value.int .i64 (lg.durable : Int)] 49 :: own a17 (lg.l.length + 1) c18 47 1 ((y.gs.map ptrV) ++ [Value.pointer (some ⟨g4, 0, none⟩)]) :: sqA sgA y.gs lg.l :: L) w20) => ?_)
     clear hS19
     refine WO.nil (NX.go (WP.seq ?_))
     refine WD.start (fun w => (∀ jz, World.cell? w ⟨g4, jz, none⟩ = [Value.int .i64 ((lg.last : Int) + 1), Value.slice none 0 0, Value.int .i64 0, Value.bool false][jz]?)) [13] (bt 14 0) Ty.mo rfl (by kernel_rfl) hS20 (fun _ h => h.cel_at 2 rfl) (fun w21 hS21 s22 => ?_)
     clear hS20
     refine WD.pure (i := 0) lapp_none_t15 (bt 14 1) rfl rfl rfl (by kernel_rfl) (PQ.then PQ.body) rfl (fun w => run_move rfl) ?_
     refine WD.pure (i := 1) lapp_none_t15 (bt 14 3) rfl rfl rfl (by kernel_rfl) (PQ.then PQ.body) rfl (fun w => run_move rfl) ?_
     refine WD.pure (i := 2) lapp_none_t15 (bt 14 7) rfl rfl rfl (by kernel_rfl) (PQ.then PQ.body) rfl (fun w => run_nilCheck rfl) ?_
     refine WD.pure (i := 3) lapp_none_t15 (bt 14 15) rfl rfl rfl (by kernel_rfl) (PQ.then PQ.body) rfl (fun w => run_fieldAddr (q := ⟨g4, 1, none⟩) (show fieldB Tryz.prog 63 1 = some 1 from by kernel_rfl) rfl rfl) ?_
     refine WD.take (i := 4) lapp_none_t15 (bt 14 31) s22 rfl rfl rfl (by kernel_rfl) (PQ.then PQ.body) rfl (fun w hs => run_load Ty.ag22 rfl ((hs 1).trans rfl)) ?_
     refine WD.pure (i := 5) lapp_none_t15 (bt 14 63) rfl rfl rfl (by kernel_rfl) (PQ.then PQ.body) rfl (fun w => run_move rfl) ?_
     refine WD.pure (i := 6) lapp_none_t15 (bt 14 127) rfl rfl rfl (by kernel_rfl) (PQ.then PQ.body) rfl (fun w => run_nilCheck rfl) ?_
     refine WD.pure (i := 7) lapp_none_t15 (bt 14 255) rfl rfl rfl (by kernel_rfl) (PQ.then PQ.body) rfl (fun w => run_fieldAddr (q := ⟨g4, 2, none⟩) (show fieldB Tryz.prog 63 2 = some 2 from by kernel_rfl) rfl rfl) ?_
     refine WD.take (i := 8) lapp_none_t15 (bt 14 511) s22 rfl rfl rfl (by kernel_rfl) (PQ.then PQ.body) rfl (fun w hs => run_load Ty.ag3 rfl ((hs 2).trans rfl)) ?_
     refine WD.one (i := 9) lapp_none_t15 (bt 14 1023) rfl (by kernel_rfl) ?_
     refine WO.buildSlice (l := [Value.int .i64 0]) hS21 Tryz.underlying22 rfl (fun w => by kernel_rfl) rfl (fun g24 w23 lg24 hS23 => ?_)
     clear hS21
     refine WO.nil ?_
     have s25 : (∀ jz, World.cell? w23 ⟨g4, jz, none⟩ = [Value.int .i64 ((lg.last : Int) + 1), Value.slice none 0 0, Value.int .i64 0, Value.bool false][jz]?) := hS23.cel_at 3 rfl
     refine NX.held s25 ?_
     refine WD.one (i := 10) lapp_none_t15 (bt 14 2047) rfl (by kernel_rfl) ?_
     have hS23 := hS23.own_nil 3 1
     refine WO.append (news := [Value.int .i64 0]) 0 rfl Tryz.underlying22 Tryz.underlying22 (fun _ h => by cases h) Ty.sz3 (by decide) Ty.by3 Ty.zr3 rfl rfl rfl rfl hS23 rfl ((hS23.cel_rd 1 rfl (o := 0) (m := 1) (k := 1) rfl (Nat.le_of_ble_eq_true rfl)).src) rfl (by omega) (by omega) (fun a27 c28 w26 hS26 => ?_)
     replace hS26 : St B (own a27 (0 + 1) c28 3 1 ([] ++ [Value.int .i64 0]) :: cel g24 [Value.int .i64 0] 3 :: cel g15 [Value.pointer (some ⟨g4, 0, none⟩)] 47 :: dkA gd ((appendD D (nameW (lg.last + 1)) (frB s)).1) :: cel g4 [Value.int .i64 ((lg.last : Int) + 1), Value.slice none 0 0, Value.int .i64 0, Value.bool false] 63 :: cel g [Value.pointer (some ⟨gd, 0, none⟩), Value.slice a17 (lg.l.length + 1) c18, Value.pointer none, Value.bool true, Value.int .i64 (lg.last : Int), Value.int .i64 (lg.durable : Int)] 49 :: own a17 (lg.l.length + 1) c18 47 1 ((y.gs.map ptrV) ++ [Value.pointer (some ⟨g4, 0, none⟩)]) :: sqA sgA y.gs lg.l :: L) w26 := hS26
     clear hS23
     refine WO.nil ?_
     have s29 : (∀ jz, World.cell? w26 ⟨g4, jz, none⟩ = [Value.int .i64 ((lg.last : Int) + 1), Value.slice none 0 0, Value.int .i64 0, Value.bool false][jz]?) := hS26.cel_at 4 rfl
     refine NX.held s29 ?_
     refine WD.pure (i := 11) lapp_none_t15 (bt 14 4095) rfl rfl rfl (by kernel_rfl) (PQ.then PQ.body) rfl (fun w => run_nilCheck rfl) ?_
     refine WD.pure (i := 12) lapp_none_t15 (bt 14 8191) rfl rfl rfl (by kernel_rfl) (PQ.then PQ.body) rfl (fun w => run_fieldAddr (q := ⟨g4, 1, none⟩) (show fieldB Tryz.prog 63 1 = some 1 from by kernel_rfl) rfl rfl) ?_
     refine WD.one (i := 13) lapp_none_t15 (bt 14 16383) rfl (by kernel_rfl) ?_
     refine WO.store (l' := [Value.int .i64 ((lg.last : Int) + 1), Value.slice a27 (0 + 1) c28, Value.int .i64 0, Value.bool false]) 4 hS26 rfl Ty.sz22 rfl rfl rfl rfl rfl (Nat.le_of_ble_eq_true rfl) rfl (fun w30 (hS30 : St B (own a27 (0 + 1) c28 3 1 ([] ++ [Value.int .i64 0]) :: cel g24 [Value.int .i64 0] 3 :: cel g15 [Value.pointer (some ⟨g4, 0, none⟩)] 47 :: dkA gd ((appendD D (nameW (lg.last + 1)) (frB s)).1) :: cel g4 [Value.int .i64 ((lg.last : Int) + 1), Value.slice a27 (0 + 1) c28, Value.int .i64 0, Value.bool false] 63 :: cel g [Value.pointer (some ⟨gd, 0, none⟩), Value.slice a17 (lg.l.length + 1) c18, Value.pointer none, Value.bool true, Value.int .i64 (lg.last : Int), Value.int .i64 (lg.durable : Int)] 49 :: own a17 (lg.l.length + 1) c18 47 1 ((y.gs.map ptrV) ++ [Value.pointer (some ⟨g4, 0, none⟩)]) :: sqA sgA y.gs lg.l :: L) w30) => ?_)
     clear hS26
     refine WO.nil ?_
     refine NX.last (by decide) ?_
     refine WD.done lapp_none_t15 (by kernel_rfl) ?_
     refine NX.go (WP.seq (WP.region rfl ?_))
     refine WO.mv rfl rfl ?_
     refine WO.val (run_nilCheck rfl) rfl rfl rfl ?_
     refine WO.val (run_fieldAddr (q := ⟨g4, 2, none⟩) (show fieldB Tryz.prog 63 2 = some 2 from by kernel_rfl) rfl rfl) rfl rfl rfl ?_
     refine WO.val (run_load Ty.ag3 rfl ((hS30.cel_at 4 rfl 2).trans rfl)) rfl rfl rfl ?_
     refine WO.mv rfl rfl ?_
     refine WO.val (run_lenS rfl Tryz.underlying9 rfl) rfl rfl rfl ?_
     refine WO.val (run_add rfl rfl (IntWalk.i64_in _ (by omega))) rfl rfl rfl ?_
     refine WO.val (run_nilCheck rfl) rfl rfl rfl ?_
     refine WO.val (run_fieldAddr (q := ⟨g4, 2, none⟩) (show fieldB Tryz.prog 63 2 = some 2 from by kernel_rfl) rfl rfl) rfl rfl rfl ?_
     refine WO.store (l' := [Value.int .i64 ((lg.last : Int) + 1), Value.slice a27 (0 + 1) c28, Value.int .i64 (0 + ((frB s).length : Int)), Value.bool false]) 4 hS30 rfl Ty.sz3 rfl rfl rfl rfl rfl (Nat.le_of_ble_eq_true rfl) rfl (fun w31 (hS31 : St B (own a27 (0 + 1) c28 3 1 ([] ++ [Value.int .i64 0]) :: cel g24 [Value.int .i64 0] 3 :: cel g15 [Value.pointer (some ⟨g4, 0, none⟩)] 47 :: dkA gd ((appendD D (nameW (lg.last + 1)) (frB s)).1) :: cel g4 [Value.int .i64 ((lg.last : Int) + 1), Value.slice a27 (0 + 1) c28, Value.int .i64 (0 + ((frB s).length : Int)), Value.bool false] 63 :: cel g [Value.pointer (some ⟨gd, 0, none⟩), Value.slice a17 (lg.l.length + 1) c18, Value.pointer none, Value.bool true, Value.int .i64 (lg.last : Int), Value.int .i64 (lg.durable : Int)] 49 :: own a17 (lg.l.length + 1) c18 47 1 ((y.gs.map ptrV) ++ [Value.pointer (some ⟨g4, 0, none⟩)]) :: sqA sgA y.gs lg.l :: L) w31) => ?_)
     clear hS30
     refine WO.nil (NX.go (WP.seq (WP.region rfl ?_)))
     refine WO.mv rfl rfl ?_
     refine WO.mv rfl rfl ?_
     refine WO.mv rfl rfl ?_
     refine WO.val (run_nilCheck rfl) rfl rfl rfl ?_
     refine WO.val (run_fieldAddr (q := ⟨g4, 3, none⟩) (show fieldB Tryz.prog 63 3 = some 3 from by kernel_rfl) rfl rfl) rfl rfl rfl ?_
     refine WO.store (l' := [Value.int .i64 ((lg.last : Int) + 1), Value.slice a27 (0 + 1) c28, Value.int .i64 (0 + ((frB s).length : Int)), Value.bool true]) 4 hS31 rfl Ty.sz4 rfl rfl rfl rfl rfl (Nat.le_of_ble_eq_true rfl) rfl (fun w32 (hS32 : St B (own a27 (0 + 1) c28 3 1 ([] ++ [Value.int .i64 0]) :: cel g24 [Value.int .i64 0] 3 :: cel g15 [Value.pointer (some ⟨g4, 0, none⟩)] 47 :: dkA gd ((appendD D (nameW (lg.last + 1)) (frB s)).1) :: cel g4 [Value.int .i64 ((lg.last : Int) + 1), Value.slice a27 (0 + 1) c28, Value.int .i64 (0 + ((frB s).length : Int)), Value.bool true] 63 :: cel g [Value.pointer (some ⟨gd, 0, none⟩), Value.slice a17 (lg.l.length + 1) c18, Value.pointer none, Value.bool true, Value.int .i64 (lg.last : Int), Value.int .i64 (lg.durable : Int)] 49 :: own a17 (lg.l.length + 1) c18 47 1 ((y.gs.map ptrV) ++ [Value.pointer (some ⟨g4, 0, none⟩)]) :: sqA sgA y.gs lg.l :: L) w32) => ?_)
     clear hS31
     refine WO.val (run_nilCheck rfl) rfl rfl rfl ?_
     refine WO.val (run_fieldAddr (q := ⟨g, 2, none⟩) (show fieldB Tryz.prog 49 2 = some 2 from by kernel_rfl) rfl rfl) rfl rfl rfl ?_
     refine WO.store (l' := [Value.pointer (some ⟨gd, 0, none⟩), Value.slice a17 (lg.l.length + 1) c18, Value.pointer (some ⟨g4, 0, none⟩), Value.bool true, Value.int .i64 (lg.last : Int), Value.int .i64 (lg.durable : Int)]) 5 hS32 rfl Ty.sz47 rfl rfl rfl rfl rfl (Nat.le_of_ble_eq_true rfl) rfl (fun w33 (hS33 : St B (own a27 (0 + 1) c28 3 1 ([] ++ [Value.int .i64 0]) :: cel g24 [Value.int .i64 0] 3 :: cel g15 [Value.pointer (some ⟨g4, 0, none⟩)] 47 :: dkA gd ((appendD D (nameW (lg.last + 1)) (frB s)).1) :: cel g4 [Value.int .i64 ((lg.last : Int) + 1), Value.slice a27 (0 + 1) c28, Value.int .i64 (0 + ((frB s).length : Int)), Value.bool true] 63 :: cel g [Value.pointer (some ⟨gd, 0, none⟩), Value.slice a17 (lg.l.length + 1) c18, Value.pointer (some ⟨g4, 0, none⟩), Value.bool true, Value.int .i64 (lg.last : Int), Value.int .i64 (lg.durable : Int)] 49 :: own a17 (lg.l.length + 1) c18 47 1 ((y.gs.map ptrV) ++ [Value.pointer (some ⟨g4, 0, none⟩)]) :: sqA sgA y.gs lg.l :: L) w33) => ?_)
     clear hS32
     refine WO.nil (NX.go (WP.seq (WP.region rfl ?_)))
     refine WO.mv rfl rfl ?_
     refine WO.val (run_nilCheck rfl) rfl rfl rfl ?_
     refine WO.val (run_fieldAddr (q := ⟨g, 4, none⟩) (show fieldB Tryz.prog 49 4 = some 4 from by kernel_rfl) rfl rfl) rfl rfl rfl ?_
     refine WO.val (run_load Ty.ag3 rfl ((hS33.cel_at 5 rfl 4).trans rfl)) rfl rfl rfl ?_
     refine WO.val (run_add rfl rfl (IntWalk.i64_in _ (by omega))) rfl rfl rfl ?_
     refine WO.val (run_nilCheck rfl) rfl rfl rfl ?_
     refine WO.val (run_fieldAddr (q := ⟨g, 4, none⟩) (show fieldB Tryz.prog 49 4 = some 4 from by kernel_rfl) rfl rfl) rfl rfl rfl ?_
     refine WO.store (l' := [Value.pointer (some ⟨gd, 0, none⟩), Value.slice a17 (lg.l.length + 1) c18, Value.pointer (some ⟨g4, 0, none⟩), Value.bool true, Value.int .i64 ((lg.last : Int) + 1), Value.int .i64 (lg.durable : Int)]) 5 hS33 rfl Ty.sz3 rfl rfl rfl rfl rfl (Nat.le_of_ble_eq_true rfl) rfl (fun w34 (hS34 : St B (own a27 (0 + 1) c28 3 1 ([] ++ [Value.int .i64 0]) :: cel g24 [Value.int .i64 0] 3 :: cel g15 [Value.pointer (some ⟨g4, 0, none⟩)] 47 :: dkA gd ((appendD D (nameW (lg.last + 1)) (frB s)).1) :: cel g4 [Value.int .i64 ((lg.last : Int) + 1), Value.slice a27 (0 + 1) c28, Value.int .i64 (0 + ((frB s).length : Int)), Value.bool true] 63 :: cel g [Value.pointer (some ⟨gd, 0, none⟩), Value.slice a17 (lg.l.length + 1) c18, Value.pointer (some ⟨g4, 0, none⟩), Value.bool true, Value.int .i64 ((lg.last : Int) + 1), Value.int .i64 (lg.durable : Int)] 49 :: own a17 (lg.l.length + 1) c18 47 1 ((y.gs.map ptrV) ++ [Value.pointer (some ⟨g4, 0, none⟩)]) :: sqA sgA y.gs lg.l :: L) w34) => ?_)
     clear hS33
     refine WO.nil (NX.go (WP.seq (WP.region rfl ?_)))
     refine WO.mv rfl rfl ?_
     refine WO.val (run_nilCheck rfl) rfl rfl rfl ?_
     refine WO.val (run_fieldAddr (q := ⟨g, 4, none⟩) (show fieldB Tryz.prog 49 4 = some 4 from by kernel_rfl) rfl rfl) rfl rfl rfl ?_
     refine WO.val (run_load Ty.ag3 rfl ((hS34.cel_at 5 rfl 4).trans rfl)) rfl rfl rfl ?_
     refine WO.asg rfl rfl ?_
     refine WO.asg rfl rfl ?_
     refine WO.nil (NX.go (WP.ret ?_))
     refine NX.done (l := [.tmp 4, .tmp 5]) rfl rfl ?_
     have e0 : appendL lg D s = ⟨⟨lg.l ++ [newS (lg.last + 1) s], true, true, lg.last + 1, lg.durable⟩, (appendD D (nameW (lg.last + 1)) (frB s)).1, lg.last + 1, 0⟩ := by unfold appendL; rw [if_neg g16, if_neg (by omega), hnq, if_pos (Decidable.of_not_not g59)]; unfold appG; rw [hhs]
     rw [e0]
     have z1 := (hS34.permT [1, 1, 2, 0, 3, 1, 1, 0] (L' := cel g24 [Value.int .i64 0] 3 :: cel g15 [Value.pointer (some ⟨g4, 0, none⟩)] 47 :: cel g4 [Value.int .i64 ((lg.last : Int) + 1), Value.slice a27 (0 + 1) c28, Value.int .i64 (0 + ((frB s).length : Int)), Value.bool true] 63 :: own a27 (0 + 1) c28 3 1 ([] ++ [Value.int .i64 0]) :: sqA sgA y.gs lg.l :: cel g [Value.pointer (some ⟨gd, 0, none⟩), Value.slice a17 (lg.l.length + 1) c18, Value.pointer (some ⟨g4, 0, none⟩), Value.bool true, Value.int .i64 ((lg.last : Int) + 1), Value.int .i64 (lg.durable : Int)] 49 :: own a17 (lg.l.length + 1) c18 47 1 ((y.gs.map ptrV) ++ [Value.pointer (some ⟨g4, 0, none⟩)]) :: dkA gd ((appendD D (nameW (lg.last + 1)) (frB s)).1) :: L) rfl).drop.drop
     rw [show (0 : Int) + ((frB s).length : Int) = ((encR [s]).length : Int) by rw [show encR [s] = frB s ++ [] from rfl, List.append_nil]; omega] at z1
     have z2 := St.sg_shut (x := (newS (lg.last + 1) s)) (a27, c28) z1
     have z3 := sqA_snoc (z2.permT [1, 0] (L' := sqA sgA y.gs lg.l :: sgA g4 (newS (lg.last + 1) s) :: cel g [Value.pointer (some ⟨gd, 0, none⟩), Value.slice a17 (lg.l.length + 1) c18, Value.pointer (some ⟨g4, 0, none⟩), Value.bool true, Value.int .i64 ((lg.last : Int) + 1), Value.int .i64 (lg.durable : Int)] 49 :: own a17 (lg.l.length + 1) c18 47 1 ((y.gs.map ptrV) ++ [Value.pointer (some ⟨g4, 0, none⟩)]) :: dkA gd ((appendD D (nameW (lg.last + 1)) (frB s)).1) :: L) rfl)
     have z4 := z3.permT [1, 1, 0] (L' := cel g [Value.pointer (some ⟨gd, 0, none⟩), Value.slice a17 (lg.l.length + 1) c18, Value.pointer (some ⟨g4, 0, none⟩), Value.bool true, Value.int .i64 ((lg.last : Int) + 1), Value.int .i64 (lg.durable : Int)] 49 :: own a17 (lg.l.length + 1) c18 47 1 ((y.gs.map ptrV) ++ [Value.pointer (some ⟨g4, 0, none⟩)]) :: sqA sgA (y.gs ++ [g4]) (lg.l ++ [(newS (lg.last + 1) s)]) :: dkA gd (appendD D (nameW (lg.last + 1)) (frB s)).1 :: L) rfl
     have hm : y.gs.map ptrV ++ [Value.pointer (some ⟨g4, 0, none⟩)] = (y.gs ++ [g4]).map ptrV := by rw [List.map_append]; rfl
     have hl1 : lg.l.length + 1 = (lg.l ++ [(newS (lg.last + 1) s)]).length := by rw [List.length_append]; rfl
     have hh1 : Value.pointer (some ⟨g4, 0, none⟩) = handV true (y.gs ++ [g4]) := by show _ = ptrV ((y.gs ++ [g4]).getLastD 0); rw [List.getLastD_concat]; rfl
     rw [hm, hl1] at z4
     have hla1 : ((lg.last + 1 : Nat) : Int) = (lg.last : Int) + 1 := by omega
     exact ⟨by rw [hla1]; rfl, St.lg_shut (lg := ⟨lg.l ++ [newS (lg.last + 1) s], true, true, lg.last + 1, lg.durable⟩) ⟨a17, c18, y.gs ++ [g4]⟩ (by show St B (cel g [_, _, handV true (y.gs ++ [g4]), _, .int .i64 ((lg.last + 1 : Nat) : Int), _] 49 :: _) _; rw [← hh1, hla1]; exact z4)⟩
    ·
     exfalso; omega
theorem lapp_full_t9 : rtab .any (opsOf Tryz.f7 9) = (true, [([], []), ([0], [0]), ([1], [1]), ([2], [2]), ([], []), ([4], [4]), ([5], [5]), ([6], [6]), ([7], [7]), ([], []), ([3, 8, 9, 8], [3, 8, 9]), ([10, 10, 0, 1, 2, 3, 4, 5, 6, 7, 8, 9, 10], [10])]) := by kernel_rfl
theorem lapp_full_t15 : rtab .any (opsOf Tryz.f7 15) = (true, [([], []), ([], []), ([1], [1]), ([2], [2]), ([3], [3]), ([], []), ([5], [5]), ([6], [6]), ([7], [7]), ([8], [8]), ([4, 9], [4, 9]), ([0, 0, 1, 2, 3, 4, 5, 6, 7, 8, 9, 10], [0]), ([11, 0, 1, 2, 3, 4, 5, 6, 7, 8, 9, 10], [11]), ([12, 10, 10, 0, 1, 2, 3, 4, 5, 6, 7, 8, 9, 10], [10, 12])]) := by kernel_rfl
theorem lapp_full {B w : World} {L : List HP} {g gd n t : Nat} {lg : Lg} {D : Dk} {x : Sg} (hh : lg.hand = true) (hx : lg.l[lg.l.length - 1]? = some x) (hf : ¬ x.rs.length < 16) (hk : OkL lg) (hd : OkD D n t) (hn : n ≤ 100000000) (ht : t ≤ 1099511627776) (s : List UInt8) (hs : s.length ≤ 1099511627776) (hS : St B (lgA g gd lg :: dkA gd D :: L) w) : Does Tryz.prog 7 [Value.pointer (some ⟨g, 0, none⟩), str s] w (fun v w1 => v = .tuple #[.int .i64 ((appendL lg D s).n : Int), .int .i64 (appendL lg D s).e] ∧ St B (lgA g gd (appendL lg D s).lg :: dkA gd (appendL lg D s).D :: L) w1) := by
 have hln := hk.n
 have hla := hk.la
 obtain ⟨y, hgl, h9⟩ := hS.lg_open
 clear hS
 have hxb := hk.one hx
 have hexb := encR_ub (hk.r x (List.mem_of_getElem? hx))
 obtain ⟨gi, hgi, h8⟩ := sqA_pick (i := lg.l.length - 1) hx (h9.permT [2, 0, 0] (L' := sqA sgA y.gs lg.l :: cel g [Value.pointer (some ⟨gd, 0, none⟩), Value.slice y.a lg.l.length y.cap, handV lg.hand y.gs, Value.bool lg.begun, Value.int .i64 (lg.last : Int), Value.int .i64 (lg.durable : Int)] 49 :: own y.a lg.l.length y.cap 47 1 (y.gs.map ptrV) :: dkA gd D :: L) rfl)
 obtain ⟨pi, h7⟩ := h8.sg_open
 have hlast : handV lg.hand y.gs = .pointer (some ⟨gi, 0, none⟩) := by unfold handV; rw [if_pos hh, getLastD_at (g := gi) (by rw [hgl]; exact hgi)]; rfl
 rw [hlast] at h7
 have h0 : St B (cel g [Value.pointer (some ⟨gd, 0, none⟩), Value.slice y.a lg.l.length y.cap, Value.pointer (some ⟨gi, 0, none⟩), Value.bool lg.begun, Value.int .i64 (lg.last : Int), Value.int .i64 (lg.durable : Int)] 49 :: own y.a lg.l.length y.cap 47 1 (y.gs.map ptrV) :: cel gi [Value.int .i64 (x.first : Int), Value.slice pi.1 x.rs.length pi.2, Value.int .i64 ((encR x.rs).length : Int), Value.bool x.dirty] 63 :: own pi.1 x.rs.length pi.2 3 1 (pis x.rs) :: sqBut sgA (lg.l.length - 1) y.gs lg.l :: dkA gd D :: L) w := h7.permT [3, 3, 0, 0, 0, 0] rfl
 clear h9 h8 h7
 refine enter (n := 120) Tryz.func7 rfl rfl [Value.pointer (some ⟨g, 0, none⟩), str s] rfl ?_
 refine WP.seq (WP.region rfl ?_)
 refine WO.asg rfl rfl ?_
 refine WO.asg rfl rfl ?_
 refine WO.nil (NX.go (WP.seq (WP.region rfl ?_)))
 refine WO.mv rfl rfl ?_
 refine WO.val (run_build (v := Value.agg #[Value.int .i64 1, str s]) rfl (fun w => by kernel_rfl)) rfl rfl rfl ?_
 refine WO.call rfl rfl Ty.hd23 rfl (put_spec 1 s (by decide) (by decide) (by omega) h0) (fun v2 w1 pv2 => ?_)
 obtain ⟨rfl, hS1⟩ := pv2
 clear h0
 refine WO.mv rfl rfl ?_
 refine WO.val (run_extract rfl rfl) rfl rfl rfl ?_
 refine WO.val (run_extract rfl rfl) rfl rfl rfl ?_
 refine WO.asg rfl rfl ?_
 refine WO.asg rfl rfl ?_
 refine WO.nil (NX.go (WP.seq (WP.block (WP.seq (WP.region rfl ?_)))))
 refine WO.mv rfl rfl ?_
 refine WO.val (run_neq rfl rfl) rfl rfl rfl ?_
 refine WO.asg rfl rfl ?_
 refine WO.nil (NX.go ?_)
 refine WP.condP rfl (fun g16 => ?_) (fun g16 => ?_)
 ·
  refine WP.seq (WP.region rfl ?_)
  refine WO.mv rfl rfl ?_
  refine WO.asg rfl rfl ?_
  refine WO.asg rfl rfl ?_
  refine WO.nil (NX.go (WP.ret (NX.blkRet (NX.thenRet ?_))))
  have hS3 := sqA_same hx hgi (St.sg_shut (x := x) (pi.1, pi.2) (hS1.permT [2, 2, 2, 0, 0, 0] (L' := cel gi [Value.int .i64 (x.first : Int), Value.slice pi.1 x.rs.length pi.2, Value.int .i64 ((encR x.rs).length : Int), Value.bool x.dirty] 63 :: own pi.1 x.rs.length pi.2 3 1 (pis x.rs) :: sqBut sgA (lg.l.length - 1) y.gs lg.l :: cel g [Value.pointer (some ⟨gd, 0, none⟩), Value.slice y.a lg.l.length y.cap, Value.pointer (some ⟨gi, 0, none⟩), Value.bool lg.begun, Value.int .i64 (lg.last : Int), Value.int .i64 (lg.durable : Int)] 49 :: own y.a lg.l.length y.cap 47 1 (y.gs.map ptrV) :: dkA gd D :: L) rfl))
  clear hS1
  replace hS3 : St B (sqA sgA y.gs lg.l :: cel g [Value.pointer (some ⟨gd, 0, none⟩), Value.slice y.a lg.l.length y.cap, Value.pointer (some ⟨gi, 0, none⟩), Value.bool lg.begun, Value.int .i64 (lg.last : Int), Value.int .i64 (lg.durable : Int)] 49 :: own y.a lg.l.length y.cap 47 1 (y.gs.map ptrV) :: dkA gd D :: L) w1 := hS3
  refine NX.done (l := [.tmp 4, .tmp 5]) rfl rfl ?_
  have e0 : appendL lg D s = ⟨lg, D, 0, (putF 1 s).2⟩ := by unfold appendL; rw [if_pos g16]
  rw [e0]
  exact ⟨rfl, St.lg_shut (lg := lg) y (by have z := (hS3.permT [1, 1, 0, 0] (L' := cel g [Value.pointer (some ⟨gd, 0, none⟩), Value.slice y.a lg.l.length y.cap, Value.pointer (some ⟨gi, 0, none⟩), Value.bool lg.begun, Value.int .i64 (lg.last : Int), Value.int .i64 (lg.durable : Int)] 49 :: own y.a lg.l.length y.cap 47 1 (y.gs.map ptrV) :: sqA sgA y.gs lg.l :: dkA gd D :: L) rfl); rw [← hlast] at z; exact z)⟩
 ·
  refine WP.seq (WP.region rfl ?_)
  refine WO.mv rfl rfl ?_
  refine WO.val (run_nilCheck rfl) rfl rfl rfl ?_
  refine WO.val (run_fieldAddr (q := ⟨g, 4, none⟩) (show fieldB Tryz.prog 49 4 = some 4 from by kernel_rfl) rfl rfl) rfl rfl rfl ?_
  refine WO.val (run_load Ty.ag3 rfl ((hS1.cel_at 0 rfl 4).trans rfl)) rfl rfl rfl ?_
  refine WO.val (run_geq rfl rfl) rfl rfl rfl ?_
  refine WO.asg rfl rfl ?_
  refine WO.nil (NX.go ?_)
  refine WP.condP rfl (fun g20 => ?_) (fun g20 => ?_)
  ·
   refine WP.seq (WP.region rfl ?_)
   refine WO.asg rfl rfl ?_
   refine WO.asg rfl rfl ?_
   refine WO.nil (NX.go (WP.ret (NX.blkRet (NX.thenRet ?_))))
   have hS4 := sqA_same hx hgi (St.sg_shut (x := x) (pi.1, pi.2) (hS1.permT [2, 2, 2, 0, 0, 0] (L' := cel gi [Value.int .i64 (x.first : Int), Value.slice pi.1 x.rs.length pi.2, Value.int .i64 ((encR x.rs).length : Int), Value.bool x.dirty] 63 :: own pi.1 x.rs.length pi.2 3 1 (pis x.rs) :: sqBut sgA (lg.l.length - 1) y.gs lg.l :: cel g [Value.pointer (some ⟨gd, 0, none⟩), Value.slice y.a lg.l.length y.cap, Value.pointer (some ⟨gi, 0, none⟩), Value.bool lg.begun, Value.int .i64 (lg.last : Int), Value.int .i64 (lg.durable : Int)] 49 :: own y.a lg.l.length y.cap 47 1 (y.gs.map ptrV) :: dkA gd D :: L) rfl))
   clear hS1
   replace hS4 : St B (sqA sgA y.gs lg.l :: cel g [Value.pointer (some ⟨gd, 0, none⟩), Value.slice y.a lg.l.length y.cap, Value.pointer (some ⟨gi, 0, none⟩), Value.bool lg.begun, Value.int .i64 (lg.last : Int), Value.int .i64 (lg.durable : Int)] 49 :: own y.a lg.l.length y.cap 47 1 (y.gs.map ptrV) :: dkA gd D :: L) w1 := hS4
   refine NX.done (l := [.tmp 4, .tmp 5]) rfl rfl ?_
   have e0 : appendL lg D s = ⟨lg, D, 0, 4⟩ := by unfold appendL; rw [if_neg g16, if_pos (by omega)]
   rw [e0]
   exact ⟨rfl, St.lg_shut (lg := lg) y (by have z := (hS4.permT [1, 1, 0, 0] (L' := cel g [Value.pointer (some ⟨gd, 0, none⟩), Value.slice y.a lg.l.length y.cap, Value.pointer (some ⟨gi, 0, none⟩), Value.bool lg.begun, Value.int .i64 (lg.last : Int), Value.int .i64 (lg.durable : Int)] 49 :: own y.a lg.l.length y.cap 47 1 (y.gs.map ptrV) :: sqA sgA y.gs lg.l :: dkA gd D :: L) rfl); rw [← hlast] at z; exact z)⟩
  ·
   refine WP.skip (NX.blk (NX.go (WP.seq (WP.region rfl ?_))))
   refine WO.mv rfl rfl ?_
   refine WO.val (run_nilCheck rfl) rfl rfl rfl ?_
   refine WO.val (run_fieldAddr (q := ⟨g, 2, none⟩) (show fieldB Tryz.prog 49 2 = some 2 from by kernel_rfl) rfl rfl) rfl rfl rfl ?_
   refine WO.val (run_load Ty.ag47 rfl ((hS1.cel_at 0 rfl 2).trans rfl)) rfl rfl rfl ?_
   refine WO.asg rfl rfl ?_
   refine WO.nil (NX.go (WP.seq (WP.seq (WP.region rfl ?_))))
   refine WO.mv rfl rfl ?_
   refine WO.val (run_eqlNilP Tryz.underlying47 rfl rfl) rfl rfl rfl ?_
   refine WO.mv rfl rfl ?_
   refine WO.on rfl rfl rfl ?_
   refine WO.mv rfl rfl ?_
   refine WO.on rfl rfl rfl ?_
   refine WO.val (run_nilCheck rfl) rfl rfl rfl ?_
   refine WO.on rfl rfl rfl ?_
   refine WO.val (run_fieldAddr (q := ⟨gi, 1, none⟩) (show fieldB Tryz.prog 63 1 = some 1 from by kernel_rfl) rfl rfl) rfl rfl rfl ?_
   refine WO.on rfl rfl rfl ?_
   refine WO.val (run_load Ty.ag22 rfl ((hS1.cel_at 2 rfl 1).trans rfl)) rfl rfl rfl ?_
   refine WO.on rfl rfl rfl ?_
   refine WO.val (run_len rfl Tryz.underlying22 rfl) rfl rfl rfl ?_
   refine WO.on rfl rfl rfl ?_
   refine WO.val (run_geq rfl rfl) rfl rfl rfl ?_
   refine WO.val (run_pickF rfl rfl rfl) rfl rfl rfl ?_
   refine WO.nil (NX.go ?_)
   refine WP.condP rfl (fun g39 => ?_) (fun g39 => ?_)
   ·
    refine WP.region rfl ?_
    refine WO.mv rfl rfl ?_
    refine WO.val (run_nilCheck rfl) rfl rfl rfl ?_
    refine WO.val (run_fieldAddr (q := ⟨g, 4, none⟩) (show fieldB Tryz.prog 49 4 = some 4 from by kernel_rfl) rfl rfl) rfl rfl rfl ?_
    refine WO.val (run_load Ty.ag3 rfl ((hS1.cel_at 0 rfl 4).trans rfl)) rfl rfl rfl ?_
    refine WO.val (run_add rfl rfl (IntWalk.i64_in _ (by omega))) rfl rfl rfl ?_
    refine WO.val (run_build (v := Value.agg #[Value.int .i64 ((lg.last : Int) + 1), Value.slice none 0 0, Value.int .i64 0, Value.bool false]) rfl (fun w => by kernel_rfl)) rfl rfl rfl ?_
    refine WO.box (l := [Value.int .i64 ((lg.last : Int) + 1), Value.slice none 0 0, Value.int .i64 0, Value.bool false]) hS1 rfl rfl rfl (fun g6 w5 lg6 hS5 => ?_)
    clear hS1
    refine WO.asg rfl rfl ?_
    refine WO.nil (NX.go (WP.seq (WP.seq ?_)))
    have hhs : handS lg = none := handS_full hx hf
    have hnq : appN lg = (lg.last + 1) := by unfold appN; rw [hhs]
    have hfl : (frB s).length ≤ 65550 ∧ s.length ≤ 65536 := by have h1 := (putF_zero (Decidable.of_not_not g16)).2.2; have := (frB_len h1).2; omega
    have hfl2 : (putF 1 s).1.length ≤ 65550 := hfl.1
    refine WD.start (fun w => (∀ jz, World.cell? w ⟨g, jz, none⟩ = [Value.pointer (some ⟨gd, 0, none⟩), Value.slice y.a lg.l.length y.cap, Value.pointer (some ⟨gi, 0, none⟩), Value.bool lg.begun, Value.int .i64 (lg.last : Int), Value.int .i64 (lg.durable : Int)][jz]?) ∧ (∀ jz, World.cell? w ⟨g6, jz, none⟩ = [Value.int .i64 ((lg.last : Int) + 1), Value.slice none 0 0, Value.int .i64 0, Value.bool false][jz]?)) [] (bt 12 0) Ty.mo rfl (by kernel_rfl) hS5 (fun _ h => ⟨h.cel_at 1 rfl, h.cel_at 0 rfl⟩) (fun w7 hS7 s8 => ?_)
    clear hS5
    refine WD.pure (i := 0) lapp_full_t9 (bt 12 1) rfl rfl rfl (by kernel_rfl) (PQ.then (PQ.then PQ.body)) rfl (fun w => run_move rfl) ?_
    refine WD.pure (i := 1) lapp_full_t9 (bt 12 3) rfl rfl rfl (by kernel_rfl) (PQ.then (PQ.then PQ.body)) rfl (fun w => run_nilCheck rfl) ?_
    refine WD.pure (i := 2) lapp_full_t9 (bt 12 7) rfl rfl rfl (by kernel_rfl) (PQ.then (PQ.then PQ.body)) rfl (fun w => run_fieldAddr (q := ⟨g, 0, none⟩) (show fieldB Tryz.prog 49 0 = some 0 from by kernel_rfl) rfl rfl) ?_
    refine WD.take (i := 3) lapp_full_t9 (bt 12 15) s8 rfl rfl rfl (by kernel_rfl) (PQ.then (PQ.then PQ.body)) rfl (fun w hs => run_load Ty.ag25 rfl ((hs.1 0).trans rfl)) ?_
    refine WD.pure (i := 4) lapp_full_t9 (bt 12 31) rfl rfl rfl (by kernel_rfl) (PQ.then (PQ.then PQ.body)) rfl (fun w => run_move rfl) ?_
    refine WD.pure (i := 5) lapp_full_t9 (bt 12 63) rfl rfl rfl (by kernel_rfl) (PQ.then (PQ.then PQ.body)) rfl (fun w => run_nilCheck rfl) ?_
    refine WD.pure (i := 6) lapp_full_t9 (bt 12 127) rfl rfl rfl (by kernel_rfl) (PQ.then (PQ.then PQ.body)) rfl (fun w => run_fieldAddr (q := ⟨g6, 0, none⟩) (show fieldB Tryz.prog 63 0 = some 0 from by kernel_rfl) rfl rfl) ?_
    refine WD.take (i := 7) lapp_full_t9 (bt 12 255) s8 rfl rfl rfl (by kernel_rfl) (PQ.then (PQ.then PQ.body)) rfl (fun w hs => run_load Ty.ag3 rfl ((hs.2 0).trans rfl)) ?_
    refine WD.pure (i := 9) lapp_full_t9 (bt 12 767) rfl rfl rfl (by kernel_rfl) (PQ.then (PQ.then PQ.body)) rfl (fun w => run_move rfl) ?_
    refine WD.one (i := 8) lapp_full_t9 (bt 12 1023) rfl (by kernel_rfl) ?_
    refine WO.call rfl rfl Ty.hd25 rfl (wname_spec (lg.last + 1) (by omega) hS7) (fun v10 w9 pv10 => ?_)
    obtain ⟨rfl, hS9⟩ := pv10
    clear hS7
    refine WO.nil ?_
    have s11 : (∀ jz, World.cell? w9 ⟨g, jz, none⟩ = [Value.pointer (some ⟨gd, 0, none⟩), Value.slice y.a lg.l.length y.cap, Value.pointer (some ⟨gi, 0, none⟩), Value.bool lg.begun, Value.int .i64 (lg.last : Int), Value.int .i64 (lg.durable : Int)][jz]?) ∧ (∀ jz, World.cell? w9 ⟨g6, jz, none⟩ = [Value.int .i64 ((lg.last : Int) + 1), Value.slice none 0 0, Value.int .i64 0, Value.bool false][jz]?) := ⟨hS9.cel_at 1 rfl, hS9.cel_at 0 rfl⟩
    refine NX.held s11 ?_
    refine WD.one (i := 10) lapp_full_t9 (bt 12 2047) rfl (by kernel_rfl) ?_
    have hS12 := hS9.permT [6, 0, 0, 0, 0, 0, 0] (L' := dkA gd D :: cel g6 [Value.int .i64 ((lg.last : Int) + 1), Value.slice none 0 0, Value.int .i64 0, Value.bool false] 63 :: cel g [Value.pointer (some ⟨gd, 0, none⟩), Value.slice y.a lg.l.length y.cap, Value.pointer (some ⟨gi, 0, none⟩), Value.bool lg.begun, Value.int .i64 (lg.last : Int), Value.int .i64 (lg.durable : Int)] 49 :: own y.a lg.l.length y.cap 47 1 (y.gs.map ptrV) :: cel gi [Value.int .i64 (x.first : Int), Value.slice pi.1 x.rs.length pi.2, Value.int .i64 ((encR x.rs).length : Int), Value.bool x.dirty] 63 :: own pi.1 x.rs.length pi.2 3 1 (pis x.rs) :: sqBut sgA (lg.l.length - 1) y.gs lg.l :: L) rfl
    clear hS9
    refine WO.call rfl rfl Ty.hd24 rfl (dappend_spec hd.w hd.b (by omega) ht (nameW (lg.last + 1)) (frB s) (by rw [nameW_length]; decide) (by omega) hS12) (fun v14 w13 pv14 => ?_)
    obtain ⟨rfl, hS13⟩ := pv14
    clear hS12
    refine WO.nil ?_
    have s15 : (∀ jz, World.cell? w13 ⟨g, jz, none⟩ = [Value.pointer (some ⟨gd, 0, none⟩), Value.slice y.a lg.l.length y.cap, Value.pointer (some ⟨gi, 0, none⟩), Value.bool lg.begun, Value.int .i64 (lg.last : Int), Value.int .i64 (lg.durable : Int)][jz]?) ∧ (∀ jz, World.cell? w13 ⟨g6, jz, none⟩ = [Value.int .i64 ((lg.last : Int) + 1), Value.slice none 0 0, Value.int .i64 0, Value.bool false][jz]?) := ⟨hS13.cel_at 2 rfl, hS13.cel_at 1 rfl⟩
    refine NX.held s15 ?_
    refine WD.pure (i := 11) lapp_full_t9 (bt 12 4095) rfl rfl rfl (by kernel_rfl) (PQ.then (PQ.then PQ.body)) rfl (fun w => run_assign rfl) ?_
    refine WD.done lapp_full_t9 (by kernel_rfl) ?_
    refine NX.go (WP.seq (WP.region rfl ?_))
    refine WO.mv rfl rfl ?_
    refine WO.val (run_neq rfl rfl) rfl rfl rfl ?_
    refine WO.nil (NX.go ?_)
    refine WP.condP rfl (fun g59 => ?_) (fun g59 => ?_)
    ·
     refine WP.seq (WP.region rfl ?_)
     refine WO.mv rfl rfl ?_
     refine WO.asg rfl rfl ?_
     refine WO.asg rfl rfl ?_
     refine WO.nil (NX.go (WP.ret (NX.thenRet ?_)))
     have hS16 := sqA_same hx hgi (St.sg_shut (x := x) (pi.1, pi.2) (hS13.permT [4, 4, 4, 0, 0, 0, 0] (L' := cel gi [Value.int .i64 (x.first : Int), Value.slice pi.1 x.rs.length pi.2, Value.int .i64 ((encR x.rs).length : Int), Value.bool x.dirty] 63 :: own pi.1 x.rs.length pi.2 3 1 (pis x.rs) :: sqBut sgA (lg.l.length - 1) y.gs lg.l :: dkA gd ((appendD D (nameW (lg.last + 1)) (frB s)).1) :: cel g6 [Value.int .i64 ((lg.last : Int) + 1), Value.slice none 0 0, Value.int .i64 0, Value.bool false] 63 :: cel g [Value.pointer (some ⟨gd, 0, none⟩), Value.slice y.a lg.l.length y.cap, Value.pointer (some ⟨gi, 0, none⟩), Value.bool lg.begun, Value.int .i64 (lg.last : Int), Value.int .i64 (lg.durable : Int)] 49 :: own y.a lg.l.length y.cap 47 1 (y.gs.map ptrV) :: L) rfl))
     clear hS13
     replace hS16 : St B (sqA sgA y.gs lg.l :: dkA gd ((appendD D (nameW (lg.last + 1)) (frB s)).1) :: cel g6 [Value.int .i64 ((lg.last : Int) + 1), Value.slice none 0 0, Value.int .i64 0, Value.bool false] 63 :: cel g [Value.pointer (some ⟨gd, 0, none⟩), Value.slice y.a lg.l.length y.cap, Value.pointer (some ⟨gi, 0, none⟩), Value.bool lg.begun, Value.int .i64 (lg.last : Int), Value.int .i64 (lg.durable : Int)] 49 :: own y.a lg.l.length y.cap 47 1 (y.gs.map ptrV) :: L) w13 := hS16
     refine NX.done (l := [.tmp 4, .tmp 5]) rfl rfl ?_
     have e0 : appendL lg D s = ⟨lg, (appendD D (nameW (lg.last + 1)) (frB s)).1, 0, (appendD D (nameW (lg.last + 1)) (frB s)).2⟩ := by unfold appendL; rw [if_neg g16, if_neg (by omega), hnq, if_neg g59]
     rw [e0]
     exact ⟨rfl, St.lg_shut (lg := lg) y (by have z := (hS16.permT [2, 2, 2, 0, 0] (L' := cel g6 [Value.int .i64 ((lg.last : Int) + 1), Value.slice none 0 0, Value.int .i64 0, Value.bool false] 63 :: cel g [Value.pointer (some ⟨gd, 0, none⟩), Value.slice y.a lg.l.length y.cap, Value.pointer (some ⟨gi, 0, none⟩), Value.bool lg.begun, Value.int .i64 (lg.last : Int), Value.int .i64 (lg.durable : Int)] 49 :: own y.a lg.l.length y.cap 47 1 (y.gs.map ptrV) :: sqA sgA y.gs lg.l :: dkA gd ((appendD D (nameW (lg.last + 1)) (frB s)).1) :: L) rfl).drop; rw [← hlast] at z; exact z)⟩
    ·
     refine WP.skip (NX.go (WP.seq (WP.seq (WP.region rfl ?_))))
     refine WO.mv rfl rfl ?_
     refine WO.val (run_nilCheck rfl) rfl rfl rfl ?_
     refine WO.val (run_fieldAddr (q := ⟨g6, 1, none⟩) (show fieldB Tryz.prog 63 1 = some 1 from by kernel_rfl) rfl rfl) rfl rfl rfl ?_
     refine WO.val (run_load Ty.ag22 rfl ((hS13.cel_at 1 rfl 1).trans rfl)) rfl rfl rfl ?_
     refine WO.val (run_len rfl Tryz.underlying22 rfl) rfl rfl rfl ?_
     refine WO.val (run_eql rfl rfl) rfl rfl rfl ?_
     refine WO.nil (NX.go ?_)
     refine WP.condP rfl (fun g66 => ?_) (fun g66 => ?_)
     ·
      refine WP.seq (WP.region rfl ?_)
      refine WO.mv rfl rfl ?_
      refine WO.mv rfl rfl ?_
      refine WO.val (run_nilCheck rfl) rfl rfl rfl ?_
      refine WO.val (run_fieldAddr (q := ⟨g, 1, none⟩) (show fieldB Tryz.prog 49 1 = some 1 from by kernel_rfl) rfl rfl) rfl rfl rfl ?_
      refine WO.val (run_load Ty.ag46 rfl ((hS13.cel_at 2 rfl 1).trans rfl)) rfl rfl rfl ?_
      refine WO.mv rfl rfl ?_
      refine WO.buildSlice (l := [Value.pointer (some ⟨g6, 0, none⟩)]) hS13 Tryz.underlying46 rfl (fun w => by kernel_rfl) rfl (fun g18 w17 lg18 hS17 => ?_)
      clear hS13
      refine WO.append (news := [Value.pointer (some ⟨g6, 0, none⟩)]) 4 rfl Tryz.underlying46 Tryz.underlying46 (fun _ h => by cases h) Ty.sz47 (by decide) Ty.by47 Ty.zr47 rfl rfl rfl rfl hS17 rfl ((hS17.cel_rd 0 rfl (o := 0) (m := 1) (k := 1) rfl (Nat.le_of_ble_eq_true rfl)).src) rfl (by omega) (by omega) (fun a20 c21 w19 hS19 => ?_)
      replace hS19 : St B (cel g18 [Value.pointer (some ⟨g6, 0, none⟩)] 47 :: dkA gd ((appendD D (nameW (lg.last + 1)) (frB s)).1) :: cel g6 [Value.int .i64 ((lg.last : Int) + 1), Value.slice none 0 0, Value.int .i64 0, Value.bool false] 63 :: cel g [Value.pointer (some ⟨gd, 0, none⟩), Value.slice y.a lg.l.length y.cap, Value.pointer (some ⟨gi, 0, none⟩), Value.bool lg.begun, Value.int .i64 (lg.last : Int), Value.int .i64 (lg.durable : Int)] 49 :: own a20 (lg.l.length + 1) c21 47 1 ((y.gs.map ptrV) ++ [Value.pointer (some ⟨g6, 0, none⟩)]) :: cel gi [Value.int .i64 (x.first : Int), Value.slice pi.1 x.rs.length pi.2, Value.int .i64 ((encR x.rs).length : Int), Value.bool x.dirty] 63 :: own pi.1 x.rs.length pi.2 3 1 (pis x.rs) :: sqBut sgA (lg.l.length - 1) y.gs lg.l :: L) w19 := hS19
      clear hS17
      refine WO.val (run_nilCheck rfl) rfl rfl rfl ?_
      refine WO.val (run_fieldAddr (q := ⟨g, 1, none⟩) (show fieldB Tryz.prog 49 1 = some 1 from by kernel_rfl) rfl rfl) rfl rfl rfl ?_
      refine WO.store (l' := [Value.pointer (some ⟨gd, 0, none⟩), Value.slice a20 (lg.l.length + 1) c21, Value.pointer (some ⟨gi, 0, none⟩), Value.bool lg.begun, Value.int .i64 (lg.last : Int), Value.int .i64 (lg.durable : Int)]) 3 hS19 rfl Ty.sz46 rfl rfl rfl rfl rfl (Nat.le_of_ble_eq_true rfl) rfl (fun w22 (hS22 : St B (cel g18 [Value.pointer (some ⟨g6, 0, none⟩)] 47 :: dkA gd ((appendD D (nameW (lg.last + 1)) (frB s)).1) :: cel g6 [Value.int .i64 ((lg.last : Int) + 1), Value.slice none 0 0, Value.int .i64 0, Value.bool false] 63 :: cel g [Value.pointer (some ⟨gd, 0, none⟩), Value.slice a20 (lg.l.length + 1) c21, Value.pointer (some ⟨gi, 0, none⟩), Value.bool lg.begun, Value.int .i64 (lg.last : Int), Value.int .i64 (lg.durable : Int)] 49 :: own a20 (lg.l.length + 1) c21 47 1 ((y.gs.map ptrV) ++ [Value.pointer (some ⟨g6, 0, none⟩)]) :: cel gi [Value.int .i64 (x.first : Int), Value.slice pi.1 x.rs.length pi.2, Value.int .i64 ((encR x.rs).length : Int), Value.bool x.dirty] 63 :: own pi.1 x.rs.length pi.2 3 1 (pis x.rs) :: sqBut sgA (lg.l.length - 1) y.gs lg.l :: L) w22) => ?_)
      clear hS19
      refine WO.nil (NX.go (WP.region rfl ?_))
      refine WO.mv rfl rfl ?_
      refine WO.val (run_nilCheck rfl) rfl rfl rfl ?_
      refine WO.val (run_fieldAddr (q := ⟨g, 3, none⟩) (show fieldB Tryz.prog 49 3 = some 3 from by kernel_rfl) rfl rfl) rfl rfl rfl ?_
      refine WO.store (l' := [Value.pointer (some ⟨gd, 0, none⟩), Value.slice a20 (lg.l.length + 1) c21, Value.pointer (some ⟨gi, 0, none⟩), Value.bool true, Value.int .i64 (lg.last : Int), Value.int .i64 (lg.durable : Int)]) 3 hS22 rfl Ty.sz4 rfl rfl rfl rfl rfl (Nat.le_of_ble_eq_true rfl) rfl (fun w23 (hS23 : St B (cel g18 [Value.pointer (some ⟨g6, 0, none⟩)] 47 :: dkA gd ((appendD D (nameW (lg.last + 1)) (frB s)).1) :: cel g6 [Value.int .i64 ((lg.last : Int) + 1), Value.slice none 0 0, Value.int .i64 0, Value.bool false] 63 :: cel g [Value.pointer (some ⟨gd, 0, none⟩), Value.slice a20 (lg.l.length + 1) c21, Value.pointer (some ⟨gi, 0, none⟩), Value.bool true, Value.int .i64 (lg.last : Int), Value.int .i64 (lg.durable : Int)] 49 :: own a20 (lg.l.length + 1) c21 47 1 ((y.gs.map ptrV) ++ [Value.pointer (some ⟨g6, 0, none⟩)]) :: cel gi [Value.int .i64 (x.first : Int), Value.slice pi.1 x.rs.length pi.2, Value.int .i64 ((encR x.rs).length : Int), Value.bool x.dirty] 63 :: own pi.1 x.rs.length pi.2 3 1 (pis x.rs) :: sqBut sgA (lg.l.length - 1) y.gs lg.l :: L) w23) => ?_)
      clear hS22
      refine WO.nil (NX.go (WP.seq ?_))
      refine WD.start (fun w => (∀ jz, World.cell? w ⟨g6, jz, none⟩ = [Value.int .i64 ((lg.last : Int) + 1), Value.slice none 0 0, Value.int .i64 0, Value.bool false][jz]?)) [13] (bt 14 0) Ty.mo rfl (by kernel_rfl) hS23 (fun _ h => h.cel_at 2 rfl) (fun w24 hS24 s25 => ?_)
      clear hS23
      refine WD.pure (i := 0) lapp_full_t15 (bt 14 1) rfl rfl rfl (by kernel_rfl) (PQ.then PQ.body) rfl (fun w => run_move rfl) ?_
      refine WD.pure (i := 1) lapp_full_t15 (bt 14 3) rfl rfl rfl (by kernel_rfl) (PQ.then PQ.body) rfl (fun w => run_move rfl) ?_
      refine WD.pure (i := 2) lapp_full_t15 (bt 14 7) rfl rfl rfl (by kernel_rfl) (PQ.then PQ.body) rfl (fun w => run_nilCheck rfl) ?_
      refine WD.pure (i := 3) lapp_full_t15 (bt 14 15) rfl rfl rfl (by kernel_rfl) (PQ.then PQ.body) rfl (fun w => run_fieldAddr (q := ⟨g6, 1, none⟩) (show fieldB Tryz.prog 63 1 = some 1 from by kernel_rfl) rfl rfl) ?_
      refine WD.take (i := 4) lapp_full_t15 (bt 14 31) s25 rfl rfl rfl (by kernel_rfl) (PQ.then PQ.body) rfl (fun w hs => run_load Ty.ag22 rfl ((hs 1).trans rfl)) ?_
      refine WD.pure (i := 5) lapp_full_t15 (bt 14 63) rfl rfl rfl (by kernel_rfl) (PQ.then PQ.body) rfl (fun w => run_move rfl) ?_
      refine WD.pure (i := 6) lapp_full_t15 (bt 14 127) rfl rfl rfl (by kernel_rfl) (PQ.then PQ.body) rfl (fun w => run_nilCheck rfl) ?_
      refine WD.pure (i := 7) lapp_full_t15 (bt 14 255) rfl rfl rfl (by kernel_rfl) (PQ.then PQ.body) rfl (fun w => run_fieldAddr (q := ⟨g6, 2, none⟩) (show fieldB Tryz.prog 63 2 = some 2 from by kernel_rfl) rfl rfl) ?_
      refine WD.take (i := 8) lapp_full_t15 (bt 14 511) s25 rfl rfl rfl (by kernel_rfl) (PQ.then PQ.body) rfl (fun w hs => run_load Ty.ag3 rfl ((hs 2).trans rfl)) ?_
      refine WD.one (i := 9) lapp_full_t15 (bt 14 1023) rfl (by kernel_rfl) ?_
      refine WO.buildSlice (l := [Value.int .i64 0]) hS24 Tryz.underlying22 rfl (fun w => by kernel_rfl) rfl (fun g27 w26 lg27 hS26 => ?_)
      clear hS24
      refine WO.nil ?_
      have s28 : (∀ jz, World.cell? w26 ⟨g6, jz, none⟩ = [Value.int .i64 ((lg.last : Int) + 1), Value.slice none 0 0, Value.int .i64 0, Value.bool false][jz]?) := hS26.cel_at 3 rfl
      refine NX.held s28 ?_
      refine WD.one (i := 10) lapp_full_t15 (bt 14 2047) rfl (by kernel_rfl) ?_
      have hS26 := hS26.own_nil 3 1
      refine WO.append (news := [Value.int .i64 0]) 0 rfl Tryz.underlying22 Tryz.underlying22 (fun _ h => by cases h) Ty.sz3 (by decide) Ty.by3 Ty.zr3 rfl rfl rfl rfl hS26 rfl ((hS26.cel_rd 1 rfl (o := 0) (m := 1) (k := 1) rfl (Nat.le_of_ble_eq_true rfl)).src) rfl (by omega) (by omega) (fun a30 c31 w29 hS29 => ?_)
      replace hS29 : St B (own a30 (0 + 1) c31 3 1 ([] ++ [Value.int .i64 0]) :: cel g27 [Value.int .i64 0] 3 :: cel g18 [Value.pointer (some ⟨g6, 0, none⟩)] 47 :: dkA gd ((appendD D (nameW (lg.last + 1)) (frB s)).1) :: cel g6 [Value.int .i64 ((lg.last : Int) + 1), Value.slice none 0 0, Value.int .i64 0, Value.bool false] 63 :: cel g [Value.pointer (some ⟨gd, 0, none⟩), Value.slice a20 (lg.l.length + 1) c21, Value.pointer (some ⟨gi, 0, none⟩), Value.bool true, Value.int .i64 (lg.last : Int), Value.int .i64 (lg.durable : Int)] 49 :: own a20 (lg.l.length + 1) c21 47 1 ((y.gs.map ptrV) ++ [Value.pointer (some ⟨g6, 0, none⟩)]) :: cel gi [Value.int .i64 (x.first : Int), Value.slice pi.1 x.rs.length pi.2, Value.int .i64 ((encR x.rs).length : Int), Value.bool x.dirty] 63 :: own pi.1 x.rs.length pi.2 3 1 (pis x.rs) :: sqBut sgA (lg.l.length - 1) y.gs lg.l :: L) w29 := hS29
      clear hS26
      refine WO.nil ?_
      have s32 : (∀ jz, World.cell? w29 ⟨g6, jz, none⟩ = [Value.int .i64 ((lg.last : Int) + 1), Value.slice none 0 0, Value.int .i64 0, Value.bool false][jz]?) := hS29.cel_at 4 rfl
      refine NX.held s32 ?_
      refine WD.pure (i := 11) lapp_full_t15 (bt 14 4095) rfl rfl rfl (by kernel_rfl) (PQ.then PQ.body) rfl (fun w => run_nilCheck rfl) ?_
      refine WD.pure (i := 12) lapp_full_t15 (bt 14 8191) rfl rfl rfl (by kernel_rfl) (PQ.then PQ.body) rfl (fun w => run_fieldAddr (q := ⟨g6, 1, none⟩) (show fieldB Tryz.prog 63 1 = some 1 from by kernel_rfl) rfl rfl) ?_
      refine WD.one (i := 13) lapp_full_t15 (bt 14 16383) rfl (by kernel_rfl) ?_
      refine WO.store (l' := [Value.int .i64 ((lg.last : Int) + 1), Value.slice a30 (0 + 1) c31, Value.int .i64 0, Value.bool false]) 4 hS29 rfl Ty.sz22 rfl rfl rfl rfl rfl (Nat.le_of_ble_eq_true rfl) rfl (fun w33 (hS33 : St B (own a30 (0 + 1) c31 3 1 ([] ++ [Value.int .i64 0]) :: cel g27 [Value.int .i64 0] 3 :: cel g18 [Value.pointer (some ⟨g6, 0, none⟩)] 47 :: dkA gd ((appendD D (nameW (lg.last + 1)) (frB s)).1) :: cel g6 [Value.int .i64 ((lg.last : Int) + 1), Value.slice a30 (0 + 1) c31, Value.int .i64 0, Value.bool false] 63 :: cel g [Value.pointer (some ⟨gd, 0, none⟩), Value.slice a20 (lg.l.length + 1) c21, Value.pointer (some ⟨gi, 0, none⟩), Value.bool true, Value.int .i64 (lg.last : Int), Value.int .i64 (lg.durable : Int)] 49 :: own a20 (lg.l.length + 1) c21 47 1 ((y.gs.map ptrV) ++ [Value.pointer (some ⟨g6, 0, none⟩)]) :: cel gi [Value.int .i64 (x.first : Int), Value.slice pi.1 x.rs.length pi.2, Value.int .i64 ((encR x.rs).length : Int), Value.bool x.dirty] 63 :: own pi.1 x.rs.length pi.2 3 1 (pis x.rs) :: sqBut sgA (lg.l.length - 1) y.gs lg.l :: L) w33) => ?_)
      clear hS29
      refine WO.nil ?_
      refine NX.last (by decide) ?_
      refine WD.done lapp_full_t15 (by kernel_rfl) ?_
      refine NX.go (WP.seq (WP.region rfl ?_))
      refine WO.mv rfl rfl ?_
      refine WO.val (run_nilCheck rfl) rfl rfl rfl ?_
      refine WO.val (run_fieldAddr (q := ⟨g6, 2, none⟩) (show fieldB Tryz.prog 63 2 = some 2 from by kernel_rfl) rfl rfl) rfl rfl rfl ?_
      refine WO.val (run_load Ty.ag3 rfl ((hS33.cel_at 4 rfl 2).trans rfl)) rfl rfl rfl ?_
      refine WO.mv rfl rfl ?_
      refine WO.val (run_lenS rfl Tryz.underlying9 rfl) rfl rfl rfl ?_
      refine WO.val (run_add rfl rfl (IntWalk.i64_in _ (by omega))) rfl rfl rfl ?_
      refine WO.val (run_nilCheck rfl) rfl rfl rfl ?_
      refine WO.val (run_fieldAddr (q := ⟨g6, 2, none⟩) (show fieldB Tryz.prog 63 2 = some 2 from by kernel_rfl) rfl rfl) rfl rfl rfl ?_
      refine WO.store (l' := [Value.int .i64 ((lg.last : Int) + 1), Value.slice a30 (0 + 1) c31, Value.int .i64 (0 + ((frB s).length : Int)), Value.bool false]) 4 hS33 rfl Ty.sz3 rfl rfl rfl rfl rfl (Nat.le_of_ble_eq_true rfl) rfl (fun w34 (hS34 : St B (own a30 (0 + 1) c31 3 1 ([] ++ [Value.int .i64 0]) :: cel g27 [Value.int .i64 0] 3 :: cel g18 [Value.pointer (some ⟨g6, 0, none⟩)] 47 :: dkA gd ((appendD D (nameW (lg.last + 1)) (frB s)).1) :: cel g6 [Value.int .i64 ((lg.last : Int) + 1), Value.slice a30 (0 + 1) c31, Value.int .i64 (0 + ((frB s).length : Int)), Value.bool false] 63 :: cel g [Value.pointer (some ⟨gd, 0, none⟩), Value.slice a20 (lg.l.length + 1) c21, Value.pointer (some ⟨gi, 0, none⟩), Value.bool true, Value.int .i64 (lg.last : Int), Value.int .i64 (lg.durable : Int)] 49 :: own a20 (lg.l.length + 1) c21 47 1 ((y.gs.map ptrV) ++ [Value.pointer (some ⟨g6, 0, none⟩)]) :: cel gi [Value.int .i64 (x.first : Int), Value.slice pi.1 x.rs.length pi.2, Value.int .i64 ((encR x.rs).length : Int), Value.bool x.dirty] 63 :: own pi.1 x.rs.length pi.2 3 1 (pis x.rs) :: sqBut sgA (lg.l.length - 1) y.gs lg.l :: L) w34) => ?_)
      clear hS33
      refine WO.nil (NX.go (WP.seq (WP.region rfl ?_)))
      refine WO.mv rfl rfl ?_
      refine WO.mv rfl rfl ?_
      refine WO.mv rfl rfl ?_
      refine WO.val (run_nilCheck rfl) rfl rfl rfl ?_
      refine WO.val (run_fieldAddr (q := ⟨g6, 3, none⟩) (show fieldB Tryz.prog 63 3 = some 3 from by kernel_rfl) rfl rfl) rfl rfl rfl ?_
      refine WO.store (l' := [Value.int .i64 ((lg.last : Int) + 1), Value.slice a30 (0 + 1) c31, Value.int .i64 (0 + ((frB s).length : Int)), Value.bool true]) 4 hS34 rfl Ty.sz4 rfl rfl rfl rfl rfl (Nat.le_of_ble_eq_true rfl) rfl (fun w35 (hS35 : St B (own a30 (0 + 1) c31 3 1 ([] ++ [Value.int .i64 0]) :: cel g27 [Value.int .i64 0] 3 :: cel g18 [Value.pointer (some ⟨g6, 0, none⟩)] 47 :: dkA gd ((appendD D (nameW (lg.last + 1)) (frB s)).1) :: cel g6 [Value.int .i64 ((lg.last : Int) + 1), Value.slice a30 (0 + 1) c31, Value.int .i64 (0 + ((frB s).length : Int)), Value.bool true] 63 :: cel g [Value.pointer (some ⟨gd, 0, none⟩), Value.slice a20 (lg.l.length + 1) c21, Value.pointer (some ⟨gi, 0, none⟩), Value.bool true, Value.int .i64 (lg.last : Int), Value.int .i64 (lg.durable : Int)] 49 :: own a20 (lg.l.length + 1) c21 47 1 ((y.gs.map ptrV) ++ [Value.pointer (some ⟨g6, 0, none⟩)]) :: cel gi [Value.int .i64 (x.first : Int), Value.slice pi.1 x.rs.length pi.2, Value.int .i64 ((encR x.rs).length : Int), Value.bool x.dirty] 63 :: own pi.1 x.rs.length pi.2 3 1 (pis x.rs) :: sqBut sgA (lg.l.length - 1) y.gs lg.l :: L) w35) => ?_)
      clear hS34
      refine WO.val (run_nilCheck rfl) rfl rfl rfl ?_
      refine WO.val (run_fieldAddr (q := ⟨g, 2, none⟩) (show fieldB Tryz.prog 49 2 = some 2 from by kernel_rfl) rfl rfl) rfl rfl rfl ?_
      refine WO.store (l' := [Value.pointer (some ⟨gd, 0, none⟩), Value.slice a20 (lg.l.length + 1) c21, Value.pointer (some ⟨g6, 0, none⟩), Value.bool true, Value.int .i64 (lg.last : Int), Value.int .i64 (lg.durable : Int)]) 5 hS35 rfl Ty.sz47 rfl rfl rfl rfl rfl (Nat.le_of_ble_eq_true rfl) rfl (fun w36 (hS36 : St B (own a30 (0 + 1) c31 3 1 ([] ++ [Value.int .i64 0]) :: cel g27 [Value.int .i64 0] 3 :: cel g18 [Value.pointer (some ⟨g6, 0, none⟩)] 47 :: dkA gd ((appendD D (nameW (lg.last + 1)) (frB s)).1) :: cel g6 [Value.int .i64 ((lg.last : Int) + 1), Value.slice a30 (0 + 1) c31, Value.int .i64 (0 + ((frB s).length : Int)), Value.bool true] 63 :: cel g [Value.pointer (some ⟨gd, 0, none⟩), Value.slice a20 (lg.l.length + 1) c21, Value.pointer (some ⟨g6, 0, none⟩), Value.bool true, Value.int .i64 (lg.last : Int), Value.int .i64 (lg.durable : Int)] 49 :: own a20 (lg.l.length + 1) c21 47 1 ((y.gs.map ptrV) ++ [Value.pointer (some ⟨g6, 0, none⟩)]) :: cel gi [Value.int .i64 (x.first : Int), Value.slice pi.1 x.rs.length pi.2, Value.int .i64 ((encR x.rs).length : Int), Value.bool x.dirty] 63 :: own pi.1 x.rs.length pi.2 3 1 (pis x.rs) :: sqBut sgA (lg.l.length - 1) y.gs lg.l :: L) w36) => ?_)
      clear hS35
      refine WO.nil (NX.go (WP.seq (WP.region rfl ?_)))
      refine WO.mv rfl rfl ?_
      refine WO.val (run_nilCheck rfl) rfl rfl rfl ?_
      refine WO.val (run_fieldAddr (q := ⟨g, 4, none⟩) (show fieldB Tryz.prog 49 4 = some 4 from by kernel_rfl) rfl rfl) rfl rfl rfl ?_
      refine WO.val (run_load Ty.ag3 rfl ((hS36.cel_at 5 rfl 4).trans rfl)) rfl rfl rfl ?_
      refine WO.val (run_add rfl rfl (IntWalk.i64_in _ (by omega))) rfl rfl rfl ?_
      refine WO.val (run_nilCheck rfl) rfl rfl rfl ?_
      refine WO.val (run_fieldAddr (q := ⟨g, 4, none⟩) (show fieldB Tryz.prog 49 4 = some 4 from by kernel_rfl) rfl rfl) rfl rfl rfl ?_
      refine WO.store (l' := [Value.pointer (some ⟨gd, 0, none⟩), Value.slice a20 (lg.l.length + 1) c21, Value.pointer (some ⟨g6, 0, none⟩), Value.bool true, Value.int .i64 ((lg.last : Int) + 1), Value.int .i64 (lg.durable : Int)]) 5 hS36 rfl Ty.sz3 rfl rfl rfl rfl rfl (Nat.le_of_ble_eq_true rfl) rfl (fun w37 (hS37 : St B (own a30 (0 + 1) c31 3 1 ([] ++ [Value.int .i64 0]) :: cel g27 [Value.int .i64 0] 3 :: cel g18 [Value.pointer (some ⟨g6, 0, none⟩)] 47 :: dkA gd ((appendD D (nameW (lg.last + 1)) (frB s)).1) :: cel g6 [Value.int .i64 ((lg.last : Int) + 1), Value.slice a30 (0 + 1) c31, Value.int .i64 (0 + ((frB s).length : Int)), Value.bool true] 63 :: cel g [Value.pointer (some ⟨gd, 0, none⟩), Value.slice a20 (lg.l.length + 1) c21, Value.pointer (some ⟨g6, 0, none⟩), Value.bool true, Value.int .i64 ((lg.last : Int) + 1), Value.int .i64 (lg.durable : Int)] 49 :: own a20 (lg.l.length + 1) c21 47 1 ((y.gs.map ptrV) ++ [Value.pointer (some ⟨g6, 0, none⟩)]) :: cel gi [Value.int .i64 (x.first : Int), Value.slice pi.1 x.rs.length pi.2, Value.int .i64 ((encR x.rs).length : Int), Value.bool x.dirty] 63 :: own pi.1 x.rs.length pi.2 3 1 (pis x.rs) :: sqBut sgA (lg.l.length - 1) y.gs lg.l :: L) w37) => ?_)
      clear hS36
      refine WO.nil (NX.go (WP.seq (WP.region rfl ?_)))
      refine WO.mv rfl rfl ?_
      refine WO.val (run_nilCheck rfl) rfl rfl rfl ?_
      refine WO.val (run_fieldAddr (q := ⟨g, 4, none⟩) (show fieldB Tryz.prog 49 4 = some 4 from by kernel_rfl) rfl rfl) rfl rfl rfl ?_
      refine WO.val (run_load Ty.ag3 rfl ((hS37.cel_at 5 rfl 4).trans rfl)) rfl rfl rfl ?_
      refine WO.asg rfl rfl ?_
      refine WO.asg rfl rfl ?_
      refine WO.nil (NX.go (WP.ret ?_))
      have hS38 := sqA_same hx hgi (St.sg_shut (x := x) (pi.1, pi.2) (hS37.permT [7, 7, 7, 0, 0, 0, 0, 0, 0, 0] (L' := cel gi [Value.int .i64 (x.first : Int), Value.slice pi.1 x.rs.length pi.2, Value.int .i64 ((encR x.rs).length : Int), Value.bool x.dirty] 63 :: own pi.1 x.rs.length pi.2 3 1 (pis x.rs) :: sqBut sgA (lg.l.length - 1) y.gs lg.l :: own a30 (0 + 1) c31 3 1 ([] ++ [Value.int .i64 0]) :: cel g27 [Value.int .i64 0] 3 :: cel g18 [Value.pointer (some ⟨g6, 0, none⟩)] 47 :: dkA gd ((appendD D (nameW (lg.last + 1)) (frB s)).1) :: cel g6 [Value.int .i64 ((lg.last : Int) + 1), Value.slice a30 (0 + 1) c31, Value.int .i64 (0 + ((frB s).length : Int)), Value.bool true] 63 :: cel g [Value.pointer (some ⟨gd, 0, none⟩), Value.slice a20 (lg.l.length + 1) c21, Value.pointer (some ⟨g6, 0, none⟩), Value.bool true, Value.int .i64 ((lg.last : Int) + 1), Value.int .i64 (lg.durable : Int)] 49 :: own a20 (lg.l.length + 1) c21 47 1 ((y.gs.map ptrV) ++ [Value.pointer (some ⟨g6, 0, none⟩)]) :: L) rfl))
      clear hS37
      replace hS38 : St B (sqA sgA y.gs lg.l :: own a30 (0 + 1) c31 3 1 ([] ++ [Value.int .i64 0]) :: cel g27 [Value.int .i64 0] 3 :: cel g18 [Value.pointer (some ⟨g6, 0, none⟩)] 47 :: dkA gd ((appendD D (nameW (lg.last + 1)) (frB s)).1) :: cel g6 [Value.int .i64 ((lg.last : Int) + 1), Value.slice a30 (0 + 1) c31, Value.int .i64 (0 + ((frB s).length : Int)), Value.bool true] 63 :: cel g [Value.pointer (some ⟨gd, 0, none⟩), Value.slice a20 (lg.l.length + 1) c21, Value.pointer (some ⟨g6, 0, none⟩), Value.bool true, Value.int .i64 ((lg.last : Int) + 1), Value.int .i64 (lg.durable : Int)] 49 :: own a20 (lg.l.length + 1) c21 47 1 ((y.gs.map ptrV) ++ [Value.pointer (some ⟨g6, 0, none⟩)]) :: L) w37 := hS38
      refine NX.done (l := [.tmp 4, .tmp 5]) rfl rfl ?_
      have e0 : appendL lg D s = ⟨⟨lg.l ++ [newS (lg.last + 1) s], true, true, lg.last + 1, lg.durable⟩, (appendD D (nameW (lg.last + 1)) (frB s)).1, lg.last + 1, 0⟩ := by unfold appendL; rw [if_neg g16, if_neg (by omega), hnq, if_pos (Decidable.of_not_not g59)]; unfold appG; rw [hhs]
      rw [e0]
      have z1 := (hS38.permT [2, 2, 3, 1, 0, 1, 1, 0] (L' := cel g27 [Value.int .i64 0] 3 :: cel g18 [Value.pointer (some ⟨g6, 0, none⟩)] 47 :: cel g6 [Value.int .i64 ((lg.last : Int) + 1), Value.slice a30 (0 + 1) c31, Value.int .i64 (0 + ((frB s).length : Int)), Value.bool true] 63 :: own a30 (0 + 1) c31 3 1 ([] ++ [Value.int .i64 0]) :: sqA sgA y.gs lg.l :: cel g [Value.pointer (some ⟨gd, 0, none⟩), Value.slice a20 (lg.l.length + 1) c21, Value.pointer (some ⟨g6, 0, none⟩), Value.bool true, Value.int .i64 ((lg.last : Int) + 1), Value.int .i64 (lg.durable : Int)] 49 :: own a20 (lg.l.length + 1) c21 47 1 ((y.gs.map ptrV) ++ [Value.pointer (some ⟨g6, 0, none⟩)]) :: dkA gd ((appendD D (nameW (lg.last + 1)) (frB s)).1) :: L) rfl).drop.drop
      rw [show (0 : Int) + ((frB s).length : Int) = ((encR [s]).length : Int) by rw [show encR [s] = frB s ++ [] from rfl, List.append_nil]; omega] at z1
      have z2 := St.sg_shut (x := (newS (lg.last + 1) s)) (a30, c31) z1
      have z3 := sqA_snoc (z2.permT [1, 0] (L' := sqA sgA y.gs lg.l :: sgA g6 (newS (lg.last + 1) s) :: cel g [Value.pointer (some ⟨gd, 0, none⟩), Value.slice a20 (lg.l.length + 1) c21, Value.pointer (some ⟨g6, 0, none⟩), Value.bool true, Value.int .i64 ((lg.last : Int) + 1), Value.int .i64 (lg.durable : Int)] 49 :: own a20 (lg.l.length + 1) c21 47 1 ((y.gs.map ptrV) ++ [Value.pointer (some ⟨g6, 0, none⟩)]) :: dkA gd ((appendD D (nameW (lg.last + 1)) (frB s)).1) :: L) rfl)
      have z4 := z3.permT [1, 1, 0] (L' := cel g [Value.pointer (some ⟨gd, 0, none⟩), Value.slice a20 (lg.l.length + 1) c21, Value.pointer (some ⟨g6, 0, none⟩), Value.bool true, Value.int .i64 ((lg.last : Int) + 1), Value.int .i64 (lg.durable : Int)] 49 :: own a20 (lg.l.length + 1) c21 47 1 ((y.gs.map ptrV) ++ [Value.pointer (some ⟨g6, 0, none⟩)]) :: sqA sgA (y.gs ++ [g6]) (lg.l ++ [(newS (lg.last + 1) s)]) :: dkA gd (appendD D (nameW (lg.last + 1)) (frB s)).1 :: L) rfl
      have hm : y.gs.map ptrV ++ [Value.pointer (some ⟨g6, 0, none⟩)] = (y.gs ++ [g6]).map ptrV := by rw [List.map_append]; rfl
      have hl1 : lg.l.length + 1 = (lg.l ++ [(newS (lg.last + 1) s)]).length := by rw [List.length_append]; rfl
      have hh1 : Value.pointer (some ⟨g6, 0, none⟩) = handV true (y.gs ++ [g6]) := by show _ = ptrV ((y.gs ++ [g6]).getLastD 0); rw [List.getLastD_concat]; rfl
      rw [hm, hl1] at z4
      have hla1 : ((lg.last + 1 : Nat) : Int) = (lg.last : Int) + 1 := by omega
      exact ⟨by rw [hla1]; rfl, St.lg_shut (lg := ⟨lg.l ++ [newS (lg.last + 1) s], true, true, lg.last + 1, lg.durable⟩) ⟨a20, c21, y.gs ++ [g6]⟩ (by show St B (cel g [_, _, handV true (y.gs ++ [g6]), _, .int .i64 ((lg.last + 1 : Nat) : Int), _] 49 :: _) _; rw [← hh1, hla1]; exact z4)⟩
     ·
      exfalso; omega
   ·
    exfalso; omega
theorem lapp_room_t9 : rtab .any (opsOf Tryz.f7 9) = (true, [([], []), ([0], [0]), ([1], [1]), ([2], [2]), ([], []), ([4], [4]), ([5], [5]), ([6], [6]), ([7], [7]), ([], []), ([3, 8, 9, 8], [3, 8, 9]), ([10, 10, 0, 1, 2, 3, 4, 5, 6, 7, 8, 9, 10], [10])]) := by kernel_rfl
theorem lapp_room_t15 : rtab .any (opsOf Tryz.f7 15) = (true, [([], []), ([], []), ([1], [1]), ([2], [2]), ([3], [3]), ([], []), ([5], [5]), ([6], [6]), ([7], [7]), ([8], [8]), ([4, 9], [4, 9]), ([0, 0, 1, 2, 3, 4, 5, 6, 7, 8, 9, 10], [0]), ([11, 0, 1, 2, 3, 4, 5, 6, 7, 8, 9, 10], [11]), ([12, 10, 10, 0, 1, 2, 3, 4, 5, 6, 7, 8, 9, 10], [10, 12])]) := by kernel_rfl
theorem lapp_room {B w : World} {L : List HP} {g gd n t : Nat} {lg : Lg} {D : Dk} {x : Sg} (hh : lg.hand = true) (hx : lg.l[lg.l.length - 1]? = some x) (hf : x.rs.length < 16) (hk : OkL lg) (hd : OkD D n t) (hn : n ≤ 100000000) (ht : t ≤ 1099511627776) (s : List UInt8) (hs : s.length ≤ 1099511627776) (hS : St B (lgA g gd lg :: dkA gd D :: L) w) : Does Tryz.prog 7 [Value.pointer (some ⟨g, 0, none⟩), str s] w (fun v w1 => v = .tuple #[.int .i64 ((appendL lg D s).n : Int), .int .i64 (appendL lg D s).e] ∧ St B (lgA g gd (appendL lg D s).lg :: dkA gd (appendL lg D s).D :: L) w1) := by
 have hln := hk.n
 have hla := hk.la
 obtain ⟨y, hgl, h9⟩ := hS.lg_open
 clear hS
 have hxb := hk.one hx
 have hexb := encR_ub (hk.r x (List.mem_of_getElem? hx))
 obtain ⟨gi, hgi, h8⟩ := sqA_pick (i := lg.l.length - 1) hx (h9.permT [2, 0, 0] (L' := sqA sgA y.gs lg.l :: cel g [Value.pointer (some ⟨gd, 0, none⟩), Value.slice y.a lg.l.length y.cap, handV lg.hand y.gs, Value.bool lg.begun, Value.int .i64 (lg.last : Int), Value.int .i64 (lg.durable : Int)] 49 :: own y.a lg.l.length y.cap 47 1 (y.gs.map ptrV) :: dkA gd D :: L) rfl)
 obtain ⟨pi, h7⟩ := h8.sg_open
 have hlast : handV lg.hand y.gs = .pointer (some ⟨gi, 0, none⟩) := by unfold handV; rw [if_pos hh, getLastD_at (g := gi) (by rw [hgl]; exact hgi)]; rfl
 rw [hlast] at h7
 have h0 : St B (cel g [Value.pointer (some ⟨gd, 0, none⟩), Value.slice y.a lg.l.length y.cap, Value.pointer (some ⟨gi, 0, none⟩), Value.bool lg.begun, Value.int .i64 (lg.last : Int), Value.int .i64 (lg.durable : Int)] 49 :: own y.a lg.l.length y.cap 47 1 (y.gs.map ptrV) :: cel gi [Value.int .i64 (x.first : Int), Value.slice pi.1 x.rs.length pi.2, Value.int .i64 ((encR x.rs).length : Int), Value.bool x.dirty] 63 :: own pi.1 x.rs.length pi.2 3 1 (pis x.rs) :: sqBut sgA (lg.l.length - 1) y.gs lg.l :: dkA gd D :: L) w := h7.permT [3, 3, 0, 0, 0, 0] rfl
 clear h9 h8 h7
 refine enter (n := 120) Tryz.func7 rfl rfl [Value.pointer (some ⟨g, 0, none⟩), str s] rfl ?_
 refine WP.seq (WP.region rfl ?_)
 refine WO.asg rfl rfl ?_
 refine WO.asg rfl rfl ?_
 refine WO.nil (NX.go (WP.seq (WP.region rfl ?_)))
 refine WO.mv rfl rfl ?_
 refine WO.val (run_build (v := Value.agg #[Value.int .i64 1, str s]) rfl (fun w => by kernel_rfl)) rfl rfl rfl ?_
 refine WO.call rfl rfl Ty.hd23 rfl (put_spec 1 s (by decide) (by decide) (by omega) h0) (fun v2 w1 pv2 => ?_)
 obtain ⟨rfl, hS1⟩ := pv2
 clear h0
 refine WO.mv rfl rfl ?_
 refine WO.val (run_extract rfl rfl) rfl rfl rfl ?_
 refine WO.val (run_extract rfl rfl) rfl rfl rfl ?_
 refine WO.asg rfl rfl ?_
 refine WO.asg rfl rfl ?_
 refine WO.nil (NX.go (WP.seq (WP.block (WP.seq (WP.region rfl ?_)))))
 refine WO.mv rfl rfl ?_
 refine WO.val (run_neq rfl rfl) rfl rfl rfl ?_
 refine WO.asg rfl rfl ?_
 refine WO.nil (NX.go ?_)
 refine WP.condP rfl (fun g16 => ?_) (fun g16 => ?_)
 ·
  refine WP.seq (WP.region rfl ?_)
  refine WO.mv rfl rfl ?_
  refine WO.asg rfl rfl ?_
  refine WO.asg rfl rfl ?_
  refine WO.nil (NX.go (WP.ret (NX.blkRet (NX.thenRet ?_))))
  have hS3 := sqA_same hx hgi (St.sg_shut (x := x) (pi.1, pi.2) (hS1.permT [2, 2, 2, 0, 0, 0] (L' := cel gi [Value.int .i64 (x.first : Int), Value.slice pi.1 x.rs.length pi.2, Value.int .i64 ((encR x.rs).length : Int), Value.bool x.dirty] 63 :: own pi.1 x.rs.length pi.2 3 1 (pis x.rs) :: sqBut sgA (lg.l.length - 1) y.gs lg.l :: cel g [Value.pointer (some ⟨gd, 0, none⟩), Value.slice y.a lg.l.length y.cap, Value.pointer (some ⟨gi, 0, none⟩), Value.bool lg.begun, Value.int .i64 (lg.last : Int), Value.int .i64 (lg.durable : Int)] 49 :: own y.a lg.l.length y.cap 47 1 (y.gs.map ptrV) :: dkA gd D :: L) rfl))
  clear hS1
  replace hS3 : St B (sqA sgA y.gs lg.l :: cel g [Value.pointer (some ⟨gd, 0, none⟩), Value.slice y.a lg.l.length y.cap, Value.pointer (some ⟨gi, 0, none⟩), Value.bool lg.begun, Value.int .i64 (lg.last : Int), Value.int .i64 (lg.durable : Int)] 49 :: own y.a lg.l.length y.cap 47 1 (y.gs.map ptrV) :: dkA gd D :: L) w1 := hS3
  refine NX.done (l := [.tmp 4, .tmp 5]) rfl rfl ?_
  have e0 : appendL lg D s = ⟨lg, D, 0, (putF 1 s).2⟩ := by unfold appendL; rw [if_pos g16]
  rw [e0]
  exact ⟨rfl, St.lg_shut (lg := lg) y (by have z := (hS3.permT [1, 1, 0, 0] (L' := cel g [Value.pointer (some ⟨gd, 0, none⟩), Value.slice y.a lg.l.length y.cap, Value.pointer (some ⟨gi, 0, none⟩), Value.bool lg.begun, Value.int .i64 (lg.last : Int), Value.int .i64 (lg.durable : Int)] 49 :: own y.a lg.l.length y.cap 47 1 (y.gs.map ptrV) :: sqA sgA y.gs lg.l :: dkA gd D :: L) rfl); rw [← hlast] at z; exact z)⟩
 ·
  refine WP.seq (WP.region rfl ?_)
  refine WO.mv rfl rfl ?_
  refine WO.val (run_nilCheck rfl) rfl rfl rfl ?_
  refine WO.val (run_fieldAddr (q := ⟨g, 4, none⟩) (show fieldB Tryz.prog 49 4 = some 4 from by kernel_rfl) rfl rfl) rfl rfl rfl ?_
  refine WO.val (run_load Ty.ag3 rfl ((hS1.cel_at 0 rfl 4).trans rfl)) rfl rfl rfl ?_
  refine WO.val (run_geq rfl rfl) rfl rfl rfl ?_
  refine WO.asg rfl rfl ?_
  refine WO.nil (NX.go ?_)
  refine WP.condP rfl (fun g20 => ?_) (fun g20 => ?_)
  ·
   refine WP.seq (WP.region rfl ?_)
   refine WO.asg rfl rfl ?_
   refine WO.asg rfl rfl ?_
   refine WO.nil (NX.go (WP.ret (NX.blkRet (NX.thenRet ?_))))
   have hS4 := sqA_same hx hgi (St.sg_shut (x := x) (pi.1, pi.2) (hS1.permT [2, 2, 2, 0, 0, 0] (L' := cel gi [Value.int .i64 (x.first : Int), Value.slice pi.1 x.rs.length pi.2, Value.int .i64 ((encR x.rs).length : Int), Value.bool x.dirty] 63 :: own pi.1 x.rs.length pi.2 3 1 (pis x.rs) :: sqBut sgA (lg.l.length - 1) y.gs lg.l :: cel g [Value.pointer (some ⟨gd, 0, none⟩), Value.slice y.a lg.l.length y.cap, Value.pointer (some ⟨gi, 0, none⟩), Value.bool lg.begun, Value.int .i64 (lg.last : Int), Value.int .i64 (lg.durable : Int)] 49 :: own y.a lg.l.length y.cap 47 1 (y.gs.map ptrV) :: dkA gd D :: L) rfl))
   clear hS1
   replace hS4 : St B (sqA sgA y.gs lg.l :: cel g [Value.pointer (some ⟨gd, 0, none⟩), Value.slice y.a lg.l.length y.cap, Value.pointer (some ⟨gi, 0, none⟩), Value.bool lg.begun, Value.int .i64 (lg.last : Int), Value.int .i64 (lg.durable : Int)] 49 :: own y.a lg.l.length y.cap 47 1 (y.gs.map ptrV) :: dkA gd D :: L) w1 := hS4
   refine NX.done (l := [.tmp 4, .tmp 5]) rfl rfl ?_
   have e0 : appendL lg D s = ⟨lg, D, 0, 4⟩ := by unfold appendL; rw [if_neg g16, if_pos (by omega)]
   rw [e0]
   exact ⟨rfl, St.lg_shut (lg := lg) y (by have z := (hS4.permT [1, 1, 0, 0] (L' := cel g [Value.pointer (some ⟨gd, 0, none⟩), Value.slice y.a lg.l.length y.cap, Value.pointer (some ⟨gi, 0, none⟩), Value.bool lg.begun, Value.int .i64 (lg.last : Int), Value.int .i64 (lg.durable : Int)] 49 :: own y.a lg.l.length y.cap 47 1 (y.gs.map ptrV) :: sqA sgA y.gs lg.l :: dkA gd D :: L) rfl); rw [← hlast] at z; exact z)⟩
  ·
   refine WP.skip (NX.blk (NX.go (WP.seq (WP.region rfl ?_))))
   refine WO.mv rfl rfl ?_
   refine WO.val (run_nilCheck rfl) rfl rfl rfl ?_
   refine WO.val (run_fieldAddr (q := ⟨g, 2, none⟩) (show fieldB Tryz.prog 49 2 = some 2 from by kernel_rfl) rfl rfl) rfl rfl rfl ?_
   refine WO.val (run_load Ty.ag47 rfl ((hS1.cel_at 0 rfl 2).trans rfl)) rfl rfl rfl ?_
   refine WO.asg rfl rfl ?_
   refine WO.nil (NX.go (WP.seq (WP.seq (WP.region rfl ?_))))
   refine WO.mv rfl rfl ?_
   refine WO.val (run_eqlNilP Tryz.underlying47 rfl rfl) rfl rfl rfl ?_
   refine WO.mv rfl rfl ?_
   refine WO.on rfl rfl rfl ?_
   refine WO.mv rfl rfl ?_
   refine WO.on rfl rfl rfl ?_
   refine WO.val (run_nilCheck rfl) rfl rfl rfl ?_
   refine WO.on rfl rfl rfl ?_
   refine WO.val (run_fieldAddr (q := ⟨gi, 1, none⟩) (show fieldB Tryz.prog 63 1 = some 1 from by kernel_rfl) rfl rfl) rfl rfl rfl ?_
   refine WO.on rfl rfl rfl ?_
   refine WO.val (run_load Ty.ag22 rfl ((hS1.cel_at 2 rfl 1).trans rfl)) rfl rfl rfl ?_
   refine WO.on rfl rfl rfl ?_
   refine WO.val (run_len rfl Tryz.underlying22 rfl) rfl rfl rfl ?_
   refine WO.on rfl rfl rfl ?_
   refine WO.val (run_geq rfl rfl) rfl rfl rfl ?_
   refine WO.val (run_pickF rfl rfl rfl) rfl rfl rfl ?_
   refine WO.nil (NX.go ?_)
   refine WP.condP rfl (fun g39 => ?_) (fun g39 => ?_)
   ·
    exfalso; omega
   ·
    refine WP.skip (NX.go (WP.seq (WP.seq ?_)))
    have hhs : handS lg = some x := handS_room hh hx hf
    have hnq : appN lg = x.first := by unfold appN; rw [hhs]
    have hfl : (frB s).length ≤ 65550 ∧ s.length ≤ 65536 := by have h1 := (putF_zero (Decidable.of_not_not g16)).2.2; have := (frB_len h1).2; omega
    have hfl2 : (putF 1 s).1.length ≤ 65550 := hfl.1
    refine WD.start (fun w => (∀ jz, World.cell? w ⟨g, jz, none⟩ = [Value.pointer (some ⟨gd, 0, none⟩), Value.slice y.a lg.l.length y.cap, Value.pointer (some ⟨gi, 0, none⟩), Value.bool lg.begun, Value.int .i64 (lg.last : Int), Value.int .i64 (lg.durable : Int)][jz]?) ∧ (∀ jz, World.cell? w ⟨gi, jz, none⟩ = [Value.int .i64 (x.first : Int), Value.slice pi.1 x.rs.length pi.2, Value.int .i64 ((encR x.rs).length : Int), Value.bool x.dirty][jz]?)) [] (bt 12 0) Ty.mo rfl (by kernel_rfl) hS1 (fun _ h => ⟨h.cel_at 0 rfl, h.cel_at 2 rfl⟩) (fun w5 hS5 s6 => ?_)
    clear hS1
    refine WD.pure (i := 0) lapp_room_t9 (bt 12 1) rfl rfl rfl (by kernel_rfl) (PQ.then (PQ.then PQ.body)) rfl (fun w => run_move rfl) ?_
    refine WD.pure (i := 1) lapp_room_t9 (bt 12 3) rfl rfl rfl (by kernel_rfl) (PQ.then (PQ.then PQ.body)) rfl (fun w => run_nilCheck rfl) ?_
    refine WD.pure (i := 2) lapp_room_t9 (bt 12 7) rfl rfl rfl (by kernel_rfl) (PQ.then (PQ.then PQ.body)) rfl (fun w => run_fieldAddr (q := ⟨g, 0, none⟩) (show fieldB Tryz.prog 49 0 = some 0 from by kernel_rfl) rfl rfl) ?_
    refine WD.take (i := 3) lapp_room_t9 (bt 12 15) s6 rfl rfl rfl (by kernel_rfl) (PQ.then (PQ.then PQ.body)) rfl (fun w hs => run_load Ty.ag25 rfl ((hs.1 0).trans rfl)) ?_
    refine WD.pure (i := 4) lapp_room_t9 (bt 12 31) rfl rfl rfl (by kernel_rfl) (PQ.then (PQ.then PQ.body)) rfl (fun w => run_move rfl) ?_
    refine WD.pure (i := 5) lapp_room_t9 (bt 12 63) rfl rfl rfl (by kernel_rfl) (PQ.then (PQ.then PQ.body)) rfl (fun w => run_nilCheck rfl) ?_
    refine WD.pure (i := 6) lapp_room_t9 (bt 12 127) rfl rfl rfl (by kernel_rfl) (PQ.then (PQ.then PQ.body)) rfl (fun w => run_fieldAddr (q := ⟨gi, 0, none⟩) (show fieldB Tryz.prog 63 0 = some 0 from by kernel_rfl) rfl rfl) ?_
    refine WD.take (i := 7) lapp_room_t9 (bt 12 255) s6 rfl rfl rfl (by kernel_rfl) (PQ.then (PQ.then PQ.body)) rfl (fun w hs => run_load Ty.ag3 rfl ((hs.2 0).trans rfl)) ?_
    refine WD.pure (i := 9) lapp_room_t9 (bt 12 767) rfl rfl rfl (by kernel_rfl) (PQ.then (PQ.then PQ.body)) rfl (fun w => run_move rfl) ?_
    refine WD.one (i := 8) lapp_room_t9 (bt 12 1023) rfl (by kernel_rfl) ?_
    refine WO.call rfl rfl Ty.hd25 rfl (wname_spec x.first (by omega) hS5) (fun v8 w7 pv8 => ?_)
    obtain ⟨rfl, hS7⟩ := pv8
    clear hS5
    refine WO.nil ?_
    have s9 : (∀ jz, World.cell? w7 ⟨g, jz, none⟩ = [Value.pointer (some ⟨gd, 0, none⟩), Value.slice y.a lg.l.length y.cap, Value.pointer (some ⟨gi, 0, none⟩), Value.bool lg.begun, Value.int .i64 (lg.last : Int), Value.int .i64 (lg.durable : Int)][jz]?) ∧ (∀ jz, World.cell? w7 ⟨gi, jz, none⟩ = [Value.int .i64 (x.first : Int), Value.slice pi.1 x.rs.length pi.2, Value.int .i64 ((encR x.rs).length : Int), Value.bool x.dirty][jz]?) := ⟨hS7.cel_at 0 rfl, hS7.cel_at 2 rfl⟩
    refine NX.held s9 ?_
    refine WD.one (i := 10) lapp_room_t9 (bt 12 2047) rfl (by kernel_rfl) ?_
    have hS10 := hS7.permT [5, 0, 0, 0, 0, 0] (L' := dkA gd D :: cel g [Value.pointer (some ⟨gd, 0, none⟩), Value.slice y.a lg.l.length y.cap, Value.pointer (some ⟨gi, 0, none⟩), Value.bool lg.begun, Value.int .i64 (lg.last : Int), Value.int .i64 (lg.durable : Int)] 49 :: own y.a lg.l.length y.cap 47 1 (y.gs.map ptrV) :: cel gi [Value.int .i64 (x.first : Int), Value.slice pi.1 x.rs.length pi.2, Value.int .i64 ((encR x.rs).length : Int), Value.bool x.dirty] 63 :: own pi.1 x.rs.length pi.2 3 1 (pis x.rs) :: sqBut sgA (lg.l.length - 1) y.gs lg.l :: L) rfl
    clear hS7
    refine WO.call rfl rfl Ty.hd24 rfl (dappend_spec hd.w hd.b (by omega) ht (nameW x.first) (frB s) (by rw [nameW_length]; decide) (by omega) hS10) (fun v12 w11 pv12 => ?_)
    obtain ⟨rfl, hS11⟩ := pv12
    clear hS10
    refine WO.nil ?_
    have s13 : (∀ jz, World.cell? w11 ⟨g, jz, none⟩ = [Value.pointer (some ⟨gd, 0, none⟩), Value.slice y.a lg.l.length y.cap, Value.pointer (some ⟨gi, 0, none⟩), Value.bool lg.begun, Value.int .i64 (lg.last : Int), Value.int .i64 (lg.durable : Int)][jz]?) ∧ (∀ jz, World.cell? w11 ⟨gi, jz, none⟩ = [Value.int .i64 (x.first : Int), Value.slice pi.1 x.rs.length pi.2, Value.int .i64 ((encR x.rs).length : Int), Value.bool x.dirty][jz]?) := ⟨hS11.cel_at 1 rfl, hS11.cel_at 3 rfl⟩
    refine NX.held s13 ?_
    refine WD.pure (i := 11) lapp_room_t9 (bt 12 4095) rfl rfl rfl (by kernel_rfl) (PQ.then (PQ.then PQ.body)) rfl (fun w => run_assign rfl) ?_
    refine WD.done lapp_room_t9 (by kernel_rfl) ?_
    refine NX.go (WP.seq (WP.region rfl ?_))
    refine WO.mv rfl rfl ?_
    refine WO.val (run_neq rfl rfl) rfl rfl rfl ?_
    refine WO.nil (NX.go ?_)
    refine WP.condP rfl (fun g59 => ?_) (fun g59 => ?_)
    ·
     refine WP.seq (WP.region rfl ?_)
     refine WO.mv rfl rfl ?_
     refine WO.asg rfl rfl ?_
     refine WO.asg rfl rfl ?_
     refine WO.nil (NX.go (WP.ret (NX.thenRet ?_)))
     have hS14 := sqA_same hx hgi (St.sg_shut (x := x) (pi.1, pi.2) (hS11.permT [3, 3, 3, 0, 0, 0] (L' := cel gi [Value.int .i64 (x.first : Int), Value.slice pi.1 x.rs.length pi.2, Value.int .i64 ((encR x.rs).length : Int), Value.bool x.dirty] 63 :: own pi.1 x.rs.length pi.2 3 1 (pis x.rs) :: sqBut sgA (lg.l.length - 1) y.gs lg.l :: dkA gd ((appendD D (nameW x.first) (frB s)).1) :: cel g [Value.pointer (some ⟨gd, 0, none⟩), Value.slice y.a lg.l.length y.cap, Value.pointer (some ⟨gi, 0, none⟩), Value.bool lg.begun, Value.int .i64 (lg.last : Int), Value.int .i64 (lg.durable : Int)] 49 :: own y.a lg.l.length y.cap 47 1 (y.gs.map ptrV) :: L) rfl))
     clear hS11
     replace hS14 : St B (sqA sgA y.gs lg.l :: dkA gd ((appendD D (nameW x.first) (frB s)).1) :: cel g [Value.pointer (some ⟨gd, 0, none⟩), Value.slice y.a lg.l.length y.cap, Value.pointer (some ⟨gi, 0, none⟩), Value.bool lg.begun, Value.int .i64 (lg.last : Int), Value.int .i64 (lg.durable : Int)] 49 :: own y.a lg.l.length y.cap 47 1 (y.gs.map ptrV) :: L) w11 := hS14
     refine NX.done (l := [.tmp 4, .tmp 5]) rfl rfl ?_
     have e0 : appendL lg D s = ⟨lg, (appendD D (nameW x.first) (frB s)).1, 0, (appendD D (nameW x.first) (frB s)).2⟩ := by unfold appendL; rw [if_neg g16, if_neg (by omega), hnq, if_neg g59]
     rw [e0]
     exact ⟨rfl, St.lg_shut (lg := lg) y (by have z := (hS14.permT [2, 2, 0, 0] (L' := cel g [Value.pointer (some ⟨gd, 0, none⟩), Value.slice y.a lg.l.length y.cap, Value.pointer (some ⟨gi, 0, none⟩), Value.bool lg.begun, Value.int .i64 (lg.last : Int), Value.int .i64 (lg.durable : Int)] 49 :: own y.a lg.l.length y.cap 47 1 (y.gs.map ptrV) :: sqA sgA y.gs lg.l :: dkA gd ((appendD D (nameW x.first) (frB s)).1) :: L) rfl); rw [← hlast] at z; exact z)⟩
    ·
     refine WP.skip (NX.go (WP.seq (WP.seq (WP.region rfl ?_))))
     refine WO.mv rfl rfl ?_
     refine WO.val (run_nilCheck rfl) rfl rfl rfl ?_
     refine WO.val (run_fieldAddr (q := ⟨gi, 1, none⟩) (show fieldB Tryz.prog 63 1 = some 1 from by kernel_rfl) rfl rfl) rfl rfl rfl ?_
     refine WO.val (run_load Ty.ag22 rfl ((hS11.cel_at 3 rfl 1).trans rfl)) rfl rfl rfl ?_
     refine WO.val (run_len rfl Tryz.underlying22 rfl) rfl rfl rfl ?_
     refine WO.val (run_eql rfl rfl) rfl rfl rfl ?_
     refine WO.nil (NX.go ?_)
     refine WP.condP rfl (fun g66 => ?_) (fun g66 => ?_)
     ·
      exfalso; omega
     ·
      refine WP.skip (NX.go (WP.seq ?_))
      refine WD.start (fun w => (∀ jz, World.cell? w ⟨gi, jz, none⟩ = [Value.int .i64 (x.first : Int), Value.slice pi.1 x.rs.length pi.2, Value.int .i64 ((encR x.rs).length : Int), Value.bool x.dirty][jz]?)) [13] (bt 14 0) Ty.mo rfl (by kernel_rfl) hS11 (fun _ h => h.cel_at 3 rfl) (fun w15 hS15 s16 => ?_)
      clear hS11
      refine WD.pure (i := 0) lapp_room_t15 (bt 14 1) rfl rfl rfl (by kernel_rfl) (PQ.then PQ.body) rfl (fun w => run_move rfl) ?_
      refine WD.pure (i := 1) lapp_room_t15 (bt 14 3) rfl rfl rfl (by kernel_rfl) (PQ.then PQ.body) rfl (fun w => run_move rfl) ?_
      refine WD.pure (i := 2) lapp_room_t15 (bt 14 7) rfl rfl rfl (by kernel_rfl) (PQ.then PQ.body) rfl (fun w => run_nilCheck rfl) ?_
      refine WD.pure (i := 3) lapp_room_t15 (bt 14 15) rfl rfl rfl (by kernel_rfl) (PQ.then PQ.body) rfl (fun w => run_fieldAddr (q := ⟨gi, 1, none⟩) (show fieldB Tryz.prog 63 1 = some 1 from by kernel_rfl) rfl rfl) ?_
      refine WD.take (i := 4) lapp_room_t15 (bt 14 31) s16 rfl rfl rfl (by kernel_rfl) (PQ.then PQ.body) rfl (fun w hs => run_load Ty.ag22 rfl ((hs 1).trans rfl)) ?_
      refine WD.pure (i := 5) lapp_room_t15 (bt 14 63) rfl rfl rfl (by kernel_rfl) (PQ.then PQ.body) rfl (fun w => run_move rfl) ?_
      refine WD.pure (i := 6) lapp_room_t15 (bt 14 127) rfl rfl rfl (by kernel_rfl) (PQ.then PQ.body) rfl (fun w => run_nilCheck rfl) ?_
      refine WD.pure (i := 7) lapp_room_t15 (bt 14 255) rfl rfl rfl (by kernel_rfl) (PQ.then PQ.body) rfl (fun w => run_fieldAddr (q := ⟨gi, 2, none⟩) (show fieldB Tryz.prog 63 2 = some 2 from by kernel_rfl) rfl rfl) ?_
      refine WD.take (i := 8) lapp_room_t15 (bt 14 511) s16 rfl rfl rfl (by kernel_rfl) (PQ.then PQ.body) rfl (fun w hs => run_load Ty.ag3 rfl ((hs 2).trans rfl)) ?_
      refine WD.one (i := 9) lapp_room_t15 (bt 14 1023) rfl (by kernel_rfl) ?_
      refine WO.buildSlice (l := [Value.int .i64 ((encR x.rs).length : Int)]) hS15 Tryz.underlying22 rfl (fun w => by kernel_rfl) rfl (fun g18 w17 lg18 hS17 => ?_)
      clear hS15
      refine WO.nil ?_
      have s19 : (∀ jz, World.cell? w17 ⟨gi, jz, none⟩ = [Value.int .i64 (x.first : Int), Value.slice pi.1 x.rs.length pi.2, Value.int .i64 ((encR x.rs).length : Int), Value.bool x.dirty][jz]?) := hS17.cel_at 4 rfl
      refine NX.held s19 ?_
      refine WD.one (i := 10) lapp_room_t15 (bt 14 2047) rfl (by kernel_rfl) ?_
      refine WO.append (news := [Value.int .i64 ((encR x.rs).length : Int)]) 5 rfl Tryz.underlying22 Tryz.underlying22 (fun _ h => by cases h) Ty.sz3 (by decide) Ty.by3 Ty.zr3 rfl rfl rfl rfl hS17 rfl ((hS17.cel_rd 0 rfl (o := 0) (m := 1) (k := 1) rfl (Nat.le_of_ble_eq_true rfl)).src) rfl (by omega) (by omega) (fun a21 c22 w20 hS20 => ?_)
      replace hS20 : St B (cel g18 [Value.int .i64 ((encR x.rs).length : Int)] 3 :: dkA gd ((appendD D (nameW x.first) (frB s)).1) :: cel g [Value.pointer (some ⟨gd, 0, none⟩), Value.slice y.a lg.l.length y.cap, Value.pointer (some ⟨gi, 0, none⟩), Value.bool lg.begun, Value.int .i64 (lg.last : Int), Value.int .i64 (lg.durable : Int)] 49 :: own y.a lg.l.length y.cap 47 1 (y.gs.map ptrV) :: cel gi [Value.int .i64 (x.first : Int), Value.slice pi.1 x.rs.length pi.2, Value.int .i64 ((encR x.rs).length : Int), Value.bool x.dirty] 63 :: own a21 (x.rs.length + 1) c22 3 1 ((pis x.rs) ++ [Value.int .i64 ((encR x.rs).length : Int)]) :: sqBut sgA (lg.l.length - 1) y.gs lg.l :: L) w20 := hS20
      clear hS17
      refine WO.nil ?_
      have s23 : (∀ jz, World.cell? w20 ⟨gi, jz, none⟩ = [Value.int .i64 (x.first : Int), Value.slice pi.1 x.rs.length pi.2, Value.int .i64 ((encR x.rs).length : Int), Value.bool x.dirty][jz]?) := hS20.cel_at 4 rfl
      refine NX.held s23 ?_
      refine WD.pure (i := 11) lapp_room_t15 (bt 14 4095) rfl rfl rfl (by kernel_rfl) (PQ.then PQ.body) rfl (fun w => run_nilCheck rfl) ?_
      refine WD.pure (i := 12) lapp_room_t15 (bt 14 8191) rfl rfl rfl (by kernel_rfl) (PQ.then PQ.body) rfl (fun w => run_fieldAddr (q := ⟨gi, 1, none⟩) (show fieldB Tryz.prog 63 1 = some 1 from by kernel_rfl) rfl rfl) ?_
      refine WD.one (i := 13) lapp_room_t15 (bt 14 16383) rfl (by kernel_rfl) ?_
      refine WO.store (l' := [Value.int .i64 (x.first : Int), Value.slice a21 (x.rs.length + 1) c22, Value.int .i64 ((encR x.rs).length : Int), Value.bool x.dirty]) 4 hS20 rfl Ty.sz22 rfl rfl rfl rfl rfl (Nat.le_of_ble_eq_true rfl) rfl (fun w24 (hS24 : St B (cel g18 [Value.int .i64 ((encR x.rs).length : Int)] 3 :: dkA gd ((appendD D (nameW x.first) (frB s)).1) :: cel g [Value.pointer (some ⟨gd, 0, none⟩), Value.slice y.a lg.l.length y.cap, Value.pointer (some ⟨gi, 0, none⟩), Value.bool lg.begun, Value.int .i64 (lg.last : Int), Value.int .i64 (lg.durable : Int)] 49 :: own y.a lg.l.length y.cap 47 1 (y.gs.map ptrV) :: cel gi [Value.int .i64 (x.first : Int), Value.slice a21 (x.rs.length + 1) c22, Value.int .i64 ((encR x.rs).length : Int), Value.bool x.dirty] 63 :: own a21 (x.rs.length + 1) c22 3 1 ((pis x.rs) ++ [Value.int .i64 ((encR x.rs).length : Int)]) :: sqBut sgA (lg.l.length - 1) y.gs lg.l :: L) w24) => ?_)
      clear hS20
      refine WO.nil ?_
      refine NX.last (by decide) ?_
      refine WD.done lapp_room_t15 (by kernel_rfl) ?_
      refine NX.go (WP.seq (WP.region rfl ?_))
      refine WO.mv rfl rfl ?_
      refine WO.val (run_nilCheck rfl) rfl rfl rfl ?_
      refine WO.val (run_fieldAddr (q := ⟨gi, 2, none⟩) (show fieldB Tryz.prog 63 2 = some 2 from by kernel_rfl) rfl rfl) rfl rfl rfl ?_
      refine WO.val (run_load Ty.ag3 rfl ((hS24.cel_at 4 rfl 2).trans rfl)) rfl rfl rfl ?_
      refine WO.mv rfl rfl ?_
      refine WO.val (run_lenS rfl Tryz.underlying9 rfl) rfl rfl rfl ?_
      refine WO.val (run_add rfl rfl (IntWalk.i64_in _ (by omega))) rfl rfl rfl ?_
      refine WO.val (run_nilCheck rfl) rfl rfl rfl ?_
      refine WO.val (run_fieldAddr (q := ⟨gi, 2, none⟩) (show fieldB Tryz.prog 63 2 = some 2 from by kernel_rfl) rfl rfl) rfl rfl rfl ?_
      refine WO.store (l' := [Value.int .i64 (x.first : Int), Value.slice a21 (x.rs.length + 1) c22, Value.int .i64 (((encR x.rs).length : Int) + ((frB s).length : Int)), Value.bool x.dirty]) 4 hS24 rfl Ty.sz3 rfl rfl rfl rfl rfl (Nat.le_of_ble_eq_true rfl) rfl (fun w25 (hS25 : St B (cel g18 [Value.int .i64 ((encR x.rs).length : Int)] 3 :: dkA gd ((appendD D (nameW x.first) (frB s)).1) :: cel g [Value.pointer (some ⟨gd, 0, none⟩), Value.slice y.a lg.l.length y.cap, Value.pointer (some ⟨gi, 0, none⟩), Value.bool lg.begun, Value.int .i64 (lg.last : Int), Value.int .i64 (lg.durable : Int)] 49 :: own y.a lg.l.length y.cap 47 1 (y.gs.map ptrV) :: cel gi [Value.int .i64 (x.first : Int), Value.slice a21 (x.rs.length + 1) c22, Value.int .i64 (((encR x.rs).length : Int) + ((frB s).length : Int)), Value.bool x.dirty] 63 :: own a21 (x.rs.length + 1) c22 3 1 ((pis x.rs) ++ [Value.int .i64 ((encR x.rs).length : Int)]) :: sqBut sgA (lg.l.length - 1) y.gs lg.l :: L) w25) => ?_)
      clear hS24
      refine WO.nil (NX.go (WP.seq (WP.region rfl ?_)))
      refine WO.mv rfl rfl ?_
      refine WO.mv rfl rfl ?_
      refine WO.mv rfl rfl ?_
      refine WO.val (run_nilCheck rfl) rfl rfl rfl ?_
      refine WO.val (run_fieldAddr (q := ⟨gi, 3, none⟩) (show fieldB Tryz.prog 63 3 = some 3 from by kernel_rfl) rfl rfl) rfl rfl rfl ?_
      refine WO.store (l' := [Value.int .i64 (x.first : Int), Value.slice a21 (x.rs.length + 1) c22, Value.int .i64 (((encR x.rs).length : Int) + ((frB s).length : Int)), Value.bool true]) 4 hS25 rfl Ty.sz4 rfl rfl rfl rfl rfl (Nat.le_of_ble_eq_true rfl) rfl (fun w26 (hS26 : St B (cel g18 [Value.int .i64 ((encR x.rs).length : Int)] 3 :: dkA gd ((appendD D (nameW x.first) (frB s)).1) :: cel g [Value.pointer (some ⟨gd, 0, none⟩), Value.slice y.a lg.l.length y.cap, Value.pointer (some ⟨gi, 0, none⟩), Value.bool lg.begun, Value.int .i64 (lg.last : Int), Value.int .i64 (lg.durable : Int)] 49 :: own y.a lg.l.length y.cap 47 1 (y.gs.map ptrV) :: cel gi [Value.int .i64 (x.first : Int), Value.slice a21 (x.rs.length + 1) c22, Value.int .i64 (((encR x.rs).length : Int) + ((frB s).length : Int)), Value.bool true] 63 :: own a21 (x.rs.length + 1) c22 3 1 ((pis x.rs) ++ [Value.int .i64 ((encR x.rs).length : Int)]) :: sqBut sgA (lg.l.length - 1) y.gs lg.l :: L) w26) => ?_)
      clear hS25
      refine WO.val (run_nilCheck rfl) rfl rfl rfl ?_
      refine WO.val (run_fieldAddr (q := ⟨g, 2, none⟩) (show fieldB Tryz.prog 49 2 = some 2 from by kernel_rfl) rfl rfl) rfl rfl rfl ?_
      refine WO.store (l' := [Value.pointer (some ⟨gd, 0, none⟩), Value.slice y.a lg.l.length y.cap, Value.pointer (some ⟨gi, 0, none⟩), Value.bool lg.begun, Value.int .i64 (lg.last : Int), Value.int .i64 (lg.durable : Int)]) 2 hS26 rfl Ty.sz47 rfl rfl rfl rfl rfl (Nat.le_of_ble_eq_true rfl) rfl (fun w27 (hS27 : St B (cel g18 [Value.int .i64 ((encR x.rs).length : Int)] 3 :: dkA gd ((appendD D (nameW x.first) (frB s)).1) :: cel g [Value.pointer (some ⟨gd, 0, none⟩), Value.slice y.a lg.l.length y.cap, Value.pointer (some ⟨gi, 0, none⟩), Value.bool lg.begun, Value.int .i64 (lg.last : Int), Value.int .i64 (lg.durable : Int)] 49 :: own y.a lg.l.length y.cap 47 1 (y.gs.map ptrV) :: cel gi [Value.int .i64 (x.first : Int), Value.slice a21 (x.rs.length + 1) c22, Value.int .i64 (((encR x.rs).length : Int) + ((frB s).length : Int)), Value.bool true] 63 :: own a21 (x.rs.length + 1) c22 3 1 ((pis x.rs) ++ [Value.int .i64 ((encR x.rs).length : Int)]) :: sqBut sgA (lg.l.length - 1) y.gs lg.l :: L) w27) => ?_)
      clear hS26
      refine WO.nil (NX.go (WP.seq (WP.region rfl ?_)))
      refine WO.mv rfl rfl ?_
      refine WO.val (run_nilCheck rfl) rfl rfl rfl ?_
      refine WO.val (run_fieldAddr (q := ⟨g, 4, none⟩) (show fieldB Tryz.prog 49 4 = some 4 from by kernel_rfl) rfl rfl) rfl rfl rfl ?_
      refine WO.val (run_load Ty.ag3 rfl ((hS27.cel_at 2 rfl 4).trans rfl)) rfl rfl rfl ?_
      refine WO.val (run_add rfl rfl (IntWalk.i64_in _ (by omega))) rfl rfl rfl ?_
      refine WO.val (run_nilCheck rfl) rfl rfl rfl ?_
      refine WO.val (run_fieldAddr (q := ⟨g, 4, none⟩) (show fieldB Tryz.prog 49 4 = some 4 from by kernel_rfl) rfl rfl) rfl rfl rfl ?_
      refine WO.store (l' := [Value.pointer (some ⟨gd, 0, none⟩), Value.slice y.a lg.l.length y.cap, Value.pointer (some ⟨gi, 0, none⟩), Value.bool lg.begun, Value.int .i64 ((lg.last : Int) + 1), Value.int .i64 (lg.durable : Int)]) 2 hS27 rfl Ty.sz3 rfl rfl rfl rfl rfl (Nat.le_of_ble_eq_true rfl) rfl (fun w28 (hS28 : St B (cel g18 [Value.int .i64 ((encR x.rs).length : Int)] 3 :: dkA gd ((appendD D (nameW x.first) (frB s)).1) :: cel g [Value.pointer (some ⟨gd, 0, none⟩), Value.slice y.a lg.l.length y.cap, Value.pointer (some ⟨gi, 0, none⟩), Value.bool lg.begun, Value.int .i64 ((lg.last : Int) + 1), Value.int .i64 (lg.durable : Int)] 49 :: own y.a lg.l.length y.cap 47 1 (y.gs.map ptrV) :: cel gi [Value.int .i64 (x.first : Int), Value.slice a21 (x.rs.length + 1) c22, Value.int .i64 (((encR x.rs).length : Int) + ((frB s).length : Int)), Value.bool true] 63 :: own a21 (x.rs.length + 1) c22 3 1 ((pis x.rs) ++ [Value.int .i64 ((encR x.rs).length : Int)]) :: sqBut sgA (lg.l.length - 1) y.gs lg.l :: L) w28) => ?_)
      clear hS27
      refine WO.nil (NX.go (WP.seq (WP.region rfl ?_)))
      refine WO.mv rfl rfl ?_
      refine WO.val (run_nilCheck rfl) rfl rfl rfl ?_
      refine WO.val (run_fieldAddr (q := ⟨g, 4, none⟩) (show fieldB Tryz.prog 49 4 = some 4 from by kernel_rfl) rfl rfl) rfl rfl rfl ?_
      refine WO.val (run_load Ty.ag3 rfl ((hS28.cel_at 2 rfl 4).trans rfl)) rfl rfl rfl ?_
      refine WO.asg rfl rfl ?_
      refine WO.asg rfl rfl ?_
      refine WO.nil (NX.go (WP.ret ?_))
      refine NX.done (l := [.tmp 4, .tmp 5]) rfl rfl ?_
      have e0 : appendL lg D s = ⟨⟨lg.l.dropLast ++ [moreS x s], true, lg.begun, lg.last + 1, lg.durable⟩, (appendD D (nameW x.first) (frB s)).1, lg.last + 1, 0⟩ := by unfold appendL; rw [if_neg g16, if_neg (by omega), hnq, if_pos (Decidable.of_not_not g59)]; unfold appG; rw [hhs]
      rw [e0]
      have z1 := (hS28.permT [0, 3, 3, 3, 1, 1, 0] (L' := cel g18 [Value.int .i64 ((encR x.rs).length : Int)] 3 :: cel gi [Value.int .i64 (x.first : Int), Value.slice a21 (x.rs.length + 1) c22, Value.int .i64 (((encR x.rs).length : Int) + ((frB s).length : Int)), Value.bool true] 63 :: own a21 (x.rs.length + 1) c22 3 1 ((pis x.rs) ++ [Value.int .i64 ((encR x.rs).length : Int)]) :: sqBut sgA (lg.l.length - 1) y.gs lg.l :: cel g [Value.pointer (some ⟨gd, 0, none⟩), Value.slice y.a lg.l.length y.cap, Value.pointer (some ⟨gi, 0, none⟩), Value.bool lg.begun, Value.int .i64 ((lg.last : Int) + 1), Value.int .i64 (lg.durable : Int)] 49 :: own y.a lg.l.length y.cap 47 1 (y.gs.map ptrV) :: dkA gd ((appendD D (nameW x.first) (frB s)).1) :: L) rfl).drop
      rw [← pis_snoc x.rs s, show x.rs.length + 1 = (x.rs ++ [s]).length by simp, show ((encR x.rs).length : Int) + ((frB s).length : Int) = ((encR (x.rs ++ [s])).length : Int) by rw [encR_snoc, List.length_append]; omega] at z1
      have z2 := sqA_back hgi (St.sg_shut (x := (moreS x s)) (a21, c22) z1)
      rw [set_last (hk.hd hh)] at z2
      have z4 := z2.permT [1, 1, 0] (L' := cel g [Value.pointer (some ⟨gd, 0, none⟩), Value.slice y.a lg.l.length y.cap, Value.pointer (some ⟨gi, 0, none⟩), Value.bool lg.begun, Value.int .i64 ((lg.last : Int) + 1), Value.int .i64 (lg.durable : Int)] 49 :: own y.a lg.l.length y.cap 47 1 (y.gs.map ptrV) :: sqA sgA y.gs (lg.l.dropLast ++ [(moreS x s)]) :: dkA gd (appendD D (nameW x.first) (frB s)).1 :: L) rfl
      have hl1 : lg.l.length = (lg.l.dropLast ++ [(moreS x s)]).length := by rw [← set_last (hk.hd hh), List.length_set]
      have hla1 : ((lg.last + 1 : Nat) : Int) = (lg.last : Int) + 1 := by omega
      exact ⟨by rw [hla1]; rfl, St.lg_shut (lg := ⟨lg.l.dropLast ++ [moreS x s], true, lg.begun, lg.last + 1, lg.durable⟩) ⟨y.a, y.cap, y.gs⟩ (by show St B (cel g [_, .slice y.a (lg.l.dropLast ++ [(moreS x s)]).length _, handV true y.gs, _, .int .i64 ((lg.last + 1 : Nat) : Int), _] 49 :: own _ (lg.l.dropLast ++ [(moreS x s)]).length _ _ _ _ :: _) _; rw [← hl1, ← hh, hlast, hla1]; exact z4)⟩
theorem lappend_spec {B w : World} {L : List HP} {g gd n t : Nat} {lg : Lg} {D : Dk} (hk : OkL lg) (hd : OkD D n t) (hn : n ≤ 100000000) (ht : t ≤ 1099511627776) (s : List UInt8) (hs : s.length ≤ 1099511627776) (hS : St B (lgA g gd lg :: dkA gd D :: L) w) : Does Tryz.prog 7 [Value.pointer (some ⟨g, 0, none⟩), str s] w (fun v w1 => v = .tuple #[.int .i64 ((appendL lg D s).n : Int), .int .i64 (appendL lg D s).e] ∧ St B (lgA g gd (appendL lg D s).lg :: dkA gd (appendL lg D s).D :: L) w1) := by
  by_cases hh : lg.hand = true
  · obtain ⟨x, hx⟩ : ∃ x, lg.l[lg.l.length - 1]? = some x := ⟨_, List.getElem?_eq_getElem (by have := List.length_pos_iff.2 (hk.hd hh); omega)⟩
    by_cases hf : x.rs.length < 16
    · exact lapp_room hh hx hf hk hd hn ht s hs hS
    · exact lapp_full hh hx hf hk hd hn ht s hs hS
  · exact lapp_none (Bool.not_eq_true _ ▸ hh : lg.hand = false) hk hd hn ht s hs hS
end Go.Proofs.YtiggkfaonnnjoaaGreatDoor.SL

/- The log: a record is read. -/
namespace Go.Proofs.YtiggkfaonnnjoaaGreatDoor.SL
open Go.RowKit Go.Proofs.YtiggkfaonnnjoaaGreatDoor
open Go.Proofs.YtiggkfaonnnjoaaGreatDoorW.PrintLast (rtab opsOf)
set_option linter.unusedVariables false
set_option linter.unusedSimpArgs false
theorem lread_spec_t5 : rtab .any (opsOf Tryz.f12 5) = (true, [([], []), ([0], [0]), ([1], [1]), ([2], [2]), ([], []), ([4], [4]), ([5], [5]), ([6], [6]), ([7], [7]), ([3, 8, 8], [3, 8]), ([9], [9]), ([10], [10]), ([10], [10]), ([11, 9, 0, 1, 2, 3, 4, 5, 6, 7, 8, 9, 10, 11], [11]), ([12, 13, 0, 1, 2, 3, 4, 5, 6, 7, 8, 9, 10, 11, 12, 13], [12])]) := by kernel_rfl
theorem lread_spec_t8 : rtab .any (opsOf Tryz.f12 8) = (true, [([], []), ([], []), ([1], [1]), ([2], [2]), ([3], [3]), ([], []), ([], []), ([6], [6]), ([7], [7]), ([8], [8]), ([5, 9], [5, 9]), ([4, 10], [4, 10]), ([11], [11]), ([0, 12], [0, 12]), ([13], [13]), ([14], [14]), ([15], [15]), ([15], [15]), ([15], [15]), ([], []), ([19, 16, 14, 0, 1, 2, 3, 4, 5, 6, 7, 8, 9, 10, 11, 12, 13, 14, 15, 16, 19], [16, 19]), ([17, 20, 0, 1, 2, 3, 4, 5, 6, 7, 8, 9, 10, 11, 12, 13, 14, 15, 16, 17, 19, 20], [17]), ([18, 21, 0, 1, 2, 3, 4, 5, 6, 7, 8, 9, 10, 11, 12, 13, 14, 15, 16, 17, 18, 19, 20, 21], [18])]) := by kernel_rfl
theorem lread_spec {B w : World} {L : List HP} {g gd m t : Nat} {lg : Lg} {D : Dk} (n : Int) (hk : OkL lg) (hd : OkD D m t) (ht : t ≤ 1099511627776) (hF : FilesL lg D) (hS : St B (lgA g gd lg :: dkA gd D :: L) w) : Does Tryz.prog 12 [Value.pointer (some ⟨g, 0, none⟩), Value.int .i64 n] w (fun v w1 => v = .tuple #[str (readL lg.l n).1, .int .i64 (readL lg.l n).2] ∧ St B (lgA g gd lg :: dkA gd D :: L) w1) := by
 have hln := hk.n
 obtain ⟨y, hgl, h0⟩ := hS.lg_open
 clear hS
 refine enter (n := 72) Tryz.func12 rfl rfl [Value.pointer (some ⟨g, 0, none⟩), Value.int .i64 n] rfl ?_
 refine WP.seq (WP.region rfl ?_)
 refine WO.asg rfl rfl ?_
 refine WO.asg rfl rfl ?_
 refine WO.nil (NX.go (WP.seq (WP.seq (WP.region rfl ?_))))
 refine WO.mv rfl rfl ?_
 refine WO.val (run_nilCheck rfl) rfl rfl rfl ?_
 refine WO.val (run_fieldAddr (q := ⟨g, 1, none⟩) (show fieldB Tryz.prog 49 1 = some 1 from by kernel_rfl) rfl rfl) rfl rfl rfl ?_
 refine WO.val (run_load Ty.ag46 rfl ((h0.cel_at 0 rfl 1).trans rfl)) rfl rfl rfl ?_
 refine WO.val (run_len rfl Tryz.underlying46 rfl) rfl rfl rfl ?_
 refine WO.mv rfl rfl ?_
 refine WO.nil (NX.go (WP.block ?_))
 refine WP.loop (α := Nat) (fun x => match x with | i => [(0, Value.pointer (some ⟨g, 0, none⟩)), (1, Value.int .i64 n), (15, Value.slice y.a lg.l.length y.cap), (16, Value.int .i64 ((lg.l.length : Nat) : Int)), (17, Value.int .i64 (i : Int))]) (fun x w => match x with | i => (i ≤ lg.l.length ∧ readL lg.l n = readL (lg.l.drop i) n) ∧ St B (cel g [Value.pointer (some ⟨gd, 0, none⟩), Value.slice y.a lg.l.length y.cap, handV lg.hand y.gs, Value.bool lg.begun, Value.int .i64 (lg.last : Int), Value.int .i64 (lg.durable : Int)] 49 :: own y.a lg.l.length y.cap 47 1 (y.gs.map ptrV) :: sqA sgA y.gs lg.l :: dkA gd D :: L) w) (fun x => match x with | i => lg.l.length - i) 0 ⟨⟨Nat.zero_le _, rfl⟩, h0⟩ (Sub.cons rfl (Sub.cons rfl (Sub.cons rfl (Sub.cons rfl (Sub.consE rfl (by first | rfl | first | rfl | (congr 1; omega) | (simp; done) | (simp; omega)) (Sub.nil _)))))) ?_
 rintro i w1 ⟨⟨hi, hrd⟩, hS1⟩
 clear h0
 refine WP.seq (WP.region rfl ?_)
 refine WO.val (run_lss rfl rfl) rfl rfl rfl ?_
 refine WO.nil (NX.go (WP.seq ?_))
 refine WP.condP rfl (fun g18 => ?_) (fun g18 => ?_)
 ·
  refine WP.skip (NX.go (WP.seq (WP.block (WP.seq ?_))))
  obtain ⟨x, hx⟩ : ∃ x, lg.l[i]? = some x := ⟨_, List.getElem?_eq_getElem (by omega)⟩
  have hxb := hk.one hx
  have hxm := List.mem_of_getElem? hx
  obtain ⟨gi, hgi, hS2⟩ := sqA_pick (i := i) hx (hS1.permT [2, 0, 0, 0] (L' := sqA sgA y.gs lg.l :: cel g [Value.pointer (some ⟨gd, 0, none⟩), Value.slice y.a lg.l.length y.cap, handV lg.hand y.gs, Value.bool lg.begun, Value.int .i64 (lg.last : Int), Value.int .i64 (lg.durable : Int)] 49 :: own y.a lg.l.length y.cap 47 1 (y.gs.map ptrV) :: dkA gd D :: L) rfl)
  clear hS1
  obtain ⟨pi, hS3⟩ := hS2.sg_open
  clear hS2
  replace hS3 : St B (cel gi [Value.int .i64 (x.first : Int), Value.slice pi.1 x.rs.length pi.2, Value.int .i64 ((encR x.rs).length : Int), Value.bool x.dirty] 63 :: own pi.1 x.rs.length pi.2 3 1 (pis x.rs) :: sqBut sgA i y.gs lg.l :: cel g [Value.pointer (some ⟨gd, 0, none⟩), Value.slice y.a lg.l.length y.cap, handV lg.hand y.gs, Value.bool lg.begun, Value.int .i64 (lg.last : Int), Value.int .i64 (lg.durable : Int)] 49 :: own y.a lg.l.length y.cap 47 1 (y.gs.map ptrV) :: dkA gd D :: L) w1 := hS3
  have hsay : y.a.isSome = true := by obtain ⟨q, hq, _⟩ := (hS3.own_rd_i 4 rfl).2.1 (by omega); rw [hq]; rfl
  refine WP.region rfl ?_
  refine WO.val (run_indexAddr (q := adr y.a i) Tryz.underlying46 Ty.sz47 rfl rfl (by omega) (by omega) ((hS3.own_rd_i 4 rfl).2.1 (by omega)) (by simp)) rfl rfl rfl ?_
  refine WO.val (run_load Ty.ag47 rfl ((hS3.own_rd_i 4 rfl).cell (by rw [List.getElem?_map, hgi]; rfl))) rfl rfl rfl ?_
  refine WO.asg rfl rfl ?_
  refine WO.nil (NX.go (WP.seq (WP.seq (WP.region rfl ?_))))
  refine WO.mv rfl rfl ?_
  refine WO.mv rfl rfl ?_
  refine WO.val (run_nilCheck rfl) rfl rfl rfl ?_
  refine WO.val (run_fieldAddr (q := ⟨gi, 0, none⟩) (show fieldB Tryz.prog 63 0 = some 0 from by kernel_rfl) rfl rfl) rfl rfl rfl ?_
  refine WO.val (run_load Ty.ag3 rfl ((hS3.cel_at 0 rfl 0).trans rfl)) rfl rfl rfl ?_
  refine WO.val (run_lss rfl rfl) rfl rfl rfl ?_
  refine WO.mv rfl rfl ?_
  by_cases g27 : n < (x.first : Int)
  ·
   refine WO.off rfl rfl (decide_eq_true g27) rfl ?_
   refine WO.off rfl rfl (decide_eq_true g27) rfl ?_
   refine WO.off rfl rfl (decide_eq_true g27) rfl ?_
   refine WO.off rfl rfl (decide_eq_true g27) rfl ?_
   refine WO.val (run_pickT rfl (decide_eq_true g27) rfl) rfl rfl rfl ?_
   refine WO.nil (NX.go ?_)
   refine WP.condT rfl rfl ?_
   refine WP.exit (NX.thenExit ?_)
   refine NX.blkExit ?_
   refine NX.go (WP.region rfl ?_)
   refine WO.val (run_add rfl rfl (IntWalk.i64_in _ (by omega))) rfl rfl rfl ?_
   refine WO.mv rfl rfl ?_
   refine WO.nil ?_
   have hS4 := sqA_same hx hgi (St.sg_shut (x := x) (pi.1, pi.2) hS3)
   clear hS3
   replace hS4 : St B (sqA sgA y.gs lg.l :: cel g [Value.pointer (some ⟨gd, 0, none⟩), Value.slice y.a lg.l.length y.cap, handV lg.hand y.gs, Value.bool lg.begun, Value.int .i64 (lg.last : Int), Value.int .i64 (lg.durable : Int)] 49 :: own y.a lg.l.length y.cap 47 1 (y.gs.map ptrV) :: dkA gd D :: L) w1 := hS4
   exact NX.again (i + 1) ⟨⟨by omega, (by rw [hrd, readL_step hx, if_neg (by omega)])⟩, (hS4.permT [1, 1, 0, 0] (L' := cel g [Value.pointer (some ⟨gd, 0, none⟩), Value.slice y.a lg.l.length y.cap, handV lg.hand y.gs, Value.bool lg.begun, Value.int .i64 (lg.last : Int), Value.int .i64 (lg.durable : Int)] 49 :: own y.a lg.l.length y.cap 47 1 (y.gs.map ptrV) :: sqA sgA y.gs lg.l :: dkA gd D :: L) rfl)⟩ (by show lg.l.length - (i + 1) < lg.l.length - i; omega) (Sub.cons rfl (Sub.cons rfl (Sub.cons rfl (Sub.cons rfl (Sub.consE rfl (by congr 1) (Sub.nil _))))))
  ·
   refine WO.on rfl rfl (decide_eq_false g27) ?_
   refine WO.mv rfl rfl ?_
   refine WO.on rfl rfl (decide_eq_false g27) ?_
   refine WO.mv rfl rfl ?_
   refine WO.on rfl rfl (decide_eq_false g27) ?_
   refine WO.call rfl rfl Ty.hd36 rfl (slast_spec (x := x) (by omega) hS3) (fun v6 w5 pv6 => ?_)
   obtain ⟨rfl, hS5⟩ := pv6
   clear hS3
   refine WO.on rfl rfl (decide_eq_false g27) ?_
   refine WO.val (run_gtr rfl rfl) rfl rfl rfl ?_
   refine WO.val (run_pickF rfl (decide_eq_false g27) rfl) rfl rfl rfl ?_
   refine WO.nil (NX.go ?_)
   refine WP.condP rfl (fun g32 => ?_) (fun g32 => ?_)
   ·
    refine WP.exit (NX.thenExit ?_)
    refine NX.blkExit ?_
    refine NX.go (WP.region rfl ?_)
    refine WO.val (run_add rfl rfl (IntWalk.i64_in _ (by omega))) rfl rfl rfl ?_
    refine WO.mv rfl rfl ?_
    refine WO.nil ?_
    have hS7 := sqA_same hx hgi (St.sg_shut (x := x) (pi.1, pi.2) hS5)
    clear hS5
    replace hS7 : St B (sqA sgA y.gs lg.l :: cel g [Value.pointer (some ⟨gd, 0, none⟩), Value.slice y.a lg.l.length y.cap, handV lg.hand y.gs, Value.bool lg.begun, Value.int .i64 (lg.last : Int), Value.int .i64 (lg.durable : Int)] 49 :: own y.a lg.l.length y.cap 47 1 (y.gs.map ptrV) :: dkA gd D :: L) w5 := hS7
    exact NX.again (i + 1) ⟨⟨by omega, (by rw [hrd, readL_step hx, if_neg (by omega)])⟩, (hS7.permT [1, 1, 0, 0] (L' := cel g [Value.pointer (some ⟨gd, 0, none⟩), Value.slice y.a lg.l.length y.cap, handV lg.hand y.gs, Value.bool lg.begun, Value.int .i64 (lg.last : Int), Value.int .i64 (lg.durable : Int)] 49 :: own y.a lg.l.length y.cap 47 1 (y.gs.map ptrV) :: sqA sgA y.gs lg.l :: dkA gd D :: L) rfl)⟩ (by show lg.l.length - (i + 1) < lg.l.length - i; omega) (Sub.cons rfl (Sub.cons rfl (Sub.cons rfl (Sub.cons rfl (Sub.consE rfl (by congr 1) (Sub.nil _))))))
   ·
    refine WP.skip (NX.go (WP.seq ?_))
    obtain ⟨t1, hfe⟩ := hF x hxm
    have hfl := readW_len (k := nameW x.first) hd
    rw [hfe] at hfl
    replace hfl : (encR x.rs ++ t1).length ≤ t := hfl
    refine WD.start (fun w => (∀ jz, World.cell? w ⟨gi, jz, none⟩ = [Value.int .i64 (x.first : Int), Value.slice pi.1 x.rs.length pi.2, Value.int .i64 ((encR x.rs).length : Int), Value.bool x.dirty][jz]?) ∧ (∀ jz, World.cell? w ⟨g, jz, none⟩ = [Value.pointer (some ⟨gd, 0, none⟩), Value.slice y.a lg.l.length y.cap, handV lg.hand y.gs, Value.bool lg.begun, Value.int .i64 (lg.last : Int), Value.int .i64 (lg.durable : Int)][jz]?)) [] (bt 15 0) Ty.mo rfl (by kernel_rfl) hS5 (fun _ h => ⟨h.cel_at 0 rfl, h.cel_at 3 rfl⟩) (fun w8 hS8 s9 => ?_)
    clear hS5
    refine WD.pure (i := 0) lread_spec_t5 (bt 15 1) rfl rfl rfl (by kernel_rfl) (PQ.then (PQ.blk (PQ.then (PQ.then (PQ.blk (PQ.then PQ.body)))))) rfl (fun w => run_move rfl) ?_
    refine WD.pure (i := 1) lread_spec_t5 (bt 15 3) rfl rfl rfl (by kernel_rfl) (PQ.then (PQ.blk (PQ.then (PQ.then (PQ.blk (PQ.then PQ.body)))))) rfl (fun w => run_nilCheck rfl) ?_
    refine WD.pure (i := 2) lread_spec_t5 (bt 15 7) rfl rfl rfl (by kernel_rfl) (PQ.then (PQ.blk (PQ.then (PQ.then (PQ.blk (PQ.then PQ.body)))))) rfl (fun w => run_fieldAddr (q := ⟨g, 0, none⟩) (show fieldB Tryz.prog 49 0 = some 0 from by kernel_rfl) rfl rfl) ?_
    refine WD.take (i := 3) lread_spec_t5 (bt 15 15) s9 rfl rfl rfl (by kernel_rfl) (PQ.then (PQ.blk (PQ.then (PQ.then (PQ.blk (PQ.then PQ.body)))))) rfl (fun w hs => run_load Ty.ag25 rfl ((hs.2 0).trans rfl)) ?_
    refine WD.pure (i := 4) lread_spec_t5 (bt 15 31) rfl rfl rfl (by kernel_rfl) (PQ.then (PQ.blk (PQ.then (PQ.then (PQ.blk (PQ.then PQ.body)))))) rfl (fun w => run_move rfl) ?_
    refine WD.pure (i := 5) lread_spec_t5 (bt 15 63) rfl rfl rfl (by kernel_rfl) (PQ.then (PQ.blk (PQ.then (PQ.then (PQ.blk (PQ.then PQ.body)))))) rfl (fun w => run_nilCheck rfl) ?_
    refine WD.pure (i := 6) lread_spec_t5 (bt 15 127) rfl rfl rfl (by kernel_rfl) (PQ.then (PQ.blk (PQ.then (PQ.then (PQ.blk (PQ.then PQ.body)))))) rfl (fun w => run_fieldAddr (q := ⟨gi, 0, none⟩) (show fieldB Tryz.prog 63 0 = some 0 from by kernel_rfl) rfl rfl) ?_
    refine WD.take (i := 7) lread_spec_t5 (bt 15 255) s9 rfl rfl rfl (by kernel_rfl) (PQ.then (PQ.blk (PQ.then (PQ.then (PQ.blk (PQ.then PQ.body)))))) rfl (fun w hs => run_load Ty.ag3 rfl ((hs.1 0).trans rfl)) ?_
    refine WD.one (i := 8) lread_spec_t5 (bt 15 511) rfl (by kernel_rfl) ?_
    refine WO.call rfl rfl Ty.hd25 rfl (wname_spec x.first (by omega) hS8) (fun v11 w10 pv11 => ?_)
    obtain ⟨rfl, hS10⟩ := pv11
    clear hS8
    refine WO.nil ?_
    have s12 : (∀ jz, World.cell? w10 ⟨gi, jz, none⟩ = [Value.int .i64 (x.first : Int), Value.slice pi.1 x.rs.length pi.2, Value.int .i64 ((encR x.rs).length : Int), Value.bool x.dirty][jz]?) ∧ (∀ jz, World.cell? w10 ⟨g, jz, none⟩ = [Value.pointer (some ⟨gd, 0, none⟩), Value.slice y.a lg.l.length y.cap, handV lg.hand y.gs, Value.bool lg.begun, Value.int .i64 (lg.last : Int), Value.int .i64 (lg.durable : Int)][jz]?) := ⟨hS10.cel_at 0 rfl, hS10.cel_at 3 rfl⟩
    refine NX.held s12 ?_
    refine WD.one (i := 9) lread_spec_t5 (bt 15 1023) rfl (by kernel_rfl) ?_
    have hS13 := hS10.permT [5, 0, 0, 0, 0, 0] (L' := dkA gd D :: cel gi [Value.int .i64 (x.first : Int), Value.slice pi.1 x.rs.length pi.2, Value.int .i64 ((encR x.rs).length : Int), Value.bool x.dirty] 63 :: own pi.1 x.rs.length pi.2 3 1 (pis x.rs) :: sqBut sgA i y.gs lg.l :: cel g [Value.pointer (some ⟨gd, 0, none⟩), Value.slice y.a lg.l.length y.cap, handV lg.hand y.gs, Value.bool lg.begun, Value.int .i64 (lg.last : Int), Value.int .i64 (lg.durable : Int)] 49 :: own y.a lg.l.length y.cap 47 1 (y.gs.map ptrV) :: L) rfl
    clear hS10
    refine WO.call rfl rfl Ty.hd18 rfl (dread_spec hd.w (nameW x.first) hS13) (fun v15 w14 pv15 => ?_)
    obtain ⟨hv, hS14⟩ := pv15
    clear hS13
    rw [hfe] at hv
    change _ = Value.tuple #[str (encR x.rs ++ t1), Value.int .i64 0] at hv
    subst hv
    refine WO.nil ?_
    have s16 : (∀ jz, World.cell? w14 ⟨gi, jz, none⟩ = [Value.int .i64 (x.first : Int), Value.slice pi.1 x.rs.length pi.2, Value.int .i64 ((encR x.rs).length : Int), Value.bool x.dirty][jz]?) ∧ (∀ jz, World.cell? w14 ⟨g, jz, none⟩ = [Value.pointer (some ⟨gd, 0, none⟩), Value.slice y.a lg.l.length y.cap, handV lg.hand y.gs, Value.bool lg.begun, Value.int .i64 (lg.last : Int), Value.int .i64 (lg.durable : Int)][jz]?) := ⟨hS14.cel_at 1 rfl, hS14.cel_at 4 rfl⟩
    refine NX.held s16 ?_
    refine WD.pure (i := 10) lread_spec_t5 (bt 15 2047) rfl rfl rfl (by kernel_rfl) (PQ.then (PQ.blk (PQ.then (PQ.then (PQ.blk (PQ.then PQ.body)))))) rfl (fun w => run_move rfl) ?_
    refine WD.pure (i := 11) lread_spec_t5 (bt 15 4095) rfl rfl rfl (by kernel_rfl) (PQ.then (PQ.blk (PQ.then (PQ.then (PQ.blk (PQ.then PQ.body)))))) rfl (fun w => run_extract rfl rfl) ?_
    refine WD.pure (i := 12) lread_spec_t5 (bt 15 8191) rfl rfl rfl (by kernel_rfl) (PQ.then (PQ.blk (PQ.then (PQ.then (PQ.blk (PQ.then PQ.body)))))) rfl (fun w => run_extract rfl rfl) ?_
    refine WD.pure (i := 13) lread_spec_t5 (bt 15 16383) rfl rfl rfl (by kernel_rfl) (PQ.then (PQ.blk (PQ.then (PQ.then (PQ.blk (PQ.then PQ.body)))))) rfl (fun w => run_assign rfl) ?_
    refine WD.pure (i := 14) lread_spec_t5 (bt 15 32767) rfl rfl rfl (by kernel_rfl) (PQ.then (PQ.blk (PQ.then (PQ.then (PQ.blk (PQ.then PQ.body)))))) rfl (fun w => run_assign rfl) ?_
    refine WD.done lread_spec_t5 (by kernel_rfl) ?_
    refine NX.go (WP.seq (WP.seq (WP.region rfl ?_)))
    refine WO.mv rfl rfl ?_
    refine WO.val (run_neq rfl rfl) rfl rfl rfl ?_
    refine WO.nil (NX.go ?_)
    refine WP.condF rfl (by decide) ?_
    refine WP.skip (NX.go (WP.seq ?_))
    obtain ⟨j, hj⟩ : ∃ j : Nat, (j : Int) = n - (x.first : Int) := ⟨(n - (x.first : Int)).toNat, by omega⟩
    have hjl : j < x.rs.length := by omega
    obtain ⟨r1, hr1⟩ : ∃ r1, x.rs[j]? = some r1 := ⟨_, List.getElem?_eq_getElem hjl⟩
    have hr65 := hk.r x hxm r1 (List.mem_of_getElem? hr1)
    have hel : (encR (x.rs.take j)).length ≤ (encR x.rs ++ t1).length := by rw [enc_split hr1]; simp only [List.length_append]; omega
    have hsap : pi.1.isSome = true := by obtain ⟨q, hq, _⟩ := (hS14.own_rd_i 2 rfl).2.1 (by omega); rw [hq]; rfl
    refine WD.start (fun w => (∀ jz, World.cell? w ⟨gi, jz, none⟩ = [Value.int .i64 (x.first : Int), Value.slice pi.1 x.rs.length pi.2, Value.int .i64 ((encR x.rs).length : Int), Value.bool x.dirty][jz]?) ∧ Rd w pi.1 x.rs.length 1 (pis x.rs)) [20] (bt 23 0) Ty.mo rfl (by kernel_rfl) hS14 (fun _ h => ⟨h.cel_at 1 rfl, (h.own_rd_i 2 rfl)⟩) (fun w17 hS17 s18 => ?_)
    clear hS14
    refine WD.pure (i := 0) lread_spec_t8 (bt 23 1) rfl rfl rfl (by kernel_rfl) (PQ.then (PQ.blk (PQ.then (PQ.then (PQ.blk (PQ.then PQ.body)))))) rfl (fun w => run_move rfl) ?_
    refine WD.pure (i := 1) lread_spec_t8 (bt 23 3) rfl rfl rfl (by kernel_rfl) (PQ.then (PQ.blk (PQ.then (PQ.then (PQ.blk (PQ.then PQ.body)))))) rfl (fun w => run_move rfl) ?_
    refine WD.pure (i := 2) lread_spec_t8 (bt 23 7) rfl rfl rfl (by kernel_rfl) (PQ.then (PQ.blk (PQ.then (PQ.then (PQ.blk (PQ.then PQ.body)))))) rfl (fun w => run_nilCheck rfl) ?_
    refine WD.pure (i := 3) lread_spec_t8 (bt 23 15) rfl rfl rfl (by kernel_rfl) (PQ.then (PQ.blk (PQ.then (PQ.then (PQ.blk (PQ.then PQ.body)))))) rfl (fun w => run_fieldAddr (q := ⟨gi, 1, none⟩) (show fieldB Tryz.prog 63 1 = some 1 from by kernel_rfl) rfl rfl) ?_
    refine WD.take (i := 4) lread_spec_t8 (bt 23 31) s18 rfl rfl rfl (by kernel_rfl) (PQ.then (PQ.blk (PQ.then (PQ.then (PQ.blk (PQ.then PQ.body)))))) rfl (fun w hs => run_load Ty.ag22 rfl ((hs.1 1).trans rfl)) ?_
    refine WD.pure (i := 5) lread_spec_t8 (bt 23 63) rfl rfl rfl (by kernel_rfl) (PQ.then (PQ.blk (PQ.then (PQ.then (PQ.blk (PQ.then PQ.body)))))) rfl (fun w => run_move rfl) ?_
    refine WD.pure (i := 6) lread_spec_t8 (bt 23 127) rfl rfl rfl (by kernel_rfl) (PQ.then (PQ.blk (PQ.then (PQ.then (PQ.blk (PQ.then PQ.body)))))) rfl (fun w => run_move rfl) ?_
    refine WD.pure (i := 7) lread_spec_t8 (bt 23 255) rfl rfl rfl (by kernel_rfl) (PQ.then (PQ.blk (PQ.then (PQ.then (PQ.blk (PQ.then PQ.body)))))) rfl (fun w => run_nilCheck rfl) ?_
    refine WD.pure (i := 8) lread_spec_t8 (bt 23 511) rfl rfl rfl (by kernel_rfl) (PQ.then (PQ.blk (PQ.then (PQ.then (PQ.blk (PQ.then PQ.body)))))) rfl (fun w => run_fieldAddr (q := ⟨gi, 0, none⟩) (show fieldB Tryz.prog 63 0 = some 0 from by kernel_rfl) rfl rfl) ?_
    refine WD.take (i := 9) lread_spec_t8 (bt 23 1023) s18 rfl rfl rfl (by kernel_rfl) (PQ.then (PQ.blk (PQ.then (PQ.then (PQ.blk (PQ.then PQ.body)))))) rfl (fun w hs => run_load Ty.ag3 rfl ((hs.1 0).trans rfl)) ?_
    refine WD.pure (i := 10) lread_spec_t8 (bt 23 2047) rfl rfl rfl (by kernel_rfl) (PQ.then (PQ.blk (PQ.then (PQ.then (PQ.blk (PQ.then PQ.body)))))) rfl (fun w => run_sub rfl rfl (show IntKind.i64.wrap (n - (x.first : Int)) = (j : Int) from by rw [← hj]; exact IntWalk.i64_in _ (by omega))) ?_
    refine WD.take (i := 11) lread_spec_t8 (bt 23 4095) s18 rfl rfl rfl (by kernel_rfl) (PQ.then (PQ.blk (PQ.then (PQ.then (PQ.blk (PQ.then PQ.body)))))) rfl (fun w hs => run_indexAddr (q := adr pi.1 j) Tryz.underlying22 Ty.sz3 rfl rfl (by omega) (by omega) ((hs.2).2.1 (by omega)) (by simp)) ?_
    refine WD.take (i := 12) lread_spec_t8 (bt 23 8191) s18 rfl rfl rfl (by kernel_rfl) (PQ.then (PQ.blk (PQ.then (PQ.then (PQ.blk (PQ.then PQ.body)))))) rfl (fun w hs => run_load Ty.ag3 rfl ((hs.2).cell (pis_get hjl))) ?_
    refine WD.pure (i := 13) lread_spec_t8 (bt 23 16383) rfl rfl rfl (by kernel_rfl) (PQ.then (PQ.blk (PQ.then (PQ.then (PQ.blk (PQ.then PQ.body)))))) rfl (fun w => run_sliceS (i := (encR (x.rs.take j)).length) (j := (encR x.rs ++ t1).length) Tryz.underlying9 rfl ⟨_, rfl⟩ rfl hel (Nat.le_refl _) (show ((encR x.rs ++ t1).take (encR x.rs ++ t1).length).drop (encR (x.rs.take j)).length = (frB r1 ++ (encR (x.rs.drop (j + 1)) ++ t1)) by rw [List.take_length]; exact enc_at hr1)) ?_
    refine WD.two (i := 14) (k := 19) lread_spec_t8 (bt 23 32767) (bt 23 540671) rfl rfl (by kernel_rfl) ?_ ?_
    ·
     refine WO.call rfl rfl Ty.hd37 rfl (getFrame_spec (frB r1 ++ (encR (x.rs.drop (j + 1)) ++ t1)) (by rw [← enc_at (t := t1) hr1, List.length_drop]; omega) hS17) (fun v20 w19 pv20 => ?_)
     obtain ⟨hv, hS19⟩ := pv20
     clear hS17
     rw [getF_frB hr65] at hv
     change _ = Value.tuple #[.agg #[Value.int .i64 1, str r1], Value.int .i64 (((frB r1).length : Nat) : Int), Value.int .i64 0] at hv
     subst hv
     refine WO.nil ?_
     have s21 : (∀ jz, World.cell? w19 ⟨gi, jz, none⟩ = [Value.int .i64 (x.first : Int), Value.slice pi.1 x.rs.length pi.2, Value.int .i64 ((encR x.rs).length : Int), Value.bool x.dirty][jz]?) ∧ Rd w19 pi.1 x.rs.length 1 (pis x.rs) := ⟨hS19.cel_at 1 rfl, (hS19.own_rd_i 2 rfl)⟩
     refine NX.held s21 ?_
     refine WD.pure (i := 15) lread_spec_t8 (bt 23 65535) rfl rfl rfl (by kernel_rfl) (PQ.then (PQ.blk (PQ.then (PQ.then (PQ.blk (PQ.then PQ.body)))))) rfl (fun w => run_move rfl) ?_
     refine WD.pure (i := 16) lread_spec_t8 (bt 23 131071) rfl rfl rfl (by kernel_rfl) (PQ.then (PQ.blk (PQ.then (PQ.then (PQ.blk (PQ.then PQ.body)))))) rfl (fun w => run_extract rfl rfl) ?_
     refine WD.pure (i := 17) lread_spec_t8 (bt 23 262143) rfl rfl rfl (by kernel_rfl) (PQ.then (PQ.blk (PQ.then (PQ.then (PQ.blk (PQ.then PQ.body)))))) rfl (fun w => run_extract rfl rfl) ?_
     refine WD.pure (i := 18) lread_spec_t8 (bt 23 524287) rfl rfl rfl (by kernel_rfl) (PQ.then (PQ.blk (PQ.then (PQ.then (PQ.blk (PQ.then PQ.body)))))) rfl (fun w => run_extract rfl rfl) ?_
     refine WD.one (i := 19) lread_spec_t8 (bt 23 1048575) rfl (by kernel_rfl) ?_
     refine WO.alloc (l := [Value.int .i64 0, str []]) hS19 Ty.zr61 rfl rfl (fun g23 w22 lg23 hS22 => ?_)
     clear hS19
     refine WO.nil ?_
     have s24 : (∀ jz, World.cell? w22 ⟨gi, jz, none⟩ = [Value.int .i64 (x.first : Int), Value.slice pi.1 x.rs.length pi.2, Value.int .i64 ((encR x.rs).length : Int), Value.bool x.dirty][jz]?) ∧ Rd w22 pi.1 x.rs.length 1 (pis x.rs) := ⟨hS22.cel_at 2 rfl, (hS22.own_rd_i 3 rfl)⟩
     refine NX.held s24 ?_
     refine WD.one (i := 20) lread_spec_t8 (bt 23 2097151) rfl (by kernel_rfl) ?_
     refine WO.store (l' := [Value.int .i64 1, str r1]) 0 hS22 rfl Ty.sz61 rfl rfl rfl rfl rfl (Nat.le_of_ble_eq_true rfl) rfl (fun w25 (hS25 : St B (cel g23 [Value.int .i64 1, str r1] 61 :: dkA gd D :: cel gi [Value.int .i64 (x.first : Int), Value.slice pi.1 x.rs.length pi.2, Value.int .i64 ((encR x.rs).length : Int), Value.bool x.dirty] 63 :: own pi.1 x.rs.length pi.2 3 1 (pis x.rs) :: sqBut sgA i y.gs lg.l :: cel g [Value.pointer (some ⟨gd, 0, none⟩), Value.slice y.a lg.l.length y.cap, handV lg.hand y.gs, Value.bool lg.begun, Value.int .i64 (lg.last : Int), Value.int .i64 (lg.durable : Int)] 49 :: own y.a lg.l.length y.cap 47 1 (y.gs.map ptrV) :: L) w25) => ?_)
     clear hS22
     refine WO.nil ?_
     refine NX.last (by decide) ?_
     refine WD.pure (i := 21) lread_spec_t8 (bt 23 4194303) rfl rfl rfl (by kernel_rfl) (PQ.then (PQ.blk (PQ.then (PQ.then (PQ.blk (PQ.then PQ.body)))))) rfl (fun w => run_assign rfl) ?_
     refine WD.pure (i := 22) lread_spec_t8 (bt 23 8388607) rfl rfl rfl (by kernel_rfl) (PQ.then (PQ.blk (PQ.then (PQ.then (PQ.blk (PQ.then PQ.body)))))) rfl (fun w => run_assign rfl) ?_
     refine WD.done lread_spec_t8 (by kernel_rfl) ?_
     refine NX.go (WP.seq (WP.region rfl ?_))
     refine WO.val (run_fieldAddr (q := ⟨g23, 1, none⟩) (show fieldB Tryz.prog 61 1 = some 1 from by kernel_rfl) rfl rfl) rfl rfl rfl ?_
     refine WO.val (run_load Ty.ag9 rfl ((hS25.cel_at 0 rfl 1).trans rfl)) rfl rfl rfl ?_
     refine WO.mv rfl rfl ?_
     refine WO.asg rfl rfl ?_
     refine WO.asg rfl rfl ?_
     refine WO.nil (NX.go (WP.ret (NX.blkRet (NX.thenRet (NX.thenRet (NX.blkRet (NX.thenRet ?_)))))))
     have hS26 := sqA_same hx hgi (St.sg_shut (x := x) (pi.1, pi.2) (hS25.permT [2, 2, 2, 0, 0, 0, 0] (L' := cel gi [Value.int .i64 (x.first : Int), Value.slice pi.1 x.rs.length pi.2, Value.int .i64 ((encR x.rs).length : Int), Value.bool x.dirty] 63 :: own pi.1 x.rs.length pi.2 3 1 (pis x.rs) :: sqBut sgA i y.gs lg.l :: cel g23 [Value.int .i64 1, str r1] 61 :: dkA gd D :: cel g [Value.pointer (some ⟨gd, 0, none⟩), Value.slice y.a lg.l.length y.cap, handV lg.hand y.gs, Value.bool lg.begun, Value.int .i64 (lg.last : Int), Value.int .i64 (lg.durable : Int)] 49 :: own y.a lg.l.length y.cap 47 1 (y.gs.map ptrV) :: L) rfl))
     clear hS25
     replace hS26 : St B (sqA sgA y.gs lg.l :: cel g23 [Value.int .i64 1, str r1] 61 :: dkA gd D :: cel g [Value.pointer (some ⟨gd, 0, none⟩), Value.slice y.a lg.l.length y.cap, handV lg.hand y.gs, Value.bool lg.begun, Value.int .i64 (lg.last : Int), Value.int .i64 (lg.durable : Int)] 49 :: own y.a lg.l.length y.cap 47 1 (y.gs.map ptrV) :: L) w25 := hS26
     refine NX.done (l := [.tmp 4, .tmp 5]) rfl rfl ?_
     have e0 : readL lg.l n = (r1, 0) := by rw [hrd, readL_step hx, if_pos (by omega), show (n - (x.first : Int)).toNat = j by omega, List.getD_eq_getElem?_getD, hr1]; rfl
     rw [e0]
     exact ⟨rfl, (St.lg_shut (lg := lg) y (hS26.permT [1, 2, 2, 0, 0] (L' := cel g23 [Value.int .i64 1, str r1] 61 :: cel g [Value.pointer (some ⟨gd, 0, none⟩), Value.slice y.a lg.l.length y.cap, handV lg.hand y.gs, Value.bool lg.begun, Value.int .i64 (lg.last : Int), Value.int .i64 (lg.durable : Int)] 49 :: own y.a lg.l.length y.cap 47 1 (y.gs.map ptrV) :: sqA sgA y.gs lg.l :: dkA gd D :: L) rfl).drop)⟩
    ·
     refine WO.alloc (l := [Value.int .i64 0, str []]) hS17 Ty.zr61 rfl rfl (fun g28 w27 lg28 hS27 => ?_)
     clear hS17
     refine WO.nil ?_
     have s29 : (∀ jz, World.cell? w27 ⟨gi, jz, none⟩ = [Value.int .i64 (x.first : Int), Value.slice pi.1 x.rs.length pi.2, Value.int .i64 ((encR x.rs).length : Int), Value.bool x.dirty][jz]?) ∧ Rd w27 pi.1 x.rs.length 1 (pis x.rs) := ⟨hS27.cel_at 2 rfl, (hS27.own_rd_i 3 rfl)⟩
     refine NX.held s29 ?_
     refine WD.one (i := 14) lread_spec_t8 (bt 23 557055) rfl (by kernel_rfl) ?_
     refine WO.call rfl rfl Ty.hd37 rfl (getFrame_spec (frB r1 ++ (encR (x.rs.drop (j + 1)) ++ t1)) (by rw [← enc_at (t := t1) hr1, List.length_drop]; omega) hS27) (fun v31 w30 pv31 => ?_)
     obtain ⟨hv, hS30⟩ := pv31
     clear hS27
     rw [getF_frB hr65] at hv
     change _ = Value.tuple #[.agg #[Value.int .i64 1, str r1], Value.int .i64 (((frB r1).length : Nat) : Int), Value.int .i64 0] at hv
     subst hv
     refine WO.nil ?_
     have s32 : (∀ jz, World.cell? w30 ⟨gi, jz, none⟩ = [Value.int .i64 (x.first : Int), Value.slice pi.1 x.rs.length pi.2, Value.int .i64 ((encR x.rs).length : Int), Value.bool x.dirty][jz]?) ∧ Rd w30 pi.1 x.rs.length 1 (pis x.rs) := ⟨hS30.cel_at 2 rfl, (hS30.own_rd_i 3 rfl)⟩
     refine NX.held s32 ?_
     refine WD.pure (i := 15) lread_spec_t8 (bt 23 589823) rfl rfl rfl (by kernel_rfl) (PQ.then (PQ.blk (PQ.then (PQ.then (PQ.blk (PQ.then PQ.body)))))) rfl (fun w => run_move rfl) ?_
     refine WD.pure (i := 16) lread_spec_t8 (bt 23 655359) rfl rfl rfl (by kernel_rfl) (PQ.then (PQ.blk (PQ.then (PQ.then (PQ.blk (PQ.then PQ.body)))))) rfl (fun w => run_extract rfl rfl) ?_
     refine WD.pure (i := 17) lread_spec_t8 (bt 23 786431) rfl rfl rfl (by kernel_rfl) (PQ.then (PQ.blk (PQ.then (PQ.then (PQ.blk (PQ.then PQ.body)))))) rfl (fun w => run_extract rfl rfl) ?_
     refine WD.pure (i := 18) lread_spec_t8 (bt 23 1048575) rfl rfl rfl (by kernel_rfl) (PQ.then (PQ.blk (PQ.then (PQ.then (PQ.blk (PQ.then PQ.body)))))) rfl (fun w => run_extract rfl rfl) ?_
     refine WD.one (i := 20) lread_spec_t8 (bt 23 2097151) rfl (by kernel_rfl) ?_
     refine WO.store (l' := [Value.int .i64 1, str r1]) 0 hS30 rfl Ty.sz61 rfl rfl rfl rfl rfl (Nat.le_of_ble_eq_true rfl) rfl (fun w33 (hS33 : St B (cel g28 [Value.int .i64 1, str r1] 61 :: dkA gd D :: cel gi [Value.int .i64 (x.first : Int), Value.slice pi.1 x.rs.length pi.2, Value.int .i64 ((encR x.rs).length : Int), Value.bool x.dirty] 63 :: own pi.1 x.rs.length pi.2 3 1 (pis x.rs) :: sqBut sgA i y.gs lg.l :: cel g [Value.pointer (some ⟨gd, 0, none⟩), Value.slice y.a lg.l.length y.cap, handV lg.hand y.gs, Value.bool lg.begun, Value.int .i64 (lg.last : Int), Value.int .i64 (lg.durable : Int)] 49 :: own y.a lg.l.length y.cap 47 1 (y.gs.map ptrV) :: L) w33) => ?_)
     clear hS30
     refine WO.nil ?_
     refine NX.last (by decide) ?_
     refine WD.pure (i := 21) lread_spec_t8 (bt 23 4194303) rfl rfl rfl (by kernel_rfl) (PQ.then (PQ.blk (PQ.then (PQ.then (PQ.blk (PQ.then PQ.body)))))) rfl (fun w => run_assign rfl) ?_
     refine WD.pure (i := 22) lread_spec_t8 (bt 23 8388607) rfl rfl rfl (by kernel_rfl) (PQ.then (PQ.blk (PQ.then (PQ.then (PQ.blk (PQ.then PQ.body)))))) rfl (fun w => run_assign rfl) ?_
     refine WD.done lread_spec_t8 (by kernel_rfl) ?_
     refine NX.go (WP.seq (WP.region rfl ?_))
     refine WO.val (run_fieldAddr (q := ⟨g28, 1, none⟩) (show fieldB Tryz.prog 61 1 = some 1 from by kernel_rfl) rfl rfl) rfl rfl rfl ?_
     refine WO.val (run_load Ty.ag9 rfl ((hS33.cel_at 0 rfl 1).trans rfl)) rfl rfl rfl ?_
     refine WO.mv rfl rfl ?_
     refine WO.asg rfl rfl ?_
     refine WO.asg rfl rfl ?_
     refine WO.nil (NX.go (WP.ret (NX.blkRet (NX.thenRet (NX.thenRet (NX.blkRet (NX.thenRet ?_)))))))
     have hS34 := sqA_same hx hgi (St.sg_shut (x := x) (pi.1, pi.2) (hS33.permT [2, 2, 2, 0, 0, 0, 0] (L' := cel gi [Value.int .i64 (x.first : Int), Value.slice pi.1 x.rs.length pi.2, Value.int .i64 ((encR x.rs).length : Int), Value.bool x.dirty] 63 :: own pi.1 x.rs.length pi.2 3 1 (pis x.rs) :: sqBut sgA i y.gs lg.l :: cel g28 [Value.int .i64 1, str r1] 61 :: dkA gd D :: cel g [Value.pointer (some ⟨gd, 0, none⟩), Value.slice y.a lg.l.length y.cap, handV lg.hand y.gs, Value.bool lg.begun, Value.int .i64 (lg.last : Int), Value.int .i64 (lg.durable : Int)] 49 :: own y.a lg.l.length y.cap 47 1 (y.gs.map ptrV) :: L) rfl))
     clear hS33
     replace hS34 : St B (sqA sgA y.gs lg.l :: cel g28 [Value.int .i64 1, str r1] 61 :: dkA gd D :: cel g [Value.pointer (some ⟨gd, 0, none⟩), Value.slice y.a lg.l.length y.cap, handV lg.hand y.gs, Value.bool lg.begun, Value.int .i64 (lg.last : Int), Value.int .i64 (lg.durable : Int)] 49 :: own y.a lg.l.length y.cap 47 1 (y.gs.map ptrV) :: L) w33 := hS34
     refine NX.done (l := [.tmp 4, .tmp 5]) rfl rfl ?_
     have e0 : readL lg.l n = (r1, 0) := by rw [hrd, readL_step hx, if_pos (by omega), show (n - (x.first : Int)).toNat = j by omega, List.getD_eq_getElem?_getD, hr1]; rfl
     rw [e0]
     exact ⟨rfl, (St.lg_shut (lg := lg) y (hS34.permT [1, 2, 2, 0, 0] (L' := cel g28 [Value.int .i64 1, str r1] 61 :: cel g [Value.pointer (some ⟨gd, 0, none⟩), Value.slice y.a lg.l.length y.cap, handV lg.hand y.gs, Value.bool lg.begun, Value.int .i64 (lg.last : Int), Value.int .i64 (lg.durable : Int)] 49 :: own y.a lg.l.length y.cap 47 1 (y.gs.map ptrV) :: sqA sgA y.gs lg.l :: dkA gd D :: L) rfl).drop)⟩
 ·
  refine WP.exit (NX.thenExit (NX.thenExit ?_))
  refine NX.blkExit ?_
  refine NX.go (WP.seq (WP.region rfl ?_))
  refine WO.asg rfl rfl ?_
  refine WO.asg rfl rfl ?_
  refine WO.nil (NX.go (WP.ret ?_))
  refine NX.done (l := [.tmp 4, .tmp 5]) rfl rfl ?_
  have e0 : readL lg.l n = ([], 12) := by rw [hrd, List.drop_of_length_le (by omega)]; rfl
  rw [e0]
  exact ⟨rfl, (St.lg_shut (lg := lg) y hS1)⟩
end Go.Proofs.YtiggkfaonnnjoaaGreatDoor.SL

/- The log: all is made to last. -/
namespace Go.Proofs.YtiggkfaonnnjoaaGreatDoor.SL
open Go.RowKit Go.Proofs.YtiggkfaonnnjoaaGreatDoor
open Go.Proofs.YtiggkfaonnnjoaaGreatDoorW.PrintLast (rtab opsOf)
set_option linter.unusedVariables false
set_option linter.unusedSimpArgs false
theorem lsync_spec_t5 : rtab .any (opsOf Tryz.f8 5) = (true, [([], []), ([0], [0]), ([1], [1]), ([2], [2]), ([], []), ([4], [4]), ([5], [5]), ([6], [6]), ([7], [7]), ([3, 8, 8], [3, 8]), ([9, 9, 0, 1, 2, 3, 4, 5, 6, 7, 8, 9], [9])]) := by kernel_rfl
theorem lsync_spec {B w : World} {L : List HP} {g gd m t : Nat} {lg : Lg} {D : Dk} (hk : OkL lg) (hd : OkD D m t) (hS : St B (lgA g gd lg :: dkA gd D :: L) w) : Does Tryz.prog 8 [Value.pointer (some ⟨g, 0, none⟩)] w (fun v w1 => v = .int .i64 (syncL lg D).e ∧ St B (lgA g gd (syncL lg D).lg :: dkA gd (syncL lg D).D :: L) w1) := by
 have hln := hk.n
 obtain ⟨y, hgl, h0⟩ := hS.lg_open
 clear hS
 refine enter (n := 60) Tryz.func8 rfl rfl [Value.pointer (some ⟨g, 0, none⟩)] rfl ?_
 refine WP.seq (WP.region rfl ?_)
 refine WO.asg rfl rfl ?_
 refine WO.nil (NX.go (WP.seq (WP.seq (WP.region rfl ?_))))
 refine WO.mv rfl rfl ?_
 refine WO.val (run_nilCheck rfl) rfl rfl rfl ?_
 refine WO.val (run_fieldAddr (q := ⟨g, 1, none⟩) (show fieldB Tryz.prog 49 1 = some 1 from by kernel_rfl) rfl rfl) rfl rfl rfl ?_
 refine WO.val (run_load Ty.ag46 rfl ((h0.cel_at 0 rfl 1).trans rfl)) rfl rfl rfl ?_
 refine WO.val (run_len rfl Tryz.underlying46 rfl) rfl rfl rfl ?_
 refine WO.mv rfl rfl ?_
 refine WO.nil (NX.go (WP.block ?_))
 refine WP.loop (α := Nat × List Sg × Dk) (fun x => match x with | ⟨i, dn, Dq⟩ => [(0, Value.pointer (some ⟨g, 0, none⟩)), (10, Value.slice y.a lg.l.length y.cap), (11, Value.int .i64 ((lg.l.length : Nat) : Int)), (12, Value.int .i64 (i : Int))]) (fun x w => match x with | ⟨i, dn, Dq⟩ => (i ≤ lg.l.length ∧ dn.length = i ∧ OkD Dq m t ∧ syncGo lg.l D = (dn ++ (syncGo (lg.l.drop i) Dq).1, (syncGo (lg.l.drop i) Dq).2)) ∧ St B (cel g [Value.pointer (some ⟨gd, 0, none⟩), Value.slice y.a lg.l.length y.cap, handV lg.hand y.gs, Value.bool lg.begun, Value.int .i64 (lg.last : Int), Value.int .i64 (lg.durable : Int)] 49 :: own y.a lg.l.length y.cap 47 1 (y.gs.map ptrV) :: sqA sgA y.gs (dn ++ lg.l.drop i) :: dkA gd Dq :: L) w) (fun x => match x with | ⟨i, dn, Dq⟩ => lg.l.length - i) (0, [], D) ⟨⟨Nat.zero_le _, rfl, hd, rfl⟩, h0⟩ (Sub.cons rfl (Sub.cons rfl (Sub.cons rfl (Sub.consE rfl (by first | rfl | first | rfl | (congr 1; omega) | (simp; done) | (simp; omega)) (Sub.nil _))))) ?_
 rintro ⟨i, dn, Dq⟩ w1 ⟨⟨hi, hdn, hkq, hsy⟩, hS1⟩
 clear h0
 refine WP.seq (WP.region rfl ?_)
 refine WO.val (run_lss rfl rfl) rfl rfl rfl ?_
 refine WO.nil (NX.go (WP.seq ?_))
 refine WP.condP rfl (fun g13 => ?_) (fun g13 => ?_)
 ·
  refine WP.skip (NX.go (WP.seq (WP.block (WP.seq ?_))))
  obtain ⟨x, hx⟩ : ∃ x, lg.l[i]? = some x := ⟨_, List.getElem?_eq_getElem (by omega)⟩
  have hxb := hk.one hx
  have hx2 := (mid_at (l := lg.l) hdn).trans hx
  obtain ⟨gi, hgi, hS2⟩ := sqA_pick (i := i) hx2 (hS1.permT [2, 0, 0, 0] (L' := sqA sgA y.gs (dn ++ lg.l.drop i) :: cel g [Value.pointer (some ⟨gd, 0, none⟩), Value.slice y.a lg.l.length y.cap, handV lg.hand y.gs, Value.bool lg.begun, Value.int .i64 (lg.last : Int), Value.int .i64 (lg.durable : Int)] 49 :: own y.a lg.l.length y.cap 47 1 (y.gs.map ptrV) :: dkA gd Dq :: L) rfl)
  clear hS1
  obtain ⟨pi, hS3⟩ := hS2.sg_open
  clear hS2
  replace hS3 : St B (cel gi [Value.int .i64 (x.first : Int), Value.slice pi.1 x.rs.length pi.2, Value.int .i64 ((encR x.rs).length : Int), Value.bool x.dirty] 63 :: own pi.1 x.rs.length pi.2 3 1 (pis x.rs) :: sqBut sgA i y.gs (dn ++ lg.l.drop i) :: cel g [Value.pointer (some ⟨gd, 0, none⟩), Value.slice y.a lg.l.length y.cap, handV lg.hand y.gs, Value.bool lg.begun, Value.int .i64 (lg.last : Int), Value.int .i64 (lg.durable : Int)] 49 :: own y.a lg.l.length y.cap 47 1 (y.gs.map ptrV) :: dkA gd Dq :: L) w1 := hS3
  have hsay : y.a.isSome = true := by obtain ⟨q, hq, _⟩ := (hS3.own_rd_i 4 rfl).2.1 (by omega); rw [hq]; rfl
  refine WP.region rfl ?_
  refine WO.val (run_indexAddr (q := adr y.a i) Tryz.underlying46 Ty.sz47 rfl rfl (by omega) (by omega) ((hS3.own_rd_i 4 rfl).2.1 (by omega)) (by simp)) rfl rfl rfl ?_
  refine WO.val (run_load Ty.ag47 rfl ((hS3.own_rd_i 4 rfl).cell (by rw [List.getElem?_map, hgi]; rfl))) rfl rfl rfl ?_
  refine WO.asg rfl rfl ?_
  refine WO.nil (NX.go (WP.seq (WP.seq (WP.region rfl ?_))))
  refine WO.mv rfl rfl ?_
  refine WO.val (run_nilCheck rfl) rfl rfl rfl ?_
  refine WO.val (run_fieldAddr (q := ⟨gi, 3, none⟩) (show fieldB Tryz.prog 63 3 = some 3 from by kernel_rfl) rfl rfl) rfl rfl rfl ?_
  refine WO.val (run_load Ty.ag4 rfl ((hS3.cel_at 0 rfl 3).trans rfl)) rfl rfl rfl ?_
  refine WO.val (run_not rfl rfl) rfl rfl rfl ?_
  refine WO.nil (NX.go ?_)
  refine WP.condB rfl (fun g20 => ?_) (fun g20 => ?_)
  ·
   refine WP.exit (NX.thenExit ?_)
   refine NX.blkExit ?_
   refine NX.go (WP.region rfl ?_)
   refine WO.val (run_add rfl rfl (IntWalk.i64_in _ (by omega))) rfl rfl rfl ?_
   refine WO.mv rfl rfl ?_
   refine WO.nil ?_
   have hS4 := sqA_same hx2 hgi (St.sg_shut (x := x) (pi.1, pi.2) hS3)
   clear hS3
   replace hS4 : St B (sqA sgA y.gs (dn ++ lg.l.drop i) :: cel g [Value.pointer (some ⟨gd, 0, none⟩), Value.slice y.a lg.l.length y.cap, handV lg.hand y.gs, Value.bool lg.begun, Value.int .i64 (lg.last : Int), Value.int .i64 (lg.durable : Int)] 49 :: own y.a lg.l.length y.cap 47 1 (y.gs.map ptrV) :: dkA gd Dq :: L) w1 := hS4
   rw [mid_on hx] at hS4
   exact NX.again (i + 1, dn ++ [x], Dq) ⟨⟨by omega, by rw [List.length_append, hdn]; rfl, hkq, by rw [hsy, syncGo_skip hx (by simpa using g20), List.append_assoc]; rfl⟩, (hS4.permT [1, 1, 0, 0] (L' := cel g [Value.pointer (some ⟨gd, 0, none⟩), Value.slice y.a lg.l.length y.cap, handV lg.hand y.gs, Value.bool lg.begun, Value.int .i64 (lg.last : Int), Value.int .i64 (lg.durable : Int)] 49 :: own y.a lg.l.length y.cap 47 1 (y.gs.map ptrV) :: sqA sgA y.gs ((dn ++ [x]) ++ lg.l.drop (i + 1)) :: dkA gd Dq :: L) rfl)⟩ (by show lg.l.length - (i + 1) < lg.l.length - i; omega) (Sub.cons rfl (Sub.cons rfl (Sub.cons rfl (Sub.consE rfl (by congr 1) (Sub.nil _)))))
  ·
   refine WP.skip (NX.go (WP.seq (WP.seq ?_)))
   refine WD.start (fun w => (∀ jz, World.cell? w ⟨gi, jz, none⟩ = [Value.int .i64 (x.first : Int), Value.slice pi.1 x.rs.length pi.2, Value.int .i64 ((encR x.rs).length : Int), Value.bool x.dirty][jz]?) ∧ (∀ jz, World.cell? w ⟨g, jz, none⟩ = [Value.pointer (some ⟨gd, 0, none⟩), Value.slice y.a lg.l.length y.cap, handV lg.hand y.gs, Value.bool lg.begun, Value.int .i64 (lg.last : Int), Value.int .i64 (lg.durable : Int)][jz]?)) [] (bt 11 0) Ty.mo rfl (by kernel_rfl) hS3 (fun _ h => ⟨h.cel_at 0 rfl, h.cel_at 3 rfl⟩) (fun w5 hS5 s6 => ?_)
   clear hS3
   refine WD.pure (i := 0) lsync_spec_t5 (bt 11 1) rfl rfl rfl (by kernel_rfl) (PQ.then (PQ.then (PQ.blk (PQ.then (PQ.then (PQ.blk (PQ.then PQ.body))))))) rfl (fun w => run_move rfl) ?_
   refine WD.pure (i := 1) lsync_spec_t5 (bt 11 3) rfl rfl rfl (by kernel_rfl) (PQ.then (PQ.then (PQ.blk (PQ.then (PQ.then (PQ.blk (PQ.then PQ.body))))))) rfl (fun w => run_nilCheck rfl) ?_
   refine WD.pure (i := 2) lsync_spec_t5 (bt 11 7) rfl rfl rfl (by kernel_rfl) (PQ.then (PQ.then (PQ.blk (PQ.then (PQ.then (PQ.blk (PQ.then PQ.body))))))) rfl (fun w => run_fieldAddr (q := ⟨g, 0, none⟩) (show fieldB Tryz.prog 49 0 = some 0 from by kernel_rfl) rfl rfl) ?_
   refine WD.take (i := 3) lsync_spec_t5 (bt 11 15) s6 rfl rfl rfl (by kernel_rfl) (PQ.then (PQ.then (PQ.blk (PQ.then (PQ.then (PQ.blk (PQ.then PQ.body))))))) rfl (fun w hs => run_load Ty.ag25 rfl ((hs.2 0).trans rfl)) ?_
   refine WD.pure (i := 4) lsync_spec_t5 (bt 11 31) rfl rfl rfl (by kernel_rfl) (PQ.then (PQ.then (PQ.blk (PQ.then (PQ.then (PQ.blk (PQ.then PQ.body))))))) rfl (fun w => run_move rfl) ?_
   refine WD.pure (i := 5) lsync_spec_t5 (bt 11 63) rfl rfl rfl (by kernel_rfl) (PQ.then (PQ.then (PQ.blk (PQ.then (PQ.then (PQ.blk (PQ.then PQ.body))))))) rfl (fun w => run_nilCheck rfl) ?_
   refine WD.pure (i := 6) lsync_spec_t5 (bt 11 127) rfl rfl rfl (by kernel_rfl) (PQ.then (PQ.then (PQ.blk (PQ.then (PQ.then (PQ.blk (PQ.then PQ.body))))))) rfl (fun w => run_fieldAddr (q := ⟨gi, 0, none⟩) (show fieldB Tryz.prog 63 0 = some 0 from by kernel_rfl) rfl rfl) ?_
   refine WD.take (i := 7) lsync_spec_t5 (bt 11 255) s6 rfl rfl rfl (by kernel_rfl) (PQ.then (PQ.then (PQ.blk (PQ.then (PQ.then (PQ.blk (PQ.then PQ.body))))))) rfl (fun w hs => run_load Ty.ag3 rfl ((hs.1 0).trans rfl)) ?_
   refine WD.one (i := 8) lsync_spec_t5 (bt 11 511) rfl (by kernel_rfl) ?_
   refine WO.call rfl rfl Ty.hd25 rfl (wname_spec x.first (by omega) hS5) (fun v8 w7 pv8 => ?_)
   obtain ⟨rfl, hS7⟩ := pv8
   clear hS5
   refine WO.nil ?_
   have s9 : (∀ jz, World.cell? w7 ⟨gi, jz, none⟩ = [Value.int .i64 (x.first : Int), Value.slice pi.1 x.rs.length pi.2, Value.int .i64 ((encR x.rs).length : Int), Value.bool x.dirty][jz]?) ∧ (∀ jz, World.cell? w7 ⟨g, jz, none⟩ = [Value.pointer (some ⟨gd, 0, none⟩), Value.slice y.a lg.l.length y.cap, handV lg.hand y.gs, Value.bool lg.begun, Value.int .i64 (lg.last : Int), Value.int .i64 (lg.durable : Int)][jz]?) := ⟨hS7.cel_at 0 rfl, hS7.cel_at 3 rfl⟩
   refine NX.held s9 ?_
   refine WD.one (i := 9) lsync_spec_t5 (bt 11 1023) rfl (by kernel_rfl) ?_
   have hS10 := hS7.permT [5, 0, 0, 0, 0, 0] (L' := dkA gd Dq :: cel gi [Value.int .i64 (x.first : Int), Value.slice pi.1 x.rs.length pi.2, Value.int .i64 ((encR x.rs).length : Int), Value.bool x.dirty] 63 :: own pi.1 x.rs.length pi.2 3 1 (pis x.rs) :: sqBut sgA i y.gs (dn ++ lg.l.drop i) :: cel g [Value.pointer (some ⟨gd, 0, none⟩), Value.slice y.a lg.l.length y.cap, handV lg.hand y.gs, Value.bool lg.begun, Value.int .i64 (lg.last : Int), Value.int .i64 (lg.durable : Int)] 49 :: own y.a lg.l.length y.cap 47 1 (y.gs.map ptrV) :: L) rfl
   clear hS7
   refine WO.call rfl rfl Ty.hd26 rfl (dsync_spec hkq.w (nameW x.first) hS10) (fun v12 w11 pv12 => ?_)
   obtain ⟨rfl, hS11⟩ := pv12
   clear hS10
   refine WO.nil ?_
   have s13 : (∀ jz, World.cell? w11 ⟨gi, jz, none⟩ = [Value.int .i64 (x.first : Int), Value.slice pi.1 x.rs.length pi.2, Value.int .i64 ((encR x.rs).length : Int), Value.bool x.dirty][jz]?) ∧ (∀ jz, World.cell? w11 ⟨g, jz, none⟩ = [Value.pointer (some ⟨gd, 0, none⟩), Value.slice y.a lg.l.length y.cap, handV lg.hand y.gs, Value.bool lg.begun, Value.int .i64 (lg.last : Int), Value.int .i64 (lg.durable : Int)][jz]?) := ⟨hS11.cel_at 1 rfl, hS11.cel_at 4 rfl⟩
   refine NX.held s13 ?_
   refine WD.pure (i := 10) lsync_spec_t5 (bt 11 2047) rfl rfl rfl (by kernel_rfl) (PQ.then (PQ.then (PQ.blk (PQ.then (PQ.then (PQ.blk (PQ.then PQ.body))))))) rfl (fun w => run_assign rfl) ?_
   refine WD.done lsync_spec_t5 (by kernel_rfl) ?_
   refine NX.go (WP.seq (WP.region rfl ?_))
   refine WO.mv rfl rfl ?_
   refine WO.val (run_neq rfl rfl) rfl rfl rfl ?_
   refine WO.nil (NX.go ?_)
   refine WP.condP rfl (fun g32 => ?_) (fun g32 => ?_)
   ·
    refine WP.seq (WP.region rfl ?_)
    refine WO.mv rfl rfl ?_
    refine WO.asg rfl rfl ?_
    refine WO.nil (NX.go (WP.ret (NX.thenRet (NX.blkRet (NX.thenRet (NX.thenRet (NX.blkRet (NX.thenRet ?_))))))))
    have hS14 := sqA_same hx2 hgi (St.sg_shut (x := x) (pi.1, pi.2) (hS11.permT [1, 1, 1, 0, 0, 0] (L' := cel gi [Value.int .i64 (x.first : Int), Value.slice pi.1 x.rs.length pi.2, Value.int .i64 ((encR x.rs).length : Int), Value.bool x.dirty] 63 :: own pi.1 x.rs.length pi.2 3 1 (pis x.rs) :: sqBut sgA i y.gs (dn ++ lg.l.drop i) :: dkA gd ((syncD Dq (nameW x.first)).1) :: cel g [Value.pointer (some ⟨gd, 0, none⟩), Value.slice y.a lg.l.length y.cap, handV lg.hand y.gs, Value.bool lg.begun, Value.int .i64 (lg.last : Int), Value.int .i64 (lg.durable : Int)] 49 :: own y.a lg.l.length y.cap 47 1 (y.gs.map ptrV) :: L) rfl))
    clear hS11
    replace hS14 : St B (sqA sgA y.gs (dn ++ lg.l.drop i) :: dkA gd ((syncD Dq (nameW x.first)).1) :: cel g [Value.pointer (some ⟨gd, 0, none⟩), Value.slice y.a lg.l.length y.cap, handV lg.hand y.gs, Value.bool lg.begun, Value.int .i64 (lg.last : Int), Value.int .i64 (lg.durable : Int)] 49 :: own y.a lg.l.length y.cap 47 1 (y.gs.map ptrV) :: L) w11 := hS14
    refine NX.done (l := [.tmp 2]) rfl rfl ?_
    have hlen : lg.l.length = (dn ++ lg.l.drop i).length := by rw [List.length_append, List.length_drop, hdn]; omega
    have e1 : syncGo lg.l D = ((dn ++ lg.l.drop i), (syncD Dq (nameW x.first)).1, (syncD Dq (nameW x.first)).2) := by rw [hsy, syncGo_err hx (by simpa using g20) g32]
    have e0 : syncL lg D = ⟨⟨(dn ++ lg.l.drop i), lg.hand, lg.begun, lg.last, lg.durable⟩, (syncD Dq (nameW x.first)).1, 0, (syncD Dq (nameW x.first)).2⟩ := by unfold syncL; rw [e1, if_pos g32]
    rw [e0]
    exact ⟨rfl, (St.lg_shut (lg := ⟨(dn ++ lg.l.drop i), lg.hand, lg.begun, lg.last, lg.durable⟩) y (by have z := (hS14.permT [2, 2, 0, 0] (L' := cel g [Value.pointer (some ⟨gd, 0, none⟩), Value.slice y.a lg.l.length y.cap, handV lg.hand y.gs, Value.bool lg.begun, Value.int .i64 (lg.last : Int), Value.int .i64 (lg.durable : Int)] 49 :: own y.a lg.l.length y.cap 47 1 (y.gs.map ptrV) :: sqA sgA y.gs (dn ++ lg.l.drop i) :: dkA gd ((syncD Dq (nameW x.first)).1) :: L) rfl); rw [hlen] at z; exact z))⟩
   ·
    refine WP.skip (NX.go (WP.region rfl ?_))
    refine WO.mv rfl rfl ?_
    refine WO.val (run_nilCheck rfl) rfl rfl rfl ?_
    refine WO.val (run_fieldAddr (q := ⟨gi, 3, none⟩) (show fieldB Tryz.prog 63 3 = some 3 from by kernel_rfl) rfl rfl) rfl rfl rfl ?_
    refine WO.store (l' := [Value.int .i64 (x.first : Int), Value.slice pi.1 x.rs.length pi.2, Value.int .i64 ((encR x.rs).length : Int), Value.bool false]) 1 hS11 rfl Ty.sz4 rfl rfl rfl rfl rfl (Nat.le_of_ble_eq_true rfl) rfl (fun w15 (hS15 : St B (dkA gd ((syncD Dq (nameW x.first)).1) :: cel gi [Value.int .i64 (x.first : Int), Value.slice pi.1 x.rs.length pi.2, Value.int .i64 ((encR x.rs).length : Int), Value.bool false] 63 :: own pi.1 x.rs.length pi.2 3 1 (pis x.rs) :: sqBut sgA i y.gs (dn ++ lg.l.drop i) :: cel g [Value.pointer (some ⟨gd, 0, none⟩), Value.slice y.a lg.l.length y.cap, handV lg.hand y.gs, Value.bool lg.begun, Value.int .i64 (lg.last : Int), Value.int .i64 (lg.durable : Int)] 49 :: own y.a lg.l.length y.cap 47 1 (y.gs.map ptrV) :: L) w15) => ?_)
    clear hS11
    refine WO.nil (NX.blk (NX.go (WP.region rfl ?_)))
    refine WO.val (run_add rfl rfl (IntWalk.i64_in _ (by omega))) rfl rfl rfl ?_
    refine WO.mv rfl rfl ?_
    refine WO.nil ?_
    have hS16 := sqA_back hgi (St.sg_shut (x := ⟨x.first, x.rs, false⟩) (pi.1, pi.2) (hS15.permT [1, 1, 1, 0, 0, 0] (L' := cel gi [Value.int .i64 (x.first : Int), Value.slice pi.1 x.rs.length pi.2, Value.int .i64 ((encR x.rs).length : Int), Value.bool false] 63 :: own pi.1 x.rs.length pi.2 3 1 (pis x.rs) :: sqBut sgA i y.gs (dn ++ lg.l.drop i) :: dkA gd ((syncD Dq (nameW x.first)).1) :: cel g [Value.pointer (some ⟨gd, 0, none⟩), Value.slice y.a lg.l.length y.cap, handV lg.hand y.gs, Value.bool lg.begun, Value.int .i64 (lg.last : Int), Value.int .i64 (lg.durable : Int)] 49 :: own y.a lg.l.length y.cap 47 1 (y.gs.map ptrV) :: L) rfl))
    clear hS15
    replace hS16 : St B (sqA sgA y.gs ((dn ++ lg.l.drop i).set i ⟨x.first, x.rs, false⟩) :: dkA gd ((syncD Dq (nameW x.first)).1) :: cel g [Value.pointer (some ⟨gd, 0, none⟩), Value.slice y.a lg.l.length y.cap, handV lg.hand y.gs, Value.bool lg.begun, Value.int .i64 (lg.last : Int), Value.int .i64 (lg.durable : Int)] 49 :: own y.a lg.l.length y.cap 47 1 (y.gs.map ptrV) :: L) w15 := hS16
    rw [mid_put hdn hx] at hS16
    exact NX.again (i + 1, dn ++ [⟨x.first, x.rs, false⟩], (syncD Dq (nameW x.first)).1) ⟨⟨by omega, by rw [List.length_append, hdn]; rfl, hkq.sync, by rw [hsy, syncGo_go hx (by simpa using g20) (Decidable.of_not_not g32), List.append_assoc]; rfl⟩, (hS16.permT [2, 2, 0, 0] (L' := cel g [Value.pointer (some ⟨gd, 0, none⟩), Value.slice y.a lg.l.length y.cap, handV lg.hand y.gs, Value.bool lg.begun, Value.int .i64 (lg.last : Int), Value.int .i64 (lg.durable : Int)] 49 :: own y.a lg.l.length y.cap 47 1 (y.gs.map ptrV) :: sqA sgA y.gs ((dn ++ [⟨x.first, x.rs, false⟩]) ++ lg.l.drop (i + 1)) :: dkA gd ((syncD Dq (nameW x.first)).1) :: L) rfl)⟩ (by show lg.l.length - (i + 1) < lg.l.length - i; omega) (Sub.cons rfl (Sub.cons rfl (Sub.cons rfl (Sub.consE rfl (by congr 1) (Sub.nil _)))))
 ·
  refine WP.exit (NX.thenExit (NX.thenExit ?_))
  refine NX.blkExit ?_
  refine NX.go (WP.seq (WP.seq (WP.region rfl ?_)))
  refine WO.mv rfl rfl ?_
  refine WO.val (run_nilCheck rfl) rfl rfl rfl ?_
  refine WO.val (run_fieldAddr (q := ⟨g, 3, none⟩) (show fieldB Tryz.prog 49 3 = some 3 from by kernel_rfl) rfl rfl) rfl rfl rfl ?_
  refine WO.val (run_load Ty.ag4 rfl ((hS1.cel_at 0 rfl 3).trans rfl)) rfl rfl rfl ?_
  refine WO.nil (NX.go ?_)
  refine WP.condB rfl (fun g41 => ?_) (fun g41 => ?_)
  ·
   refine WP.seq (WP.seq (WP.region rfl ?_))
   refine WO.mv rfl rfl ?_
   refine WO.val (run_nilCheck rfl) rfl rfl rfl ?_
   refine WO.val (run_fieldAddr (q := ⟨g, 0, none⟩) (show fieldB Tryz.prog 49 0 = some 0 from by kernel_rfl) rfl rfl) rfl rfl rfl ?_
   refine WO.val (run_load Ty.ag25 rfl ((hS1.cel_at 0 rfl 0).trans rfl)) rfl rfl rfl ?_
   have hS17 := hS1.permT [3, 0, 0, 0] (L' := dkA gd Dq :: cel g [Value.pointer (some ⟨gd, 0, none⟩), Value.slice y.a lg.l.length y.cap, handV lg.hand y.gs, Value.bool lg.begun, Value.int .i64 (lg.last : Int), Value.int .i64 (lg.durable : Int)] 49 :: own y.a lg.l.length y.cap 47 1 (y.gs.map ptrV) :: sqA sgA y.gs (dn ++ lg.l.drop i) :: L) rfl
   clear hS1
   refine WO.call rfl rfl Ty.hd27 rfl (dsyncNames_spec hkq.w hS17) (fun v19 w18 pv19 => ?_)
   obtain ⟨rfl, hS18⟩ := pv19
   clear hS17
   refine WO.asg rfl rfl ?_
   refine WO.nil (NX.go (WP.seq (WP.region rfl ?_)))
   refine WO.mv rfl rfl ?_
   refine WO.val (run_neq rfl rfl) rfl rfl rfl ?_
   refine WO.nil (NX.go ?_)
   refine WP.condP rfl (fun g48 => ?_) (fun g48 => ?_)
   ·
    refine WP.seq (WP.region rfl ?_)
    refine WO.mv rfl rfl ?_
    refine WO.asg rfl rfl ?_
    refine WO.nil (NX.go (WP.ret (NX.thenRet (NX.thenRet ?_))))
    refine NX.done (l := [.tmp 2]) rfl rfl ?_
    have hie : i = lg.l.length := by omega
    have e1 : syncGo lg.l D = (dn, Dq, 0) := by rw [hsy, List.drop_of_length_le (by omega)]; show (dn ++ [], Dq, (0 : Int)) = _; rw [List.append_nil]
    have hro : dn ++ lg.l.drop i = dn := by rw [List.drop_of_length_le (by omega), List.append_nil]
    have hlen : lg.l.length = dn.length := by omega
    rw [hro] at hS18
    have e0 : syncL lg D = ⟨⟨dn, lg.hand, lg.begun, lg.last, lg.durable⟩, (syncNamesD Dq).1, 0, (syncNamesD Dq).2⟩ := by unfold syncL; rw [e1, if_neg (fun h => h rfl), if_pos g41, if_neg g48]
    rw [e0]
    exact ⟨rfl, (St.lg_shut (lg := ⟨dn, lg.hand, lg.begun, lg.last, lg.durable⟩) y (by have z := (hS18.permT [1, 1, 1, 0] (L' := cel g [Value.pointer (some ⟨gd, 0, none⟩), Value.slice y.a lg.l.length y.cap, handV lg.hand y.gs, Value.bool lg.begun, Value.int .i64 (lg.last : Int), Value.int .i64 (lg.durable : Int)] 49 :: own y.a lg.l.length y.cap 47 1 (y.gs.map ptrV) :: sqA sgA y.gs dn :: dkA gd ((syncNamesD Dq).1) :: L) rfl); rw [hlen] at z; exact z))⟩
   ·
    refine WP.skip (NX.go (WP.region rfl ?_))
    refine WO.mv rfl rfl ?_
    refine WO.val (run_nilCheck rfl) rfl rfl rfl ?_
    refine WO.val (run_fieldAddr (q := ⟨g, 3, none⟩) (show fieldB Tryz.prog 49 3 = some 3 from by kernel_rfl) rfl rfl) rfl rfl rfl ?_
    refine WO.store (l' := [Value.pointer (some ⟨gd, 0, none⟩), Value.slice y.a lg.l.length y.cap, handV lg.hand y.gs, Value.bool false, Value.int .i64 (lg.last : Int), Value.int .i64 (lg.durable : Int)]) 1 hS18 rfl Ty.sz4 rfl rfl rfl rfl rfl (Nat.le_of_ble_eq_true rfl) rfl (fun w20 (hS20 : St B (dkA gd ((syncNamesD Dq).1) :: cel g [Value.pointer (some ⟨gd, 0, none⟩), Value.slice y.a lg.l.length y.cap, handV lg.hand y.gs, Value.bool false, Value.int .i64 (lg.last : Int), Value.int .i64 (lg.durable : Int)] 49 :: own y.a lg.l.length y.cap 47 1 (y.gs.map ptrV) :: sqA sgA y.gs (dn ++ lg.l.drop i) :: L) w20) => ?_)
    clear hS18
    refine WO.nil (NX.go (WP.seq (WP.region rfl ?_)))
    refine WO.mv rfl rfl ?_
    refine WO.mv rfl rfl ?_
    refine WO.val (run_nilCheck rfl) rfl rfl rfl ?_
    refine WO.val (run_fieldAddr (q := ⟨g, 4, none⟩) (show fieldB Tryz.prog 49 4 = some 4 from by kernel_rfl) rfl rfl) rfl rfl rfl ?_
    refine WO.val (run_load Ty.ag3 rfl ((hS20.cel_at 1 rfl 4).trans rfl)) rfl rfl rfl ?_
    refine WO.val (run_nilCheck rfl) rfl rfl rfl ?_
    refine WO.val (run_fieldAddr (q := ⟨g, 5, none⟩) (show fieldB Tryz.prog 49 5 = some 5 from by kernel_rfl) rfl rfl) rfl rfl rfl ?_
    refine WO.store (l' := [Value.pointer (some ⟨gd, 0, none⟩), Value.slice y.a lg.l.length y.cap, handV lg.hand y.gs, Value.bool false, Value.int .i64 (lg.last : Int), Value.int .i64 (lg.last : Int)]) 1 hS20 rfl Ty.sz3 rfl rfl rfl rfl rfl (Nat.le_of_ble_eq_true rfl) rfl (fun w21 (hS21 : St B (dkA gd ((syncNamesD Dq).1) :: cel g [Value.pointer (some ⟨gd, 0, none⟩), Value.slice y.a lg.l.length y.cap, handV lg.hand y.gs, Value.bool false, Value.int .i64 (lg.last : Int), Value.int .i64 (lg.last : Int)] 49 :: own y.a lg.l.length y.cap 47 1 (y.gs.map ptrV) :: sqA sgA y.gs (dn ++ lg.l.drop i) :: L) w21) => ?_)
    clear hS20
    refine WO.nil (NX.go (WP.seq (WP.region rfl ?_)))
    refine WO.asg rfl rfl ?_
    refine WO.nil (NX.go (WP.ret ?_))
    refine NX.done (l := [.tmp 2]) rfl rfl ?_
    have hie : i = lg.l.length := by omega
    have e1 : syncGo lg.l D = (dn, Dq, 0) := by rw [hsy, List.drop_of_length_le (by omega)]; show (dn ++ [], Dq, (0 : Int)) = _; rw [List.append_nil]
    have hro : dn ++ lg.l.drop i = dn := by rw [List.drop_of_length_le (by omega), List.append_nil]
    have hlen : lg.l.length = dn.length := by omega
    rw [hro] at hS21
    have e0 : syncL lg D = ⟨⟨dn, lg.hand, false, lg.last, lg.last⟩, (syncNamesD Dq).1, 0, 0⟩ := by unfold syncL; rw [e1, if_neg (fun h => h rfl), if_pos g41, if_pos (Decidable.of_not_not g48)]
    rw [e0]
    exact ⟨rfl, (St.lg_shut (lg := ⟨dn, lg.hand, false, lg.last, lg.last⟩) y (by have z := (hS21.permT [1, 1, 1, 0] (L' := cel g [Value.pointer (some ⟨gd, 0, none⟩), Value.slice y.a lg.l.length y.cap, handV lg.hand y.gs, Value.bool false, Value.int .i64 (lg.last : Int), Value.int .i64 (lg.last : Int)] 49 :: own y.a lg.l.length y.cap 47 1 (y.gs.map ptrV) :: sqA sgA y.gs dn :: dkA gd ((syncNamesD Dq).1) :: L) rfl); rw [hlen] at z; exact z))⟩
  ·
   refine WP.skip (NX.go (WP.seq (WP.region rfl ?_)))
   refine WO.mv rfl rfl ?_
   refine WO.mv rfl rfl ?_
   refine WO.val (run_nilCheck rfl) rfl rfl rfl ?_
   refine WO.val (run_fieldAddr (q := ⟨g, 4, none⟩) (show fieldB Tryz.prog 49 4 = some 4 from by kernel_rfl) rfl rfl) rfl rfl rfl ?_
   refine WO.val (run_load Ty.ag3 rfl ((hS1.cel_at 0 rfl 4).trans rfl)) rfl rfl rfl ?_
   refine WO.val (run_nilCheck rfl) rfl rfl rfl ?_
   refine WO.val (run_fieldAddr (q := ⟨g, 5, none⟩) (show fieldB Tryz.prog 49 5 = some 5 from by kernel_rfl) rfl rfl) rfl rfl rfl ?_
   refine WO.store (l' := [Value.pointer (some ⟨gd, 0, none⟩), Value.slice y.a lg.l.length y.cap, handV lg.hand y.gs, Value.bool lg.begun, Value.int .i64 (lg.last : Int), Value.int .i64 (lg.last : Int)]) 0 hS1 rfl Ty.sz3 rfl rfl rfl rfl rfl (Nat.le_of_ble_eq_true rfl) rfl (fun w22 (hS22 : St B (cel g [Value.pointer (some ⟨gd, 0, none⟩), Value.slice y.a lg.l.length y.cap, handV lg.hand y.gs, Value.bool lg.begun, Value.int .i64 (lg.last : Int), Value.int .i64 (lg.last : Int)] 49 :: own y.a lg.l.length y.cap 47 1 (y.gs.map ptrV) :: sqA sgA y.gs (dn ++ lg.l.drop i) :: dkA gd Dq :: L) w22) => ?_)
   clear hS1
   refine WO.nil (NX.go (WP.seq (WP.region rfl ?_)))
   refine WO.asg rfl rfl ?_
   refine WO.nil (NX.go (WP.ret ?_))
   refine NX.done (l := [.tmp 2]) rfl rfl ?_
   have hie : i = lg.l.length := by omega
   have e1 : syncGo lg.l D = (dn, Dq, 0) := by rw [hsy, List.drop_of_length_le (by omega)]; show (dn ++ [], Dq, (0 : Int)) = _; rw [List.append_nil]
   have hro : dn ++ lg.l.drop i = dn := by rw [List.drop_of_length_le (by omega), List.append_nil]
   have hlen : lg.l.length = dn.length := by omega
   rw [hro] at hS22
   have e0 : syncL lg D = ⟨⟨dn, lg.hand, lg.begun, lg.last, lg.last⟩, Dq, 0, 0⟩ := by unfold syncL; rw [e1, if_neg (fun h => h rfl), if_neg (by rw [g41]; exact Bool.noConfusion)]
   rw [e0]
   exact ⟨rfl, (St.lg_shut (lg := ⟨dn, lg.hand, lg.begun, lg.last, lg.last⟩) y (by have z := hS22; rw [hlen] at z; exact z))⟩
end Go.Proofs.YtiggkfaonnnjoaaGreatDoor.SL

/- The log: files are removed. -/
namespace Go.Proofs.YtiggkfaonnnjoaaGreatDoor.SL
open Go.RowKit Go.Proofs.YtiggkfaonnnjoaaGreatDoor
open Go.Proofs.YtiggkfaonnnjoaaGreatDoorW.PrintLast (rtab opsOf)
set_option linter.unusedVariables false
set_option linter.unusedSimpArgs false
theorem lremove_spec {B w : World} {L : List HP} {g gd m t : Nat} {lg : Lg} {D : Dk} {X : HP} {ka : Option Addr} {kc : Nat} {ks : List (List UInt8)} (hX : ∀ {L : List HP} {w : World}, St B (X :: L) w → Rd w ka ks.length 1 (ks.map str)) (hks : ks.length ≤ 1000000) (hd : OkD D m t) (hm : m ≤ 900000000) (hS : St B (lgA g gd lg :: dkA gd D :: X :: L) w) : Does Tryz.prog 22 [Value.pointer (some ⟨g, 0, none⟩), Value.slice ka ks.length kc] w (fun v w1 => v = .int .i64 (rmW ks D).2 ∧ St B (lgA g gd lg :: dkA gd (rmW ks D).1 :: X :: L) w1) := by
 obtain ⟨y, hgl, h0⟩ := hS.lg_open
 clear hS
 refine enter (n := 32) Tryz.func22 rfl rfl [Value.pointer (some ⟨g, 0, none⟩), Value.slice ka ks.length kc] rfl ?_
 refine WP.seq (WP.region rfl ?_)
 refine WO.asg rfl rfl ?_
 refine WO.nil (NX.go (WP.seq (WP.seq (WP.region rfl ?_))))
 refine WO.mv rfl rfl ?_
 refine WO.val (run_len rfl Tryz.underlying50 rfl) rfl rfl rfl ?_
 refine WO.mv rfl rfl ?_
 refine WO.nil (NX.go (WP.block ?_))
 refine WP.loop (α := Nat × Dk) (fun x => match x with | ⟨i, Dq⟩ => [(0, Value.pointer (some ⟨g, 0, none⟩)), (1, Value.slice ka ks.length kc), (8, Value.slice ka ks.length kc), (9, Value.int .i64 ((ks.length : Nat) : Int)), (10, Value.int .i64 (i : Int))]) (fun x w => match x with | ⟨i, Dq⟩ => (i ≤ ks.length ∧ OkD Dq (m + i) t ∧ rmAll ks D = rmAll (ks.drop i) Dq) ∧ St B (cel g [Value.pointer (some ⟨gd, 0, none⟩), Value.slice y.a lg.l.length y.cap, handV lg.hand y.gs, Value.bool lg.begun, Value.int .i64 (lg.last : Int), Value.int .i64 (lg.durable : Int)] 49 :: own y.a lg.l.length y.cap 47 1 (y.gs.map ptrV) :: sqA sgA y.gs lg.l :: dkA gd Dq :: X :: L) w) (fun x => match x with | ⟨i, Dq⟩ => ks.length - i) (0, D) ⟨⟨Nat.zero_le _, hd, rfl⟩, h0⟩ (Sub.cons rfl (Sub.cons rfl (Sub.cons rfl (Sub.cons rfl (Sub.consE rfl (by first | rfl | first | rfl | (congr 1; omega) | (simp; done) | (simp; omega)) (Sub.nil _)))))) ?_
 rintro ⟨i, Dq⟩ w1 ⟨⟨hi, hkq, hr⟩, hS1⟩
 clear h0
 refine WP.seq (WP.region rfl ?_)
 refine WO.val (run_lss rfl rfl) rfl rfl rfl ?_
 refine WO.nil (NX.go (WP.seq ?_))
 refine WP.condP rfl (fun g11 => ?_) (fun g11 => ?_)
 ·
  refine WP.skip (NX.go (WP.seq (WP.block (WP.seq ?_))))
  obtain ⟨kx, hkx⟩ : ∃ kx, ks[i]? = some kx := ⟨_, List.getElem?_eq_getElem (by omega)⟩
  have hrs : rmAll (ks.drop i) Dq = if (removeD Dq kx).2 = 0 then rmAll (ks.drop (i + 1)) (removeD Dq kx).1 else (removeD Dq kx) := by obtain ⟨hlt, he⟩ := List.getElem?_eq_some_iff.1 hkx; rw [List.drop_eq_getElem_cons hlt, he]; rfl
  have hsa : ka.isSome = true := by obtain ⟨q, hq, _⟩ := ((hX (hS1.focus 4 rfl))).2.1 (by omega); rw [hq]; rfl
  refine WP.region rfl ?_
  refine WO.val (run_indexAddr (q := adr ka i) Tryz.underlying50 Ty.sz9 rfl rfl (by omega) (by omega) ((hX (hS1.focus 4 rfl)).2.1 (by omega)) (by simp)) rfl rfl rfl ?_
  refine WO.val (run_load Ty.ag9 rfl ((hX (hS1.focus 4 rfl)).cell (str_at hkx))) rfl rfl rfl ?_
  refine WO.asg rfl rfl ?_
  refine WO.nil (NX.go (WP.seq (WP.region rfl ?_)))
  refine WO.mv rfl rfl ?_
  refine WO.val (run_nilCheck rfl) rfl rfl rfl ?_
  refine WO.val (run_fieldAddr (q := ⟨g, 0, none⟩) (show fieldB Tryz.prog 49 0 = some 0 from by kernel_rfl) rfl rfl) rfl rfl rfl ?_
  refine WO.val (run_load Ty.ag25 rfl ((hS1.cel_at 0 rfl 0).trans rfl)) rfl rfl rfl ?_
  refine WO.mv rfl rfl ?_
  have hS2 := hS1.permT [3, 0, 0, 0, 0] (L' := dkA gd Dq :: cel g [Value.pointer (some ⟨gd, 0, none⟩), Value.slice y.a lg.l.length y.cap, handV lg.hand y.gs, Value.bool lg.begun, Value.int .i64 (lg.last : Int), Value.int .i64 (lg.durable : Int)] 49 :: own y.a lg.l.length y.cap 47 1 (y.gs.map ptrV) :: sqA sgA y.gs lg.l :: X :: L) rfl
  clear hS1
  refine WO.call rfl rfl Ty.hd29 rfl (dremove_spec hkq.w hkq.b (by omega) kx hS2) (fun v4 w3 pv4 => ?_)
  obtain ⟨rfl, hS3⟩ := pv4
  clear hS2
  refine WO.asg rfl rfl ?_
  refine WO.nil (NX.go (WP.seq (WP.region rfl ?_)))
  refine WO.mv rfl rfl ?_
  refine WO.val (run_neq rfl rfl) rfl rfl rfl ?_
  refine WO.nil (NX.go ?_)
  refine WP.condP rfl (fun g21 => ?_) (fun g21 => ?_)
  ·
   refine WP.seq (WP.region rfl ?_)
   refine WO.mv rfl rfl ?_
   refine WO.asg rfl rfl ?_
   refine WO.nil (NX.go (WP.ret (NX.blkRet (NX.thenRet (NX.thenRet (NX.blkRet (NX.thenRet ?_)))))))
   refine NX.done (l := [.tmp 4]) rfl rfl ?_
   have e1 : rmAll ks D = (removeD Dq kx) := by rw [hr, hrs, if_neg g21]
   have hne : ¬ ks = [] := fun h => by rw [h] at hkx; simp at hkx
   have e0 : rmW ks D = (removeD Dq kx) := by unfold rmW; rw [if_neg hne, e1, if_neg g21]
   rw [e0]
   exact ⟨rfl, (St.lg_shut (lg := lg) y (hS3.permT [1, 1, 1, 0, 0] (L' := cel g [Value.pointer (some ⟨gd, 0, none⟩), Value.slice y.a lg.l.length y.cap, handV lg.hand y.gs, Value.bool lg.begun, Value.int .i64 (lg.last : Int), Value.int .i64 (lg.durable : Int)] 49 :: own y.a lg.l.length y.cap 47 1 (y.gs.map ptrV) :: sqA sgA y.gs lg.l :: dkA gd ((removeD Dq kx).1) :: X :: L) rfl))⟩
  ·
   refine WP.skip (NX.blk (NX.go (WP.region rfl ?_)))
   refine WO.val (run_add rfl rfl (IntWalk.i64_in _ (by omega))) rfl rfl rfl ?_
   refine WO.mv rfl rfl ?_
   refine WO.nil ?_
   exact NX.again (i + 1, (removeD Dq kx).1) ⟨⟨by omega, hkq.remove, by rw [hr, hrs, if_pos (Decidable.of_not_not g21)]⟩, (hS3.permT [1, 1, 1, 0, 0] (L' := cel g [Value.pointer (some ⟨gd, 0, none⟩), Value.slice y.a lg.l.length y.cap, handV lg.hand y.gs, Value.bool lg.begun, Value.int .i64 (lg.last : Int), Value.int .i64 (lg.durable : Int)] 49 :: own y.a lg.l.length y.cap 47 1 (y.gs.map ptrV) :: sqA sgA y.gs lg.l :: dkA gd ((removeD Dq kx).1) :: X :: L) rfl)⟩ (by show ks.length - (i + 1) < ks.length - i; omega) (Sub.cons rfl (Sub.cons rfl (Sub.cons rfl (Sub.cons rfl (Sub.consE rfl (by congr 1) (Sub.nil _))))))
 ·
  refine WP.exit (NX.thenExit (NX.thenExit ?_))
  refine NX.blkExit ?_
  refine NX.go (WP.seq (WP.seq (WP.region rfl ?_)))
  refine WO.mv rfl rfl ?_
  refine WO.val (run_len rfl Tryz.underlying50 rfl) rfl rfl rfl ?_
  refine WO.val (run_eql rfl rfl) rfl rfl rfl ?_
  refine WO.nil (NX.go ?_)
  refine WP.condP rfl (fun g26 => ?_) (fun g26 => ?_)
  ·
   refine WP.seq (WP.region rfl ?_)
   refine WO.asg rfl rfl ?_
   refine WO.nil (NX.go (WP.ret (NX.thenRet ?_)))
   refine NX.done (l := [.tmp 4]) rfl rfl ?_
   have hks0 : ks = [] := List.length_eq_zero_iff.1 (by omega)
   have hDq : D = Dq := by rw [hks0] at hr; have z : (D, (0 : Int)) = rmAll (List.drop i []) Dq := hr; rw [List.drop_nil] at z; exact congrArg Prod.fst z
   have e0 : rmW ks D = (Dq, 0) := by unfold rmW; rw [if_pos hks0, hDq]
   rw [e0]
   exact ⟨rfl, (St.lg_shut (lg := lg) y hS1)⟩
  ·
   refine WP.skip (NX.go (WP.seq (WP.region rfl ?_)))
   refine WO.mv rfl rfl ?_
   refine WO.val (run_nilCheck rfl) rfl rfl rfl ?_
   refine WO.val (run_fieldAddr (q := ⟨g, 0, none⟩) (show fieldB Tryz.prog 49 0 = some 0 from by kernel_rfl) rfl rfl) rfl rfl rfl ?_
   refine WO.val (run_load Ty.ag25 rfl ((hS1.cel_at 0 rfl 0).trans rfl)) rfl rfl rfl ?_
   have hS5 := hS1.permT [3, 0, 0, 0, 0] (L' := dkA gd Dq :: cel g [Value.pointer (some ⟨gd, 0, none⟩), Value.slice y.a lg.l.length y.cap, handV lg.hand y.gs, Value.bool lg.begun, Value.int .i64 (lg.last : Int), Value.int .i64 (lg.durable : Int)] 49 :: own y.a lg.l.length y.cap 47 1 (y.gs.map ptrV) :: sqA sgA y.gs lg.l :: X :: L) rfl
   clear hS1
   refine WO.call rfl rfl Ty.hd27 rfl (dsyncNames_spec hkq.w hS5) (fun v7 w6 pv7 => ?_)
   obtain ⟨rfl, hS6⟩ := pv7
   clear hS5
   refine WO.asg rfl rfl ?_
   refine WO.nil (NX.go (WP.ret ?_))
   refine NX.done (l := [.tmp 4]) rfl rfl ?_
   have hne : ¬ ks = [] := fun h => g26 (by rw [h]; rfl)
   have e1 : rmAll ks D = (Dq, 0) := by rw [hr, List.drop_of_length_le (by omega)]; rfl
   have e0 : rmW ks D = syncNamesD Dq := by unfold rmW; rw [if_neg hne, e1, if_pos rfl]
   rw [e0]
   exact ⟨rfl, (St.lg_shut (lg := lg) y (hS6.permT [1, 1, 1, 0, 0] (L' := cel g [Value.pointer (some ⟨gd, 0, none⟩), Value.slice y.a lg.l.length y.cap, handV lg.hand y.gs, Value.bool lg.begun, Value.int .i64 (lg.last : Int), Value.int .i64 (lg.durable : Int)] 49 :: own y.a lg.l.length y.cap 47 1 (y.gs.map ptrV) :: sqA sgA y.gs lg.l :: dkA gd ((syncNamesD Dq).1) :: X :: L) rfl))⟩
theorem lstands_spec {B w : World} {L : List HP} {g gd m2 c la du at_ m t : Nat} {a : Option Addr} {hv : Value} {bg : Bool} {D : Dk} (hd : OkD D m t) (hS : St B (cel g [Value.pointer (some ⟨gd, 0, none⟩), Value.slice a m2 c, hv, Value.bool bg, Value.int .i64 (la : Int), Value.int .i64 (du : Int)] 49 :: dkA gd D :: L) w) : Does Tryz.prog 31 [Value.pointer (some ⟨g, 0, none⟩), Value.int .i64 (at_ : Int)] w (fun v w1 => v = .int .i64 (syncNamesD D).2 ∧ (((syncNamesD D).2 = 0 ∧ St B (cel g [Value.pointer (some ⟨gd, 0, none⟩), Value.slice a m2 c, hv, Value.bool false, Value.int .i64 (at_ : Int), Value.int .i64 (at_ : Int)] 49 :: dkA gd (syncNamesD D).1 :: L) w1) ∨ (¬ (syncNamesD D).2 = 0 ∧ St B (cel g [Value.pointer (some ⟨gd, 0, none⟩), Value.slice a m2 c, hv, Value.bool bg, Value.int .i64 (la : Int), Value.int .i64 (du : Int)] 49 :: dkA gd (syncNamesD D).1 :: L) w1))) := by
 refine enter (n := 25) Tryz.func31 rfl rfl [Value.pointer (some ⟨g, 0, none⟩), Value.int .i64 (at_ : Int)] rfl ?_
 refine WP.seq (WP.region rfl ?_)
 refine WO.asg rfl rfl ?_
 refine WO.nil (NX.go (WP.seq (WP.region rfl ?_)))
 refine WO.mv rfl rfl ?_
 refine WO.val (run_nilCheck rfl) rfl rfl rfl ?_
 refine WO.val (run_fieldAddr (q := ⟨g, 0, none⟩) (show fieldB Tryz.prog 49 0 = some 0 from by kernel_rfl) rfl rfl) rfl rfl rfl ?_
 refine WO.val (run_load Ty.ag25 rfl ((hS.cel_at 0 rfl 0).trans rfl)) rfl rfl rfl ?_
 have hS1 := hS.permT [1, 0] (L' := dkA gd D :: cel g [Value.pointer (some ⟨gd, 0, none⟩), Value.slice a m2 c, hv, Value.bool bg, Value.int .i64 (la : Int), Value.int .i64 (du : Int)] 49 :: L) rfl
 clear hS
 refine WO.call rfl rfl Ty.hd27 rfl (dsyncNames_spec hd.w hS1) (fun v3 w2 pv3 => ?_)
 obtain ⟨rfl, hS2⟩ := pv3
 clear hS1
 refine WO.asg rfl rfl ?_
 refine WO.nil (NX.go (WP.seq (WP.seq (WP.region rfl ?_))))
 refine WO.mv rfl rfl ?_
 refine WO.val (run_eql rfl rfl) rfl rfl rfl ?_
 refine WO.nil (NX.go ?_)
 refine WP.condP rfl (fun g12 => ?_) (fun g12 => ?_)
 ·
  refine WP.region rfl ?_
  refine WO.mv rfl rfl ?_
  refine WO.mv rfl rfl ?_
  refine WO.mv rfl rfl ?_
  refine WO.mv rfl rfl ?_
  refine WO.mv rfl rfl ?_
  refine WO.val (run_nilCheck rfl) rfl rfl rfl ?_
  refine WO.val (run_fieldAddr (q := ⟨g, 4, none⟩) (show fieldB Tryz.prog 49 4 = some 4 from by kernel_rfl) rfl rfl) rfl rfl rfl ?_
  refine WO.store (l' := [Value.pointer (some ⟨gd, 0, none⟩), Value.slice a m2 c, hv, Value.bool bg, Value.int .i64 (at_ : Int), Value.int .i64 (du : Int)]) 1 hS2 rfl Ty.sz3 rfl rfl rfl rfl rfl (Nat.le_of_ble_eq_true rfl) rfl (fun w4 (hS4 : St B (dkA gd ((syncNamesD D).1) :: cel g [Value.pointer (some ⟨gd, 0, none⟩), Value.slice a m2 c, hv, Value.bool bg, Value.int .i64 (at_ : Int), Value.int .i64 (du : Int)] 49 :: L) w4) => ?_)
  clear hS2
  refine WO.val (run_nilCheck rfl) rfl rfl rfl ?_
  refine WO.val (run_fieldAddr (q := ⟨g, 5, none⟩) (show fieldB Tryz.prog 49 5 = some 5 from by kernel_rfl) rfl rfl) rfl rfl rfl ?_
  refine WO.store (l' := [Value.pointer (some ⟨gd, 0, none⟩), Value.slice a m2 c, hv, Value.bool bg, Value.int .i64 (at_ : Int), Value.int .i64 (at_ : Int)]) 1 hS4 rfl Ty.sz3 rfl rfl rfl rfl rfl (Nat.le_of_ble_eq_true rfl) rfl (fun w5 (hS5 : St B (dkA gd ((syncNamesD D).1) :: cel g [Value.pointer (some ⟨gd, 0, none⟩), Value.slice a m2 c, hv, Value.bool bg, Value.int .i64 (at_ : Int), Value.int .i64 (at_ : Int)] 49 :: L) w5) => ?_)
  clear hS4
  refine WO.val (run_nilCheck rfl) rfl rfl rfl ?_
  refine WO.val (run_fieldAddr (q := ⟨g, 3, none⟩) (show fieldB Tryz.prog 49 3 = some 3 from by kernel_rfl) rfl rfl) rfl rfl rfl ?_
  refine WO.store (l' := [Value.pointer (some ⟨gd, 0, none⟩), Value.slice a m2 c, hv, Value.bool false, Value.int .i64 (at_ : Int), Value.int .i64 (at_ : Int)]) 1 hS5 rfl Ty.sz4 rfl rfl rfl rfl rfl (Nat.le_of_ble_eq_true rfl) rfl (fun w6 (hS6 : St B (dkA gd ((syncNamesD D).1) :: cel g [Value.pointer (some ⟨gd, 0, none⟩), Value.slice a m2 c, hv, Value.bool false, Value.int .i64 (at_ : Int), Value.int .i64 (at_ : Int)] 49 :: L) w6) => ?_)
  clear hS5
  refine WO.nil (NX.go (WP.seq (WP.region rfl ?_)))
  refine WO.mv rfl rfl ?_
  refine WO.asg rfl rfl ?_
  refine WO.nil (NX.go (WP.ret ?_))
  refine NX.done (l := [.tmp 4]) rfl rfl ?_
  exact ⟨rfl, .inl ⟨g12, (hS6.permT [1, 0] (L' := cel g [Value.pointer (some ⟨gd, 0, none⟩), Value.slice a m2 c, hv, Value.bool false, Value.int .i64 (at_ : Int), Value.int .i64 (at_ : Int)] 49 :: dkA gd ((syncNamesD D).1) :: L) rfl)⟩⟩
 ·
  refine WP.skip (NX.go (WP.seq (WP.region rfl ?_)))
  refine WO.mv rfl rfl ?_
  refine WO.asg rfl rfl ?_
  refine WO.nil (NX.go (WP.ret ?_))
  refine NX.done (l := [.tmp 4]) rfl rfl ?_
  exact ⟨rfl, .inr ⟨g12, (hS2.permT [1, 0] (L' := cel g [Value.pointer (some ⟨gd, 0, none⟩), Value.slice a m2 c, hv, Value.bool bg, Value.int .i64 (la : Int), Value.int .i64 (du : Int)] 49 :: dkA gd ((syncNamesD D).1) :: L) rfl)⟩⟩
end Go.Proofs.YtiggkfaonnnjoaaGreatDoor.SL

/- The log: it is begun anew. -/
namespace Go.Proofs.YtiggkfaonnnjoaaGreatDoor.SL
open Go.RowKit Go.Proofs.YtiggkfaonnnjoaaGreatDoor
open Go.Proofs.YtiggkfaonnnjoaaGreatDoorW.PrintLast (rtab opsOf)
set_option linter.unusedVariables false
set_option linter.unusedSimpArgs false

/-- A row of pointers; of an empty one nothing is known. -/
def rowA (t : TypeId) (a : Option Addr) (n cap : Nat) (gs : List Nat) : HP := match gs with
  | [] => .pure True
  | _ :: _ => own a n cap t 1 (gs.map ptrV)
theorem rowA_of {B w : World} {L : List HP} {t : TypeId} {a : Option Addr} {n cap : Nat} {gs : List Nat} (h : St B (own a n cap t 1 (gs.map ptrV) :: L) w) : St B (rowA t a n cap gs :: L) w := by
  cases gs with
  | nil => exact h.drop.addPure trivial
  | cons p r => exact h
theorem rowA_drop {B w : World} {L : List HP} {t : TypeId} {a : Option Addr} {n cap q : Nat} {gs : List Nat} (hn : n = gs.length + 1) (h : St B (own a n cap t 1 ((q :: gs).map ptrV) :: L) w) : St B (rowA t (if cap = 1 then a else a.map (·.add (1 * 1))) (n - 1) (cap - 1) gs :: L) w := by
  have hle := h.own_rd.2
  cases gs with
  | nil => exact h.drop.addPure trivial
  | cons p r =>
    rw [List.length_cons] at hn
    rw [if_neg (by omega)]
    exact h.own_drop (m := 1) (by omega)
end Go.Proofs.YtiggkfaonnnjoaaGreatDoor.SL

/- The log: names that are all of segments. -/
namespace Go.Proofs.YtiggkfaonnnjoaaGreatDoor.SL
open Go.RowKit Go.Proofs.YtiggkfaonnnjoaaGreatDoor
open Go.Proofs.YtiggkfaonnnjoaaGreatDoorW.PrintLast (rtab opsOf)
set_option linter.unusedVariables false
set_option linter.unusedSimpArgs false
theorem open1_spec {B w : World} {L : List HP} (s : List UInt8) (hs : s.length ≤ 140737488355328) (hS : St B L w) : Does Tryz.prog 16 [str s] w (fun v w1 => v = .bool (decide (((numW s : Nat) : Int) = 0)) ∧ St B L w1) := by
 refine enter (n := 6) Tryz.func16 rfl rfl [str s] rfl ?_
 refine WP.seq (WP.region rfl ?_)
 refine WO.asg rfl rfl ?_
 refine WO.nil (NX.go (WP.seq (WP.region rfl ?_)))
 refine WO.mv rfl rfl ?_
 refine WO.call rfl rfl Ty.hd17 rfl (wnumber_spec s hs hS) (fun v2 w1 pv2 => ?_)
 obtain ⟨rfl, hS1⟩ := pv2
 clear hS
 refine WO.val (run_eql rfl rfl) rfl rfl rfl ?_
 refine WO.asg rfl rfl ?_
 refine WO.nil (NX.go (WP.ret ?_))
 refine NX.done (l := [.tmp 2]) rfl rfl ?_
 exact ⟨rfl, hS1⟩
theorem indexNone_spec {B w : World} {L : List HP} {X : HP} {ka : Option Addr} {kc : Nat} {ks : List (List UInt8)} (hX : ∀ {L : List HP} {w : World}, St B (X :: L) w → Rd w ka ks.length 1 (ks.map str)) (hks : ks.length ≤ 1000000) (hW : ∀ q ∈ ks, ¬ numW q = 0 ∧ q.length ≤ 140737488355328) (hS : St B (X :: L) w) : Does Tryz.prog 38 [Value.slice ka ks.length kc, Value.func (.func 16) #[] #[]] w (fun v w1 => v = .int .i64 (-1) ∧ St B (X :: L) w1) := by
 refine enter (n := 19) Tryz.func38 rfl rfl [Value.slice ka ks.length kc, Value.func (.func 16) #[] #[]] rfl ?_
 refine WP.seq (WP.region rfl ?_)
 refine WO.asg rfl rfl ?_
 refine WO.nil (NX.go (WP.seq (WP.seq (WP.region rfl ?_))))
 refine WO.mv rfl rfl ?_
 refine WO.val (run_len rfl Tryz.underlying50 rfl) rfl rfl rfl ?_
 refine WO.mv rfl rfl ?_
 refine WO.nil (NX.go (WP.block ?_))
 refine WP.loop (α := Nat) (fun x => match x with | i => [(0, Value.slice ka ks.length kc), (1, Value.func (.func 16) #[] #[]), (7, Value.int .i64 ((ks.length : Nat) : Int)), (8, Value.int .i64 (i : Int))]) (fun x w => match x with | i => (i ≤ ks.length) ∧ St B (X :: L) w) (fun x => match x with | i => ks.length - i) 0 ⟨Nat.zero_le _, hS⟩ (Sub.cons rfl (Sub.cons rfl (Sub.cons rfl (Sub.consE rfl (by first | rfl | first | rfl | (congr 1; omega) | (simp; done) | (simp; omega)) (Sub.nil _))))) ?_
 rintro i w1 ⟨hi, hS1⟩
 clear hS
 refine WP.seq (WP.region rfl ?_)
 refine WO.val (run_lss rfl rfl) rfl rfl rfl ?_
 refine WO.nil (NX.go (WP.seq ?_))
 refine WP.condP rfl (fun g9 => ?_) (fun g9 => ?_)
 ·
  refine WP.skip (NX.go (WP.seq (WP.block (WP.seq (WP.region rfl ?_)))))
  refine WO.mv rfl rfl ?_
  refine WO.asg rfl rfl ?_
  refine WO.nil (NX.go (WP.seq ?_))
  obtain ⟨kx, hkx⟩ : ∃ kx, ks[i]? = some kx := ⟨_, List.getElem?_eq_getElem (by omega)⟩
  have hsa : ka.isSome = true := by obtain ⟨q, hq, _⟩ := ((hX (hS1.focus 0 rfl))).2.1 (by omega); rw [hq]; rfl
  refine WP.region rfl ?_
  refine WO.mv rfl rfl ?_
  refine WO.mv rfl rfl ?_
  refine WO.mv rfl rfl ?_
  refine WO.val (run_indexAddr (q := adr ka i) Tryz.underlying50 Ty.sz9 rfl rfl (by omega) (by omega) ((hX (hS1.focus 0 rfl)).2.1 (by omega)) (by simp)) rfl rfl rfl ?_
  refine WO.val (run_load Ty.ag9 rfl ((hX (hS1.focus 0 rfl)).cell (str_at hkx))) rfl rfl rfl ?_
  refine WO.call rfl rfl Ty.hd16 rfl (open1_spec kx (hW kx (List.mem_of_getElem? hkx)).2 hS1) (fun v3 w2 pv3 => ?_)
  obtain ⟨rfl, hS2⟩ := pv3
  clear hS1
  refine WO.nil (NX.go ?_)
  refine WP.condF rfl (decide_eq_false (by have := (hW kx (List.mem_of_getElem? hkx)).1; omega)) ?_
  refine WP.skip (NX.blk (NX.go (WP.region rfl ?_)))
  refine WO.val (run_add rfl rfl (IntWalk.i64_in _ (by omega))) rfl rfl rfl ?_
  refine WO.mv rfl rfl ?_
  refine WO.nil ?_
  exact NX.again (i + 1) ⟨by omega, hS2⟩ (by show ks.length - (i + 1) < ks.length - i; omega) (Sub.cons rfl (Sub.cons rfl (Sub.cons rfl (Sub.consE rfl (by congr 1) (Sub.nil _)))))
 ·
  refine WP.exit (NX.thenExit (NX.thenExit ?_))
  refine NX.blkExit ?_
  refine NX.go (WP.seq (WP.region rfl ?_))
  refine WO.asg rfl rfl ?_
  refine WO.nil (NX.go (WP.ret ?_))
  refine NX.done (l := [.tmp 4]) rfl rfl ?_
  exact ⟨rfl, hS1⟩
theorem deleteNone_spec {B w : World} {L : List HP} {X : HP} {ka : Option Addr} {kc : Nat} {ks : List (List UInt8)} (hX : ∀ {L : List HP} {w : World}, St B (X :: L) w → Rd w ka ks.length 1 (ks.map str)) (hks : ks.length ≤ 1000000) (hW : ∀ q ∈ ks, ¬ numW q = 0 ∧ q.length ≤ 140737488355328) (hS : St B (X :: L) w) : Does Tryz.prog 14 [Value.slice ka ks.length kc, Value.func (.func 16) #[] #[]] w (fun v w1 => v = .slice ka ks.length kc ∧ St B (X :: L) w1) := by
 refine enter (n := 42) Tryz.func14 rfl rfl [Value.slice ka ks.length kc, Value.func (.func 16) #[] #[]] rfl ?_
 refine WP.seq (WP.region rfl ?_)
 refine WO.asg rfl rfl ?_
 refine WO.nil (NX.go (WP.seq (WP.region rfl ?_)))
 refine WO.mv rfl rfl ?_
 refine WO.mv rfl rfl ?_
 refine WO.call rfl rfl Ty.hd38 rfl (indexNone_spec hX hks hW hS) (fun v2 w1 pv2 => ?_)
 obtain ⟨rfl, hS1⟩ := pv2
 clear hS
 refine WO.asg rfl rfl ?_
 refine WO.nil (NX.go (WP.seq (WP.seq (WP.region rfl ?_))))
 refine WO.mv rfl rfl ?_
 refine WO.val (run_eql rfl rfl) rfl rfl rfl ?_
 refine WO.nil (NX.go ?_)
 refine WP.condT rfl (by decide) ?_
 refine WP.seq (WP.region rfl ?_)
 refine WO.mv rfl rfl ?_
 refine WO.asg rfl rfl ?_
 refine WO.nil (NX.go (WP.ret (NX.thenRet ?_)))
 refine NX.done (l := [.tmp 4]) rfl rfl ?_
 exact ⟨rfl, hS1⟩
end Go.Proofs.YtiggkfaonnnjoaaGreatDoor.SL

/- The log: it is read from a disk. -/
namespace Go.Proofs.YtiggkfaonnnjoaaGreatDoor.SL
open Go.RowKit Go.Proofs.YtiggkfaonnnjoaaGreatDoor
open Go.Proofs.YtiggkfaonnnjoaaGreatDoorW.PrintLast (rtab opsOf)
set_option linter.unusedVariables false
set_option linter.unusedSimpArgs false
theorem lremove2_spec {B w : World} {L : List HP} {g gd m t nks : Nat} {lg : Lg} {D : Dk} {X : HP} {ka : Option Addr} {kc : Nat} {ks : List (List UInt8)} (hnk : nks = ks.length) (hX : ∀ {L : List HP} {w : World}, St B (X :: L) w → Rd w ka ks.length 1 (ks.map str)) (hks : ks.length ≤ 1000000) (hd : OkD D m t) (hm : m ≤ 900000000) (hS : St B (lgA g gd lg :: dkA gd D :: X :: L) w) :
    Does Tryz.prog 22 [Value.pointer (some ⟨g, 0, none⟩), .slice ka nks kc] w (fun v w1 => v = .int .i64 (rmW ks D).2 ∧ St B (lgA g gd lg :: dkA gd (rmW ks D).1 :: X :: L) w1) := by
  subst hnk; exact lremove_spec hX hks hd hm hS
theorem lopen_spec {B w : World} {L : List HP} {gd m t : Nat} {D : Dk} (base : Nat) (hb : base < 99999999) (hd : OkD D m t) (hm : m ≤ 900000000) (ht : t ≤ 500000000) (hup : D.dead = false) (hW : ∀ q ∈ (namesD D), ¬ numW q = 0) (hW3 : ∀ q ∈ (namesD D), numW q ≤ 99999999) (hrw : (openL base D).2.2 = 0) (hS : St B (dkA gd D :: L) w) : Does Tryz.prog 6 [Value.pointer (some ⟨gd, 0, none⟩), Value.int .i64 (base : Int)] w (fun v w1 => ∃ g, v = .tuple #[.pointer (some ⟨g, 0, none⟩), .int .i64 0] ∧ St B (lgA g gd (openL base D).1 :: dkA gd (openL base D).2.1 :: L) w1) := by
 have hfw := filesW_all hW
 have hnl : (namesD D).length ≤ 1000000 := by unfold namesD; split; exact Nat.zero_le _; rw [List.length_map]; have := hd.w.nm64; omega
 have hW2 : ∀ q ∈ (namesD D), ¬ numW q = 0 ∧ q.length ≤ 140737488355328 := fun q hq => ⟨hW q hq, by unfold namesD at hq; rw [if_neg (by rw [hup]; exact Bool.noConfusion)] at hq; obtain ⟨e, he, rfl⟩ := List.mem_map.1 hq; have := fileF_len (hd.w.good.f e he).1; omega⟩
 refine enter (n := 97) Tryz.func6 rfl rfl [Value.pointer (some ⟨gd, 0, none⟩), Value.int .i64 (base : Int)] rfl ?_
 refine WP.seq (WP.region rfl ?_)
 refine WO.asg rfl rfl ?_
 refine WO.asg rfl rfl ?_
 refine WO.nil (NX.go (WP.seq (WP.block (WP.seq (WP.region rfl ?_)))))
 refine WO.mv rfl rfl ?_
 refine WO.val (run_lss rfl rfl) rfl rfl rfl ?_
 refine WO.mv rfl rfl ?_
 by_cases g17 : (base : Int) < 0
 ·
  exfalso; omega
 ·
  refine WO.on rfl rfl (decide_eq_false g17) ?_
  refine WO.mv rfl rfl ?_
  refine WO.on rfl rfl (decide_eq_false g17) ?_
  refine WO.val (run_geq rfl rfl) rfl rfl rfl ?_
  refine WO.val (run_pickF rfl (decide_eq_false g17) rfl) rfl rfl rfl ?_
  refine WO.asg rfl rfl ?_
  refine WO.nil (NX.go ?_)
  refine WP.condP rfl (fun g14 => ?_) (fun g14 => ?_)
  ·
   exfalso; omega
  ·
   refine WP.seq (WP.region rfl ?_)
   refine WO.mv rfl rfl ?_
   refine WO.call rfl rfl Ty.hd13 rfl (dup_spec hS) (fun v2 w1 pv2 => ?_)
   obtain ⟨rfl, hS1⟩ := pv2
   clear hS
   refine WO.val (run_not rfl rfl) rfl rfl rfl ?_
   refine WO.asg rfl rfl ?_
   refine WO.nil (NX.go ?_)
   refine WP.condF rfl (notB_t (by rw [hup]; rfl)) ?_
   refine WP.skip (NX.blk (NX.go (WP.seq (WP.region rfl ?_))))
   refine WO.mv rfl rfl ?_
   refine WO.val (run_build (v := Value.agg #[Value.pointer (some ⟨gd, 0, none⟩), Value.slice none 0 0, Value.pointer none, Value.bool false, Value.int .i64 0, Value.int .i64 0]) rfl (fun w => by kernel_rfl)) rfl rfl rfl ?_
   refine WO.box (l := [Value.pointer (some ⟨gd, 0, none⟩), Value.slice none 0 0, Value.pointer none, Value.bool false, Value.int .i64 0, Value.int .i64 0]) hS1 rfl rfl rfl (fun g4 w3 lg4 hS3 => ?_)
   clear hS1
   refine WO.asg rfl rfl ?_
   refine WO.nil (NX.go (WP.seq (WP.region rfl ?_)))
   refine WO.mv rfl rfl ?_
   have hS5 := hS3.permT [1, 0] (L' := dkA gd D :: cel g4 [Value.pointer (some ⟨gd, 0, none⟩), Value.slice none 0 0, Value.pointer none, Value.bool false, Value.int .i64 0, Value.int .i64 0] 49 :: L) rfl
   clear hS3
   refine WO.call rfl rfl Ty.hd15 rfl (dnames_spec hd.w hS5) (fun v7 w6 pv7 => ?_)
   obtain ⟨na, nc, rfl, hS6⟩ := pv7
   clear hS5
   refine WO.call rfl rfl Ty.hd14 rfl (deleteNone_spec (fun h => h.own_rd.1) hnl hW2 hS6) (fun v9 w8 pv9 => ?_)
   obtain ⟨rfl, hS8⟩ := pv9
   clear hS6
   refine WO.asg rfl rfl ?_
   refine WO.nil (NX.go (WP.seq (WP.seq ?_)))
   have hS10 : St B (lgA g4 gd (lg0 []) :: own na ((namesD D).length) nc 9 1 ((namesD D).map str) :: dkA gd D :: L) w8 := St.lg_shut (lg := lg0 []) ⟨none, 0, []⟩ ((((((hS8.permT [2, 0, 0] (L' := cel g4 [Value.pointer (some ⟨gd, 0, none⟩), Value.slice none 0 0, Value.pointer none, Value.bool false, Value.int .i64 0, Value.int .i64 0] 49 :: own na ((namesD D).length) nc 9 1 ((namesD D).map str) :: dkA gd D :: L) rfl)).addPure (p := True) trivial).own_nil 47 1)).permT [2, 0, 0] (L' := cel g4 [Value.pointer (some ⟨gd, 0, none⟩), Value.slice none 0 0, Value.pointer none, Value.bool false, Value.int .i64 0, Value.int .i64 0] 49 :: own none 0 0 47 1 [] :: .pure True :: own na ((namesD D).length) nc 9 1 ((namesD D).map str) :: dkA gd D :: L) rfl)
   clear hS8
   refine WP.region rfl ?_
   refine WO.mv rfl rfl ?_
   refine WO.val (run_len rfl Tryz.underlying50 rfl) rfl rfl rfl ?_
   refine WO.mv rfl rfl ?_
   refine WO.nil (NX.go ?_)
   refine WP.meet (α := List Sg) (fun x => match x with | lf => [(0, Value.pointer (some ⟨gd, 0, none⟩)), (1, Value.int .i64 (base : Int)), (6, Value.pointer (some ⟨g4, 0, none⟩)), (7, Value.slice na ((namesD D).length) nc)]) (fun x w => match x with | lf => (openGo base D (namesD D) [] = lf ∧ OkL (lg0 lf) ∧ lf.length ≤ (namesD D).length) ∧ St B (lgA g4 gd (lg0 lf) :: own na ((namesD D).length) nc 9 1 ((namesD D).map str) :: dkA gd D :: L) w) ?_ (fun K11 => ?_)
   ·
    rintro lf w12 ⟨⟨hgf, hkf, hlf⟩, hS12⟩
    clear hS10
    refine NX.go (WP.seq (WP.seq (WP.region rfl ?_)))
    refine WO.mv rfl rfl ?_
    refine WO.call rfl rfl Ty.hd21 rfl (lend_spec (lg := (lg0 lf)) hkf hS12) (fun v14 w13 pv14 => ?_)
    obtain ⟨rfl, hS13⟩ := pv14
    clear hS12
    refine WO.mv rfl rfl ?_
    refine WO.val (run_lss rfl rfl) rfl rfl rfl ?_
    refine WO.nil (NX.go ?_)
    refine WP.condP rfl (fun g66 => ?_) (fun g66 => ?_)
    ·
     have hel : endL lf < base := by have z : ((endL lf : Nat) : Int) < (base : Int) := g66; omega
     obtain ⟨y16, hgy16, hS15⟩ := (hS13).lg_open
     clear hS13
     replace hS15 : St B (cel g4 [Value.pointer (some ⟨gd, 0, none⟩), Value.slice y16.a lf.length y16.cap, Value.pointer none, Value.bool false, Value.int .i64 0, Value.int .i64 0] 49 :: own y16.a lf.length y16.cap 47 1 (y16.gs.map ptrV) :: sqA sgA y16.gs lf :: own na ((namesD D).length) nc 9 1 ((namesD D).map str) :: dkA gd D :: L) w13 := hS15
     refine WP.region rfl ?_
     refine WO.mv rfl rfl ?_
     refine WO.val (run_nilCheck rfl) rfl rfl rfl ?_
     refine WO.val (run_fieldAddr (q := ⟨g4, 1, none⟩) (show fieldB Tryz.prog 49 1 = some 1 from by kernel_rfl) rfl rfl) rfl rfl rfl ?_
     refine WO.store (l' := [Value.pointer (some ⟨gd, 0, none⟩), Value.slice none 0 0, Value.pointer none, Value.bool false, Value.int .i64 0, Value.int .i64 0]) 0 hS15 rfl Ty.sz46 rfl rfl rfl rfl rfl (Nat.le_of_ble_eq_true rfl) rfl (fun w17 (hS17 : St B (cel g4 [Value.pointer (some ⟨gd, 0, none⟩), Value.slice none 0 0, Value.pointer none, Value.bool false, Value.int .i64 0, Value.int .i64 0] 49 :: own y16.a lf.length y16.cap 47 1 (y16.gs.map ptrV) :: sqA sgA y16.gs lf :: own na ((namesD D).length) nc 9 1 ((namesD D).map str) :: dkA gd D :: L) w17) => ?_)
     clear hS15
     refine WO.nil (NX.go (WP.seq (WP.seq ?_)))
     have hS18 : St B (lgA g4 gd (lg0 []) :: own na ((namesD D).length) nc 9 1 ((namesD D).map str) :: dkA gd D :: L) w17 := St.lg_shut (lg := lg0 []) ⟨none, 0, []⟩ (((((hS17.permT [1, 1, 0, 0, 0] (L' := own y16.a lf.length y16.cap 47 1 (y16.gs.map ptrV) :: sqA sgA y16.gs lf :: cel g4 [Value.pointer (some ⟨gd, 0, none⟩), Value.slice none 0 0, Value.pointer none, Value.bool false, Value.int .i64 0, Value.int .i64 0] 49 :: own na ((namesD D).length) nc 9 1 ((namesD D).map str) :: dkA gd D :: L) rfl).drop.drop).addPure (p := True) trivial).own_nil 47 1).permT [2, 0, 0] (L' := cel g4 [Value.pointer (some ⟨gd, 0, none⟩), Value.slice none 0 0, Value.pointer none, Value.bool false, Value.int .i64 0, Value.int .i64 0] 49 :: own none 0 0 47 1 [] :: .pure True :: own na ((namesD D).length) nc 9 1 ((namesD D).map str) :: dkA gd D :: L) rfl)
     clear hS17
     have hos : openS base D = ([] : List Sg) := by unfold openS; rw [hfw, hgf, if_pos hel]
     have hrw2 : (rmW ((namesD D).drop ([] : List Sg).length) D).2 = 0 := by have z := hrw; unfold openL at z; rw [hfw, hos] at z; exact z
     have hrw3 : (rmW ((namesD D).drop ([] : List Sg).length) D).1 = (openL base D).2.1 := by unfold openL; rw [hfw, hos]
     obtain ⟨y20, hgy20, hS19⟩ := (hS18).lg_open
     clear hS18
     replace hS19 : St B (cel g4 [Value.pointer (some ⟨gd, 0, none⟩), Value.slice y20.a (([] : List Sg).length) y20.cap, Value.pointer none, Value.bool false, Value.int .i64 0, Value.int .i64 0] 49 :: own y20.a (([] : List Sg).length) y20.cap 47 1 (y20.gs.map ptrV) :: sqA sgA y20.gs ([] : List Sg) :: own na ((namesD D).length) nc 9 1 ((namesD D).map str) :: dkA gd D :: L) w17 := hS19
     refine WP.region rfl ?_
     refine WO.mv rfl rfl ?_
     refine WO.mv rfl rfl ?_
     refine WO.mv rfl rfl ?_
     refine WO.val (run_nilCheck rfl) rfl rfl rfl ?_
     refine WO.val (run_fieldAddr (q := ⟨g4, 1, none⟩) (show fieldB Tryz.prog 49 1 = some 1 from by kernel_rfl) rfl rfl) rfl rfl rfl ?_
     have hnc := hS19.own_le_i 3 rfl
     refine WO.val (run_load Ty.ag46 rfl ((hS19.cel_at 0 rfl 1).trans rfl)) rfl rfl rfl ?_
     refine WO.val (run_len rfl Tryz.underlying46 rfl) rfl rfl rfl ?_
     refine WO.val (run_sliceL (i := ([] : List Sg).length) (j := (namesD D).length) Tryz.underlying50 Ty.sz9 rfl ⟨_, rfl⟩ rfl (by first | omega | exact Nat.zero_le _) (by have := hnc; omega)) rfl rfl rfl ?_
     have hS21 : St B (lgA g4 gd (lg0 ([] : List Sg)) :: own na ((namesD D).length) nc 9 1 ((namesD D).map str) :: dkA gd D :: L) w17 := St.lg_shut (lg := lg0 ([] : List Sg)) y20 hS19
     clear hS19
     have hS22 := hS21.permT [0, 1, 0] (L' := lgA g4 gd (lg0 ([] : List Sg)) :: dkA gd D :: own na ((namesD D).length) nc 9 1 ((namesD D).map str) :: L) rfl
     clear hS21
     refine WO.call rfl rfl Ty.hd22 rfl (lremove2_spec (X := own na ((namesD D).length) nc 9 1 ((namesD D).map str)) (ks := ((namesD D).drop ([] : List Sg).length)) (by rw [List.length_drop]) (fun h => rd_fromS (i := ([] : List Sg).length) h.own_rd.1 (by first | omega | exact Nat.zero_le _) hnc) (by rw [List.length_drop]; omega) hd (by omega) hS22) (fun v24 w23 pv24 => ?_)
     obtain ⟨hv, hS23⟩ := pv24
     clear hS22
     rw [hrw2] at hv
     change _ = Value.int .i64 0 at hv
     subst hv
     rw [hrw3] at hS23
     refine WO.asg rfl rfl ?_
     refine WO.nil (NX.go (WP.seq (WP.region rfl ?_)))
     refine WO.mv rfl rfl ?_
     refine WO.val (run_neq rfl rfl) rfl rfl rfl ?_
     refine WO.nil (NX.go ?_)
     refine WP.condF rfl (by decide) ?_
     refine WP.skip (NX.go (WP.seq (WP.region rfl ?_)))
     refine WO.mv rfl rfl ?_
     refine WO.mv rfl rfl ?_
     refine WO.mv rfl rfl ?_
     refine WO.call rfl rfl Ty.hd21 rfl (lend_spec (lg := (lg0 ([] : List Sg))) OkL.nil hS23) (fun v26 w25 pv26 => ?_)
     obtain ⟨rfl, hS25⟩ := pv26
     clear hS23
     refine WO.val (run_max rfl rfl) rfl rfl rfl ?_
     refine WO.val (run_nilCheck rfl) rfl rfl rfl ?_
     refine WO.val (run_fieldAddr (q := ⟨g4, 4, none⟩) (show fieldB Tryz.prog 49 4 = some 4 from by kernel_rfl) rfl rfl) rfl rfl rfl ?_
     obtain ⟨y28, hgy28, hS27⟩ := (hS25).lg_open
     clear hS25
     replace hS27 : St B (cel g4 [Value.pointer (some ⟨gd, 0, none⟩), Value.slice y28.a (([] : List Sg).length) y28.cap, Value.pointer none, Value.bool false, Value.int .i64 0, Value.int .i64 0] 49 :: own y28.a (([] : List Sg).length) y28.cap 47 1 (y28.gs.map ptrV) :: sqA sgA y28.gs ([] : List Sg) :: dkA gd ((openL base D).2.1) :: own na ((namesD D).length) nc 9 1 ((namesD D).map str) :: L) w25 := hS27
     refine WO.store (l' := [Value.pointer (some ⟨gd, 0, none⟩), Value.slice y28.a (([] : List Sg).length) y28.cap, Value.pointer none, Value.bool false, Value.int .i64 (if ((endL [] : Nat) : Int) > (base : Int) then ((endL [] : Nat) : Int) else (base : Int)), Value.int .i64 0]) 0 hS27 rfl Ty.sz3 rfl rfl rfl rfl rfl (Nat.le_of_ble_eq_true rfl) rfl (fun w29 (hS29 : St B (cel g4 [Value.pointer (some ⟨gd, 0, none⟩), Value.slice y28.a (([] : List Sg).length) y28.cap, Value.pointer none, Value.bool false, Value.int .i64 (if ((endL [] : Nat) : Int) > (base : Int) then ((endL [] : Nat) : Int) else (base : Int)), Value.int .i64 0] 49 :: own y28.a (([] : List Sg).length) y28.cap 47 1 (y28.gs.map ptrV) :: sqA sgA y28.gs ([] : List Sg) :: dkA gd ((openL base D).2.1) :: own na ((namesD D).length) nc 9 1 ((namesD D).map str) :: L) w29) => ?_)
     clear hS27
     refine WO.nil (NX.go (WP.seq (WP.region rfl ?_)))
     refine WO.mv rfl rfl ?_
     refine WO.mv rfl rfl ?_
     refine WO.val (run_nilCheck rfl) rfl rfl rfl ?_
     refine WO.val (run_fieldAddr (q := ⟨g4, 4, none⟩) (show fieldB Tryz.prog 49 4 = some 4 from by kernel_rfl) rfl rfl) rfl rfl rfl ?_
     refine WO.val (run_load Ty.ag3 rfl ((hS29.cel_at 0 rfl 4).trans rfl)) rfl rfl rfl ?_
     refine WO.val (run_nilCheck rfl) rfl rfl rfl ?_
     refine WO.val (run_fieldAddr (q := ⟨g4, 5, none⟩) (show fieldB Tryz.prog 49 5 = some 5 from by kernel_rfl) rfl rfl) rfl rfl rfl ?_
     refine WO.store (l' := [Value.pointer (some ⟨gd, 0, none⟩), Value.slice y28.a (([] : List Sg).length) y28.cap, Value.pointer none, Value.bool false, Value.int .i64 (if ((endL [] : Nat) : Int) > (base : Int) then ((endL [] : Nat) : Int) else (base : Int)), Value.int .i64 (if ((endL [] : Nat) : Int) > (base : Int) then ((endL [] : Nat) : Int) else (base : Int))]) 0 hS29 rfl Ty.sz3 rfl rfl rfl rfl rfl (Nat.le_of_ble_eq_true rfl) rfl (fun w30 (hS30 : St B (cel g4 [Value.pointer (some ⟨gd, 0, none⟩), Value.slice y28.a (([] : List Sg).length) y28.cap, Value.pointer none, Value.bool false, Value.int .i64 (if ((endL [] : Nat) : Int) > (base : Int) then ((endL [] : Nat) : Int) else (base : Int)), Value.int .i64 (if ((endL [] : Nat) : Int) > (base : Int) then ((endL [] : Nat) : Int) else (base : Int))] 49 :: own y28.a (([] : List Sg).length) y28.cap 47 1 (y28.gs.map ptrV) :: sqA sgA y28.gs ([] : List Sg) :: dkA gd ((openL base D).2.1) :: own na ((namesD D).length) nc 9 1 ((namesD D).map str) :: L) w30) => ?_)
     clear hS29
     refine WO.nil (NX.go (WP.seq (WP.region rfl ?_)))
     refine WO.mv rfl rfl ?_
     refine WO.asg rfl rfl ?_
     refine WO.asg rfl rfl ?_
     refine WO.nil (NX.go (WP.ret ?_))
     refine NX.done (l := [.tmp 4, .tmp 5]) rfl rfl ?_
     have e0 : (openL base D).1 = ⟨([] : List Sg), false, false, lastW base ([] : List Sg), lastW base ([] : List Sg)⟩ := by unfold openL; rw [hos]
     rw [e0]
     have hlw : (if ((endL ([] : List Sg) : Nat) : Int) > (base : Int) then ((endL ([] : List Sg) : Nat) : Int) else (base : Int)) = ((lastW base ([] : List Sg) : Nat) : Int) := by unfold lastW; by_cases hq : base < endL ([] : List Sg); rw [if_pos hq, if_pos (by omega)]; rw [if_neg hq, if_neg (by omega)]
     have z := (hS30.permT [4, 0, 0, 0, 0] (L' := own na ((namesD D).length) nc 9 1 ((namesD D).map str) :: cel g4 [Value.pointer (some ⟨gd, 0, none⟩), Value.slice y28.a (([] : List Sg).length) y28.cap, Value.pointer none, Value.bool false, Value.int .i64 (if ((endL [] : Nat) : Int) > (base : Int) then ((endL [] : Nat) : Int) else (base : Int)), Value.int .i64 (if ((endL [] : Nat) : Int) > (base : Int) then ((endL [] : Nat) : Int) else (base : Int))] 49 :: own y28.a (([] : List Sg).length) y28.cap 47 1 (y28.gs.map ptrV) :: sqA sgA y28.gs ([] : List Sg) :: dkA gd ((openL base D).2.1) :: L) rfl).drop
     rw [hlw] at z
     exact ⟨g4, rfl, St.lg_shut (lg := ⟨([] : List Sg), false, false, lastW base ([] : List Sg), lastW base ([] : List Sg)⟩) y28 z⟩
    ·
     have hel : ¬ endL lf < base := by have z : ¬ ((endL lf : Nat) : Int) < (base : Int) := g66; omega
     refine WP.skip (NX.go (WP.seq (WP.seq ?_)))
     have hos : openS base D = lf := by unfold openS; rw [hfw, hgf, if_neg hel]
     have hrw2 : (rmW ((namesD D).drop lf.length) D).2 = 0 := by have z := hrw; unfold openL at z; rw [hfw, hos] at z; exact z
     have hrw3 : (rmW ((namesD D).drop lf.length) D).1 = (openL base D).2.1 := by unfold openL; rw [hfw, hos]
     obtain ⟨y32, hgy32, hS31⟩ := (hS13).lg_open
     clear hS13
     replace hS31 : St B (cel g4 [Value.pointer (some ⟨gd, 0, none⟩), Value.slice y32.a lf.length y32.cap, Value.pointer none, Value.bool false, Value.int .i64 0, Value.int .i64 0] 49 :: own y32.a lf.length y32.cap 47 1 (y32.gs.map ptrV) :: sqA sgA y32.gs lf :: own na ((namesD D).length) nc 9 1 ((namesD D).map str) :: dkA gd D :: L) w13 := hS31
     refine WP.region rfl ?_
     refine WO.mv rfl rfl ?_
     refine WO.mv rfl rfl ?_
     refine WO.mv rfl rfl ?_
     refine WO.val (run_nilCheck rfl) rfl rfl rfl ?_
     refine WO.val (run_fieldAddr (q := ⟨g4, 1, none⟩) (show fieldB Tryz.prog 49 1 = some 1 from by kernel_rfl) rfl rfl) rfl rfl rfl ?_
     have hnc := hS31.own_le_i 3 rfl
     refine WO.val (run_load Ty.ag46 rfl ((hS31.cel_at 0 rfl 1).trans rfl)) rfl rfl rfl ?_
     refine WO.val (run_len rfl Tryz.underlying46 rfl) rfl rfl rfl ?_
     refine WO.val (run_sliceL (i := lf.length) (j := (namesD D).length) Tryz.underlying50 Ty.sz9 rfl ⟨_, rfl⟩ rfl (by first | omega | exact Nat.zero_le _) (by have := hnc; omega)) rfl rfl rfl ?_
     have hS33 : St B (lgA g4 gd (lg0 lf) :: own na ((namesD D).length) nc 9 1 ((namesD D).map str) :: dkA gd D :: L) w13 := St.lg_shut (lg := lg0 lf) y32 hS31
     clear hS31
     have hS34 := hS33.permT [0, 1, 0] (L' := lgA g4 gd (lg0 lf) :: dkA gd D :: own na ((namesD D).length) nc 9 1 ((namesD D).map str) :: L) rfl
     clear hS33
     refine WO.call rfl rfl Ty.hd22 rfl (lremove2_spec (X := own na ((namesD D).length) nc 9 1 ((namesD D).map str)) (ks := ((namesD D).drop lf.length)) (by rw [List.length_drop]) (fun h => rd_fromS (i := lf.length) h.own_rd.1 (by first | omega | exact Nat.zero_le _) hnc) (by rw [List.length_drop]; omega) hd (by omega) hS34) (fun v36 w35 pv36 => ?_)
     obtain ⟨hv, hS35⟩ := pv36
     clear hS34
     rw [hrw2] at hv
     change _ = Value.int .i64 0 at hv
     subst hv
     rw [hrw3] at hS35
     refine WO.asg rfl rfl ?_
     refine WO.nil (NX.go (WP.seq (WP.region rfl ?_)))
     refine WO.mv rfl rfl ?_
     refine WO.val (run_neq rfl rfl) rfl rfl rfl ?_
     refine WO.nil (NX.go ?_)
     refine WP.condF rfl (by decide) ?_
     refine WP.skip (NX.go (WP.seq (WP.region rfl ?_)))
     refine WO.mv rfl rfl ?_
     refine WO.mv rfl rfl ?_
     refine WO.mv rfl rfl ?_
     refine WO.call rfl rfl Ty.hd21 rfl (lend_spec (lg := (lg0 lf)) hkf hS35) (fun v38 w37 pv38 => ?_)
     obtain ⟨rfl, hS37⟩ := pv38
     clear hS35
     refine WO.val (run_max rfl rfl) rfl rfl rfl ?_
     refine WO.val (run_nilCheck rfl) rfl rfl rfl ?_
     refine WO.val (run_fieldAddr (q := ⟨g4, 4, none⟩) (show fieldB Tryz.prog 49 4 = some 4 from by kernel_rfl) rfl rfl) rfl rfl rfl ?_
     obtain ⟨y40, hgy40, hS39⟩ := (hS37).lg_open
     clear hS37
     replace hS39 : St B (cel g4 [Value.pointer (some ⟨gd, 0, none⟩), Value.slice y40.a lf.length y40.cap, Value.pointer none, Value.bool false, Value.int .i64 0, Value.int .i64 0] 49 :: own y40.a lf.length y40.cap 47 1 (y40.gs.map ptrV) :: sqA sgA y40.gs lf :: dkA gd ((openL base D).2.1) :: own na ((namesD D).length) nc 9 1 ((namesD D).map str) :: L) w37 := hS39
     refine WO.store (l' := [Value.pointer (some ⟨gd, 0, none⟩), Value.slice y40.a lf.length y40.cap, Value.pointer none, Value.bool false, Value.int .i64 (if ((endL lf : Nat) : Int) > (base : Int) then ((endL lf : Nat) : Int) else (base : Int)), Value.int .i64 0]) 0 hS39 rfl Ty.sz3 rfl rfl rfl rfl rfl (Nat.le_of_ble_eq_true rfl) rfl (fun w41 (hS41 : St B (cel g4 [Value.pointer (some ⟨gd, 0, none⟩), Value.slice y40.a lf.length y40.cap, Value.pointer none, Value.bool false, Value.int .i64 (if ((endL lf : Nat) : Int) > (base : Int) then ((endL lf : Nat) : Int) else (base : Int)), Value.int .i64 0] 49 :: own y40.a lf.length y40.cap 47 1 (y40.gs.map ptrV) :: sqA sgA y40.gs lf :: dkA gd ((openL base D).2.1) :: own na ((namesD D).length) nc 9 1 ((namesD D).map str) :: L) w41) => ?_)
     clear hS39
     refine WO.nil (NX.go (WP.seq (WP.region rfl ?_)))
     refine WO.mv rfl rfl ?_
     refine WO.mv rfl rfl ?_
     refine WO.val (run_nilCheck rfl) rfl rfl rfl ?_
     refine WO.val (run_fieldAddr (q := ⟨g4, 4, none⟩) (show fieldB Tryz.prog 49 4 = some 4 from by kernel_rfl) rfl rfl) rfl rfl rfl ?_
     refine WO.val (run_load Ty.ag3 rfl ((hS41.cel_at 0 rfl 4).trans rfl)) rfl rfl rfl ?_
     refine WO.val (run_nilCheck rfl) rfl rfl rfl ?_
     refine WO.val (run_fieldAddr (q := ⟨g4, 5, none⟩) (show fieldB Tryz.prog 49 5 = some 5 from by kernel_rfl) rfl rfl) rfl rfl rfl ?_
     refine WO.store (l' := [Value.pointer (some ⟨gd, 0, none⟩), Value.slice y40.a lf.length y40.cap, Value.pointer none, Value.bool false, Value.int .i64 (if ((endL lf : Nat) : Int) > (base : Int) then ((endL lf : Nat) : Int) else (base : Int)), Value.int .i64 (if ((endL lf : Nat) : Int) > (base : Int) then ((endL lf : Nat) : Int) else (base : Int))]) 0 hS41 rfl Ty.sz3 rfl rfl rfl rfl rfl (Nat.le_of_ble_eq_true rfl) rfl (fun w42 (hS42 : St B (cel g4 [Value.pointer (some ⟨gd, 0, none⟩), Value.slice y40.a lf.length y40.cap, Value.pointer none, Value.bool false, Value.int .i64 (if ((endL lf : Nat) : Int) > (base : Int) then ((endL lf : Nat) : Int) else (base : Int)), Value.int .i64 (if ((endL lf : Nat) : Int) > (base : Int) then ((endL lf : Nat) : Int) else (base : Int))] 49 :: own y40.a lf.length y40.cap 47 1 (y40.gs.map ptrV) :: sqA sgA y40.gs lf :: dkA gd ((openL base D).2.1) :: own na ((namesD D).length) nc 9 1 ((namesD D).map str) :: L) w42) => ?_)
     clear hS41
     refine WO.nil (NX.go (WP.seq (WP.region rfl ?_)))
     refine WO.mv rfl rfl ?_
     refine WO.asg rfl rfl ?_
     refine WO.asg rfl rfl ?_
     refine WO.nil (NX.go (WP.ret ?_))
     refine NX.done (l := [.tmp 4, .tmp 5]) rfl rfl ?_
     have e0 : (openL base D).1 = ⟨lf, false, false, lastW base lf, lastW base lf⟩ := by unfold openL; rw [hos]
     rw [e0]
     have hlw : (if ((endL lf : Nat) : Int) > (base : Int) then ((endL lf : Nat) : Int) else (base : Int)) = ((lastW base lf : Nat) : Int) := by unfold lastW; by_cases hq : base < endL lf; rw [if_pos hq, if_pos (by omega)]; rw [if_neg hq, if_neg (by omega)]
     have z := (hS42.permT [4, 0, 0, 0, 0] (L' := own na ((namesD D).length) nc 9 1 ((namesD D).map str) :: cel g4 [Value.pointer (some ⟨gd, 0, none⟩), Value.slice y40.a lf.length y40.cap, Value.pointer none, Value.bool false, Value.int .i64 (if ((endL lf : Nat) : Int) > (base : Int) then ((endL lf : Nat) : Int) else (base : Int)), Value.int .i64 (if ((endL lf : Nat) : Int) > (base : Int) then ((endL lf : Nat) : Int) else (base : Int))] 49 :: own y40.a lf.length y40.cap 47 1 (y40.gs.map ptrV) :: sqA sgA y40.gs lf :: dkA gd ((openL base D).2.1) :: L) rfl).drop
     rw [hlw] at z
     exact ⟨g4, rfl, St.lg_shut (lg := ⟨lf, false, false, lastW base lf, lastW base lf⟩) y40 z⟩
   ·
    refine WP.block ?_
    refine WP.loop (α := Nat × List Sg) (fun x => match x with | ⟨i, l⟩ => [(0, Value.pointer (some ⟨gd, 0, none⟩)), (1, Value.int .i64 (base : Int)), (6, Value.pointer (some ⟨g4, 0, none⟩)), (7, Value.slice na ((namesD D).length) nc), (31, Value.slice na ((namesD D).length) nc), (32, Value.int .i64 (((namesD D).length : Nat) : Int)), (33, Value.int .i64 (i : Int))]) (fun x w => match x with | ⟨i, l⟩ => (i ≤ (namesD D).length ∧ openGo base D (namesD D) [] = openGo base D ((namesD D).drop i) l ∧ l.length = i ∧ OkL (lg0 l)) ∧ St B (lgA g4 gd (lg0 l) :: own na ((namesD D).length) nc 9 1 ((namesD D).map str) :: dkA gd D :: L) w) (fun x => match x with | ⟨i, l⟩ => (namesD D).length - i) (0, []) ⟨⟨Nat.zero_le _, rfl, rfl, OkL.nil⟩, hS10⟩ (Sub.cons rfl (Sub.cons rfl (Sub.cons rfl (Sub.cons rfl (Sub.cons rfl (Sub.cons rfl (Sub.consE rfl (by first | rfl | first | rfl | (congr 1; omega) | (simp; done) | (simp; omega)) (Sub.nil _)))))))) ?_
    rintro ⟨i, l⟩ w43 ⟨⟨hi, hgo, hll, hkl⟩, hS43⟩
    clear hS10
    refine WP.seq (WP.region rfl ?_)
    refine WO.val (run_lss rfl rfl) rfl rfl rfl ?_
    refine WO.nil (NX.go (WP.seq ?_))
    refine WP.condP rfl (fun g34 => ?_) (fun g34 => ?_)
    ·
     refine WP.skip (NX.go (WP.seq (WP.block (WP.seq ?_))))
     obtain ⟨kx, hkx⟩ : ∃ kx, (namesD D)[i]? = some kx := ⟨_, List.getElem?_eq_getElem (by omega)⟩
     have hkm := List.mem_of_getElem? hkx
     have hsa : na.isSome = true := by obtain ⟨q, hq, _⟩ := ((hS43.own_rd_i 1 rfl)).2.1 (by omega); rw [hq]; rfl
     have hxb : (fileS D kx).first + (fileS D kx).rs.length ≤ 1000000000 := by have h1 := encR_len (recsW_ok (readD D kx).1); obtain ⟨tt, h2⟩ := recsW_pre (readD D kx).1; have h3 := congrArg List.length h2; rw [List.length_append] at h3; have h4 := readW_len (k := kx) hd; have h5 := hW3 kx hkm; show numW kx + (recsW (readD D kx).1).length ≤ _; omega
     refine WP.region rfl ?_
     refine WO.val (run_indexAddr (q := adr na i) Tryz.underlying50 Ty.sz9 rfl rfl (by omega) (by omega) ((hS43.own_rd_i 1 rfl).2.1 (by omega)) (by simp)) rfl rfl rfl ?_
     refine WO.val (run_load Ty.ag9 rfl ((hS43.own_rd_i 1 rfl).cell (str_at hkx))) rfl rfl rfl ?_
     refine WO.asg rfl rfl ?_
     refine WO.nil (NX.go (WP.seq (WP.region rfl ?_)))
     refine WO.mv rfl rfl ?_
     refine WO.mv rfl rfl ?_
     have hS44 := hS43.permT [2, 0, 0] (L' := dkA gd D :: lgA g4 gd (lg0 l) :: own na ((namesD D).length) nc 9 1 ((namesD D).map str) :: L) rfl
     clear hS43
     refine WO.call rfl rfl Ty.hd18 rfl (dread_spec hd.w kx hS44) (fun v46 w45 pv46 => ?_)
     obtain ⟨rfl, hS45⟩ := pv46
     clear hS44
     refine WO.mv rfl rfl ?_
     refine WO.val (run_extract rfl rfl) rfl rfl rfl ?_
     refine WO.val (run_extract rfl rfl) rfl rfl rfl ?_
     refine WO.asg rfl rfl ?_
     refine WO.asg rfl rfl ?_
     refine WO.nil (NX.go (WP.seq (WP.region rfl ?_)))
     refine WO.mv rfl rfl ?_
     refine WO.call rfl rfl Ty.hd17 rfl (wnumber_spec kx (hW2 kx hkm).2 hS45) (fun v48 w47 pv48 => ?_)
     obtain ⟨rfl, hS47⟩ := pv48
     clear hS45
     refine WO.mv rfl rfl ?_
     refine WO.call rfl rfl Ty.hd19 rfl (wparse_spec (numW kx) (readD D kx).1 (by have := readW_len (k := kx) hd; omega) hS47) (fun v50 w49 pv50 => ?_)
     obtain ⟨gx, rfl, hS49⟩ := pv50
     clear hS47
     refine WO.asg rfl rfl ?_
     refine WO.nil (NX.go (WP.seq (WP.seq (WP.region rfl ?_))))
     refine WO.mv rfl rfl ?_
     refine WO.mv rfl rfl ?_
     refine WO.mv rfl rfl ?_
     have hS51 := hS49.permT [2, 0, 0, 0] (L' := lgA g4 gd (lg0 l) :: sgA gx (fileS D kx) :: dkA gd D :: own na ((namesD D).length) nc 9 1 ((namesD D).map str) :: L) rfl
     clear hS49
     refine WO.call rfl rfl Ty.hd20 rfl (lfits_spec (lg := lg0 l) (x := fileS D kx) base (by omega) hkl hS51) (fun v53 w52 pv53 => ?_)
     obtain ⟨rfl, hS52⟩ := pv53
     clear hS51
     refine WO.val (run_not rfl rfl) rfl rfl rfl ?_
     refine WO.nil (NX.go ?_)
     refine WP.condB rfl (fun g51 => ?_) (fun g51 => ?_)
     ·
      have hff : fitsL l (fileS D kx) base = false := by have z : (!fitsL l (fileS D kx) base) = true := g51; simpa using z
      refine WP.exit (NX.thenExit ?_)
      refine NX.blkPass rfl ?_
      refine NX.thenExit (NX.thenExit ?_)
      refine NX.blkExit ?_
      exact K11 l _ _ ⟨⟨by rw [hgo, openGo_step hkx, if_neg (by rw [hff]; exact Bool.noConfusion)], hkl, by omega⟩, (hS52.permT [1, 0, 1, 0] (L' := sgA gx (fileS D kx) :: lgA g4 gd (lg0 l) :: own na ((namesD D).length) nc 9 1 ((namesD D).map str) :: dkA gd D :: L) rfl).drop⟩ (Sub.cons rfl (Sub.cons rfl (Sub.cons rfl (Sub.cons rfl (Sub.nil _)))))
     ·
      have hft : fitsL l (fileS D kx) base = true := by have z : (!fitsL l (fileS D kx) base) = false := g51; simpa using z
      refine WP.skip (NX.go ?_)
      obtain ⟨y, hgy, hS54⟩ := (hS52).lg_open
      clear hS52
      replace hS54 : St B (cel g4 [Value.pointer (some ⟨gd, 0, none⟩), Value.slice y.a l.length y.cap, Value.pointer none, Value.bool false, Value.int .i64 0, Value.int .i64 0] 49 :: own y.a l.length y.cap 47 1 (y.gs.map ptrV) :: sqA sgA y.gs l :: sgA gx (fileS D kx) :: dkA gd D :: own na ((namesD D).length) nc 9 1 ((namesD D).map str) :: L) w52 := hS54
      have hcy := hS54.own_le_i 1 rfl
      refine WP.region rfl ?_
      refine WO.mv rfl rfl ?_
      refine WO.mv rfl rfl ?_
      refine WO.val (run_nilCheck rfl) rfl rfl rfl ?_
      refine WO.val (run_fieldAddr (q := ⟨g4, 1, none⟩) (show fieldB Tryz.prog 49 1 = some 1 from by kernel_rfl) rfl rfl) rfl rfl rfl ?_
      refine WO.val (run_load Ty.ag46 rfl ((hS54.cel_at 0 rfl 1).trans rfl)) rfl rfl rfl ?_
      refine WO.mv rfl rfl ?_
      refine WO.buildSlice (l := [Value.pointer (some ⟨gx, 0, none⟩)]) hS54 Tryz.underlying46 rfl (fun w => by kernel_rfl) rfl (fun g56 w55 lg56 hS55 => ?_)
      clear hS54
      refine WO.append (news := [Value.pointer (some ⟨gx, 0, none⟩)]) 2 rfl Tryz.underlying46 Tryz.underlying46 (fun _ h => by cases h) Ty.sz47 (by decide) Ty.by47 Ty.zr47 rfl rfl rfl rfl hS55 rfl ((hS55.cel_rd 0 rfl (o := 0) (m := 1) (k := 1) rfl (Nat.le_of_ble_eq_true rfl)).src) rfl (by omega) (by omega) (fun a58 c59 w57 hS57 => ?_)
      replace hS57 : St B (cel g56 [Value.pointer (some ⟨gx, 0, none⟩)] 47 :: cel g4 [Value.pointer (some ⟨gd, 0, none⟩), Value.slice y.a l.length y.cap, Value.pointer none, Value.bool false, Value.int .i64 0, Value.int .i64 0] 49 :: own a58 (l.length + 1) c59 47 1 ((y.gs.map ptrV) ++ [Value.pointer (some ⟨gx, 0, none⟩)]) :: sqA sgA y.gs l :: sgA gx (fileS D kx) :: dkA gd D :: own na ((namesD D).length) nc 9 1 ((namesD D).map str) :: L) w57 := hS57
      clear hS55
      refine WO.val (run_nilCheck rfl) rfl rfl rfl ?_
      refine WO.val (run_fieldAddr (q := ⟨g4, 1, none⟩) (show fieldB Tryz.prog 49 1 = some 1 from by kernel_rfl) rfl rfl) rfl rfl rfl ?_
      refine WO.store (l' := [Value.pointer (some ⟨gd, 0, none⟩), Value.slice a58 (l.length + 1) c59, Value.pointer none, Value.bool false, Value.int .i64 0, Value.int .i64 0]) 1 hS57 rfl Ty.sz46 rfl rfl rfl rfl rfl (Nat.le_of_ble_eq_true rfl) rfl (fun w60 (hS60 : St B (cel g56 [Value.pointer (some ⟨gx, 0, none⟩)] 47 :: cel g4 [Value.pointer (some ⟨gd, 0, none⟩), Value.slice a58 (l.length + 1) c59, Value.pointer none, Value.bool false, Value.int .i64 0, Value.int .i64 0] 49 :: own a58 (l.length + 1) c59 47 1 ((y.gs.map ptrV) ++ [Value.pointer (some ⟨gx, 0, none⟩)]) :: sqA sgA y.gs l :: sgA gx (fileS D kx) :: dkA gd D :: own na ((namesD D).length) nc 9 1 ((namesD D).map str) :: L) w60) => ?_)
      clear hS57
      refine WO.nil (NX.blk (NX.go (WP.region rfl ?_)))
      refine WO.val (run_add rfl rfl (IntWalk.i64_in _ (by omega))) rfl rfl rfl ?_
      refine WO.mv rfl rfl ?_
      refine WO.nil ?_
      have hS61 := sqA_snoc (hS60.permT [0, 2, 2, 0, 0, 0, 0] (L' := cel g56 [Value.pointer (some ⟨gx, 0, none⟩)] 47 :: sqA sgA y.gs l :: sgA gx (fileS D kx) :: cel g4 [Value.pointer (some ⟨gd, 0, none⟩), Value.slice a58 (l.length + 1) c59, Value.pointer none, Value.bool false, Value.int .i64 0, Value.int .i64 0] 49 :: own a58 (l.length + 1) c59 47 1 ((y.gs.map ptrV) ++ [Value.pointer (some ⟨gx, 0, none⟩)]) :: dkA gd D :: own na ((namesD D).length) nc 9 1 ((namesD D).map str) :: L) rfl).drop
      have hm : y.gs.map ptrV ++ [Value.pointer (some ⟨gx, 0, none⟩)] = (y.gs ++ [gx]).map ptrV := by rw [List.map_append]; rfl
      have hl1 : l.length + 1 = (l ++ [(fileS D kx)]).length := by rw [List.length_append]; rfl
      have hS62 := hS61.permT [1, 1, 0] (L' := cel g4 [Value.pointer (some ⟨gd, 0, none⟩), Value.slice a58 (l.length + 1) c59, Value.pointer none, Value.bool false, Value.int .i64 0, Value.int .i64 0] 49 :: own a58 (l.length + 1) c59 47 1 ((y.gs.map ptrV) ++ [Value.pointer (some ⟨gx, 0, none⟩)]) :: sqA sgA (y.gs ++ [gx]) (l ++ [(fileS D kx)]) :: dkA gd D :: own na ((namesD D).length) nc 9 1 ((namesD D).map str) :: L) rfl
      rw [hm, hl1] at hS62
      have hS63 : St B (lgA g4 gd (lg0 (l ++ [(fileS D kx)])) :: dkA gd D :: own na ((namesD D).length) nc 9 1 ((namesD D).map str) :: L) w60 := St.lg_shut (lg := lg0 (l ++ [(fileS D kx)])) ⟨a58, c59, y.gs ++ [gx]⟩ hS62
      exact NX.again (i + 1, l ++ [(fileS D kx)]) ⟨⟨by omega, by rw [hgo, openGo_step hkx, if_pos hft], by rw [List.length_append, hll]; rfl, hkl.snoc (by omega) hxb (fitsL_ne hft) (recsW_ok _)⟩, (hS63.permT [0, 1, 0] (L' := lgA g4 gd (lg0 (l ++ [(fileS D kx)])) :: own na ((namesD D).length) nc 9 1 ((namesD D).map str) :: dkA gd D :: L) rfl)⟩ (by show (namesD D).length - (i + 1) < (namesD D).length - i; omega) (Sub.cons rfl (Sub.cons rfl (Sub.cons rfl (Sub.cons rfl (Sub.cons rfl (Sub.cons rfl (Sub.consE rfl (by congr 1) (Sub.nil _))))))))
    ·
     refine WP.exit (NX.thenExit (NX.thenExit ?_))
     refine NX.blkExit ?_
     exact K11 l _ _ ⟨⟨by rw [hgo, List.drop_of_length_le (by omega)]; rfl, hkl, by omega⟩, hS43⟩ (Sub.cons rfl (Sub.cons rfl (Sub.cons rfl (Sub.cons rfl (Sub.nil _)))))
end Go.Proofs.YtiggkfaonnnjoaaGreatDoor.SL
