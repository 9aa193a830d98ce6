/- An act done on both disks. -/
import Derived.Test.YtcehlnpbdffdhaaDoorRe7
import Derived.Test.YtcehlnpbdffdhaaDoorKa
import Derived.Test.YtcehlnpbdffdhaaDoorXr
namespace Go.Proofs.YtcehlnpbdffdhaaDoor.SL
open Go.RowKit Go.Proofs.YtcehlnpbdffdhaaDoor
open Go.Proofs.YtcehlnpbdffdhaaDoorW.PrintLast (rtab opsOf)
set_option linter.unusedVariables false
set_option linter.unusedSimpArgs false

structure ActA where
  kind : Int
  name : List UInt8
  to_ : List UInt8
  text : List UInt8
  fuse : Int
  keep : SlV Int
def aac (x : ActA) : List Value := [.int .i64 x.kind, str x.name, str x.to_, str x.text, .int .i64 x.fuse, .slice x.keep.a x.keep.l.length x.keep.cap]
theorem aac_len (x : ActA) : (aac x).length = 6 := rfl
def actD (D : Dk) (x : ActA) : Dk × Int :=
  if x.kind = 0 then appendD D x.name x.text else if x.kind = 1 then syncD D x.name else if x.kind = 2 then renameD D x.name x.to_ else if x.kind = 3 then removeD D x.name
  else if x.kind = 4 then syncNamesD D else if x.kind = 5 then (fuseD D x.fuse, 0) else if x.kind = 6 then (crashD D x.keep.l, 0) else (D, 0)
theorem OkD.act {D : Dk} {n t : Nat} {x : ActA} (h : OkD D n t) (hf : x.fuse ≤ 9223372036854775807) : OkD (actD D x).1 (n + 1) (t + x.text.length) := by
  unfold actD
  split
  · exact h.append
  · split
    · exact h.sync.mono (by omega) (by omega)
    · split
      · exact h.rename.mono (by omega) (by omega)
      · split
        · exact h.remove.mono (by omega) (by omega)
        · split
          · exact h.syncNames.mono (by omega) (by omega)
          · split
            · exact (h.fuse hf).mono (by omega) (by omega)
            · split
              · exact (h.crash (zs := x.keep.l)).mono (by omega) (by omega)
              · exact h.mono (by omega) (by omega)
structure ActOk (B : World) (x : ActA) : Prop where
  rd : Rd B x.keep.a x.keep.l.length 1 (ri x.keep.l)
  kl : x.keep.l.length ≤ 17592186043904
  nl : x.name.length ≤ 140737488351232
  tl : x.to_.length ≤ 140737488351232
  xl : x.text.length ≤ 140737488351232
  fl : -9223372036854775808 ≤ x.fuse ∧ x.fuse ≤ 9223372036854775807
theorem rf_dead {B w : World} {L : List HP} {g : Nat} {D : Dk} (h : St B (refA g D :: L) w) : w.cell? ⟨g, 5, none⟩ = some (.bool D.dead) := by
  obtain ⟨rx, h1⟩ := h.rf_open
  exact (h1.cel_at 0 rfl 5).trans rfl

theorem r4used_fold {B w : World} {L : List HP} {g : Nat} {D : Dk} {n t : Nat} (hw : WFD D) (hb : Bnd D n t) (ht : t ≤ 1099511627776) (hS : St B (refA g D :: L) w) : Does Tryd.prog 38 [Value.pointer (some ⟨g, 0, none⟩)] w (fun v w1 => v = .int .i64 ((usedN D.f D.nm : Nat) : Int) ∧ St B (refA g D :: L) w1) := by
  obtain ⟨rx, h0⟩ := hS.rf_open
  exact (r4used_spec hw hb ht h0).mono fun v w1 h => ⟨h.1, h.2.rf_shut rx⟩
theorem act_spec_t3 : rtab .any (opsOf Tryd.f33 3) = (true, [([], []), ([], []), ([1], [1]), ([], []), ([3], [3]), ([0, 2, 4], [0, 2, 4]), ([], []), ([], []), ([7], [7]), ([], []), ([9], [9]), ([6, 8, 10, 5], [6, 8, 10]), ([5, 11], [5, 11]), ([12, 11, 0, 1, 2, 3, 4, 5, 6, 7, 8, 9, 10, 11, 12], [12])]) := by kernel_rfl
theorem act_spec_t5 : rtab .any (opsOf Tryd.f33 5) = (true, [([], []), ([], []), ([1], [1]), ([0, 2], [0, 2]), ([], []), ([], []), ([5], [5]), ([4, 6, 3], [4, 6]), ([3, 7], [3, 7]), ([8, 7, 0, 1, 2, 3, 4, 5, 6, 7, 8], [8])]) := by kernel_rfl
theorem act_spec_t7 : rtab .any (opsOf Tryd.f33 7) = (true, [([], []), ([], []), ([1], [1]), ([], []), ([3], [3]), ([0, 2, 4], [0, 2, 4]), ([], []), ([], []), ([7], [7]), ([], []), ([9], [9]), ([6, 8, 10, 5], [6, 8, 10]), ([5, 11], [5, 11]), ([12, 11, 0, 1, 2, 3, 4, 5, 6, 7, 8, 9, 10, 11, 12], [12])]) := by kernel_rfl
theorem act_spec_t9 : rtab .any (opsOf Tryd.f33 9) = (true, [([], []), ([], []), ([1], [1]), ([0, 2], [0, 2]), ([], []), ([], []), ([5], [5]), ([4, 6, 3], [4, 6]), ([3, 7], [3, 7]), ([8, 7, 0, 1, 2, 3, 4, 5, 6, 7, 8], [8])]) := by kernel_rfl
theorem act_spec {B w : World} {L : List HP} {g gr : Nat} {D E : Dk} {n t n2 t2 : Nat} {x : ActA} (hd : OkD D n t) (hn : n ≤ 1000000000) (ht : t ≤ 1099511627776) (he : OkD E n2 t2) (hn2 : n2 ≤ 1000000000) (ht2 : t2 ≤ 1099511627776) (hx : ActOk B x) (hS : St B (dkA g D :: refA gr E :: L) w) : Does Tryd.prog 33 [Value.pointer (some ⟨g, 0, none⟩), Value.pointer (some ⟨gr, 0, none⟩), Value.agg #[Value.int .i64 x.kind, str x.name, str x.to_, str x.text, Value.int .i64 x.fuse, Value.slice x.keep.a x.keep.l.length x.keep.cap]] w (fun v w1 => v = .bool (decide ((actD D x).2 = (actD E x).2)) ∧ St B (dkA g (actD D x).1 :: refA gr (actD E x).1 :: L) w1) := by
 replace hS := (hS.addPure (p := True) trivial).permT [1, 1, 0] (L' := dkA g D :: refA gr E :: .pure True :: L) rfl
 have hxk := hx.kl
 have hxn := hx.nl
 have hxt := hx.tl
 have hxx := hx.xl
 have hxf := hx.fl
 refine enter (n := 90) Tryd.func33 rfl rfl [Value.pointer (some ⟨g, 0, none⟩), Value.pointer (some ⟨gr, 0, none⟩), Value.agg #[Value.int .i64 x.kind, str x.name, str x.to_, str x.text, Value.int .i64 x.fuse, Value.slice x.keep.a x.keep.l.length x.keep.cap]] rfl ?_
 refine WP.seq ?_
 refine WP.region rfl ?_
 refine WO.box (l := [Value.int .i64 x.kind, str x.name, str x.to_, str x.text, Value.int .i64 x.fuse, Value.slice x.keep.a x.keep.l.length x.keep.cap]) hS rfl rfl rfl (fun g2 w1 lg2 hS1 => ?_)
 clear hS
 refine WO.val (run_assign rfl) rfl rfl rfl ?_
 refine WO.nil ?_
 refine NX.go ?_
 refine WP.seq ?_
 refine WP.seq ?_
 refine WP.region rfl ?_
 refine WO.val (run_fieldAddr (q := ⟨g2, 0, none⟩) (show fieldB Tryd.prog 63 0 = some 0 from by kernel_rfl) rfl rfl) rfl rfl rfl ?_
 refine WO.val (run_load Ty.ag3 rfl ((hS1.cel_at 0 rfl 0).trans rfl)) rfl rfl rfl ?_
 refine WO.nil ?_
 refine NX.go ?_
 refine WP.block ?_
 refine WP.seq ?_
 refine WP.region rfl ?_
 refine WO.val (run_eql rfl rfl) rfl rfl rfl ?_
 refine WO.val (run_assign rfl) rfl rfl rfl ?_
 refine WO.nil ?_
 refine NX.go ?_
 refine WP.condP rfl (fun g9 => ?_) (fun g9 => ?_)
 ·
  refine WP.seq ?_
  refine WD.start (fun w => (∀ j, World.cell? w ⟨g2, j, none⟩ = [Value.int .i64 x.kind, str x.name, str x.to_, str x.text, Value.int .i64 x.fuse, Value.slice x.keep.a x.keep.l.length x.keep.cap][j]?)) [] #[false, false, false, false, false, false, false, false, false, false, false, false, false, false] Ty.mo rfl (by kernel_rfl) hS1 (fun _ h => h.cel_at 0 rfl) (fun w3 hS3 s4 => ?_)
  clear hS1
  refine WD.pure (i := 0) act_spec_t3 #[true, false, false, false, false, false, false, false, false, false, false, false, false, false] rfl rfl rfl (by kernel_rfl) (PQ.then (PQ.blk (PQ.then PQ.body))) rfl (fun w => run_move rfl) ?_
  refine WD.pure (i := 1) act_spec_t3 #[true, true, false, false, false, false, false, false, false, false, false, false, false, false] rfl rfl rfl (by kernel_rfl) (PQ.then (PQ.blk (PQ.then PQ.body))) rfl (fun w => run_fieldAddr (q := ⟨g2, 1, none⟩) (show fieldB Tryd.prog 63 1 = some 1 from by kernel_rfl) rfl rfl) ?_
  refine WD.take (i := 2) act_spec_t3 #[true, true, true, false, false, false, false, false, false, false, false, false, false, false] s4 rfl rfl rfl (by kernel_rfl) (PQ.then (PQ.blk (PQ.then PQ.body))) rfl (fun w hs => run_load Ty.ag9 rfl ((hs 1).trans rfl)) ?_
  refine WD.pure (i := 3) act_spec_t3 #[true, true, true, true, false, false, false, false, false, false, false, false, false, false] rfl rfl rfl (by kernel_rfl) (PQ.then (PQ.blk (PQ.then PQ.body))) rfl (fun w => run_fieldAddr (q := ⟨g2, 3, none⟩) (show fieldB Tryd.prog 63 3 = some 3 from by kernel_rfl) rfl rfl) ?_
  refine WD.take (i := 4) act_spec_t3 #[true, true, true, true, true, false, false, false, false, false, false, false, false, false] s4 rfl rfl rfl (by kernel_rfl) (PQ.then (PQ.blk (PQ.then PQ.body))) rfl (fun w hs => run_load Ty.ag9 rfl ((hs 3).trans rfl)) ?_
  refine WD.pure (i := 6) act_spec_t3 #[true, true, true, true, true, false, true, false, false, false, false, false, false, false] rfl rfl rfl (by kernel_rfl) (PQ.then (PQ.blk (PQ.then PQ.body))) rfl (fun w => run_move rfl) ?_
  refine WD.pure (i := 7) act_spec_t3 #[true, true, true, true, true, false, true, true, false, false, false, false, false, false] rfl rfl rfl (by kernel_rfl) (PQ.then (PQ.blk (PQ.then PQ.body))) rfl (fun w => run_fieldAddr (q := ⟨g2, 1, none⟩) (show fieldB Tryd.prog 63 1 = some 1 from by kernel_rfl) rfl rfl) ?_
  refine WD.take (i := 8) act_spec_t3 #[true, true, true, true, true, false, true, true, true, false, false, false, false, false] s4 rfl rfl rfl (by kernel_rfl) (PQ.then (PQ.blk (PQ.then PQ.body))) rfl (fun w hs => run_load Ty.ag9 rfl ((hs 1).trans rfl)) ?_
  refine WD.pure (i := 9) act_spec_t3 #[true, true, true, true, true, false, true, true, true, true, false, false, false, false] rfl rfl rfl (by kernel_rfl) (PQ.then (PQ.blk (PQ.then PQ.body))) rfl (fun w => run_fieldAddr (q := ⟨g2, 3, none⟩) (show fieldB Tryd.prog 63 3 = some 3 from by kernel_rfl) rfl rfl) ?_
  refine WD.take (i := 10) act_spec_t3 #[true, true, true, true, true, false, true, true, true, true, true, false, false, false] s4 rfl rfl rfl (by kernel_rfl) (PQ.then (PQ.blk (PQ.then PQ.body))) rfl (fun w hs => run_load Ty.ag9 rfl ((hs 3).trans rfl)) ?_
  refine WD.one (i := 5) act_spec_t3 #[true, true, true, true, true, true, true, true, true, true, true, false, false, false] rfl (by kernel_rfl) ?_
  have hS5 := hS3.permT [1, 0, 0, 0] (L' := dkA g D :: cel g2 [Value.int .i64 x.kind, str x.name, str x.to_, str x.text, Value.int .i64 x.fuse, Value.slice x.keep.a x.keep.l.length x.keep.cap] 63 :: refA gr E :: (.pure True) :: L) rfl
  clear hS3
  refine WO.call rfl rfl Ty.hd24 rfl (dappend_spec hd.w hd.b hn ht x.name x.text (by omega) (by omega) hS5) (fun v7 w6 pv7 => ?_)
  obtain ⟨rfl, hS6⟩ := pv7
  clear hS5
  refine WO.nil ?_
  have s8 : (∀ j, World.cell? w6 ⟨g2, j, none⟩ = [Value.int .i64 x.kind, str x.name, str x.to_, str x.text, Value.int .i64 x.fuse, Value.slice x.keep.a x.keep.l.length x.keep.cap][j]?) := hS6.cel_at 1 rfl
  refine NX.held s8 ?_
  refine WD.one (i := 11) act_spec_t3 #[true, true, true, true, true, true, true, true, true, true, true, true, false, false] rfl (by kernel_rfl) ?_
  have hS9 := hS6.permT [2, 0, 0, 0] (L' := refA gr E :: dkA g ((appendD D x.name x.text).1) :: cel g2 [Value.int .i64 x.kind, str x.name, str x.to_, str x.text, Value.int .i64 x.fuse, Value.slice x.keep.a x.keep.l.length x.keep.cap] 63 :: (.pure True) :: L) rfl
  clear hS6
  refine WO.call rfl rfl Ty.hd69 rfl (r4append_spec he hn2 ht2 x.name x.text (by omega) (by omega) hS9) (fun v11 w10 pv11 => ?_)
  obtain ⟨rfl, hS10⟩ := pv11
  clear hS9
  refine WO.nil ?_
  have s12 : (∀ j, World.cell? w10 ⟨g2, j, none⟩ = [Value.int .i64 x.kind, str x.name, str x.to_, str x.text, Value.int .i64 x.fuse, Value.slice x.keep.a x.keep.l.length x.keep.cap][j]?) := hS10.cel_at 2 rfl
  refine NX.held s12 ?_
  refine WD.pure (i := 12) act_spec_t3 #[true, true, true, true, true, true, true, true, true, true, true, true, true, false] rfl rfl rfl (by kernel_rfl) (PQ.then (PQ.blk (PQ.then PQ.body))) rfl (fun w => run_eql rfl rfl) ?_
  refine WD.pure (i := 13) act_spec_t3 #[true, true, true, true, true, true, true, true, true, true, true, true, true, true] rfl rfl rfl (by kernel_rfl) (PQ.then (PQ.blk (PQ.then PQ.body))) rfl (fun w => run_assign rfl) ?_
  refine WD.done act_spec_t3 (by kernel_rfl) ?_
  refine NX.go ?_
  refine WP.ret ?_
  refine NX.blkRet ?_
  refine NX.thenRet ?_
  refine NX.done (l := [.tmp 6]) rfl rfl ?_
  have e1 : ∀ D : Dk, actD D x = appendD D x.name x.text := fun D => by unfold actD; rw [if_pos g9]
  rw [e1, e1]
  exact ⟨rfl, (hS10.permT [2, 2, 1, 0] (L' := cel g2 [Value.int .i64 x.kind, str x.name, str x.to_, str x.text, Value.int .i64 x.fuse, Value.slice x.keep.a x.keep.l.length x.keep.cap] 63 :: (.pure True) :: dkA g ((appendD D x.name x.text).1) :: refA gr ((appendD E x.name x.text).1) :: L) rfl).drop.drop⟩
 ·
  refine WP.seq ?_
  refine WP.region rfl ?_
  refine WO.val (run_eql rfl rfl) rfl rfl rfl ?_
  refine WO.val (run_assign rfl) rfl rfl rfl ?_
  refine WO.nil ?_
  refine NX.go ?_
  refine WP.condP rfl (fun g24 => ?_) (fun g24 => ?_)
  ·
   refine WP.seq ?_
   refine WD.start (fun w => (∀ j, World.cell? w ⟨g2, j, none⟩ = [Value.int .i64 x.kind, str x.name, str x.to_, str x.text, Value.int .i64 x.fuse, Value.slice x.keep.a x.keep.l.length x.keep.cap][j]?)) [] #[false, false, false, false, false, false, false, false, false, false] Ty.mo rfl (by kernel_rfl) hS1 (fun _ h => h.cel_at 0 rfl) (fun w13 hS13 s14 => ?_)
   clear hS1
   refine WD.pure (i := 0) act_spec_t5 #[true, false, false, false, false, false, false, false, false, false] rfl rfl rfl (by kernel_rfl) (PQ.then (PQ.blk (PQ.then PQ.body))) rfl (fun w => run_move rfl) ?_
   refine WD.pure (i := 1) act_spec_t5 #[true, true, false, false, false, false, false, false, false, false] rfl rfl rfl (by kernel_rfl) (PQ.then (PQ.blk (PQ.then PQ.body))) rfl (fun w => run_fieldAddr (q := ⟨g2, 1, none⟩) (show fieldB Tryd.prog 63 1 = some 1 from by kernel_rfl) rfl rfl) ?_
   refine WD.take (i := 2) act_spec_t5 #[true, true, true, false, false, false, false, false, false, false] s14 rfl rfl rfl (by kernel_rfl) (PQ.then (PQ.blk (PQ.then PQ.body))) rfl (fun w hs => run_load Ty.ag9 rfl ((hs 1).trans rfl)) ?_
   refine WD.pure (i := 4) act_spec_t5 #[true, true, true, false, true, false, false, false, false, false] rfl rfl rfl (by kernel_rfl) (PQ.then (PQ.blk (PQ.then PQ.body))) rfl (fun w => run_move rfl) ?_
   refine WD.pure (i := 5) act_spec_t5 #[true, true, true, false, true, true, false, false, false, false] rfl rfl rfl (by kernel_rfl) (PQ.then (PQ.blk (PQ.then PQ.body))) rfl (fun w => run_fieldAddr (q := ⟨g2, 1, none⟩) (show fieldB Tryd.prog 63 1 = some 1 from by kernel_rfl) rfl rfl) ?_
   refine WD.take (i := 6) act_spec_t5 #[true, true, true, false, true, true, true, false, false, false] s14 rfl rfl rfl (by kernel_rfl) (PQ.then (PQ.blk (PQ.then PQ.body))) rfl (fun w hs => run_load Ty.ag9 rfl ((hs 1).trans rfl)) ?_
   refine WD.one (i := 3) act_spec_t5 #[true, true, true, true, true, true, true, false, false, false] rfl (by kernel_rfl) ?_
   have hS15 := hS13.permT [1, 0, 0, 0] (L' := dkA g D :: cel g2 [Value.int .i64 x.kind, str x.name, str x.to_, str x.text, Value.int .i64 x.fuse, Value.slice x.keep.a x.keep.l.length x.keep.cap] 63 :: refA gr E :: (.pure True) :: L) rfl
   clear hS13
   refine WO.call rfl rfl Ty.hd28 rfl (dsync_spec hd.w x.name hS15) (fun v17 w16 pv17 => ?_)
   obtain ⟨rfl, hS16⟩ := pv17
   clear hS15
   refine WO.nil ?_
   have s18 : (∀ j, World.cell? w16 ⟨g2, j, none⟩ = [Value.int .i64 x.kind, str x.name, str x.to_, str x.text, Value.int .i64 x.fuse, Value.slice x.keep.a x.keep.l.length x.keep.cap][j]?) := hS16.cel_at 1 rfl
   refine NX.held s18 ?_
   refine WD.one (i := 7) act_spec_t5 #[true, true, true, true, true, true, true, true, false, false] rfl (by kernel_rfl) ?_
   have hS19 := hS16.permT [2, 0, 0, 0] (L' := refA gr E :: dkA g ((syncD D x.name).1) :: cel g2 [Value.int .i64 x.kind, str x.name, str x.to_, str x.text, Value.int .i64 x.fuse, Value.slice x.keep.a x.keep.l.length x.keep.cap] 63 :: (.pure True) :: L) rfl
   clear hS16
   refine WO.call rfl rfl Ty.hd70 rfl (r4sync_spec he hn2 ht2 x.name hS19) (fun v21 w20 pv21 => ?_)
   obtain ⟨rfl, hS20⟩ := pv21
   clear hS19
   refine WO.nil ?_
   have s22 : (∀ j, World.cell? w20 ⟨g2, j, none⟩ = [Value.int .i64 x.kind, str x.name, str x.to_, str x.text, Value.int .i64 x.fuse, Value.slice x.keep.a x.keep.l.length x.keep.cap][j]?) := hS20.cel_at 2 rfl
   refine NX.held s22 ?_
   refine WD.pure (i := 8) act_spec_t5 #[true, true, true, true, true, true, true, true, true, false] rfl rfl rfl (by kernel_rfl) (PQ.then (PQ.blk (PQ.then PQ.body))) rfl (fun w => run_eql rfl rfl) ?_
   refine WD.pure (i := 9) act_spec_t5 #[true, true, true, true, true, true, true, true, true, true] rfl rfl rfl (by kernel_rfl) (PQ.then (PQ.blk (PQ.then PQ.body))) rfl (fun w => run_assign rfl) ?_
   refine WD.done act_spec_t5 (by kernel_rfl) ?_
   refine NX.go ?_
   refine WP.ret ?_
   refine NX.blkRet ?_
   refine NX.thenRet ?_
   refine NX.done (l := [.tmp 6]) rfl rfl ?_
   have e1 : ∀ D : Dk, actD D x = syncD D x.name := fun D => by unfold actD; rw [if_neg g9, if_pos g24]
   rw [e1, e1]
   exact ⟨rfl, (hS20.permT [2, 2, 1, 0] (L' := cel g2 [Value.int .i64 x.kind, str x.name, str x.to_, str x.text, Value.int .i64 x.fuse, Value.slice x.keep.a x.keep.l.length x.keep.cap] 63 :: (.pure True) :: dkA g ((syncD D x.name).1) :: refA gr ((syncD E x.name).1) :: L) rfl).drop.drop⟩
  ·
   refine WP.seq ?_
   refine WP.region rfl ?_
   refine WO.val (run_eql rfl rfl) rfl rfl rfl ?_
   refine WO.val (run_assign rfl) rfl rfl rfl ?_
   refine WO.nil ?_
   refine NX.go ?_
   refine WP.condP rfl (fun g35 => ?_) (fun g35 => ?_)
   ·
    refine WP.seq ?_
    refine WD.start (fun w => (∀ j, World.cell? w ⟨g2, j, none⟩ = [Value.int .i64 x.kind, str x.name, str x.to_, str x.text, Value.int .i64 x.fuse, Value.slice x.keep.a x.keep.l.length x.keep.cap][j]?)) [] #[false, false, false, false, false, false, false, false, false, false, false, false, false, false] Ty.mo rfl (by kernel_rfl) hS1 (fun _ h => h.cel_at 0 rfl) (fun w23 hS23 s24 => ?_)
    clear hS1
    refine WD.pure (i := 0) act_spec_t7 #[true, false, false, false, false, false, false, false, false, false, false, false, false, false] rfl rfl rfl (by kernel_rfl) (PQ.then (PQ.blk (PQ.then PQ.body))) rfl (fun w => run_move rfl) ?_
    refine WD.pure (i := 1) act_spec_t7 #[true, true, false, false, false, false, false, false, false, false, false, false, false, false] rfl rfl rfl (by kernel_rfl) (PQ.then (PQ.blk (PQ.then PQ.body))) rfl (fun w => run_fieldAddr (q := ⟨g2, 1, none⟩) (show fieldB Tryd.prog 63 1 = some 1 from by kernel_rfl) rfl rfl) ?_
    refine WD.take (i := 2) act_spec_t7 #[true, true, true, false, false, false, false, false, false, false, false, false, false, false] s24 rfl rfl rfl (by kernel_rfl) (PQ.then (PQ.blk (PQ.then PQ.body))) rfl (fun w hs => run_load Ty.ag9 rfl ((hs 1).trans rfl)) ?_
    refine WD.pure (i := 3) act_spec_t7 #[true, true, true, true, false, false, false, false, false, false, false, false, false, false] rfl rfl rfl (by kernel_rfl) (PQ.then (PQ.blk (PQ.then PQ.body))) rfl (fun w => run_fieldAddr (q := ⟨g2, 2, none⟩) (show fieldB Tryd.prog 63 2 = some 2 from by kernel_rfl) rfl rfl) ?_
    refine WD.take (i := 4) act_spec_t7 #[true, true, true, true, true, false, false, false, false, false, false, false, false, false] s24 rfl rfl rfl (by kernel_rfl) (PQ.then (PQ.blk (PQ.then PQ.body))) rfl (fun w hs => run_load Ty.ag9 rfl ((hs 2).trans rfl)) ?_
    refine WD.pure (i := 6) act_spec_t7 #[true, true, true, true, true, false, true, false, false, false, false, false, false, false] rfl rfl rfl (by kernel_rfl) (PQ.then (PQ.blk (PQ.then PQ.body))) rfl (fun w => run_move rfl) ?_
    refine WD.pure (i := 7) act_spec_t7 #[true, true, true, true, true, false, true, true, false, false, false, false, false, false] rfl rfl rfl (by kernel_rfl) (PQ.then (PQ.blk (PQ.then PQ.body))) rfl (fun w => run_fieldAddr (q := ⟨g2, 1, none⟩) (show fieldB Tryd.prog 63 1 = some 1 from by kernel_rfl) rfl rfl) ?_
    refine WD.take (i := 8) act_spec_t7 #[true, true, true, true, true, false, true, true, true, false, false, false, false, false] s24 rfl rfl rfl (by kernel_rfl) (PQ.then (PQ.blk (PQ.then PQ.body))) rfl (fun w hs => run_load Ty.ag9 rfl ((hs 1).trans rfl)) ?_
    refine WD.pure (i := 9) act_spec_t7 #[true, true, true, true, true, false, true, true, true, true, false, false, false, false] rfl rfl rfl (by kernel_rfl) (PQ.then (PQ.blk (PQ.then PQ.body))) rfl (fun w => run_fieldAddr (q := ⟨g2, 2, none⟩) (show fieldB Tryd.prog 63 2 = some 2 from by kernel_rfl) rfl rfl) ?_
    refine WD.take (i := 10) act_spec_t7 #[true, true, true, true, true, false, true, true, true, true, true, false, false, false] s24 rfl rfl rfl (by kernel_rfl) (PQ.then (PQ.blk (PQ.then PQ.body))) rfl (fun w hs => run_load Ty.ag9 rfl ((hs 2).trans rfl)) ?_
    refine WD.one (i := 5) act_spec_t7 #[true, true, true, true, true, true, true, true, true, true, true, false, false, false] rfl (by kernel_rfl) ?_
    have hS25 := hS23.permT [1, 0, 0, 0] (L' := dkA g D :: cel g2 [Value.int .i64 x.kind, str x.name, str x.to_, str x.text, Value.int .i64 x.fuse, Value.slice x.keep.a x.keep.l.length x.keep.cap] 63 :: refA gr E :: (.pure True) :: L) rfl
    clear hS23
    refine WO.call rfl rfl Ty.hd30 rfl (drename_spec hd.w hd.b hn x.name x.to_ (by omega) hS25) (fun v27 w26 pv27 => ?_)
    obtain ⟨rfl, hS26⟩ := pv27
    clear hS25
    refine WO.nil ?_
    have s28 : (∀ j, World.cell? w26 ⟨g2, j, none⟩ = [Value.int .i64 x.kind, str x.name, str x.to_, str x.text, Value.int .i64 x.fuse, Value.slice x.keep.a x.keep.l.length x.keep.cap][j]?) := hS26.cel_at 1 rfl
    refine NX.held s28 ?_
    refine WD.one (i := 11) act_spec_t7 #[true, true, true, true, true, true, true, true, true, true, true, true, false, false] rfl (by kernel_rfl) ?_
    have hS29 := hS26.permT [2, 0, 0, 0] (L' := refA gr E :: dkA g ((renameD D x.name x.to_).1) :: cel g2 [Value.int .i64 x.kind, str x.name, str x.to_, str x.text, Value.int .i64 x.fuse, Value.slice x.keep.a x.keep.l.length x.keep.cap] 63 :: (.pure True) :: L) rfl
    clear hS26
    refine WO.call rfl rfl Ty.hd71 rfl (r4rename_spec he hn2 ht2 x.name x.to_ (by omega) hS29) (fun v31 w30 pv31 => ?_)
    obtain ⟨rfl, hS30⟩ := pv31
    clear hS29
    refine WO.nil ?_
    have s32 : (∀ j, World.cell? w30 ⟨g2, j, none⟩ = [Value.int .i64 x.kind, str x.name, str x.to_, str x.text, Value.int .i64 x.fuse, Value.slice x.keep.a x.keep.l.length x.keep.cap][j]?) := hS30.cel_at 2 rfl
    refine NX.held s32 ?_
    refine WD.pure (i := 12) act_spec_t7 #[true, true, true, true, true, true, true, true, true, true, true, true, true, false] rfl rfl rfl (by kernel_rfl) (PQ.then (PQ.blk (PQ.then PQ.body))) rfl (fun w => run_eql rfl rfl) ?_
    refine WD.pure (i := 13) act_spec_t7 #[true, true, true, true, true, true, true, true, true, true, true, true, true, true] rfl rfl rfl (by kernel_rfl) (PQ.then (PQ.blk (PQ.then PQ.body))) rfl (fun w => run_assign rfl) ?_
    refine WD.done act_spec_t7 (by kernel_rfl) ?_
    refine NX.go ?_
    refine WP.ret ?_
    refine NX.blkRet ?_
    refine NX.thenRet ?_
    refine NX.done (l := [.tmp 6]) rfl rfl ?_
    have e1 : ∀ D : Dk, actD D x = renameD D x.name x.to_ := fun D => by unfold actD; rw [if_neg g9, if_neg g24, if_pos g35]
    rw [e1, e1]
    exact ⟨rfl, (hS30.permT [2, 2, 1, 0] (L' := cel g2 [Value.int .i64 x.kind, str x.name, str x.to_, str x.text, Value.int .i64 x.fuse, Value.slice x.keep.a x.keep.l.length x.keep.cap] 63 :: (.pure True) :: dkA g ((renameD D x.name x.to_).1) :: refA gr ((renameD E x.name x.to_).1) :: L) rfl).drop.drop⟩
   ·
    refine WP.seq ?_
    refine WP.region rfl ?_
    refine WO.val (run_eql rfl rfl) rfl rfl rfl ?_
    refine WO.val (run_assign rfl) rfl rfl rfl ?_
    refine WO.nil ?_
    refine NX.go ?_
    refine WP.condP rfl (fun g50 => ?_) (fun g50 => ?_)
    ·
     refine WP.seq ?_
     refine WD.start (fun w => (∀ j, World.cell? w ⟨g2, j, none⟩ = [Value.int .i64 x.kind, str x.name, str x.to_, str x.text, Value.int .i64 x.fuse, Value.slice x.keep.a x.keep.l.length x.keep.cap][j]?)) [] #[false, false, false, false, false, false, false, false, false, false] Ty.mo rfl (by kernel_rfl) hS1 (fun _ h => h.cel_at 0 rfl) (fun w33 hS33 s34 => ?_)
     clear hS1
     refine WD.pure (i := 0) act_spec_t9 #[true, false, false, false, false, false, false, false, false, false] rfl rfl rfl (by kernel_rfl) (PQ.then (PQ.blk (PQ.then PQ.body))) rfl (fun w => run_move rfl) ?_
     refine WD.pure (i := 1) act_spec_t9 #[true, true, false, false, false, false, false, false, false, false] rfl rfl rfl (by kernel_rfl) (PQ.then (PQ.blk (PQ.then PQ.body))) rfl (fun w => run_fieldAddr (q := ⟨g2, 1, none⟩) (show fieldB Tryd.prog 63 1 = some 1 from by kernel_rfl) rfl rfl) ?_
     refine WD.take (i := 2) act_spec_t9 #[true, true, true, false, false, false, false, false, false, false] s34 rfl rfl rfl (by kernel_rfl) (PQ.then (PQ.blk (PQ.then PQ.body))) rfl (fun w hs => run_load Ty.ag9 rfl ((hs 1).trans rfl)) ?_
     refine WD.pure (i := 4) act_spec_t9 #[true, true, true, false, true, false, false, false, false, false] rfl rfl rfl (by kernel_rfl) (PQ.then (PQ.blk (PQ.then PQ.body))) rfl (fun w => run_move rfl) ?_
     refine WD.pure (i := 5) act_spec_t9 #[true, true, true, false, true, true, false, false, false, false] rfl rfl rfl (by kernel_rfl) (PQ.then (PQ.blk (PQ.then PQ.body))) rfl (fun w => run_fieldAddr (q := ⟨g2, 1, none⟩) (show fieldB Tryd.prog 63 1 = some 1 from by kernel_rfl) rfl rfl) ?_
     refine WD.take (i := 6) act_spec_t9 #[true, true, true, false, true, true, true, false, false, false] s34 rfl rfl rfl (by kernel_rfl) (PQ.then (PQ.blk (PQ.then PQ.body))) rfl (fun w hs => run_load Ty.ag9 rfl ((hs 1).trans rfl)) ?_
     refine WD.one (i := 3) act_spec_t9 #[true, true, true, true, true, true, true, false, false, false] rfl (by kernel_rfl) ?_
     have hS35 := hS33.permT [1, 0, 0, 0] (L' := dkA g D :: cel g2 [Value.int .i64 x.kind, str x.name, str x.to_, str x.text, Value.int .i64 x.fuse, Value.slice x.keep.a x.keep.l.length x.keep.cap] 63 :: refA gr E :: (.pure True) :: L) rfl
     clear hS33
     refine WO.call rfl rfl Ty.hd72 rfl (dremove_spec hd.w hd.b hn x.name hS35) (fun v37 w36 pv37 => ?_)
     obtain ⟨rfl, hS36⟩ := pv37
     clear hS35
     refine WO.nil ?_
     have s38 : (∀ j, World.cell? w36 ⟨g2, j, none⟩ = [Value.int .i64 x.kind, str x.name, str x.to_, str x.text, Value.int .i64 x.fuse, Value.slice x.keep.a x.keep.l.length x.keep.cap][j]?) := hS36.cel_at 1 rfl
     refine NX.held s38 ?_
     refine WD.one (i := 7) act_spec_t9 #[true, true, true, true, true, true, true, true, false, false] rfl (by kernel_rfl) ?_
     have hS39 := hS36.permT [2, 0, 0, 0] (L' := refA gr E :: dkA g ((removeD D x.name).1) :: cel g2 [Value.int .i64 x.kind, str x.name, str x.to_, str x.text, Value.int .i64 x.fuse, Value.slice x.keep.a x.keep.l.length x.keep.cap] 63 :: (.pure True) :: L) rfl
     clear hS36
     refine WO.call rfl rfl Ty.hd73 rfl (r4remove_spec he hn2 ht2 x.name hS39) (fun v41 w40 pv41 => ?_)
     obtain ⟨rfl, hS40⟩ := pv41
     clear hS39
     refine WO.nil ?_
     have s42 : (∀ j, World.cell? w40 ⟨g2, j, none⟩ = [Value.int .i64 x.kind, str x.name, str x.to_, str x.text, Value.int .i64 x.fuse, Value.slice x.keep.a x.keep.l.length x.keep.cap][j]?) := hS40.cel_at 2 rfl
     refine NX.held s42 ?_
     refine WD.pure (i := 8) act_spec_t9 #[true, true, true, true, true, true, true, true, true, false] rfl rfl rfl (by kernel_rfl) (PQ.then (PQ.blk (PQ.then PQ.body))) rfl (fun w => run_eql rfl rfl) ?_
     refine WD.pure (i := 9) act_spec_t9 #[true, true, true, true, true, true, true, true, true, true] rfl rfl rfl (by kernel_rfl) (PQ.then (PQ.blk (PQ.then PQ.body))) rfl (fun w => run_assign rfl) ?_
     refine WD.done act_spec_t9 (by kernel_rfl) ?_
     refine NX.go ?_
     refine WP.ret ?_
     refine NX.blkRet ?_
     refine NX.thenRet ?_
     refine NX.done (l := [.tmp 6]) rfl rfl ?_
     have e1 : ∀ D : Dk, actD D x = removeD D x.name := fun D => by unfold actD; rw [if_neg g9, if_neg g24, if_neg g35, if_pos g50]
     rw [e1, e1]
     exact ⟨rfl, (hS40.permT [2, 2, 1, 0] (L' := cel g2 [Value.int .i64 x.kind, str x.name, str x.to_, str x.text, Value.int .i64 x.fuse, Value.slice x.keep.a x.keep.l.length x.keep.cap] 63 :: (.pure True) :: dkA g ((removeD D x.name).1) :: refA gr ((removeD E x.name).1) :: L) rfl).drop.drop⟩
    ·
     refine WP.seq ?_
     refine WP.region rfl ?_
     refine WO.val (run_eql rfl rfl) rfl rfl rfl ?_
     refine WO.val (run_assign rfl) rfl rfl rfl ?_
     refine WO.nil ?_
     refine NX.go ?_
     refine WP.condP rfl (fun g61 => ?_) (fun g61 => ?_)
     ·
      refine WP.seq ?_
      refine WP.region rfl ?_
      refine WO.val (run_move rfl) rfl rfl rfl ?_
      have hS43 := hS1.permT [1, 0, 0, 0] (L' := dkA g D :: cel g2 [Value.int .i64 x.kind, str x.name, str x.to_, str x.text, Value.int .i64 x.fuse, Value.slice x.keep.a x.keep.l.length x.keep.cap] 63 :: refA gr E :: (.pure True) :: L) rfl
      clear hS1
      refine WO.call rfl rfl Ty.hd29 rfl (dsyncNames_spec hd.w hS43) (fun v45 w44 pv45 => ?_)
      obtain ⟨rfl, hS44⟩ := pv45
      clear hS43
      refine WO.val (run_move rfl) rfl rfl rfl ?_
      have hS46 := hS44.permT [2, 0, 0, 0] (L' := refA gr E :: dkA g ((syncNamesD D).1) :: cel g2 [Value.int .i64 x.kind, str x.name, str x.to_, str x.text, Value.int .i64 x.fuse, Value.slice x.keep.a x.keep.l.length x.keep.cap] 63 :: (.pure True) :: L) rfl
      clear hS44
      refine WO.call rfl rfl Ty.hd74 rfl (r4syncNames_spec he hS46) (fun v48 w47 pv48 => ?_)
      obtain ⟨rfl, hS47⟩ := pv48
      clear hS46
      refine WO.val (run_eql rfl rfl) rfl rfl rfl ?_
      refine WO.val (run_assign rfl) rfl rfl rfl ?_
      refine WO.nil ?_
      refine NX.go ?_
      refine WP.ret ?_
      refine NX.blkRet ?_
      refine NX.thenRet ?_
      refine NX.done (l := [.tmp 6]) rfl rfl ?_
      have e1 : ∀ D : Dk, actD D x = syncNamesD D := fun D => by unfold actD; rw [if_neg g9, if_neg g24, if_neg g35, if_neg g50, if_pos g61]
      rw [e1, e1]
      exact ⟨rfl, (hS47.permT [2, 2, 1, 0] (L' := cel g2 [Value.int .i64 x.kind, str x.name, str x.to_, str x.text, Value.int .i64 x.fuse, Value.slice x.keep.a x.keep.l.length x.keep.cap] 63 :: (.pure True) :: dkA g ((syncNamesD D).1) :: refA gr ((syncNamesD E).1) :: L) rfl).drop.drop⟩
     ·
      refine WP.seq ?_
      refine WP.region rfl ?_
      refine WO.val (run_eql rfl rfl) rfl rfl rfl ?_
      refine WO.val (run_assign rfl) rfl rfl rfl ?_
      refine WO.nil ?_
      refine NX.go ?_
      refine WP.condP rfl (fun g68 => ?_) (fun g68 => ?_)
      ·
       refine WP.seq ?_
       refine WP.region rfl ?_
       refine WO.val (run_move rfl) rfl rfl rfl ?_
       refine WO.val (run_fieldAddr (q := ⟨g2, 4, none⟩) (show fieldB Tryd.prog 63 4 = some 4 from by kernel_rfl) rfl rfl) rfl rfl rfl ?_
       refine WO.val (run_load Ty.ag3 rfl ((hS1.cel_at 0 rfl 4).trans rfl)) rfl rfl rfl ?_
       have hS49 := hS1.permT [1, 0, 0, 0] (L' := dkA g D :: cel g2 [Value.int .i64 x.kind, str x.name, str x.to_, str x.text, Value.int .i64 x.fuse, Value.slice x.keep.a x.keep.l.length x.keep.cap] 63 :: refA gr E :: (.pure True) :: L) rfl
       clear hS1
       refine WO.call rfl rfl Ty.hd23 rfl (dfuse_spec x.fuse hS49) (fun v51 w50 pv51 => ?_)
       obtain ⟨rfl, hS50⟩ := pv51
       clear hS49
       refine WO.nil ?_
       refine NX.go ?_
       refine WP.region rfl ?_
       refine WO.val (run_move rfl) rfl rfl rfl ?_
       refine WO.val (run_fieldAddr (q := ⟨g2, 4, none⟩) (show fieldB Tryd.prog 63 4 = some 4 from by kernel_rfl) rfl rfl) rfl rfl rfl ?_
       refine WO.val (run_load Ty.ag3 rfl ((hS50.cel_at 1 rfl 4).trans rfl)) rfl rfl rfl ?_
       have hS52 := hS50.permT [2, 0, 0, 0] (L' := refA gr E :: dkA g (fuseD D x.fuse) :: cel g2 [Value.int .i64 x.kind, str x.name, str x.to_, str x.text, Value.int .i64 x.fuse, Value.slice x.keep.a x.keep.l.length x.keep.cap] 63 :: (.pure True) :: L) rfl
       clear hS50
       refine WO.call rfl rfl Ty.hd75 rfl (r4fuse_spec x.fuse hS52) (fun v54 w53 pv54 => ?_)
       obtain ⟨rfl, hS53⟩ := pv54
       clear hS52
       refine WO.nil ?_
       refine NX.blk ?_
       refine NX.go ?_
       refine WP.seq ?_
       refine WP.region rfl ?_
       refine WO.val (run_assign rfl) rfl rfl rfl ?_
       refine WO.nil ?_
       refine NX.go ?_
       refine WP.ret ?_
       refine NX.done (l := [.tmp 6]) rfl rfl ?_
       have e1 : ∀ D : Dk, actD D x = (fuseD D x.fuse, 0) := fun D => by unfold actD; rw [if_neg g9, if_neg g24, if_neg g35, if_neg g50, if_neg g61, if_pos g68]
       rw [e1, e1]
       exact ⟨congrArg Value.bool (decide_eq_true rfl).symm, (hS53.permT [2, 2, 1, 0] (L' := cel g2 [Value.int .i64 x.kind, str x.name, str x.to_, str x.text, Value.int .i64 x.fuse, Value.slice x.keep.a x.keep.l.length x.keep.cap] 63 :: (.pure True) :: dkA g (fuseD D x.fuse) :: refA gr (fuseD E x.fuse) :: L) rfl).drop.drop⟩
      ·
       refine WP.seq ?_
       refine WP.region rfl ?_
       refine WO.val (run_eql rfl rfl) rfl rfl rfl ?_
       refine WO.val (run_assign rfl) rfl rfl rfl ?_
       refine WO.nil ?_
       refine NX.go ?_
       refine WP.condP rfl (fun g78 => ?_) (fun g78 => ?_)
       ·
        refine WP.seq ?_
        refine WP.region rfl ?_
        refine WO.val (run_move rfl) rfl rfl rfl ?_
        refine WO.buildSlice (l := []) hS1 Tryd.underlying50 rfl (fun w => by kernel_rfl) rfl (fun g56 w55 lg56 hS55 => ?_)
        clear hS1
        have hS55 := hS55.own_of_cel (m := 0) (k := 1) rfl
        refine WO.val (run_fieldAddr (q := ⟨g2, 5, none⟩) (show fieldB Tryd.prog 63 5 = some 5 from by kernel_rfl) rfl rfl) rfl rfl rfl ?_
        refine WO.val (run_load Ty.ag50 rfl ((hS55.cel_at 1 rfl 5).trans rfl)) rfl rfl rfl ?_
        refine WO.append (news := (ri x.keep.l)) 0 rfl Tryd.underlying50 Tryd.underlying50 (fun _ h => by cases h) Ty.sz3 (by decide) Ty.by3 Ty.zr3 rfl rfl rfl rfl hS55 rfl (((fun h => St.rdB h hx.rd) (hS55.focus 4 rfl)).src) (ri_noAgg _) (by omega) (by omega) (fun a58 c59 w57 hS57 => ?_)
        replace hS57 : St B (own a58 x.keep.l.length c59 3 1 (ri x.keep.l) :: cel g2 [Value.int .i64 x.kind, str x.name, str x.to_, str x.text, Value.int .i64 x.fuse, Value.slice x.keep.a x.keep.l.length x.keep.cap] 63 :: dkA g D :: refA gr E :: (.pure True) :: L) w57 := (by have z := hS57; rw [Nat.zero_add] at z; exact z)
        refine WO.as (d := 84) (v := Value.slice a58 x.keep.l.length c59) rfl (by rw [Nat.zero_add]) ?_
        clear hS55
        have hcap := hS57.own_le_i 0 rfl
        have hS60 := hS57.permT [2, 0, 0, 0, 0] (L' := dkA g D :: own a58 x.keep.l.length c59 3 1 (ri x.keep.l) :: cel g2 [Value.int .i64 x.kind, str x.name, str x.to_, str x.text, Value.int .i64 x.fuse, Value.slice x.keep.a x.keep.l.length x.keep.cap] 63 :: refA gr E :: (.pure True) :: L) rfl
        clear hS57
        refine WO.call rfl rfl Ty.hd26 rfl (dcrash_spec (zs := x.keep.l) hd.w hd.b hn ht (fun h => h.own_rd.1) (by omega) (by omega) hS60) (fun v62 w61 pv62 => ?_)
        obtain ⟨rfl, hS61⟩ := pv62
        clear hS60
        refine WO.nil ?_
        refine NX.go ?_
        refine WP.region rfl ?_
        refine WO.val (run_move rfl) rfl rfl rfl ?_
        refine WO.val (run_fieldAddr (q := ⟨g2, 5, none⟩) (show fieldB Tryd.prog 63 5 = some 5 from by kernel_rfl) rfl rfl) rfl rfl rfl ?_
        refine WO.val (run_load Ty.ag50 rfl ((hS61.cel_at 2 rfl 5).trans rfl)) rfl rfl rfl ?_
        have hS63 := hS61.permT [3, 3, 0, 0, 0] (L' := refA gr E :: (.pure True) :: dkA g (crashD D x.keep.l) :: own a58 x.keep.l.length c59 3 1 (ri x.keep.l) :: cel g2 [Value.int .i64 x.kind, str x.name, str x.to_, str x.text, Value.int .i64 x.fuse, Value.slice x.keep.a x.keep.l.length x.keep.cap] 63 :: L) rfl
        clear hS61
        refine WO.call rfl rfl Ty.hd76 rfl (r4crash_spec (zs := x.keep.l) he hn2 ht2 (fun h => St.rdB h hx.rd) hS63) (fun v65 w64 pv65 => ?_)
        obtain ⟨rfl, hS64⟩ := pv65
        clear hS63
        refine WO.nil ?_
        refine NX.blk ?_
        refine NX.go ?_
        refine WP.seq ?_
        refine WP.region rfl ?_
        refine WO.val (run_assign rfl) rfl rfl rfl ?_
        refine WO.nil ?_
        refine NX.go ?_
        refine WP.ret ?_
        refine NX.done (l := [.tmp 6]) rfl rfl ?_
        have e1 : ∀ D : Dk, actD D x = (crashD D x.keep.l, 0) := fun D => by unfold actD; rw [if_neg g9, if_neg g24, if_neg g35, if_neg g50, if_neg g61, if_neg g68, if_pos g78]
        rw [e1, e1]
        exact ⟨congrArg Value.bool (decide_eq_true rfl).symm, (hS64.permT [1, 2, 2, 1, 0] (L' := (.pure True) :: own a58 x.keep.l.length c59 3 1 (ri x.keep.l) :: cel g2 [Value.int .i64 x.kind, str x.name, str x.to_, str x.text, Value.int .i64 x.fuse, Value.slice x.keep.a x.keep.l.length x.keep.cap] 63 :: dkA g (crashD D x.keep.l) :: refA gr (crashD E x.keep.l) :: L) rfl).drop.drop.drop⟩
       ·
        refine WP.skip ?_
        refine NX.blk ?_
        refine NX.go ?_
        refine WP.seq ?_
        refine WP.region rfl ?_
        refine WO.val (run_assign rfl) rfl rfl rfl ?_
        refine WO.nil ?_
        refine NX.go ?_
        refine WP.ret ?_
        refine NX.done (l := [.tmp 6]) rfl rfl ?_
        have e1 : ∀ D : Dk, actD D x = (D, 0) := fun D => by unfold actD; rw [if_neg g9, if_neg g24, if_neg g35, if_neg g50, if_neg g61, if_neg g68, if_neg g78]
        rw [e1, e1]
        exact ⟨congrArg Value.bool (decide_eq_true rfl).symm, (hS1.permT [0, 2, 0, 0] (L' := cel g2 [Value.int .i64 x.kind, str x.name, str x.to_, str x.text, Value.int .i64 x.fuse, Value.slice x.keep.a x.keep.l.length x.keep.cap] 63 :: (.pure True) :: dkA g D :: refA gr E :: L) rfl).drop.drop⟩
theorem sameTexts_spec_t6 : rtab .any (opsOf Tryd.f35 6) = (true, [([], []), ([], []), ([0, 1], [0, 1]), ([2], [2]), ([], []), ([], []), ([4, 5], [4, 5]), ([6], [6]), ([3, 7], [3, 7])]) := by kernel_rfl
theorem sameTexts_spec {B w : World} {L : List HP} {X Y : HP} {a b : Option Addr} {c d : Nat} {l m : List (List UInt8)} (hX : ∀ {L : List HP} {w : World}, St B (X :: L) w → Rd w a l.length 1 (l.map str)) (hY : ∀ {L : List HP} {w : World}, St B (Y :: L) w → Rd w b m.length 1 (m.map str)) (hl : l.length ≤ 4294967296) (hS : St B (X :: Y :: L) w) : Does Tryd.prog 35 [Value.slice a l.length c, Value.slice b m.length d] w (fun v w1 => v = .bool (decide (l = m)) ∧ St B (X :: Y :: L) w1) := by
 refine enter (n := 26) Tryd.func35 rfl rfl [Value.slice a l.length c, Value.slice b m.length d] rfl ?_
 refine WP.seq ?_
 refine WP.region rfl ?_
 refine WO.val (run_assign rfl) rfl rfl rfl ?_
 refine WO.nil ?_
 refine NX.go ?_
 refine WP.seq ?_
 refine WP.seq ?_
 refine WP.region rfl ?_
 refine WO.val (run_move rfl) rfl rfl rfl ?_
 refine WO.val (run_len rfl Tryd.underlying22 rfl) rfl rfl rfl ?_
 refine WO.val (run_move rfl) rfl rfl rfl ?_
 refine WO.val (run_len rfl Tryd.underlying22 rfl) rfl rfl rfl ?_
 refine WO.val (run_neq rfl rfl) rfl rfl rfl ?_
 refine WO.nil ?_
 refine NX.go ?_
 refine WP.condP rfl (fun g10 => ?_) (fun g10 => ?_)
 ·
  refine WP.seq ?_
  refine WP.region rfl ?_
  refine WO.val (run_assign rfl) rfl rfl rfl ?_
  refine WO.nil ?_
  refine NX.go ?_
  refine WP.ret ?_
  refine NX.thenRet ?_
  refine NX.done (l := [.tmp 4]) rfl rfl ?_
  exact ⟨congrArg Value.bool (decide_eq_false (fun h => g10 (by rw [h]))).symm, hS⟩
 ·
  refine WP.skip ?_
  refine NX.go ?_
  refine WP.seq ?_
  refine WP.seq ?_
  refine WP.region rfl ?_
  refine WO.val (run_assign rfl) rfl rfl rfl ?_
  refine WO.nil ?_
  refine NX.go ?_
  refine WP.block ?_
  refine WP.loop (α := Nat) (fun x => match x with | i => [(0, Value.slice a l.length c), (1, Value.slice b m.length d), (5, Value.int .i64 (i : Int))]) (fun x w => match x with | i => (i ≤ l.length ∧ l.take i = m.take i) ∧ St B (X :: Y :: L) w) (fun x => match x with | i => l.length - i) 0 ⟨⟨Nat.zero_le _, rfl⟩, hS⟩ (Sub.cons rfl (Sub.cons rfl (Sub.consE rfl (by first | rfl | first | rfl | (congr 1; omega) | (simp; done) | (simp; omega)) (Sub.nil _)))) ?_
  rintro i w1 ⟨⟨hi, hq⟩, hS1⟩
  clear hS
  refine WP.seq ?_
  refine WP.seq ?_
  refine WP.region rfl ?_
  refine WO.val (run_move rfl) rfl rfl rfl ?_
  refine WO.val (run_move rfl) rfl rfl rfl ?_
  refine WO.val (run_len rfl Tryd.underlying22 rfl) rfl rfl rfl ?_
  refine WO.val (run_lss rfl rfl) rfl rfl rfl ?_
  refine WO.nil ?_
  refine NX.go ?_
  refine WP.condP rfl (fun g14 => ?_) (fun g14 => ?_)
  ·
   refine WP.skip ?_
   refine NX.go ?_
   refine WP.seq ?_
   refine WP.block ?_
   refine WP.seq ?_
   obtain ⟨x0, hx0⟩ : ∃ x, l[i]? = some x := ⟨_, List.getElem?_eq_getElem (by omega)⟩
   obtain ⟨y0, hy0⟩ : ∃ y, m[i]? = some y := ⟨_, List.getElem?_eq_getElem (by omega)⟩
   refine WD.start (fun w => Rd w a l.length 1 (l.map str) ∧ Rd w b m.length 1 (m.map str)) [] #[false, false, false, false, false, false, false, false, false] Ty.mo rfl (by kernel_rfl) hS1 (fun _ h => ⟨(hX (h.focus 0 rfl)), (hY (h.focus 1 rfl))⟩) (fun w2 hS2 s3 => ?_)
   clear hS1
   refine WD.pure (i := 0) sameTexts_spec_t6 #[true, false, false, false, false, false, false, false, false] rfl rfl rfl (by kernel_rfl) (PQ.then (PQ.blk (PQ.then (PQ.then (PQ.blk (PQ.then PQ.body)))))) rfl (fun w => run_move rfl) ?_
   refine WD.pure (i := 1) sameTexts_spec_t6 #[true, true, false, false, false, false, false, false, false] rfl rfl rfl (by kernel_rfl) (PQ.then (PQ.blk (PQ.then (PQ.then (PQ.blk (PQ.then PQ.body)))))) rfl (fun w => run_move rfl) ?_
   refine WD.take (i := 2) sameTexts_spec_t6 #[true, true, true, false, false, false, false, false, false] s3 rfl rfl rfl (by kernel_rfl) (PQ.then (PQ.blk (PQ.then (PQ.then (PQ.blk (PQ.then PQ.body)))))) rfl (fun w hs => run_indexAddr (q := adr a i) Tryd.underlying22 Ty.sz9 rfl rfl (by omega) (by omega) ((hs.1).2.1 (by omega)) (by simp)) ?_
   refine WD.take (i := 3) sameTexts_spec_t6 #[true, true, true, true, false, false, false, false, false] s3 rfl rfl rfl (by kernel_rfl) (PQ.then (PQ.blk (PQ.then (PQ.then (PQ.blk (PQ.then PQ.body)))))) rfl (fun w hs => run_load Ty.ag9 rfl ((hs.1).cell (by rw [List.getElem?_map, hx0]; rfl))) ?_
   refine WD.pure (i := 4) sameTexts_spec_t6 #[true, true, true, true, true, false, false, false, false] rfl rfl rfl (by kernel_rfl) (PQ.then (PQ.blk (PQ.then (PQ.then (PQ.blk (PQ.then PQ.body)))))) rfl (fun w => run_move rfl) ?_
   refine WD.pure (i := 5) sameTexts_spec_t6 #[true, true, true, true, true, true, false, false, false] rfl rfl rfl (by kernel_rfl) (PQ.then (PQ.blk (PQ.then (PQ.then (PQ.blk (PQ.then PQ.body)))))) rfl (fun w => run_move rfl) ?_
   refine WD.take (i := 6) sameTexts_spec_t6 #[true, true, true, true, true, true, true, false, false] s3 rfl rfl rfl (by kernel_rfl) (PQ.then (PQ.blk (PQ.then (PQ.then (PQ.blk (PQ.then PQ.body)))))) rfl (fun w hs => run_indexAddr (q := adr b i) Tryd.underlying22 Ty.sz9 rfl rfl (by omega) (by omega) ((hs.2).2.1 (by omega)) (by simp)) ?_
   refine WD.take (i := 7) sameTexts_spec_t6 #[true, true, true, true, true, true, true, true, false] s3 rfl rfl rfl (by kernel_rfl) (PQ.then (PQ.blk (PQ.then (PQ.then (PQ.blk (PQ.then PQ.body)))))) rfl (fun w hs => run_load Ty.ag9 rfl ((hs.2).cell (by rw [List.getElem?_map, hy0]; rfl))) ?_
   refine WD.pure (i := 8) sameTexts_spec_t6 #[true, true, true, true, true, true, true, true, true] rfl rfl rfl (by kernel_rfl) (PQ.then (PQ.blk (PQ.then (PQ.then (PQ.blk (PQ.then PQ.body)))))) rfl (fun w => run_neqS rfl rfl) ?_
   refine WD.done sameTexts_spec_t6 (by kernel_rfl) ?_
   refine NX.go ?_
   refine WP.condP rfl (fun g25 => ?_) (fun g25 => ?_)
   ·
    refine WP.seq ?_
    refine WP.region rfl ?_
    refine WO.val (run_assign rfl) rfl rfl rfl ?_
    refine WO.nil ?_
    refine NX.go ?_
    refine WP.ret ?_
    refine NX.blkRet ?_
    refine NX.thenRet ?_
    refine NX.thenRet ?_
    refine NX.blkRet ?_
    refine NX.thenRet ?_
    refine NX.done (l := [.tmp 4]) rfl rfl ?_
    exact ⟨congrArg Value.bool (decide_eq_false (fun h => g25 (by rw [h] at hx0; rw [hx0] at hy0; exact Option.some.inj hy0))).symm, hS2⟩
   ·
    refine WP.skip ?_
    refine NX.blk ?_
    refine NX.go ?_
    refine WP.region rfl ?_
    refine WO.val (run_move rfl) rfl rfl rfl ?_
    refine WO.val (run_add rfl rfl (IntWalk.i64_in _ (by omega))) rfl rfl rfl ?_
    refine WO.val (run_assign rfl) rfl rfl rfl ?_
    refine WO.nil ?_
    exact NX.again (i + 1) ⟨⟨by omega, by rw [List.take_add_one, List.take_add_one, hq, hx0, hy0, Decidable.of_not_not g25]⟩, hS2⟩ (by show l.length - (i + 1) < l.length - i; omega) (Sub.cons rfl (Sub.cons rfl (Sub.consE rfl (by congr 1) (Sub.nil _))))
  ·
   refine WP.exit ?_
   refine NX.thenExit ?_
   refine NX.thenExit ?_
   refine NX.blkExit ?_
   refine NX.go ?_
   refine WP.seq ?_
   refine WP.region rfl ?_
   refine WO.val (run_assign rfl) rfl rfl rfl ?_
   refine WO.nil ?_
   refine NX.go ?_
   refine WP.ret ?_
   refine NX.done (l := [.tmp 4]) rfl rfl ?_
   exact ⟨congrArg Value.bool (decide_eq_true (by rw [List.take_of_length_le (by omega), List.take_of_length_le (by omega)] at hq; exact hq)).symm, hS1⟩
end Go.Proofs.YtcehlnpbdffdhaaDoor.SL
