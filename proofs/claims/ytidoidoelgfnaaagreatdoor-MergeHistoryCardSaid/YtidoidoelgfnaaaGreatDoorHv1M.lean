import Derived.Test.YtidoidoelgfnaaaGreatDoorHdM
import Derived.Test.YtidoidoelgfnaaaGreatDoorHk1M
import Derived.Shelf.Lay
import Derived.Shelf.SlGeneric
import Derived.Ground.SlsfProg
import Derived.Test.YtidoidoelgfnaaaGreatDoorKc
import Derived.Test.YtidoidoelgfnaaaGreatDoorSrt
import Derived.Test.YtidoidoelgfnaaaGreatDoorHq
import Derived.Test.YtidoidoelgfnaaaGreatDoorKmM
import Derived.Test.YtidoidoelgfnaaaGreatDoorKg1M
/- The head: an iterator over all series. -/
namespace Go.Proofs.YtidoidoelgfnaaaGreatDoor.SL
open Go.RowKit Go.Proofs.YtidoidoelgfnaaaGreatDoor
open Go.Proofs.YtidoidoelgfnaaaGreatDoorW.PrintLast (rtab opsOf)
set_option linter.unusedVariables false
set_option linter.unusedSimpArgs false
theorem vals_spec {B w : World} {L : List HP} {m : Nat} (hS : St B L w) : Does Tryz.prog 106 [Value.map (some m)] w (fun v w1 => ∃ b, v = .func (.func 131) #[] #[.pointer (some ⟨b, 0, none⟩)] ∧ St B (cel b [.map (some m)] 124 :: L) w1) := by
 refine enter (n := 4) Tryz.func106 rfl rfl [Value.map (some m)] rfl ?_
 refine WP.seq (WP.region rfl ?_)
 refine WO.box (l := [Value.map (some m)]) hS rfl rfl rfl (fun g2 w1 lg2 hS1 => ?_)
 clear hS
 refine WO.asg rfl rfl ?_
 refine WO.nil (NX.go (WP.seq (WP.region rfl ?_)))
 refine WO.V (run_makeFunc rfl rfl) ?_
 refine WO.asg rfl rfl ?_
 refine WO.nil (NX.go (WP.ret ?_))
 refine NX.done (l := [.tmp 2]) rfl rfl ?_
 exact ⟨g2, rfl, hS1⟩
theorem valsIt_spec {B w : World} {L : List HP} {m b l : Nat} {gs : List Nat} {S : List MRow} {K : List (Nat × MRow) → HP} (hlen : gs.length = S.length) (hy : ∀ (ol : List (Nat × MRow)) (q : Nat × MRow) {L : List HP} {w : World}, q ∈ gs.zip S → ol.length < S.length → St B (K ol :: L) w → YDoes Tryz.prog l [ptrP q] w (fun v w1 => v = .bool true ∧ St B (K (ol ++ [q]) :: L) w1)) (hS : St B (mpS m (entR gs S) :: cel b [Value.map (some m)] 124 :: K [] :: L) w) : Does Tryz.prog 131 [(Value.func (.yield l) #[] #[]), Value.pointer (some ⟨b, 0, none⟩)] w (fun v w1 => ∃ ol : List (Nat × MRow), ol.Perm (gs.zip S) ∧ St B (mpS m (entR gs S) :: cel b [Value.map (some m)] 124 :: K ol :: L) w1) := by
 refine enterR (n := 15) Tryz.func131 rfl rfl [(Value.func (.yield l) #[] #[]), Value.pointer (some ⟨b, 0, none⟩)] rfl ?_
 refine WPR.seq ?_
 refine WPR.region rfl (NoOut.then NoOut.body) rfl ?_
 refine WO.V (run_load Ty.ag124 rfl ((hS.cel_at 1 rfl 0).trans rfl)) ?_
 refine WO.rangeM 0 hS rfl Tryz.underlying124 rfl rfl (fun r2 w1 hS1 => ?_)
 clear hS
 refine WO.nil (NX.goR (WPR.block ?_))
 refine WPR.loop (α := List (Nat × MRow) × List (Nat × MRow) × List (List UInt8 × Value) × Option (List UInt8 × Value)) (fun x => match x with | ⟨rr, ol, rst, cur⟩ => [(0, (Value.func (.yield l) #[] #[])), (1, Value.pointer (some ⟨b, 0, none⟩)), (6, Value.pointer (some ⟨r2, 0, none⟩))]) (fun x w => match x with | ⟨rr, ol, rst, cur⟩ => (rst.Perm (entO rr) ∧ (rr ++ ol).Perm (gs.zip S) ∧ (∀ z ∈ rr, z ∈ gs.zip S)) ∧ St B (itM m r2 (entR gs S) rst cur :: cel b [Value.map (some m)] 124 :: K ol :: L) w) (fun x => match x with | ⟨rr, ol, rst, cur⟩ => rst.length) (gs.zip S, [], entR gs S, none) ⟨⟨List.Perm.refl _, by rw [List.append_nil], fun z hz => hz⟩, hS1⟩ (Sub.cons rfl (Sub.cons rfl (Sub.cons rfl (Sub.nil _)))) ?_
 rintro ⟨rr, ol, rst, cur⟩ w3 ⟨⟨hR, hperm, hin⟩, hS3⟩
 clear hS1
 refine WPR.seq ?_
 refine WPR.region rfl (NoOut.then (NoOut.then (NoOut.blk NoOut.body))) rfl ?_
 refine WO.nextM 0 hS3 rfl rfl rfl (fun e7 => ?_) (fun pre7 nk nv post7 e7 w4 hS4 => ?_)
 ·
  refine WO.V (run_extract rfl rfl) ?_
  refine WO.nil (NX.goR (WPR.seq ?_))
  refine WPR.condF rfl rfl ?_
  refine WPR.exit (NX.thenExit (NX.thenExit ?_))
  refine NX.blkExit ?_
  refine NX.ended (l := []) rfl rfl ?_
  have hrn : rr = [] := by subst e7; have := hR.length_eq; unfold entO at this; rw [List.length_map] at this; exact List.length_eq_zero_iff.1 (by simpa using this.symm)
  subst hrn
  have hS5 := St.itM_end hS3
  exact ⟨ol, hperm, hS5⟩
 ·
  obtain ⟨⟨q, row⟩, rr2, hp1, rfl, hp2⟩ := ent_step hR e7
  have hol : ol.length < S.length := by have h9 := hperm.length_eq; have h8 := hp1.length_eq; rw [List.length_append, List.length_zip, hlen, Nat.min_self] at h9; rw [List.length_cons] at h8; omega
  refine WO.V (run_extract rfl rfl) ?_
  refine WO.nil (NX.goR (WPR.seq ?_))
  refine WPR.condT rfl rfl ?_
  refine WPR.skip (NX.goR (WPR.block (WPR.seq ?_)))
  refine WPR.region rfl (NoOut.then (NoOut.blk (NoOut.then (NoOut.blk NoOut.body)))) rfl ?_
  refine WO.V (run_entryM (d := 0) 0 hS4 rfl rfl) ?_
  refine WO.V (run_extract rfl rfl) ?_
  refine WO.asg rfl rfl ?_
  refine WO.nil (NX.goR (WPR.seq ?_))
  refine WPR.regionR rfl ?_
  refine WOR.mv rfl rfl ?_
  refine WOR.mv rfl rfl ?_
  refine WOR.yield (vs := [ptrG q]) rfl rfl rfl (hy ol (q, row) (hin (q, row) (hp1.mem_iff.2 (List.mem_cons_self ..))) hol (hS4.permT [2] (L' := _::_::_::L) rfl)) (fun vw6 w6 pvw6 => ?_)
  obtain ⟨rfl, hS6⟩ := pvw6
  clear hS4
  refine WOR.lift (NoOut.then (NoOut.blk (NoOut.then (NoOut.blk NoOut.body)))) rfl ?_
  refine WO.V (run_not rfl rfl) ?_
  refine WO.nil (NX.goR ?_)
  refine WPR.condF rfl (notB_t rfl) ?_
  refine WPR.skip (NX.blk ?_)
  exact NX.again (rr2, ol ++ [(q, row)], pre7 ++ post7, some (nk, ptrG q)) ⟨⟨hp2, by rw [← List.append_assoc]; exact (List.perm_append_comm.trans ((List.Perm.cons (q, row) (List.Perm.refl _)))).trans (hp1.append_right ol).symm |>.trans hperm, fun z hz => hin z (hp1.mem_iff.2 (List.mem_cons_of_mem _ hz))⟩, (hS6.permT [1, 1] (L' := _::_::_::L) rfl)⟩ (by show (pre7 ++ post7).length < rst.length; rw [e7]; simp only [List.length_append, List.length_cons]; omega) (Sub.cons rfl (Sub.cons rfl (Sub.cons rfl (Sub.nil _))))
end Go.Proofs.YtidoidoelgfnaaaGreatDoor.SL

/- The head: all series, collected. -/
namespace Go.Proofs.YtidoidoelgfnaaaGreatDoor.SL
open Go.RowKit Go.Proofs.YtidoidoelgfnaaaGreatDoor
open Go.Proofs.YtidoidoelgfnaaaGreatDoorW.PrintLast (rtab opsOf)
set_option linter.unusedVariables false
set_option linter.unusedSimpArgs false
theorem appseq_spec {B w : World} {L : List HP} {m b : Nat} {gs : List Nat} {S : List MRow} (hlen : gs.length = S.length) (hn : S.length ≤ 1000000) (hS : St B (mpS m (entR gs S) :: cel b [Value.map (some m)] 124 :: L) w) : Does Tryz.prog 148 [Value.slice none 0 0, Value.func (.func 131) #[] #[Value.pointer (some ⟨b, 0, none⟩)]] w (fun v w1 => ∃ a c, ∃ ol : List (Nat × MRow), v = .slice a ol.length c ∧ ol.Perm (gs.zip S) ∧ St B (own a ol.length c 128 1 (ol.map ptrP) :: mpS m (entR gs S) :: cel b [Value.map (some m)] 124 :: L) w1) := by
 refine enterM (n := 13) Tryz.func148 rfl rfl [Value.slice none 0 0, Value.func (.func 131) #[] #[Value.pointer (some ⟨b, 0, none⟩)]] rfl ?_
 refine WPR.seq ?_
 refine WPR.region rfl (NoOut.then NoOut.marks) rfl ?_
 refine WO.box (l := [Value.slice none 0 0]) hS rfl rfl rfl (fun g2 w1 lg2 hS1 => ?_)
 clear hS
 refine WO.asg rfl rfl ?_
 refine WO.nil (NX.goR (WPR.seq (WPR.seq ?_)))
 refine WPR.region rfl (NoOut.then (NoOut.then NoOut.marks)) rfl ?_
 refine WO.mv rfl rfl ?_
 refine WO.nil (NX.goR (WPR.block ?_))
 refine WPR.rangeFunc (us := []) (cs := [Value.pointer (some ⟨b, 0, none⟩)]) rfl Ty.hd131 rfl hS1 (fun b9 l9 rec9 w3 hok9 hS3 => ?_)
 clear hS1
 replace hS3 := hS3.own_nil 128 1
 have hS4 := apK_shut (ol := []) (hS3.permT [1, 0, 1] (L' := _::_::_::_::_::_::L) rfl)
 clear hS3
 refine Does.mono (valsIt_spec (K := fun ol => apK 128 174 l9 rec9 g2 ol) hlen ?_ (hS4.permT [2, 2] (L' := _::_::_::_::L) rfl)) ?_
 ·
  clear hS4
  intro ol q L9 w5 hq9 hn9 hS5
  obtain ⟨a9, c9, hS6⟩ := apK_open hS5
  clear hS5
  refine hok9.yield 0 hS6 rfl rfl (ptrP q) ?_
  refine WPR.region rfl (NoOut.then NoOut.ff) rfl ?_
  refine WO.asg rfl rfl ?_
  refine WO.nil ?_
  refine NX.begin 0 hS6 rfl hok9.ready (fun w7 hS7 => ?_)
  clear hS6
  refine WPR.block ?_
  refine WPR.region rfl (NoOut.blk NoOut.round) rfl ?_
  refine WO.V (run_load Ty.ag174 rfl ((hS7.cel_at 2 rfl 0).trans rfl)) ?_
  refine WO.mv rfl rfl ?_
  refine WO.buildSlice (l := [Value.pointer (some ⟨q.1, 0, none⟩)]) hS7 Tryz.underlying174 rfl (fun w => by kernel_rfl) rfl (fun g9 w8 lg9 hS8 => ?_)
  clear hS7
  refine WO.append (news := [Value.pointer (some ⟨q.1, 0, none⟩)]) 2 rfl Tryz.underlying174 Tryz.underlying174 (fun _ h => by cases h) Ty.sz128 (by decide) Ty.by128 Ty.zr128 rfl rfl rfl rfl hS8 rfl ((hS8.cel_rd 0 rfl (o := 0) (m := 1) (k := 1) rfl (Nat.le_of_ble_eq_true rfl)).src) rfl (by omega) (by omega) (fun a11 c12 w10 hS10 => ?_)
  replace hS10 : St B (cel g9 [Value.pointer (some ⟨q.1, 0, none⟩)] 128 :: .blk l9 (.loop { rec9 with state := .busy }) :: own a11 (ol.length + 1) c12 128 1 ((ol.map ptrP) ++ [Value.pointer (some ⟨q.1, 0, none⟩)]) :: cel g2 [Value.slice a9 ol.length c9] 174 :: L9) w10 := hS10
  clear hS8
  refine WO.store (l' := [Value.slice a11 (ol.length + 1) c12]) 3 hS10 rfl Ty.sz174 rfl rfl rfl rfl rfl (Nat.le_of_ble_eq_true rfl) rfl (fun w13 (hS13 : St B (_::_::_::cel g2 [Value.slice a11 (ol.length + 1) c12] 174 :: L9) w13) => ?_)
  clear hS10
  refine WO.nil (NX.blk ?_)
  refine NX.roundEnd 1 hS13 rfl hok9.pend hok9.ready (fun w14 hS14 => ?_)
  clear hS13
  have hS15 : St B (.blk l9 (.loop rec9) :: own a11 (ol ++ [q]).length c12 128 1 ((ol ++ [q]).map ptrP) :: cel g2 [.slice a11 (ol ++ [q]).length c12] 174 :: L9) w14 := by have z : St B (_::_::_::L9) w14 := hS14.drop; simpa [ptrP, ptrG] using z
  exact ⟨rfl, apK_shut hS15⟩
 ·
  clear hS4
  rintro v9 w16 ⟨ol, hol, hS16⟩
  obtain ⟨a9, c9, hS17⟩ := apK_open (hS16.permT [2] (L' := _::_::_::_::L) rfl)
  clear hS16
  refine ⟨own a9 ol.length c9 128 1 (ol.map ptrP) :: cel g2 [Value.slice a9 ol.length c9] 174 :: mpS m (entR gs S) :: cel b [Value.map (some m)] 124 :: .blk b9 (.deferred (some [])) :: L, hS17, fun w18 hS18 => ?_⟩
  clear hS17
  refine NX.blk (NX.goR (WPR.seq ?_))
  refine WPR.region rfl (NoOut.then NoOut.marks) rfl ?_
  refine WO.V (run_load Ty.ag174 rfl ((hS18.cel_at 1 rfl 0).trans rfl)) ?_
  refine WO.asg rfl rfl ?_
  refine WO.nil (NX.goR (WPR.ret ?_))
  refine NX.doneM (l := [.tmp 4]) 4 hS18 rfl rfl rfl (fun w19 hS19 => ?_)
  clear hS18
  exact ⟨a9, c9, ol, rfl, hol, (hS19.mask [true, false, true, true, false] (L' := _::_::_::L) rfl)⟩
theorem collect_spec {B w : World} {L : List HP} {m b : Nat} {gs : List Nat} {S : List MRow} (hlen : gs.length = S.length) (hn : S.length ≤ 1000000) (hS : St B (mpS m (entR gs S) :: cel b [Value.map (some m)] 124 :: L) w) : Does Tryz.prog 129 [Value.func (.func 131) #[] #[Value.pointer (some ⟨b, 0, none⟩)]] w (fun v w1 => ∃ a c, ∃ ol : List (Nat × MRow), v = .slice a ol.length c ∧ ol.Perm (gs.zip S) ∧ St B (own a ol.length c 128 1 (ol.map ptrP) :: mpS m (entR gs S) :: cel b [Value.map (some m)] 124 :: L) w1) := by
 refine enter (n := 5) Tryz.func129 rfl rfl [Value.func (.func 131) #[] #[Value.pointer (some ⟨b, 0, none⟩)]] rfl ?_
 refine WP.seq (WP.region rfl ?_)
 refine WO.asg rfl rfl ?_
 refine WO.nil (NX.go (WP.seq (WP.region rfl ?_)))
 refine WO.mv rfl rfl ?_
 refine WO.call rfl rfl Ty.hd148 rfl (appseq_spec hlen hn hS) (fun v2 w1 pv2 => ?_)
 obtain ⟨a9, c9, ol, rfl, hol, hS1⟩ := pv2
 clear hS
 refine WO.asg rfl rfl ?_
 refine WO.nil (NX.go (WP.ret ?_))
 refine NX.done (l := [.tmp 2]) rfl rfl ?_
 exact ⟨a9, c9, ol, rfl, hol, hS1⟩
end Go.Proofs.YtidoidoelgfnaaaGreatDoor.SL

/- The head: all series in their order. -/
namespace Go.Proofs.YtidoidoelgfnaaaGreatDoor.SL
open Go.RowKit Go.Proofs.YtidoidoelgfnaaaGreatDoor
open Go.Proofs.YtidoidoelgfnaaaGreatDoorW.PrintLast (rtab opsOf)
set_option linter.unusedVariables false
set_option linter.unusedSimpArgs false

theorem hs_cell0 {w : World} {g : Nat} {r : MRow} (h : Rd w (some ⟨g, 0, none⟩) 1 3 (hsc r)) : w.cell? ⟨g, 0, none⟩ = some (.slice r.lb.a r.lb.l.length r.lb.cap) := h.2.2 0 (by decide)
theorem hs_rd {B W : World} {L : List HP} {tS tP : TypeId} {gs : List Nat} {S : List MRow} {x : Nat × MRow} (hx : x ∈ gs.zip S) (h : St B (sqA (hsA tS tP) gs S :: L) W) : Rd W (some ⟨x.1, 0, none⟩) 1 3 (hsc x.2) ∧ Rd W x.2.lb.a x.2.lb.l.length 2 (x.2.lb.l.flatMap prc) := by
  obtain ⟨j, h1, h2⟩ := zip_at hx
  obtain ⟨q, hq, h3⟩ := sqA_pick h2 h
  have e : q = x.1 := by rw [h1] at hq; exact (Option.some.inj hq).symm
  subst e
  have h4 := hs_open h3
  exact ⟨h4.cel_rd 0 rfl (o := 0) (m := 1) (k := 3) rfl (Nat.le_refl 3), rdH_rd (h4.permT [1, 0] (L' := labA x.2.lb :: cel x.1 (hsc x.2) tS :: _) rfl)⟩
open Go.Shelf in
shelf_lay_g SlLaysF.n6 Slsf 6 at Tryz 130 as Tryz.sortPtrs
def cmpX (x y : Nat × MRow) : Int := cmpF x.2.lb.l y.2.lb.l
theorem cmpX_swo : Go.Sort.SWO (ltOf cmpX) := ⟨fun x => cmp_swo.irrefl x.2.lb.l, fun x y z => cmp_swo.trans x.2.lb.l y.2.lb.l z.2.lb.l, fun x y z => cmp_swo.ntrans x.2.lb.l y.2.lb.l z.2.lb.l⟩
theorem t107_1 : rtab .any (opsOf Tryz.f107 1) = (true, [([], []), ([0], [0]), ([1], [1]), ([2], [2]), ([], []), ([4], [4]), ([5], [5]), ([6], [6]), ([3, 7], [3, 7]), ([8, 8, 0, 1, 2, 3, 4, 5, 6, 7, 8], [8])]) := by kernel_rfl
theorem sercmp_spec {B w : World} {L : List HP} (x y : Nat × MRow) (h1 : x.2.lb.l.length ≤ 4398046511104) (h2 : y.2.lb.l.length ≤ 4398046511104) (hS : St B (rdH (some ⟨x.1, 0, none⟩) 1 3 (hsc x.2) :: (labA x.2.lb) :: rdH (some ⟨y.1, 0, none⟩) 1 3 (hsc y.2) :: (labA y.2.lb) :: L) w) : Does Tryz.prog 107 [Value.pointer (some ⟨x.1, 0, none⟩), Value.pointer (some ⟨y.1, 0, none⟩)] w (fun v w1 => v = .int .i64 (cmpX x y) ∧ St B (rdH (some ⟨x.1, 0, none⟩) 1 3 (hsc x.2) :: (labA x.2.lb) :: rdH (some ⟨y.1, 0, none⟩) 1 3 (hsc y.2) :: (labA y.2.lb) :: L) w1) := by
 refine enter (n := 14) Tryz.func107 rfl rfl [Value.pointer (some ⟨x.1, 0, none⟩), Value.pointer (some ⟨y.1, 0, none⟩)] rfl ?_
 refine WP.seq (WP.region rfl ?_)
 refine WO.asg rfl rfl ?_
 refine WO.nil (NX.go (WP.seq ?_))
 refine WD.start (fun w => (World.cell? w ⟨x.1, 0, none⟩ = some (.slice x.2.lb.a x.2.lb.l.length x.2.lb.cap)) ∧ (World.cell? w ⟨y.1, 0, none⟩ = some (.slice y.2.lb.a y.2.lb.l.length y.2.lb.cap))) [8] (bt 10 0) Ty.mo rfl (by kernel_rfl) hS (fun _ h => ⟨(hs_cell0 (rdH_rd (h.focus 0 rfl))), (hs_cell0 (rdH_rd (h.focus 2 rfl)))⟩) (fun w1 hS1 s2 => ?_)
 clear hS
 refine DP (i := 0) t107_1 (bt 10 1) rfl rfl rfl rfl (fun w => run_move rfl) ?_
 refine DP (i := 1) t107_1 (bt 10 3) rfl rfl rfl rfl (fun w => run_nilCheck rfl) ?_
 refine DP (i := 2) t107_1 (bt 10 7) rfl rfl rfl rfl (fun w => run_fa 0 ⟨x.1, 0, none⟩ rfl rfl) ?_
 refine DT (i := 3) t107_1 (bt 10 15) s2 rfl rfl rfl rfl (fun w hs => run_load Ty.ag65 rfl hs.1) ?_
 refine DP (i := 4) t107_1 (bt 10 31) rfl rfl rfl rfl (fun w => run_move rfl) ?_
 refine DP (i := 5) t107_1 (bt 10 63) rfl rfl rfl rfl (fun w => run_nilCheck rfl) ?_
 refine DP (i := 6) t107_1 (bt 10 127) rfl rfl rfl rfl (fun w => run_fa 0 ⟨y.1, 0, none⟩ rfl rfl) ?_
 refine DT (i := 7) t107_1 (bt 10 255) s2 rfl rfl rfl rfl (fun w hs => run_load Ty.ag65 rfl hs.2) ?_
 refine WD.one (i := 8) t107_1 (bt 10 511) rfl (by kernel_rfl) ?_
 have hS3 := hS1.permT [1, 2] (L' := _::_::_::_::L) rfl
 clear hS1
 refine WO.call rfl rfl Ty.hd95 rfl (lcmp_spec rdH_rd rdH_rd h1 h2 hS3) (fun v5 w4 pv5 => ?_)
 obtain ⟨rfl, hS4⟩ := pv5
 clear hS3
 refine WO.nil ?_
 refine NX.last (by decide) ?_
 refine DP (i := 9) t107_1 (bt 10 1023) rfl rfl rfl rfl (fun w => run_assign rfl) ?_
 refine WD.done t107_1 (by kernel_rfl) ?_
 refine NX.go (WP.ret ?_)
 refine NX.done (l := [.tmp 4]) rfl rfl ?_
 exact ⟨rfl, (hS4.permT [2, 0, 1] (L' := _::_::_::_::L) rfl)⟩

theorem sortPtr_spec {B w : World} {L : List HP} {a : Option Addr} {c : Nat} {gs : List Nat} {S : List MRow} {ol : List (Nat × MRow)} (hol : ∀ x ∈ ol, x ∈ gs.zip S) (hn : ol.length ≤ 1000000) (hl : ∀ r ∈ S, r.lb.l.length ≤ 4398046511104) (hS : St B (own a ol.length c 128 1 (ol.map ptrP) :: sqA (hsA 131 103) gs S :: L) w) :
    Does Tryz.prog 130 [.slice a ol.length c, .func (.func 107) #[] #[]] w (fun v w1 => v = .tuple #[] ∧ ∃ l1 : List (Nat × MRow), l1.Perm ol ∧ l1.Pairwise (fun x y => ¬ cmpX y x < 0) ∧ St B (own a l1.length c 128 1 (l1.map ptrP) :: sqA (hsA 131 103) gs S :: L) w1) := by
  have hx2 : ∀ x ∈ ol, x.2.lb.l.length ≤ 4398046511104 := fun x hx => by obtain ⟨j, _, h2⟩ := zip_at (hol x hx); exact hl x.2 (List.mem_of_getElem? h2)
  have h := sort1 (enc := ptrP) (g := 107) (cb := #[]) (t := 128) Tryz.sortPtrs (fun _ => rfl) cmpX_swo Ty.hd107 (by omega) hS (fun W l' hl' hW x hx y hy => by
    have h0 := hW.permT [1, 0] (L' := _::_::L) rfl
    obtain ⟨r1, r2⟩ := hs_rd (hol x hx) h0
    obtain ⟨r3, r4⟩ := hs_rd (hol y hy) h0
    have s1 := rdH_base (k := 2) (by decide) r4 (St.start W)
    have s2 := rdH_base (k := 3) (by decide) r3 s1
    have s3 := rdH_base (k := 2) (by decide) r2 s2
    have s4 := rdH_base (k := 3) (by decide) r1 s3
    exact (sercmp_spec x y (hx2 x hx) (hx2 y hy) s4).mono fun v w1 ⟨e, h1⟩ => ⟨e, h1.drop.drop.drop.drop⟩)
  refine h.mono fun v w1 ⟨hv, l1, hp, hs, h1⟩ => ⟨hv, l1, hp, hs, ?_⟩
  rw [hp.length_eq]; exact h1
theorem sortedf_spec {B w : World} {L : List HP} {m b : Nat} {gs : List Nat} {S : List MRow} (hlen : gs.length = S.length) (hn : S.length ≤ 1000000) (hl : ∀ r ∈ S, r.lb.l.length ≤ 4398046511104) (hS : St B (mpS m (entR gs S) :: cel b [Value.map (some m)] 124 :: sqA (hsA 131 103) gs S :: L) w) : Does Tryz.prog 105 [Value.func (.func 131) #[] #[Value.pointer (some ⟨b, 0, none⟩)], Value.func (.func 107) #[] #[]] w (fun v w1 => ∃ a c, ∃ ol : List (Nat × MRow), v = .slice a ol.length c ∧ ol.Perm (gs.zip S) ∧ ol.Pairwise (fun x y => ¬ cmpX y x < 0) ∧ St B (own a ol.length c 128 1 (ol.map ptrP) :: mpS m (entR gs S) :: cel b [Value.map (some m)] 124 :: sqA (hsA 131 103) gs S :: L) w1) := by
 refine enter (n := 12) Tryz.func105 rfl rfl [Value.func (.func 131) #[] #[Value.pointer (some ⟨b, 0, none⟩)], Value.func (.func 107) #[] #[]] rfl ?_
 refine WP.seq (WP.region rfl ?_)
 refine WO.asg rfl rfl ?_
 refine WO.nil (NX.go (WP.seq (WP.region rfl ?_)))
 refine WO.mv rfl rfl ?_
 refine WO.call rfl rfl Ty.hd129 rfl (collect_spec hlen hn hS) (fun v2 w1 pv2 => ?_)
 obtain ⟨a9, c9, ol, rfl, hol, hS1⟩ := pv2
 clear hS
 have hoz : ∀ x ∈ ol, x ∈ gs.zip S := fun x hx => hol.subset hx
 have holn : ol.length = S.length := by rw [hol.length_eq, List.length_zip, hlen, Nat.min_self]
 refine WO.asg rfl rfl ?_
 refine WO.nil (NX.go (WP.seq (WP.region rfl ?_)))
 refine WO.mv rfl rfl ?_
 refine WO.mv rfl rfl ?_
 have hS3 := hS1.permT [0, 2] (L' := _::_::_::_::L) rfl
 clear hS1
 refine WO.call rfl rfl Ty.hd130 rfl (sortPtr_spec hoz (by omega) hl hS3) (fun v5 w4 pv5 => ?_)
 obtain ⟨rfl, l1, hp1, hs1, hS4⟩ := pv5
 clear hS3
 refine WO.nil (NX.go (WP.seq (WP.region rfl ?_)))
 refine WO.mv rfl rfl ?_
 refine WO.asg rfl rfl ?_
 refine WO.nil (NX.go (WP.ret ?_))
 refine NX.done (l := [.tmp 4]) rfl rfl ?_
 exact ⟨a9, c9, l1, by rw [hp1.length_eq]; rfl, hp1.trans hol, hs1, (hS4.permT [0, 1, 1] (L' := _::_::_::_::L) rfl)⟩
end Go.Proofs.YtidoidoelgfnaaaGreatDoor.SL

/- The head: queries. -/
namespace Go.Proofs.YtidoidoelgfnaaaGreatDoor.SL
open Go.RowKit Go.Proofs.YtidoidoelgfnaaaGreatDoor
open Go.Proofs.YtidoidoelgfnaaaGreatDoorW.PrintLast (rtab opsOf)
set_option linter.unusedVariables false
set_option linter.unusedSimpArgs false
theorem srt_spec {B w : World} {L : List HP} {g : Nat} (hS : St B L w) : Does Tryz.prog 67 [Value.pointer (some ⟨g, 0, none⟩)] w (fun v w1 => ∃ b, v = .func (.func 104) #[] #[.pointer (some ⟨b, 0, none⟩)] ∧ St B (cel b [.pointer (some ⟨g, 0, none⟩)] 62 :: L) w1) := by
 refine enter (n := 4) Tryz.func67 rfl rfl [Value.pointer (some ⟨g, 0, none⟩)] rfl ?_
 refine WP.seq (WP.region rfl ?_)
 refine WO.box (l := [Value.pointer (some ⟨g, 0, none⟩)]) hS rfl rfl rfl (fun g2 w1 lg2 hS1 => ?_)
 clear hS
 refine WO.asg rfl rfl ?_
 refine WO.nil (NX.go (WP.seq (WP.region rfl ?_)))
 refine WO.V (run_makeFunc rfl rfl) ?_
 refine WO.asg rfl rfl ?_
 refine WO.nil (NX.go (WP.ret ?_))
 refine NX.done (l := [.tmp 2]) rfl rfl ?_
 exact ⟨g2, rfl, hS1⟩
theorem srtIt_spec {B w : World} {L : List HP} {m bb g l : Nat} {gs : List Nat} {S : List MRow} {K : List (Nat × MRow) → HP} (hlen : gs.length = S.length) (hn : S.length ≤ 1000000) (hl : ∀ r ∈ S, r.lb.l.length ≤ 4398046511104) (hy : ∀ (ol : List (Nat × MRow)) (q : Nat × MRow) {L : List HP} {w : World}, q ∈ gs.zip S → ol.length < S.length → St B (sqA (hsA 131 103) gs S :: K ol :: L) w → YDoes Tryz.prog l [ptrP q] w (fun v w1 => v = .bool true ∧ St B (sqA (hsA 131 103) gs S :: K (ol ++ [q]) :: L) w1)) (hS : St B (cel bb [Value.pointer (some ⟨g, 0, none⟩)] 62 :: cel g [Value.map (some m)] 126 :: mpS m (entR gs S) :: sqA (hsA 131 103) gs S :: K [] :: L) w) : Does Tryz.prog 104 [(Value.func (.yield l) #[] #[]), Value.pointer (some ⟨bb, 0, none⟩)] w (fun v w1 => ∃ ol : List (Nat × MRow), ol.Perm (gs.zip S) ∧ ol.Pairwise (fun x y => ¬ cmpX y x < 0) ∧ St B (cel bb [Value.pointer (some ⟨g, 0, none⟩)] 62 :: cel g [Value.map (some m)] 126 :: mpS m (entR gs S) :: sqA (hsA 131 103) gs S :: K ol :: L) w1) := by
 refine enterR (n := 23) Tryz.func104 rfl rfl [(Value.func (.yield l) #[] #[]), Value.pointer (some ⟨bb, 0, none⟩)] rfl ?_
 refine WPR.seq ?_
 refine WPR.region rfl (NoOut.then NoOut.body) rfl ?_
 refine WO.V (run_load Ty.ag62 rfl ((hS.cel_at 0 rfl 0).trans rfl)) ?_
 refine WO.V (run_nilCheck rfl) ?_
 refine WO.V (run_fa 0 ⟨g, 0, none⟩ rfl rfl) ?_
 refine WO.V (run_load Ty.ag124 rfl ((hS.cel_at 1 rfl 0).trans rfl)) ?_
 refine WO.call rfl rfl Ty.hd106 rfl (vals_spec hS) (fun v2 w1 pv2 => ?_)
 obtain ⟨b, rfl, hS1⟩ := pv2
 clear hS
 have hS3 := hS1.permT [3, 0, 2] (L' := _::_::_::_::_::_::L) rfl
 clear hS1
 refine WO.call rfl rfl Ty.hd105 rfl (sortedf_spec hlen hn hl hS3) (fun v5 w4 pv5 => ?_)
 obtain ⟨a9, c9, ol, rfl, hol, hso, hS4⟩ := pv5
 clear hS3
 have holz : ∀ x ∈ ol, x ∈ gs.zip S := fun x hx => hol.subset hx
 have holn : ol.length = S.length := by rw [hol.length_eq, List.length_zip, hlen, Nat.min_self]
 have hS6 : St B (own a9 ol.length c9 128 1 (ol.map ptrP) :: _::_::_::_::_::L) w4 := (hS4.mask [true, true, false] (L' := _::_::_::_::_::_::L) rfl)
 clear hS4
 refine WO.asg rfl rfl ?_
 refine WO.nil (NX.goR (WPR.seq ?_))
 refine WPR.region rfl (NoOut.then NoOut.body) rfl ?_
 refine WO.mv rfl rfl ?_
 refine WO.V (run_len rfl Tryz.underlying174 rfl) ?_
 refine WO.mv rfl rfl ?_
 refine WO.nil (NX.goR (WPR.block ?_))
 refine WPR.loop (α := Nat) (fun x => match x with | k => [(0, (Value.func (.yield l) #[] #[])), (1, Value.pointer (some ⟨bb, 0, none⟩)), (12, Value.slice a9 ol.length c9), (13, Value.int .i64 ((ol.length : Nat) : Int)), (14, Value.int .i64 (k : Int))]) (fun x w => match x with | k => (k ≤ ol.length) ∧ St B (own a9 ol.length c9 128 1 (ol.map ptrP) :: sqA (hsA 131 103) gs S :: K (ol.take k) :: cel bb [Value.pointer (some ⟨g, 0, none⟩)] 62 :: cel g [Value.map (some m)] 126 :: mpS m (entR gs S) :: L) w) (fun x => match x with | k => ol.length - k) 0 ⟨Nat.zero_le _, (hS6.permT [0, 1, 3, 1, 1] (L' := _::_::_::_::_::_::L) rfl)⟩ (Sub.cons rfl (Sub.cons rfl (Sub.cons rfl (Sub.cons rfl (Sub.consE rfl (by first | rfl | first | rfl | (congr 1; omega) | (simp; done) | (simp; omega)) (Sub.nil _)))))) ?_
 rintro k w7 ⟨hk, hS7⟩
 clear hS6
 refine WPR.seq ?_
 refine WPR.region rfl (NoOut.then (NoOut.then (NoOut.blk NoOut.body))) rfl ?_
 refine WO.V (run_lss rfl rfl) ?_
 refine WO.nil (NX.goR (WPR.seq ?_))
 refine WPR.condP rfl (fun g15 => ?_) (fun g15 => ?_)
 ·
  refine WPR.skip (NX.goR (WPR.seq (WPR.block (WPR.seq ?_))))
  obtain ⟨q, hq⟩ : ∃ qq, ol[k]? = some qq := ⟨_, List.getElem?_eq_getElem (by omega)⟩
  refine WPR.region rfl (NoOut.then (NoOut.blk (NoOut.then (NoOut.then (NoOut.blk NoOut.body))))) rfl ?_
  refine WO.V (run_indexAddr (q := adr a9 k) Tryz.underlying174 Ty.sz128 rfl rfl (by omega) (by omega) ((hS7.own_rd_i 0 rfl).2.1 (by omega)) (by simp)) ?_
  refine WO.V (run_load Ty.ag128 rfl ((hS7.own_rd_i 0 rfl).cell (by rw [List.getElem?_map, hq]; rfl))) ?_
  refine WO.asg rfl rfl ?_
  refine WO.nil (NX.goR (WPR.seq ?_))
  refine WPR.regionR rfl ?_
  refine WOR.mv rfl rfl ?_
  refine WOR.mv rfl rfl ?_
  refine WOR.yield (vs := [ptrP q]) rfl rfl rfl (hy (ol.take k) q (holz q (List.mem_of_getElem? hq)) (by rw [List.length_take]; omega) (hS7.permT [1, 1] (L' := _::_::_::_::_::_::L) rfl)) (fun vw8 w8 pvw8 => ?_)
  obtain ⟨rfl, hS8⟩ := pvw8
  rw [← take_snocM hq] at hS8
  clear hS7
  refine WOR.lift (NoOut.then (NoOut.blk (NoOut.then (NoOut.then (NoOut.blk NoOut.body))))) rfl ?_
  refine WO.V (run_not rfl rfl) ?_
  refine WO.nil (NX.goR ?_)
  refine WPR.condF rfl (notB_t rfl) ?_
  refine WPR.skip (NX.blk (NX.goR ?_))
  refine WPR.region rfl (NoOut.then (NoOut.blk NoOut.body)) rfl ?_
  refine WO.V (run_add rfl rfl (IntWalk.i64_in _ (by omega))) ?_
  refine WO.mv rfl rfl ?_
  refine WO.nil ?_
  exact NX.again (k + 1) ⟨by omega, (hS8.permT [2] (L' := _::_::_::_::_::_::L) rfl)⟩ (by show ol.length - (k + 1) < ol.length - k; omega) (Sub.cons rfl (Sub.cons rfl (Sub.cons rfl (Sub.cons rfl (Sub.consE rfl (by congr 1) (Sub.nil _))))))
 ·
  refine WPR.exit (NX.thenExit (NX.thenExit ?_))
  refine NX.blkExit ?_
  refine NX.ended (l := []) rfl rfl ?_
  exact ⟨ol, hol, hso, by have z := (hS7.permT [0, 2, 2, 2] (L' := _::_::_::_::_::_::L) rfl).drop; rw [List.take_of_length_le (by omega)] at z; exact z⟩
theorem hquery_spec_t4 : rtab .any (opsOf Tryz.f33 4) = (true, [([], []), ([0], [0]), ([1], [1]), ([2], [2]), ([], []), ([], []), ([3, 4, 5], [3, 4, 5]), ([6], [6]), ([7], [7]), ([7], [7]), ([8, 6, 0, 1, 2, 3, 4, 5, 6, 7, 8], [8]), ([9, 10, 0, 1, 2, 3, 4, 5, 6, 7, 8, 9, 10], [9])]) := by kernel_rfl
theorem hquery_spec_t5 : rtab .any (opsOf Tryz.f33 5) = (true, [([], []), ([], []), ([0, 1], [0, 1]), ([2], [2]), ([3], [3]), ([3], [3]), ([5, 3], [3, 5]), ([6, 3], [3, 6]), ([7, 3], [3, 7]), ([4, 8, 3, 3], [3, 4, 8]), ([3, 9], [3, 9])]) := by kernel_rfl
theorem hquery_spec_t6 : rtab .any (opsOf Tryz.f33 6) = (true, [([], []), ([], []), ([1], [1]), ([2], [2]), ([3], [3]), ([4], [4]), ([], []), ([6], [6]), ([7], [7]), ([8], [8]), ([], []), ([], []), ([9, 10, 11], [9, 10, 11]), ([12, 5], [12]), ([5, 13], [5, 13]), ([14], [14]), ([0, 15, 13], [0, 15]), ([16, 16, 0, 1, 2, 3, 4, 5, 6, 7, 8, 9, 10, 11, 12, 13, 14, 15, 16], [16])]) := by kernel_rfl
set_option maxHeartbeats 1000000 in
theorem hquery_spec {B w : World} {L : List HP} {M : HP} {g Mb : Nat} {m : Option Addr} {cap : Nat} {ask : List Mt} {A : List RowP} (hMt : ∀ {L : List HP} {w : World}, St B (M :: L) w → Rd w m ask.length 3 (ask.flatMap mtc)) (hA : WfH A Mb) (hMb : Mb ≤ 4398046511104) (hAn : A.length ≤ 1000000) (hmz : SzM ask) (hmn : ask.length ≤ 4398046511104) (fr to : Int) (hS : St B (hdA 126 131 103 g A :: M :: L) w) : Does Tryz.prog 33 [Value.pointer (some ⟨g, 0, none⟩), Value.slice m ask.length cap, Value.int .i64 fr, Value.int .i64 to] w (fun v w1 => ∃ a1 c1, ∃ out : List MSer, v = .slice a1 out.length c1 ∧ out.map MSer.p = qryR ask fr to A ∧ out.length ≤ 1000000 ∧ (∀ s ∈ out, s.lb.l.length ≤ 4398046511104 ∧ s.pt.l.length ≤ 4398046511104) ∧ St B (own a1 out.length c1 68 2 (out.flatMap msc) :: allA serA out :: hdA 126 131 103 g A :: M :: L) w1) := by
 obtain ⟨mh, gs, S, hp, hlen, hS⟩ := hd_open hS
 have hSl : S.length = A.length := by have := hp.length_eq; rwa [List.length_map] at this
 have hll : ∀ r ∈ S, r.lb.l.length ≤ 4398046511104 := fun r hr => by have := (chk_sz (perm_chk hp hA.chk r hr)).1; omega
 refine enterM (n := 55) Tryz.func33 rfl rfl [Value.pointer (some ⟨g, 0, none⟩), Value.slice m ask.length cap, Value.int .i64 fr, Value.int .i64 to] rfl ?_
 refine WPR.seq ?_
 refine WPR.region rfl (NoOut.then NoOut.marks) rfl ?_
 refine WO.box (l := [Value.slice m ask.length cap]) hS rfl rfl rfl (fun g2 w1 lg2 hS1 => ?_)
 clear hS
 refine WO.box (l := [Value.int .i64 fr]) hS1 rfl rfl rfl (fun g4 w3 lg4 hS3 => ?_)
 clear hS1
 refine WO.box (l := [Value.int .i64 to]) hS3 rfl rfl rfl (fun g6 w5 lg6 hS5 => ?_)
 clear hS3
 refine WO.asg rfl rfl ?_
 refine WO.nil (NX.goR (WPR.seq ?_))
 refine WPR.region rfl (NoOut.then NoOut.marks) rfl ?_
 refine WO.alloc (l := [Value.slice none 0 0]) hS5 Ty.zr37 rfl rfl (fun g8 w7 lg8 hS7 => ?_)
 clear hS5
 refine WO.nil (NX.goR (WPR.seq (WPR.seq ?_)))
 refine WPR.region rfl (NoOut.then (NoOut.then NoOut.marks)) rfl ?_
 refine WO.mv rfl rfl ?_
 refine WO.call rfl rfl Ty.hd67 rfl (srt_spec (g := g) hS7) (fun v10 w9 pv10 => ?_)
 obtain ⟨bb, rfl, hS9⟩ := pv10
 clear hS7
 refine WO.nil (NX.goR (WPR.block ?_))
 refine WPR.rangeFunc (us := []) (cs := [Value.pointer (some ⟨bb, 0, none⟩)]) rfl Ty.hd104 rfl hS9 (fun b9 l9 rec9 w11 hok9 hS11 => ?_)
 clear hS9
 replace hS11 := hS11.own_nil 68 2
 have hS12 : St B (allA serA [] :: own none 0 0 68 2 [] :: .blk l9 (.loop rec9) :: .blk b9 (.deferred (some [])) :: cel bb [Value.pointer (some ⟨g, 0, none⟩)] 62 :: cel g8 [Value.slice none 0 0] 37 :: cel g6 [Value.int .i64 to] 2 :: cel g4 [Value.int .i64 fr] 2 :: cel g2 [Value.slice m ask.length cap] 24 :: cel g [Value.map (some mh)] 126 :: mpS mh (entR gs S) :: sqA (hsA 131 103) gs S :: _::L) w11 := hS11.addPure trivial
 clear hS11
 have hS13 := qK_shut (QOK.start ask fr to) (hS12.permT [2, 1, 0, 2, 4, 3, 2, 5] (L' := _::_::_::_::_::_::_::_::_::_::_::_::_::L) rfl)
 clear hS12
 refine Does.mono (srtIt_spec (K := fun ol => qK M 68 37 24 2 l9 rec9 g8 g2 g4 g6 m cap ask fr to ol) hlen (by omega) hll ?_ (hS13.permT [2, 2, 2, 2] (L' := _::_::_::_::_::_::L) rfl)) ?_
 ·
  clear hS13
  rintro ol ⟨q, row⟩ L9 w14 hq9 hn9 hS14
  obtain ⟨j, hj1, hj2⟩ := zip_at hq9
  simp only at hj1 hj2
  have hrA : row.p ∈ A := hp.subset (List.mem_map.2 ⟨row, List.mem_of_getElem? hj2, rfl⟩)
  have hok := hA.ok row.p hrA
  have hrp : row.pt.l.length ≤ 4398046511104 := Nat.le_trans (hA.pts row.p hrA) hMb
  have hrl : row.lb.l.length ≤ 4398046511104 := hll row (List.mem_of_getElem? hj2)
  obtain ⟨q', hq', hS15⟩ := sqA_pick hj2 hS14
  have hqq : q' = q := by rw [hj1] at hq'; exact (Option.some.inj hq').symm
  subst hqq
  clear hS14
  have hS16 : St B (cel q' (hsc row) 131 :: (labA row.lb) :: own row.pt.a row.pt.l.length row.pt.cap 103 2 (row.pt.l.flatMap ptc) :: sqBut (hsA 131 103) j gs S :: qK M 68 37 24 2 l9 rec9 g8 g2 g4 g6 m cap ask fr to ol :: L9) w14 := hs_open hS15
  clear hS15
  obtain ⟨out, oa, oc, hQ, hS17⟩ := qK_open (hS16.permT [4] (L' := _::_::_::_::_::L9) rfl)
  clear hS16
  have hon := hQ.len
  refine hok9.yield 0 hS17 rfl rfl (ptrG q') ?_
  refine WPR.region rfl (NoOut.then NoOut.ff) rfl ?_
  refine WO.asg rfl rfl ?_
  refine WO.nil ?_
  refine NX.begin 0 hS17 rfl hok9.ready (fun w18 hS18 => ?_)
  clear hS17
  refine WPR.block (WPR.seq ?_)
  refine WPR.start (fun w => (∀ jz, World.cell? w ⟨g8, jz, none⟩ = [Value.slice oa out.length oc][jz]?) ∧ (∀ jz, World.cell? w ⟨g2, jz, none⟩ = [Value.slice m ask.length cap][jz]?) ∧ (∀ jz, World.cell? w ⟨g4, jz, none⟩ = [Value.int .i64 fr][jz]?) ∧ (∀ jz, World.cell? w ⟨g6, jz, none⟩ = [Value.int .i64 to][jz]?) ∧ (∀ jz, World.cell? w ⟨q', jz, none⟩ = (hsc row)[jz]?)) [] (bt 12 0) Ty.mo rfl (by kernel_rfl) (NoOut.then (NoOut.blk NoOut.round)) (by kernel_rfl) hS18 (fun _ h => ⟨h.cel_at 3 rfl, h.cel_at 4 rfl, h.cel_at 5 rfl, h.cel_at 6 rfl, h.cel_at 8 rfl⟩) (fun w19 hS19 s20 => ?_)
  clear hS18
  refine WD.pure (i := 0) hquery_spec_t4 (bt 12 1) rfl rfl rfl (by kernel_rfl) (PQ.then (PQ.blk PQ.round)) rfl (fun w => run_move rfl) ?_
  refine WD.pure (i := 1) hquery_spec_t4 (bt 12 3) rfl rfl rfl (by kernel_rfl) (PQ.then (PQ.blk PQ.round)) rfl (fun w => run_nilCheck rfl) ?_
  refine WD.pure (i := 2) hquery_spec_t4 (bt 12 7) rfl rfl rfl (by kernel_rfl) (PQ.then (PQ.blk PQ.round)) rfl (fun w => run_fa 1 ⟨q', 1, none⟩ rfl rfl) ?_
  refine WD.take (i := 3) hquery_spec_t4 (bt 12 15) s20 rfl rfl rfl (by kernel_rfl) (PQ.then (PQ.blk PQ.round)) rfl (fun w hs => run_load Ty.ag66 rfl ((hs.2.2.2.2 1).trans rfl)) ?_
  refine WD.take (i := 4) hquery_spec_t4 (bt 12 31) s20 rfl rfl rfl (by kernel_rfl) (PQ.then (PQ.blk PQ.round)) rfl (fun w hs => run_load Ty.ag2 rfl ((hs.2.2.1 0).trans rfl)) ?_
  refine WD.take (i := 5) hquery_spec_t4 (bt 12 63) s20 rfl rfl rfl (by kernel_rfl) (PQ.then (PQ.blk PQ.round)) rfl (fun w hs => run_load Ty.ag2 rfl ((hs.2.2.2.1 0).trans rfl)) ?_
  refine WD.one (i := 6) hquery_spec_t4 (bt 12 127) rfl (by kernel_rfl) ?_
  have hS21 := hS19.permT [10] (L' := _::_::_::_::_::_::_::_::_::_::_::_::L9) rfl
  clear hS19
  refine WO.call rfl rfl Ty.hd68 rfl (hwithin_spec (X := own row.pt.a row.pt.l.length row.pt.cap 103 2 (row.pt.l.flatMap ptc)) (fun h => h.own_rd.1) hrp hok.1 fr to hS21) (fun v23 w22 pv23 => ?_)
  obtain ⟨lo, hi, rfl, hlo, hhi, hw1, hw2, hS22⟩ := pv23
  clear hS21
  refine WO.nil ?_
  have s24 : (∀ jz, World.cell? w22 ⟨g8, jz, none⟩ = [Value.slice oa out.length oc][jz]?) ∧ (∀ jz, World.cell? w22 ⟨g2, jz, none⟩ = [Value.slice m ask.length cap][jz]?) ∧ (∀ jz, World.cell? w22 ⟨g4, jz, none⟩ = [Value.int .i64 fr][jz]?) ∧ (∀ jz, World.cell? w22 ⟨g6, jz, none⟩ = [Value.int .i64 to][jz]?) ∧ (∀ jz, World.cell? w22 ⟨q', jz, none⟩ = (hsc row)[jz]?) := ⟨hS22.cel_at 4 rfl, hS22.cel_at 5 rfl, hS22.cel_at 6 rfl, hS22.cel_at 7 rfl, hS22.cel_at 9 rfl⟩
  refine NX.held s24 ?_
  refine WD.pure (i := 7) hquery_spec_t4 (bt 12 255) rfl rfl rfl (by kernel_rfl) (PQ.then (PQ.blk PQ.round)) rfl (fun w => run_move rfl) ?_
  refine WD.pure (i := 8) hquery_spec_t4 (bt 12 511) rfl rfl rfl (by kernel_rfl) (PQ.then (PQ.blk PQ.round)) rfl (fun w => run_extract rfl rfl) ?_
  refine WD.pure (i := 9) hquery_spec_t4 (bt 12 1023) rfl rfl rfl (by kernel_rfl) (PQ.then (PQ.blk PQ.round)) rfl (fun w => run_extract rfl rfl) ?_
  refine WD.pure (i := 10) hquery_spec_t4 (bt 12 2047) rfl rfl rfl (by kernel_rfl) (PQ.then (PQ.blk PQ.round)) rfl (fun w => run_assign rfl) ?_
  refine WD.pure (i := 11) hquery_spec_t4 (bt 12 4095) rfl rfl rfl (by kernel_rfl) (PQ.then (PQ.blk PQ.round)) rfl (fun w => run_assign rfl) ?_
  refine WD.done hquery_spec_t4 (by kernel_rfl) ?_
  refine NX.goR (WPR.seq ?_)
  refine WPR.start (fun w => (∀ jz, World.cell? w ⟨g8, jz, none⟩ = [Value.slice oa out.length oc][jz]?) ∧ (∀ jz, World.cell? w ⟨g2, jz, none⟩ = [Value.slice m ask.length cap][jz]?) ∧ (∀ jz, World.cell? w ⟨g4, jz, none⟩ = [Value.int .i64 fr][jz]?) ∧ (∀ jz, World.cell? w ⟨g6, jz, none⟩ = [Value.int .i64 to][jz]?) ∧ (∀ jz, World.cell? w ⟨q', jz, none⟩ = (hsc row)[jz]?)) [] (bt 11 0) Ty.mo rfl (by kernel_rfl) (NoOut.then (NoOut.blk NoOut.round)) (by kernel_rfl) hS22 (fun _ h => ⟨h.cel_at 4 rfl, h.cel_at 5 rfl, h.cel_at 6 rfl, h.cel_at 7 rfl, h.cel_at 9 rfl⟩) (fun w25 hS25 s26 => ?_)
  clear hS22
  refine WD.pure (i := 0) hquery_spec_t5 (bt 11 1) rfl rfl rfl (by kernel_rfl) (PQ.then (PQ.blk PQ.round)) rfl (fun w => run_move rfl) ?_
  refine WD.pure (i := 1) hquery_spec_t5 (bt 11 3) rfl rfl rfl (by kernel_rfl) (PQ.then (PQ.blk PQ.round)) rfl (fun w => run_move rfl) ?_
  refine WD.pure (i := 2) hquery_spec_t5 (bt 11 7) rfl rfl rfl (by kernel_rfl) (PQ.then (PQ.blk PQ.round)) rfl (fun w => run_lss rfl rfl) ?_
  refine WD.pure (i := 3) hquery_spec_t5 (bt 11 15) rfl rfl rfl (by kernel_rfl) (PQ.then (PQ.blk PQ.round)) rfl (fun w => run_move rfl) ?_
  refine dcase (p := (lo : Int) < (hi : Int)) (fun g29 d29 => ?_) (fun g29 d29 => ?_)
  ·
   refine WD.takeOn (i := 4) hquery_spec_t5 (bt 11 31) s26 rfl rfl rfl d29 (by kernel_rfl) (PQ.then (PQ.blk PQ.round)) rfl (fun w hs => run_load Ty.ag24 rfl ((hs.2.1 0).trans rfl)) ?_
   refine WD.pureOn (i := 5) hquery_spec_t5 (bt 11 63) rfl rfl rfl d29 (by kernel_rfl) (PQ.then (PQ.blk PQ.round)) rfl (fun w => run_move rfl) ?_
   refine WD.pureOn (i := 6) hquery_spec_t5 (bt 11 127) rfl rfl rfl d29 (by kernel_rfl) (PQ.then (PQ.blk PQ.round)) rfl (fun w => run_nilCheck rfl) ?_
   refine WD.pureOn (i := 7) hquery_spec_t5 (bt 11 255) rfl rfl rfl d29 (by kernel_rfl) (PQ.then (PQ.blk PQ.round)) rfl (fun w => run_fa 0 ⟨q', 0, none⟩ rfl rfl) ?_
   refine WD.takeOn (i := 8) hquery_spec_t5 (bt 11 511) s26 rfl rfl rfl d29 (by kernel_rfl) (PQ.then (PQ.blk PQ.round)) rfl (fun w hs => run_load Ty.ag65 rfl ((hs.2.2.2.2 0).trans rfl)) ?_
   refine WD.one (i := 9) hquery_spec_t5 (bt 11 1023) rfl (by kernel_rfl) ?_
   refine WO.on rfl rfl d29 ?_
   have hS27 := hS25.permT [8, 9] (L' := _::_::_::_::_::_::_::_::_::_::_::_::L9) rfl
   clear hS25
   refine WO.call rfl rfl Ty.hd53 rfl (lis_spec hMt rdH_rd hmz hmn hrl hS27) (fun v29 w28 pv29 => ?_)
   obtain ⟨rfl, hS28⟩ := pv29
   clear hS27
   refine WO.nil ?_
   have s30 : (∀ jz, World.cell? w28 ⟨g8, jz, none⟩ = [Value.slice oa out.length oc][jz]?) ∧ (∀ jz, World.cell? w28 ⟨g2, jz, none⟩ = [Value.slice m ask.length cap][jz]?) ∧ (∀ jz, World.cell? w28 ⟨g4, jz, none⟩ = [Value.int .i64 fr][jz]?) ∧ (∀ jz, World.cell? w28 ⟨g6, jz, none⟩ = [Value.int .i64 to][jz]?) ∧ (∀ jz, World.cell? w28 ⟨q', jz, none⟩ = (hsc row)[jz]?) := ⟨hS28.cel_at 6 rfl, hS28.cel_at 7 rfl, hS28.cel_at 8 rfl, hS28.cel_at 9 rfl, hS28.cel_at 10 rfl⟩
   refine NX.held s30 ?_
   refine WD.pure (i := 10) hquery_spec_t5 (bt 11 2047) rfl rfl rfl (by kernel_rfl) (PQ.then (PQ.blk PQ.round)) rfl (fun w => run_pickT rfl d29 rfl) ?_
   refine WD.done hquery_spec_t5 (by kernel_rfl) ?_
   refine NX.goR ?_
   refine WPR.condB rfl (fun g36 => ?_) (fun g36 => ?_)
   ·
    have hpcap := hS28.own_le_i 2 rfl
    refine WPR.start (fun w => (∀ jz, World.cell? w ⟨g8, jz, none⟩ = [Value.slice oa out.length oc][jz]?) ∧ (∀ jz, World.cell? w ⟨g2, jz, none⟩ = [Value.slice m ask.length cap][jz]?) ∧ (∀ jz, World.cell? w ⟨g4, jz, none⟩ = [Value.int .i64 fr][jz]?) ∧ (∀ jz, World.cell? w ⟨g6, jz, none⟩ = [Value.int .i64 to][jz]?) ∧ (∀ jz, World.cell? w ⟨q', jz, none⟩ = (hsc row)[jz]?)) [17] (bt 18 0) Ty.mo rfl (by kernel_rfl) (NoOut.blk NoOut.round) (by kernel_rfl) hS28 (fun _ h => ⟨h.cel_at 6 rfl, h.cel_at 7 rfl, h.cel_at 8 rfl, h.cel_at 9 rfl, h.cel_at 10 rfl⟩) (fun w31 hS31 s32 => ?_)
    clear hS28
    refine WD.take (i := 0) hquery_spec_t6 (bt 18 1) s32 rfl rfl rfl (by kernel_rfl) (PQ.blk PQ.round) rfl (fun w hs => run_load Ty.ag37 rfl ((hs.1 0).trans rfl)) ?_
    refine WD.pure (i := 1) hquery_spec_t6 (bt 18 3) rfl rfl rfl (by kernel_rfl) (PQ.blk PQ.round) rfl (fun w => run_move rfl) ?_
    refine WD.pure (i := 2) hquery_spec_t6 (bt 18 7) rfl rfl rfl (by kernel_rfl) (PQ.blk PQ.round) rfl (fun w => run_nilCheck rfl) ?_
    refine WD.pure (i := 3) hquery_spec_t6 (bt 18 15) rfl rfl rfl (by kernel_rfl) (PQ.blk PQ.round) rfl (fun w => run_fa 0 ⟨q', 0, none⟩ rfl rfl) ?_
    refine WD.take (i := 4) hquery_spec_t6 (bt 18 31) s32 rfl rfl rfl (by kernel_rfl) (PQ.blk PQ.round) rfl (fun w hs => run_load Ty.ag65 rfl ((hs.2.2.2.2 0).trans rfl)) ?_
    refine WD.pure (i := 6) hquery_spec_t6 (bt 18 95) rfl rfl rfl (by kernel_rfl) (PQ.blk PQ.round) rfl (fun w => run_move rfl) ?_
    refine WD.pure (i := 7) hquery_spec_t6 (bt 18 223) rfl rfl rfl (by kernel_rfl) (PQ.blk PQ.round) rfl (fun w => run_nilCheck rfl) ?_
    refine WD.pure (i := 8) hquery_spec_t6 (bt 18 479) rfl rfl rfl (by kernel_rfl) (PQ.blk PQ.round) rfl (fun w => run_fa 1 ⟨q', 1, none⟩ rfl rfl) ?_
    refine WD.take (i := 9) hquery_spec_t6 (bt 18 991) s32 rfl rfl rfl (by kernel_rfl) (PQ.blk PQ.round) rfl (fun w hs => run_load Ty.ag66 rfl ((hs.2.2.2.2 1).trans rfl)) ?_
    refine WD.pure (i := 10) hquery_spec_t6 (bt 18 2015) rfl rfl rfl (by kernel_rfl) (PQ.blk PQ.round) rfl (fun w => run_move rfl) ?_
    refine WD.pure (i := 11) hquery_spec_t6 (bt 18 4063) rfl rfl rfl (by kernel_rfl) (PQ.blk PQ.round) rfl (fun w => run_move rfl) ?_
    refine WD.pure (i := 12) hquery_spec_t6 (bt 18 8159) rfl rfl rfl (by kernel_rfl) (PQ.blk PQ.round) rfl (fun w => run_as (congrArg (fun z => Value.slice _ z _) (show hi - lo = ((row.pt.l.take hi).drop lo).length by rw [List.length_drop, List.length_take]; omega)) (run_sliceL (i := lo) (j := hi) Tryz.underlying66 Ty.sz103 rfl ⟨_, rfl⟩ ⟨_, rfl⟩ hlo (by omega))) ?_
    refine WD.one (i := 5) hquery_spec_t6 (bt 18 8191) rfl (by kernel_rfl) ?_
    have hS33 := hS31.permT [1] (L' := _::_::_::_::_::_::_::_::_::_::_::_::L9) rfl
    clear hS31
    refine WO.call rfl rfl Ty.hd65 rfl (clonePr (X := labA row.lb) rdH_rd (by have := (chk_sz (hA.chk row.p hrA)).1; show row.p.lb.length * _ ≤ _; omega) hS33) (fun v35 w34 pv35 => ?_)
    obtain ⟨ca, cc, rfl, hS34⟩ := pv35
    clear hS33
    refine WO.nil ?_
    have s36 : (∀ jz, World.cell? w34 ⟨g8, jz, none⟩ = [Value.slice oa out.length oc][jz]?) ∧ (∀ jz, World.cell? w34 ⟨g2, jz, none⟩ = [Value.slice m ask.length cap][jz]?) ∧ (∀ jz, World.cell? w34 ⟨g4, jz, none⟩ = [Value.int .i64 fr][jz]?) ∧ (∀ jz, World.cell? w34 ⟨g6, jz, none⟩ = [Value.int .i64 to][jz]?) ∧ (∀ jz, World.cell? w34 ⟨q', jz, none⟩ = (hsc row)[jz]?) := ⟨hS34.cel_at 7 rfl, hS34.cel_at 8 rfl, hS34.cel_at 9 rfl, hS34.cel_at 10 rfl, hS34.cel_at 11 rfl⟩
    refine NX.held s36 ?_
    refine WD.one (i := 13) hquery_spec_t6 (bt 18 16383) rfl (by kernel_rfl) ?_
    have hS37 := hS34.permT [3] (L' := _::_::_::_::_::_::_::_::_::_::_::_::_::L9) rfl
    clear hS34
    refine WO.call rfl rfl Ty.hd69 rfl (clonePt (X := own row.pt.a row.pt.l.length row.pt.cap 103 2 (row.pt.l.flatMap ptc)) (l := ((row.pt.l.take hi).drop lo)) (own_piece hlo hhi) (by rw [List.length_drop, List.length_take]; omega) hS37) (fun v39 w38 pv39 => ?_)
    obtain ⟨pa, pc, rfl, hS38⟩ := pv39
    clear hS37
    refine WO.nil ?_
    have s40 : (∀ jz, World.cell? w38 ⟨g8, jz, none⟩ = [Value.slice oa out.length oc][jz]?) ∧ (∀ jz, World.cell? w38 ⟨g2, jz, none⟩ = [Value.slice m ask.length cap][jz]?) ∧ (∀ jz, World.cell? w38 ⟨g4, jz, none⟩ = [Value.int .i64 fr][jz]?) ∧ (∀ jz, World.cell? w38 ⟨g6, jz, none⟩ = [Value.int .i64 to][jz]?) ∧ (∀ jz, World.cell? w38 ⟨q', jz, none⟩ = (hsc row)[jz]?) := ⟨hS38.cel_at 8 rfl, hS38.cel_at 9 rfl, hS38.cel_at 10 rfl, hS38.cel_at 11 rfl, hS38.cel_at 12 rfl⟩
    refine NX.held s40 ?_
    refine WD.pure (i := 14) hquery_spec_t6 (bt 18 32767) rfl rfl rfl (by kernel_rfl) (PQ.blk PQ.round) rfl (fun w => run_build (v := Value.agg #[Value.slice ca row.lb.l.length cc, Value.slice pa (((row.pt.l.take hi).drop lo).length) pc]) rfl (fun w => by kernel_rfl)) ?_
    refine WD.one (i := 15) hquery_spec_t6 (bt 18 65535) rfl (by kernel_rfl) ?_
    refine WO.buildSlice (l := [Value.slice ca row.lb.l.length cc, Value.slice pa (((row.pt.l.take hi).drop lo).length) pc]) hS38 Tryz.underlying37 rfl (fun w => by kernel_rfl) rfl (fun g42 w41 lg42 hS41 => ?_)
    clear hS38
    refine WO.nil ?_
    have s43 : (∀ jz, World.cell? w41 ⟨g8, jz, none⟩ = [Value.slice oa out.length oc][jz]?) ∧ (∀ jz, World.cell? w41 ⟨g2, jz, none⟩ = [Value.slice m ask.length cap][jz]?) ∧ (∀ jz, World.cell? w41 ⟨g4, jz, none⟩ = [Value.int .i64 fr][jz]?) ∧ (∀ jz, World.cell? w41 ⟨g6, jz, none⟩ = [Value.int .i64 to][jz]?) ∧ (∀ jz, World.cell? w41 ⟨q', jz, none⟩ = (hsc row)[jz]?) := ⟨hS41.cel_at 9 rfl, hS41.cel_at 10 rfl, hS41.cel_at 11 rfl, hS41.cel_at 12 rfl, hS41.cel_at 13 rfl⟩
    refine NX.held s43 ?_
    refine WD.one (i := 16) hquery_spec_t6 (bt 18 131071) rfl (by kernel_rfl) ?_
    refine WO.append (news := [Value.slice ca row.lb.l.length cc, Value.slice pa (((row.pt.l.take hi).drop lo).length) pc]) 7 rfl Tryz.underlying37 Tryz.underlying37 (fun _ h => by cases h) Ty.sz68 (by decide) Ty.by68 Ty.zr68 rfl rfl rfl rfl hS41 rfl ((hS41.cel_rd 0 rfl (o := 0) (m := 1) (k := 2) rfl (Nat.le_of_ble_eq_true rfl)).src) rfl (by omega) (by omega) (fun a45 c46 w44 hS44 => ?_)
    replace hS44 : St B (cel g42 [Value.slice ca row.lb.l.length cc, Value.slice pa (((row.pt.l.take hi).drop lo).length) pc] 68 :: own pa (((row.pt.l.take hi).drop lo).length) pc 103 2 (((row.pt.l.take hi).drop lo).flatMap ptc) :: _::_::_::_::_::own a45 (out.length + 1) c46 68 2 ((out.flatMap msc) ++ [Value.slice ca row.lb.l.length cc, Value.slice pa (((row.pt.l.take hi).drop lo).length) pc]) :: _::_::_::_::_::_::_::L9) w44 := hS44
    clear hS41
    refine WO.nil ?_
    have s47 : (∀ jz, World.cell? w44 ⟨g8, jz, none⟩ = [Value.slice oa out.length oc][jz]?) ∧ (∀ jz, World.cell? w44 ⟨g2, jz, none⟩ = [Value.slice m ask.length cap][jz]?) ∧ (∀ jz, World.cell? w44 ⟨g4, jz, none⟩ = [Value.int .i64 fr][jz]?) ∧ (∀ jz, World.cell? w44 ⟨g6, jz, none⟩ = [Value.int .i64 to][jz]?) ∧ (∀ jz, World.cell? w44 ⟨q', jz, none⟩ = (hsc row)[jz]?) := ⟨hS44.cel_at 9 rfl, hS44.cel_at 10 rfl, hS44.cel_at 11 rfl, hS44.cel_at 12 rfl, hS44.cel_at 13 rfl⟩
    refine NX.held s47 ?_
    refine WD.one (i := 17) hquery_spec_t6 (bt 18 262143) rfl (by kernel_rfl) ?_
    refine WO.store (l' := [Value.slice a45 (out.length + 1) c46]) 9 hS44 rfl Ty.sz37 rfl rfl rfl rfl rfl (Nat.le_of_ble_eq_true rfl) rfl (fun w48 (hS48 : St B (_::_::_::_::_::_::_::_::_::cel g8 [Value.slice a45 (out.length + 1) c46] 37 :: _::_::_::_::_::L9) w48) => ?_)
    clear hS44
    refine WO.nil ?_
    refine NX.last (by decide) ?_
    refine WD.done hquery_spec_t6 (by kernel_rfl) ?_
    refine NX.blk ?_
    refine NX.roundEnd 6 hS48 rfl hok9.pend hok9.ready (fun w49 hS49 => ?_)
    clear hS48
    have hS50 := hs_shut (tS := 131) (tP := 103) (g := q') (r := row) (hS49.permT [13, 4, 2] (L' := _::_::_::_::_::_::_::_::_::_::_::_::_::_::_::L9) rfl)
    clear hS49
    have hS51 := sqA_same hj2 hj1 (hS50.permT [0, 11] (L' := _::_::_::_::_::_::_::_::_::_::_::_::_::L9) rfl)
    clear hS50
    have hS52 : St B (labA ⟨ca, row.lb.l, cc⟩ :: _::_::_::_::_::_::_::_::_::_::_::L9) w49 := rdH_own (hS51.permT [3] (L' := _::_::_::_::_::_::_::_::_::_::_::_::L9) rfl)
    clear hS51
    have hS53 : St B (ptsA ⟨pa, (row.pt.l.take hi).drop lo, pc⟩ :: _::_::_::_::_::_::_::_::_::_::_::L9) w49 := rdH_own (hS52.permT [3] (L' := _::_::_::_::_::_::_::_::_::_::_::_::L9) rfl)
    clear hS52
    have hS54 := ser_snoc (x := (⟨⟨ca, row.lb.l, cc⟩, ⟨pa, (row.pt.l.take hi).drop lo, pc⟩⟩ : MSer)) (hS53.permT [7, 1] (L' := _::_::_::_::_::_::_::_::_::_::_::_::L9) rfl)
    clear hS53
    have hpl : ((row.pt.l.take hi).drop lo).length ≤ 4398046511104 := by rw [List.length_drop, List.length_take]; omega
    have hS55 : St B (.blk l9 (.loop rec9) :: own a45 (out ++ [(⟨⟨ca, row.lb.l, cc⟩, ⟨pa, (row.pt.l.take hi).drop lo, pc⟩⟩ : MSer)]).length c46 68 2 ((out ++ [(⟨⟨ca, row.lb.l, cc⟩, ⟨pa, (row.pt.l.take hi).drop lo, pc⟩⟩ : MSer)]).flatMap msc) :: allA serA (out ++ [(⟨⟨ca, row.lb.l, cc⟩, ⟨pa, (row.pt.l.take hi).drop lo, pc⟩⟩ : MSer)]) :: cel g8 [.slice a45 (out ++ [(⟨⟨ca, row.lb.l, cc⟩, ⟨pa, (row.pt.l.take hi).drop lo, pc⟩⟩ : MSer)]).length c46] 37 :: cel g2 [.slice m ask.length cap] 24 :: cel g4 [.int .i64 fr] 2 :: cel g6 [.int .i64 to] 2 :: M :: sqA (hsA 131 103) gs S :: L9) w49 := by have z : St B (_::_::allA serA (out ++ [(⟨⟨ca, row.lb.l, cc⟩, ⟨pa, (row.pt.l.take hi).drop lo, pc⟩⟩ : MSer)]) :: _::_::_::_::_::_::L9) w49 := ((hS54.mask [true, true, false] (L' := _::_::_::_::_::_::_::_::_::L9) rfl).permT [3, 3, 0, 2, 2, 2, 2, 1] (L' := _::_::_::_::_::_::_::_::_::L9) rfl); simpa [msc] using z
    have hS56 := qK_shut (hQ.yes (x := (q', row)) (s := (⟨⟨ca, row.lb.l, cc⟩, ⟨pa, (row.pt.l.take hi).drop lo, pc⟩⟩ : MSer)) (by rw [← hw1, List.length_drop, List.length_take]; omega) g36 (by show SerP.mk _ _ = SerP.mk _ _; rw [← hw1]) ⟨hrl, hpl⟩) hS55
    exact ⟨rfl, hS56.permT [1] (L' := _::_::L9) rfl⟩
   ·
    refine WPR.skip (NX.blk ?_)
    refine NX.roundEnd 3 hS28 rfl hok9.pend hok9.ready (fun w57 hS57 => ?_)
    clear hS28
    have hS58 := hs_shut (tS := 131) (tP := 103) (g := q') (r := row) (hS57.permT [10, 1, 1] (L' := _::_::_::_::_::_::_::_::_::_::_::_::L9) rfl)
    clear hS57
    have hS59 := sqA_same hj2 hj1 (hS58.permT [0, 8] (L' := _::_::_::_::_::_::_::_::_::_::L9) rfl)
    clear hS58
    have hS60 : St B (_::_::_::cel g8 [.slice oa out.length oc] 37 :: _::_::_::_::_::L9) w57 := (hS59.permT [2, 2, 2, 2, 2, 2, 2, 1] (L' := _::_::_::_::_::_::_::_::_::L9) rfl)
    have hS61 := qK_shut (hQ.no (x := (q', row)) (fun h => by rw [g36] at h; exact absurd h.2 (by decide))) hS60
    exact ⟨rfl, hS61.permT [1] (L' := _::_::L9) rfl⟩
  ·
   refine WD.off (i := 4) hquery_spec_t5 (bt 11 31) rfl rfl rfl d29 (by kernel_rfl) (PQ.then (PQ.blk PQ.round)) rfl ?_
   refine WD.off (i := 5) hquery_spec_t5 (bt 11 63) rfl rfl rfl d29 (by kernel_rfl) (PQ.then (PQ.blk PQ.round)) rfl ?_
   refine WD.off (i := 6) hquery_spec_t5 (bt 11 127) rfl rfl rfl d29 (by kernel_rfl) (PQ.then (PQ.blk PQ.round)) rfl ?_
   refine WD.off (i := 7) hquery_spec_t5 (bt 11 255) rfl rfl rfl d29 (by kernel_rfl) (PQ.then (PQ.blk PQ.round)) rfl ?_
   refine WD.off (i := 8) hquery_spec_t5 (bt 11 511) rfl rfl rfl d29 (by kernel_rfl) (PQ.then (PQ.blk PQ.round)) rfl ?_
   refine WD.off (i := 9) hquery_spec_t5 (bt 11 1023) rfl rfl rfl d29 (by kernel_rfl) (PQ.then (PQ.blk PQ.round)) rfl ?_
   refine WD.pure (i := 10) hquery_spec_t5 (bt 11 2047) rfl rfl rfl (by kernel_rfl) (PQ.then (PQ.blk PQ.round)) rfl (fun w => run_pickF rfl d29 rfl) ?_
   refine WD.done hquery_spec_t5 (by kernel_rfl) ?_
   refine NX.goR ?_
   refine WPR.condF rfl rfl ?_
   refine WPR.skip (NX.blk ?_)
   refine NX.roundEnd 1 hS25 rfl hok9.pend hok9.ready (fun w62 hS62 => ?_)
   clear hS25
   have hS63 := hs_shut (tS := 131) (tP := 103) (g := q') (r := row) (hS62.permT [9, 9] (L' := _::_::_::_::_::_::_::_::_::_::_::_::L9) rfl)
   clear hS62
   have hS64 := sqA_same hj2 hj1 (hS63.permT [0, 8] (L' := _::_::_::_::_::_::_::_::_::_::L9) rfl)
   clear hS63
   have hS65 : St B (_::_::_::_::_::_::_::_::_::L9) w62 := (hS64.permT [1, 1, 1, 1, 1, 1, 1, 1] (L' := _::_::_::_::_::_::_::_::_::L9) rfl)
   have hS66 := qK_shut (hQ.no (x := (q', row)) (fun h => by exact g29 (by have := h.1; rw [← hw1, List.length_drop, List.length_take] at this; omega))) hS65
   exact ⟨rfl, hS66.permT [1] (L' := _::_::L9) rfl⟩
 ·
  clear hS13
  rintro v9 w67 ⟨ol, hol, hso, hS67⟩
  have hAe := srt_zip hlen hA.srt hp hol hso
  obtain ⟨out, oa, oc, hQ, hS68⟩ := qK_open (hS67.permT [4] (L' := _::_::_::_::_::_::L) rfl)
  clear hS67
  refine ⟨own oa out.length oc 68 2 (out.flatMap msc) :: allA serA out :: cel g8 [Value.slice oa out.length oc] 37 :: cel g2 [Value.slice m ask.length cap] 24 :: cel g4 [Value.int .i64 fr] 2 :: cel g6 [Value.int .i64 to] 2 :: M :: cel bb [Value.pointer (some ⟨g, 0, none⟩)] 62 :: cel g [Value.map (some mh)] 126 :: mpS mh (entR gs S) :: sqA (hsA 131 103) gs S :: .blk b9 (.deferred (some [])) :: L, hS68, fun w69 hS69 => ?_⟩
  clear hS68
  refine NX.blk (NX.goR (WPR.seq ?_))
  refine WPR.region rfl (NoOut.then NoOut.marks) rfl ?_
  refine WO.V (run_load Ty.ag37 rfl ((hS69.cel_at 2 rfl 0).trans rfl)) ?_
  refine WO.asg rfl rfl ?_
  refine WO.nil (NX.goR (WPR.ret ?_))
  refine NX.doneM (l := [.tmp 8]) 11 hS69 rfl rfl rfl (fun w70 hS70 => ?_)
  clear hS69
  have hS71 := hd_shut hp (hS70.permT [8, 8, 8] (L' := _::_::_::_::_::_::_::_::_::_::_::_::L) rfl)
  exact ⟨oa, oc, out, rfl, by rw [hQ.eq, hAe], by have h8 := hQ.len; have h9 := hol.length_eq; rw [List.length_zip, hlen, Nat.min_self] at h9; omega, hQ.sz, ((hS71.mask [true, true, true, false, false, false, false, true, false, false] (L' := _::_::_::_::L) rfl).permT [1, 1] (L' := _::_::_::_::L) rfl)⟩
end Go.Proofs.YtidoidoelgfnaaaGreatDoor.SL
