/- MergeTells: the law. -/
import Derived.Test.YtidoidoelgfnaaaGreatDoorKj1M
namespace Go.Proofs.YtidoidoelgfnaaaGreatDoor.SL
open Go.RowKit Go.Proofs.YtidoidoelgfnaaaGreatDoor
open Go.Proofs.YtidoidoelgfnaaaGreatDoorW.PrintLast (rtab opsOf)
set_option linter.unusedVariables false
set_option linter.unusedSimpArgs false
theorem t4_6 : rtab .any (opsOf Tryz.f4 6) = (true, [([], []), ([], []), ([1], [1]), ([0, 2], [0, 2]), ([3, 2], [3]), ([4], [4]), ([4], [4]), ([5, 6, 4], [4, 5, 6]), ([4, 7], [4, 7]), ([8, 4], [8]), ([9], [9]), ([10, 9, 9], [9, 10]), ([9], [9]), ([11, 12, 11, 9], [9, 11, 12]), ([13, 9], [9, 13]), ([9, 14], [9, 14])]) := by kernel_rfl
theorem mergeTells_core {B w : World} {L : List HP} {a : Option Addr} {cap : Nat} {bs : List BlkV} (hbz : ∀ b ∈ bs, MzB b) (hbn : bs.length ≤ 2199023255552) (hcp : bs.length ≤ cap) (mark : Int) (hS : St B ((rdH a bs.length 4 (bs.flatMap blc)) :: allA blA bs :: L) w) : Does Tryz.prog 4 [Value.slice a bs.length cap, Value.int .i64 mark] w (fun v w1 => v = .bool true ∧ St B L w1) := by
 refine enter (n := 54) Tryz.func4 rfl rfl [Value.slice a bs.length cap, Value.int .i64 mark] rfl ?_
 refine WP.seq (WP.region rfl ?_)
 refine WO.asg rfl rfl ?_
 refine WO.nil (NX.go (WP.seq (WP.seq (WP.region rfl ?_))))
 refine WO.mv rfl rfl ?_
 refine WO.call rfl rfl Ty.hd12 rfl (g16_spec rdH_rd hbz hbn hS) (fun v2 w1 pv2 => ?_)
 obtain ⟨⟨qg, rfl, hqg⟩, hS1⟩ := pv2
 clear hS
 refine WO.nil (NX.go ?_)
 refine WP.condB rfl (fun g11 => ?_) (fun g11 => ?_)
 ·
  refine WP.seq (WP.region rfl ?_)
  refine WO.asg rfl rfl ?_
  refine WO.nil (NX.go (WP.ret (NX.thenRet ?_)))
  refine NX.done (l := [.tmp 4]) rfl rfl ?_
  exact ⟨rfl, hS1.drop.drop⟩
 ·
  refine WP.skip (NX.go (WP.seq ?_))
  have hw8 := (hqg g11).1
  have hwg := (hqg g11).2
  refine WP.region rfl ?_
  refine WO.mv rfl rfl ?_
  refine WO.call rfl rfl Ty.hd19 rfl (to16_spec rdH_rd hbz (by omega) hS1) (fun v4 w3 pv4 => ?_)
  obtain ⟨ba1, bc1, Cs1, rfl, hCs1, hS3⟩ := pv4
  clear hS1
  have hl1 : Cs1.length ≤ 8 := by rw [map_len hCs1]; exact hw8
  have hz1 : ∀ b ∈ Cs1, MzB b := all_of hCs1 (fun _ _ e => MzB.of_p e) hbz
  have hg1 : ∀ b ∈ Cs1, wgt b ≤ 1999 := all_of (Q := fun b => wgt b ≤ 1999) hCs1 (fun b c e h => by rw [wgt_p e]; exact h) hwg
  have hc1 := hS3.own_le_i 0 rfl
  refine WO.call rfl rfl Ty.hd21 rfl ((by have z := pfollow_spec (cap := bc1) (X := own ba1 Cs1.length bc1 46 4 (Cs1.flatMap blc)) (fun h => h.own_rd.1) hz1 hl1 hg1 hS3; rw [followV_p hCs1] at z; exact z)) (fun v6 w5 pv6 => ?_)
  obtain ⟨rfl, hS5⟩ := pv6
  clear hS3
  refine WO.asg rfl rfl ?_
  refine WO.nil (NX.go (WP.seq ?_))
  have hS7 : St B ((rdH a bs.length 4 (bs.flatMap blc)) :: allA blA bs :: L) w5 := hS5.drop.drop
  clear hS5
  refine WP.region rfl ?_
  refine WO.mv rfl rfl ?_
  refine WO.call rfl rfl Ty.hd19 rfl (to16_spec rdH_rd hbz (by omega) hS7) (fun v9 w8 pv9 => ?_)
  obtain ⟨ba2, bc2, Cs2, rfl, hCs2, hS8⟩ := pv9
  clear hS7
  have hl2 : Cs2.length ≤ 8 := by rw [map_len hCs2]; exact hw8
  have hz2 : ∀ b ∈ Cs2, MzB b := all_of hCs2 (fun _ _ e => MzB.of_p e) hbz
  have hg2 : ∀ b ∈ Cs2, wgt b ≤ 1999 := all_of (Q := fun b => wgt b ≤ 1999) hCs2 (fun b c e h => by rw [wgt_p e]; exact h) hwg
  have hc2 := hS8.own_le_i 0 rfl
  refine WO.mv rfl rfl ?_
  refine WO.call rfl rfl Ty.hd22 rfl ((by have z := pjoin_spec (cap := bc2) (X := own ba2 Cs2.length bc2 46 4 (Cs2.flatMap blc)) (fun h => h.own_rd.1) hz2 hl2 hg2 hc2 mark hS8; rw [joinV_p hCs2] at z; exact z)) (fun v11 w10 pv11 => ?_)
  obtain ⟨c1, rfl, hp1, hs1, hS10⟩ := pv11
  clear hS8
  refine WO.mv rfl rfl ?_
  refine WO.V (run_extract rfl rfl) ?_
  refine WO.V (run_extract rfl rfl) ?_
  refine WO.alloc (l := [Value.int .i64 0, Value.int .i64 0, Value.slice none 0 0, Value.slice none 0 0]) hS10 Ty.zr46 rfl rfl (fun g13 w12 lg13 hS12 => ?_)
  clear hS10
  refine WO.store (l' := (blc c1)) 0 hS12 rfl Ty.sz46 rfl rfl rfl rfl rfl (Nat.le_of_ble_eq_true rfl) rfl (fun w14 (hS14 : St B (cel g13 (blc c1) 46 :: blA c1 :: own ba2 Cs2.length bc2 46 4 (Cs2.flatMap blc) :: allA blA Cs2 :: (rdH a bs.length 4 (bs.flatMap blc)) :: allA blA bs :: L) w14) => ?_)
  clear hS12
  refine WO.asg rfl rfl ?_
  refine WO.nil (NX.go (WP.seq ?_))
  have hS15 : St B (cel g13 (blc c1) 46 :: blA c1 :: (rdH a bs.length 4 (bs.flatMap blc)) :: allA blA bs :: L) w14 := (hS14.mask [true, true, false, false] (L' := cel g13 (blc c1) 46 :: blA c1 :: (rdH a bs.length 4 (bs.flatMap blc)) :: allA blA bs :: L) rfl)
  clear hS14
  refine WP.region rfl ?_
  refine WO.mv rfl rfl ?_
  refine WO.mv rfl rfl ?_
  have hS16 := hS15.permT [2, 2] (L' := (rdH a bs.length 4 (bs.flatMap blc)) :: allA blA bs :: cel g13 (blc c1) 46 :: blA c1 :: L) rfl
  clear hS15
  refine WO.call rfl rfl Ty.hd23 rfl (rjoin_spec rdH_rd hbz hw8 hwg hcp mark hS16) (fun v18 w17 pv18 => ?_)
  obtain ⟨c2, rfl, hp2, hs2, hS17⟩ := pv18
  clear hS16
  refine WO.mv rfl rfl ?_
  refine WO.V (run_extract rfl rfl) ?_
  refine WO.V (run_extract rfl rfl) ?_
  refine WO.alloc (l := [Value.int .i64 0, Value.int .i64 0, Value.slice none 0 0, Value.slice none 0 0]) hS17 Ty.zr51 rfl rfl (fun g20 w19 lg20 hS19 => ?_)
  clear hS17
  refine WO.store (l' := (blc c2)) 0 hS19 rfl Ty.sz51 rfl rfl rfl rfl rfl (Nat.le_of_ble_eq_true rfl) rfl (fun w21 (hS21 : St B (cel g20 (blc c2) 51 :: blA c2 :: (rdH a bs.length 4 (bs.flatMap blc)) :: allA blA bs :: cel g13 (blc c1) 46 :: blA c1 :: L) w21) => ?_)
  clear hS19
  refine WO.asg rfl rfl ?_
  refine WO.nil (NX.go (WP.seq (WP.seq ?_)))
  refine WD.start (fun w => (∀ jz, World.cell? w ⟨g20, jz, none⟩ = (blc c2)[jz]?) ∧ (∀ jz, World.cell? w ⟨g13, jz, none⟩ = (blc c1)[jz]?)) [] (bt 16 0) Ty.mo rfl (by kernel_rfl) hS21 (fun _ h => ⟨h.cel_at 0 rfl, h.cel_at 4 rfl⟩) (fun w22 hS22 s23 => ?_)
  clear hS21
  refine DP (i := 0) t4_6 (bt 16 1) rfl rfl rfl rfl (fun w => run_move rfl) ?_
  refine DP (i := 1) t4_6 (bt 16 3) rfl rfl rfl rfl (fun w => run_move rfl) ?_
  refine WD.one (i := 2) t4_6 (bt 16 7) rfl (by kernel_rfl) ?_
  have hS24 := hS22.permT [2, 2] (L' := (rdH a bs.length 4 (bs.flatMap blc)) :: allA blA bs :: cel g20 (blc c2) 51 :: blA c2 :: cel g13 (blc c1) 46 :: blA c1 :: L) rfl
  clear hS22
  refine WO.call rfl rfl Ty.hd13 rfl (rfollowx_spec rdH_rd hbz hcp hw8 hwg hS24) (fun v26 w25 pv26 => ?_)
  obtain ⟨rfl, hS25⟩ := pv26
  clear hS24
  refine WO.nil ?_
  have s27 : (∀ jz, World.cell? w25 ⟨g20, jz, none⟩ = (blc c2)[jz]?) ∧ (∀ jz, World.cell? w25 ⟨g13, jz, none⟩ = (blc c1)[jz]?) := ⟨hS25.cel_at 2 rfl, hS25.cel_at 4 rfl⟩
  refine NX.held s27 ?_
  refine DP (i := 3) t4_6 (bt 16 15) rfl rfl rfl rfl (fun w => run_neq rfl rfl) ?_
  refine DP (i := 4) t4_6 (bt 16 31) rfl rfl rfl rfl (fun w => run_move rfl) ?_
  refine DPn (i := 5) t4_6 (bt 16 63) rfl rfl rfl (decide_eq_false (fun h => h rfl)) rfl (fun w => run_move rfl) ?_
  refine DPn (i := 6) t4_6 (bt 16 127) rfl rfl rfl (decide_eq_false (fun h => h rfl)) rfl (fun w => run_move rfl) ?_
  refine DPn (i := 7) t4_6 (bt 16 255) rfl rfl rfl (decide_eq_false (fun h => h rfl)) rfl (fun w => run_neq rfl rfl) ?_
  refine DP (i := 8) t4_6 (bt 16 511) rfl rfl rfl rfl (fun w => run_pickF rfl (decide_eq_false (fun h => h rfl)) rfl) ?_
  refine DP (i := 9) t4_6 (bt 16 1023) rfl rfl rfl rfl (fun w => run_move rfl) ?_
  refine DTn (i := 10) t4_6 (bt 16 2047) s27 rfl rfl rfl (decide_eq_false (fun h => h rfl)) rfl (fun w hs => run_loadAgg (vs := (blc c1)) Ty.ag46 Ty.sz46 rfl rfl (cell_all (hs.2) 0 rfl)) ?_
  refine DTn (i := 12) t4_6 (bt 16 6143) s27 rfl rfl rfl (decide_eq_false (fun h => h rfl)) rfl (fun w hs => run_loadAgg (vs := (blc c2)) Ty.ag51 Ty.sz51 rfl rfl (cell_all (hs.1) 0 rfl)) ?_
  refine WD.one (i := 11) t4_6 (bt 16 8191) rfl (by kernel_rfl) ?_
  refine WO.on rfl rfl (decide_eq_false (fun h => h rfl)) ?_
  have hS28 := hS25.permT [5] (L' := blA c1 :: (rdH a bs.length 4 (bs.flatMap blc)) :: allA blA bs :: cel g20 (blc c2) 51 :: blA c2 :: cel g13 (blc c1) 46 :: L) rfl
  clear hS25
  refine WO.call rfl rfl Ty.hd25 rfl (from15_spec c1 hs1.nr hS28) (fun v30 w29 pv30 => ?_)
  obtain ⟨oa, oc, rfl, hS29⟩ := pv30
  clear hS28
  refine WO.nil ?_
  have s31 : (∀ jz, World.cell? w29 ⟨g20, jz, none⟩ = (blc c2)[jz]?) ∧ (∀ jz, World.cell? w29 ⟨g13, jz, none⟩ = (blc c1)[jz]?) := ⟨hS29.cel_at 4 rfl, hS29.cel_at 6 rfl⟩
  refine NX.held s31 ?_
  refine WD.one (i := 13) t4_6 (bt 16 16383) rfl (by kernel_rfl) ?_
  refine WO.on rfl rfl (decide_eq_false (fun h => h rfl)) ?_
  have hS32 := hS29.permT [0, 4] (L' := blA (⟨c1.first, c1.to, ⟨oa, c1.rs.l, oc⟩, c1.ds⟩ : BlkV) :: blA c2 :: blA c1 :: (rdH a bs.length 4 (bs.flatMap blc)) :: allA blA bs :: cel g20 (blc c2) 51 :: cel g13 (blc c1) 46 :: L) rfl
  clear hS29
  refine WO.call rfl rfl Ty.hd24 rfl (r15same_spec (⟨c1.first, c1.to, ⟨oa, c1.rs.l, oc⟩, c1.ds⟩ : BlkV) c2 ⟨by have := hs1.nr; show c1.rs.l.length ≤ _; omega, (szS_of hs1).nd, hs1.r, (szS_of hs1).d⟩ (szS_of hs2) hS32) (fun v34 w33 pv34 => ?_)
  obtain ⟨qb, rfl, hqb, hS33⟩ := pv34
  clear hS32
  have hqt : qb = true := hqb.2 ((show (⟨c1.first, c1.to, ⟨oa, c1.rs.l, oc⟩, c1.ds⟩ : BlkV).p = c1.p from rfl).trans (hp1.trans hp2.symm))
  subst hqt
  refine WO.nil ?_
  have s35 : (∀ jz, World.cell? w33 ⟨g20, jz, none⟩ = (blc c2)[jz]?) ∧ (∀ jz, World.cell? w33 ⟨g13, jz, none⟩ = (blc c1)[jz]?) := ⟨hS33.cel_at 5 rfl, hS33.cel_at 6 rfl⟩
  refine NX.held s35 ?_
  refine DPn (i := 14) t4_6 (bt 16 32767) rfl rfl rfl (decide_eq_false (fun h => h rfl)) rfl (fun w => run_not rfl rfl) ?_
  refine DP (i := 15) t4_6 (bt 16 65535) rfl rfl rfl rfl (fun w => run_pickF rfl (decide_eq_false (fun h => h rfl)) rfl) ?_
  refine WD.done t4_6 (by kernel_rfl) ?_
  refine NX.go ?_
  refine WP.condF rfl (notB_t rfl) ?_
  refine WP.skip (NX.go (WP.seq ?_))
  have hS36 : St B ((rdH a bs.length 4 (bs.flatMap blc)) :: allA blA bs :: L) w33 := (hS33.mask [false, false, false, true, true, false, false] (L' := (rdH a bs.length 4 (bs.flatMap blc)) :: allA blA bs :: L) rfl)
  clear hS33
  refine WP.region rfl ?_
  refine WO.mv rfl rfl ?_
  refine WO.V (run_neq rfl rfl) ?_
  refine WO.mv rfl rfl ?_
  refine dcase (p := ¬ (followV bs) = 0) (fun g46 d46 => ?_) (fun g46 d46 => ?_)
  ·
   refine WO.off rfl rfl d46 rfl ?_
   refine WO.off rfl rfl d46 rfl ?_
   refine WO.off rfl rfl d46 rfl ?_
   refine WO.off rfl rfl d46 rfl ?_
   refine WO.off rfl rfl d46 rfl ?_
   refine WO.off rfl rfl d46 rfl ?_
   refine WO.V (run_pickT rfl d46 rfl) ?_
   refine WO.asg rfl rfl ?_
   refine WO.nil (NX.go (WP.ret ?_))
   refine NX.done (l := [.tmp 4]) rfl rfl ?_
   exact ⟨rfl, hS36.drop.drop⟩
  ·
   have hf0 : followV bs = 0 := by simpa using g46
   have hchk := follow_chk hf0
   obtain ⟨u1, u2, u3⟩ := tots hchk hwg
   refine WO.on rfl rfl d46 ?_
   refine WO.mv rfl rfl ?_
   refine WO.on rfl rfl d46 ?_
   refine WO.call rfl rfl Ty.hd19 rfl (to16_spec rdH_rd hbz (by omega) hS36) (fun v38 w37 pv38 => ?_)
   obtain ⟨ba3, bc3, Cs3, rfl, hCs3, hS37⟩ := pv38
   clear hS36
   have hl3 : Cs3.length ≤ 8 := by rw [map_len hCs3]; exact hw8
   have hz3 : ∀ b ∈ Cs3, MzB b := all_of hCs3 (fun _ _ e => MzB.of_p e) hbz
   have hg3 : ∀ b ∈ Cs3, wgt b ≤ 1999 := all_of (Q := fun b => wgt b ≤ 1999) hCs3 (fun b c e h => by rw [wgt_p e]; exact h) hwg
   have hc3 := hS37.own_le_i 0 rfl
   refine WO.on rfl rfl d46 ?_
   have hchk3 : ∀ b ∈ Cs3, checkB b = 0 := all_of (Q := fun b => checkB b = 0) hCs3 (fun b c e h => by rw [checkB_p e]; exact h) hchk
   refine WO.call rfl rfl Ty.hd27 rfl (plasts_spec (X := own ba3 Cs3.length bc3 46 4 (Cs3.flatMap blc)) (fun h => h.own_rd.1) hz3 hl3 hg3 hchk3 hS37) (fun v40 w39 pv40 => ?_)
   obtain ⟨pa, pc, l1, rfl, hm1, hn1, hc1, hq1, hS39⟩ := pv40
   clear hS37
   refine WO.on rfl rfl d46 ?_
   refine WO.mv rfl rfl ?_
   refine WO.on rfl rfl d46 ?_
   have hS41 := hS39.permT [4, 4] (L' := (rdH a bs.length 4 (bs.flatMap blc)) :: allA blA bs :: own pa l1.length pc 93 3 (l1.flatMap mrc) :: allA mrA l1 :: own ba3 Cs3.length bc3 46 4 (Cs3.flatMap blc) :: allA blA Cs3 :: L) rfl
   clear hS39
   refine WO.call rfl rfl Ty.hd28 rfl (rlasts_spec rdH_rd (fun b hb => hb) hbz (by omega) (by omega) hS41) (fun v43 w42 pv43 => ?_)
   obtain ⟨ra, rc, l2, rfl, hm2, hn2, hb2, hS42⟩ := pv43
   clear hS41
   refine WO.on rfl rfl d46 ?_
   have hS44 : St B (own ra l2.length rc 99 3 (l2.flatMap mrc) :: allA mrA l2 :: own pa l1.length pc 93 3 (l1.flatMap mrc) :: allA mrA l1 :: L) w42 := (hS42.mask [true, true, false, false, true, true, false, false] (L' := own ra l2.length rc 99 3 (l2.flatMap mrc) :: allA mrA l2 :: own pa l1.length pc 93 3 (l1.flatMap mrc) :: allA mrA l1 :: L) rfl)
   clear hS42
   have hS45 : St B (rsA ⟨pa, l1, pc⟩ :: own ra l2.length rc 99 3 (l2.flatMap mrc) :: allA mrA l2 :: allA mrA l1 :: L) w42 := rdH_own (hS44.permT [2] (L' := own pa l1.length pc 93 3 (l1.flatMap mrc) :: own ra l2.length rc 99 3 (l2.flatMap mrc) :: allA mrA l2 :: allA mrA l1 :: L) rfl)
   clear hS44
   have hS46 : St B (rsA ⟨ra, l2, rc⟩ :: rsA ⟨pa, l1, pc⟩ :: allA mrA l2 :: allA mrA l1 :: L) w42 := rdH_own (hS45.permT [1] (L' := own ra l2.length rc 99 3 (l2.flatMap mrc) :: rsA ⟨pa, l1, pc⟩ :: allA mrA l2 :: allA mrA l1 :: L) rfl)
   clear hS45
   have hml : l1.map MRow.p = l2.map MRow.p := by rw [hm1, hm2, hCs3]
   have hr1 : ∀ r ∈ l1, r.lb.l.length ≤ 4398046511104 ∧ r.pt.l.length ≤ 4398046511104 := fun r hr => ⟨by have := (chk_sz (hc1 r hr)).1; omega, by have := hq1 r hr; omega⟩
   have hr2 : ∀ r ∈ l2, r.lb.l.length ≤ 4398046511104 ∧ r.pt.l.length ≤ 4398046511104 := fun r hr => by obtain ⟨q, hq, e⟩ := mem_of_map hml.symm hr; obtain ⟨e1, e2, e3⟩ := MRow.of_p e; have := hr1 q hq; rw [e1, e3] at this; exact this
   have hS47 := hS46.permT [1, 2] (L' := rsA ⟨pa, l1, pc⟩ :: allA mrA l1 :: rsA ⟨ra, l2, rc⟩ :: allA mrA l2 :: L) rfl
   clear hS46
   refine WO.call rfl rfl Ty.hd26 rfl (rows16_spec ⟨pa, l1, pc⟩ ⟨ra, l2, rc⟩ (by show l1.length ≤ _; omega) (by show l2.length ≤ _; omega) hr1 hr2 hS47) (fun v49 w48 pv49 => ?_)
   obtain ⟨qr, rfl, hqr, hS48⟩ := pv49
   clear hS47
   have hqt : qr = true := hqr.2 hml
   subst hqt
   refine WO.V (run_pickF rfl d46 rfl) ?_
   refine WO.asg rfl rfl ?_
   refine WO.nil (NX.go (WP.ret ?_))
   refine NX.done (l := [.tmp 4]) rfl rfl ?_
   exact ⟨rfl, hS48⟩
end Go.Proofs.YtidoidoelgfnaaaGreatDoor.SL
