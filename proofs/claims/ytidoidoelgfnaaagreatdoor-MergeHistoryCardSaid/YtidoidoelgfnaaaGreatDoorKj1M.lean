import Derived.Test.YtidoidoelgfnaaaGreatDoorKf1M
import Derived.Test.YtidoidoelgfnaaaGreatDoorKp1M
import Derived.Test.YtidoidoelgfnaaaGreatDoorMa1
import Derived.Test.YtidoidoelgfnaaaGreatDoorKk1M
import Derived.Test.YtidoidoelgfnaaaGreatDoorKs1M
/- Greatest times of blocks: the program. -/
namespace Go.Proofs.YtidoidoelgfnaaaGreatDoor.SL
open Go.RowKit Go.Proofs.YtidoidoelgfnaaaGreatDoor
open Go.Proofs.YtidoidoelgfnaaaGreatDoorW.PrintLast (rtab opsOf)
set_option linter.unusedVariables false
set_option linter.unusedSimpArgs false
theorem plasts_spec {B w : World} {L : List HP} {X : HP} {a : Option Addr} {cap : Nat} {bs : List BlkV} (hX : ∀ {L : List HP} {w : World}, St B (X :: L) w → Rd w a bs.length 4 (bs.flatMap blc)) (hbz : ∀ b ∈ bs, MzB b) (hw8 : bs.length ≤ 64) (hwg : ∀ b ∈ bs, wgt b ≤ 1000000) (hchk : ∀ b ∈ bs, checkB b = 0) (hS : St B (X :: allA blA bs :: L) w) : Does Tryz.prog 27 [Value.slice a bs.length cap] w (fun v w1 => ∃ a1 c1, ∃ l1 : List MRow, v = .slice a1 l1.length c1 ∧ l1.map MRow.p = lastsA (bs.map BlkV.p) [] ∧ l1.length ≤ 6400000 ∧ (∀ r ∈ l1, chk r.lb.l = true) ∧ (∀ r ∈ l1, r.pt.l.length ≤ 0) ∧ St B (own a1 l1.length c1 93 3 (l1.flatMap mrc) :: allA mrA l1 :: X :: allA blA bs :: L) w1) := by
 refine enter (n := 19) Tryz.func27 rfl rfl [Value.slice a bs.length cap] rfl ?_
 refine WP.seq (WP.region rfl ?_)
 refine WO.asg rfl rfl ?_
 refine WO.nil (NX.go (WP.seq (WP.region rfl ?_)))
 refine WO.makeMap hS rfl (fun r2 w1 hS1 => ?_)
 clear hS
 refine WO.asg rfl rfl ?_
 refine WO.nil (NX.go (WP.seq (WP.seq (WP.region rfl ?_))))
 refine WO.mv rfl rfl ?_
 refine WO.V (run_len rfl Tryz.underlying39 rfl) ?_
 refine WO.mv rfl rfl ?_
 refine WO.nil (NX.go (WP.block ?_))
 replace hS1 := (St.addPure trivial hS1 : St B (sqA (rwA 93 103) [] [] :: mpS r2 [] :: X :: allA blA bs :: L) w1)
 refine WP.loop (α := Nat × List Nat × List MRow × List RowP) (fun x => match x with | ⟨i, gs, S, A⟩ => [(0, Value.slice a bs.length cap), (3, Value.map (some r2)), (7, Value.slice a bs.length cap), (8, Value.int .i64 ((bs.length : Nat) : Int)), (9, Value.int .i64 (i : Int))]) (fun x w => match x with | ⟨i, gs, S, A⟩ => (i ≤ bs.length ∧ lastsA ((bs.drop i).map BlkV.p) A = lastsA (bs.map BlkV.p) [] ∧ (S.map MRow.p).Perm A ∧ SrtR A ∧ (∀ r ∈ S, chk r.lb.l = true) ∧ S.length ≤ 100000 * i ∧ (∀ r ∈ S, r.pt.l.length ≤ 0)) ∧ St B (mpS r2 (entR gs S) :: sqA (rwA 93 103) gs S :: X :: allA blA bs :: L) w) (fun x => match x with | ⟨i, gs, S, A⟩ => bs.length - i) (0, [], [], []) ⟨⟨Nat.zero_le _, rfl, List.Perm.refl _, List.Pairwise.nil, (fun r h => by cases h), Nat.zero_le _, (fun r h => by cases h)⟩, (hS1.permT [1] (L' := _::_::_::_::L) rfl)⟩ (Sub.cons rfl (Sub.cons rfl (Sub.cons rfl (Sub.cons rfl (Sub.consE rfl (by first | rfl | first | rfl | (congr 1; omega) | (simp; done) | (simp; omega)) (Sub.nil _)))))) ?_
 rintro ⟨i, gs, S, A⟩ w3 ⟨⟨hi, hgo, hperm, hAs, hch, hSn, hSp⟩, hS3⟩
 clear hS1
 refine WP.seq (WP.region rfl ?_)
 refine WO.V (run_lss rfl rfl) ?_
 refine WO.nil (NX.go (WP.seq ?_))
 refine WP.condP rfl (fun g10 => ?_) (fun g10 => ?_)
 ·
  refine WP.skip (NX.go (WP.seq (WP.block (WP.seq ?_))))
  obtain ⟨b1, hb1⟩ : ∃ qq, bs[i]? = some qq := ⟨_, List.getElem?_eq_getElem (by omega)⟩
  have hrl := wsum_ge (checkB_chk (hchk b1 (List.mem_of_getElem? hb1)))
  have hwb := hwg b1 (List.mem_of_getElem? hb1)
  unfold wgt at hwb
  refine WP.region rfl ?_
  refine WO.V (run_indexAddr (q := adr a (i * 4)) Tryz.underlying39 Ty.sz46 rfl rfl (by omega) (by omega) ((hX (hS3.focus 2 rfl)).2.1 (by omega)) rfl) ?_
  refine WO.V (run_loadAgg (vs := (blc b1)) Ty.ag46 Ty.sz46 rfl ((hX (hS3.focus 2 rfl)).cells (by rw [flat_len blc_len]; omega) (flat_part blc_len hb1)).1 ((hX (hS3.focus 2 rfl)).cells (by rw [flat_len blc_len]; omega) (flat_part blc_len hb1)).2) ?_
  refine WO.alloc (l := [Value.int .i64 0, Value.int .i64 0, Value.slice none 0 0, Value.slice none 0 0]) hS3 Ty.zr46 rfl rfl (fun g5 w4 lg5 hS4 => ?_)
  clear hS3
  refine WO.store (l' := (blc b1)) 0 hS4 rfl Ty.sz46 rfl rfl rfl rfl rfl (Nat.le_of_ble_eq_true rfl) rfl (fun w6 (hS6 : St B (cel g5 (blc b1) 46 :: _::_::_::_::L) w6) => ?_)
  clear hS4
  refine WO.nil (NX.go ?_)
  have hS7 := blA_get (List.mem_of_getElem? hb1) (hS6.permT [4] (L' := _::_::_::_::_::L) rfl)
  clear hS6
  refine WP.region rfl ?_
  refine WO.mv rfl rfl ?_
  refine WO.V (run_loadAgg (vs := (blc b1)) Ty.ag46 Ty.sz46 rfl rfl (cell_all (hS7.cel_at 5 rfl) 0 rfl)) ?_
  have hS8 := hS7.permT [6, 6] (L' := _::_::_::_::_::_::_::_::_::L) rfl
  clear hS7
  refine WO.call rfl rfl Ty.hd60 rfl (padd_spec (n0 := 100000 * i) (M := 0) (R0 := S.map MRow.p) b1 (hbz b1 (List.mem_of_getElem? hb1)).nr (checkB_chk (hchk b1 (List.mem_of_getElem? hb1))) hch rfl hSn hSp hS8) (fun v10 w9 pv10 => ?_)
  obtain ⟨gs2, S2, rfl, hS2, hch2, hSn2, hSp2, hS9⟩ := pv10
  clear hS8
  refine WO.nil (NX.blk (NX.go (WP.region rfl ?_)))
  refine WO.V (run_add rfl rfl (IntWalk.i64_in _ (by omega))) ?_
  refine WO.mv rfl rfl ?_
  refine WO.nil ?_
  exact NX.again (i + 1, gs2, S2, rowsL (b1.rs.l.map MRow.p) A) ⟨⟨by omega, by rw [← hgo, drop_cons hb1, List.map_cons, lastsA]; rfl, hS2 ▸ rowsLU_perm hAs hperm, rowsL_srt hAs, hch2, by omega, hSp2⟩, ((hS9.mask [true, true, false, false, false, false, true, false] (L' := _::_::_::_::L) rfl).permT [0, 0, 1] (L' := _::_::_::_::L) rfl)⟩ (by show bs.length - (i + 1) < bs.length - i; omega) (Sub.cons rfl (Sub.cons rfl (Sub.cons rfl (Sub.cons rfl (Sub.consE rfl (by congr 1) (Sub.nil _))))))
 ·
  refine WP.exit (NX.thenExit (NX.thenExit ?_))
  refine NX.blkExit ?_
  refine NX.go (WP.seq (WP.region rfl ?_))
  refine WO.mv rfl rfl ?_
  refine WO.call rfl rfl Ty.hd61 rfl (sorted_spec (by omega) (fun r hr => by have := (chk_sz (hch r hr)).1; omega) hS3) (fun v12 w11 pv12 => ?_)
  obtain ⟨a1, c1, l1, rfl, hp1, hs1, hS11⟩ := pv12
  clear hS3
  refine WO.asg rfl rfl ?_
  refine WO.nil (NX.go (WP.ret ?_))
  refine NX.done (l := [.tmp 2]) rfl rfl ?_
  have hend : A = lastsA (bs.map BlkV.p) [] := by rw [← hgo, List.drop_of_length_le (by omega)]; rfl
  have hres : l1.map MRow.p = lastsA (bs.map BlkV.p) [] := by rw [← hend]; exact sorted_eq hAs ((hp1.map MRow.p).trans hperm) (by rw [List.pairwise_map]; exact hs1)
  exact ⟨a1, c1, l1, rfl, hres, by rw [hp1.length_eq]; omega, fun r hr => hch r (hp1.subset hr), fun r hr => hSp r (hp1.subset hr), hS11⟩
end Go.Proofs.YtidoidoelgfnaaaGreatDoor.SL

/- Blocks, joined: the program. -/
namespace Go.Proofs.YtidoidoelgfnaaaGreatDoor.SL
open Go.RowKit Go.Proofs.YtidoidoelgfnaaaGreatDoor
open Go.Proofs.YtidoidoelgfnaaaGreatDoorW.PrintLast (rtab opsOf)
set_option linter.unusedVariables false
set_option linter.unusedSimpArgs false

def joinRows (bs : List BlkP) (mark : Int) : List RowP := (leftA [] bs []).map (flt (inF mark 9223372036854775807))
def joinV (bs : List BlkV) (mark : Int) : BlkP × Int := if ¬ followV bs = 0 then (⟨0, 0, [], []⟩, followV bs) else match bs.getLast? with
  | none => (⟨0, 0, [], []⟩, 2)
  | some q => (⟨1, q.to, joinRows (bs.map BlkV.p) mark, []⟩, 0)
theorem rd_nilK {w : World} (k : Nat) : Rd w none 0 k [] := ⟨by simp, fun h => by omega, fun j hj => by omega⟩
theorem follow_chk {bs : List BlkV} (h : followV bs = 0) : ∀ b ∈ bs, checkB b = 0 := by
  unfold followV at h
  split at h
  · rename_i h1; exact absurd h h1
  · rename_i h1; exact chkAll_ok (by simpa using h1)
def blkN : BlkV := ⟨0, 0, ⟨none, [], 0⟩, ⟨none, [], 0⟩⟩
structure SzC (c : BlkV) : Prop where
  nd : c.ds.l = []
  nr : c.rs.l.length ≤ 1099511627776
  r : ∀ r ∈ c.rs.l, r.lb.l.length ≤ 4398046511104 ∧ r.pt.l.length ≤ 4398046511104
theorem szC_N : SzC blkN := ⟨rfl, by decide, fun r h => by cases h⟩
theorem blA_nil {B w : World} {L : List HP} (f t : Int) {rs : SlV MRow} (h : St B (rsA rs :: allA mrA rs.l :: L) w) : St B (blA ⟨f, t, rs, ⟨none, [], 0⟩⟩ :: L) w := by
  have h1 : St B (allA recA [] :: _::_::L) w := h.addPure trivial
  have h2 : St B (dsA ⟨none, [], 0⟩ :: _::_::_::L) w := rdH_zero rfl h1
  have h3 := h2.join
  have h4 := (h3.permT [2, 0, 0] (L' := _::_::_::L) rfl).join
  exact (h4.permT [1, 0] (L' := _::_::L) rfl).join
theorem blA_zero {B w : World} {L : List HP} (h : St B L w) : St B (blA blkN :: L) w := by
  have h1 : St B (allA mrA [] :: L) w := h.addPure trivial
  exact blA_nil 0 0 (rs := ⟨none, [], 0⟩) (rdH_zero rfl h1)
theorem joinV_err {bs : List BlkV} {m : Int} (h : ¬ followV bs = 0) : joinV bs m = (⟨0, 0, [], []⟩, followV bs) := by unfold joinV; rw [if_pos h]
theorem joinV_nil {m : Int} (h : followV [] = 0) : joinV [] m = (⟨0, 0, [], []⟩, 2) := by unfold joinV; rw [if_neg (by simpa using h)]; rfl
theorem joinV_ok {bs : List BlkV} {q : BlkV} {m : Int} (h : followV bs = 0) (hq : bs[bs.length - 1]? = some q) : joinV bs m = (⟨1, q.to, joinRows (bs.map BlkV.p) m, []⟩, 0) := by unfold joinV; rw [if_neg (by simpa using h), show bs.getLast? = some q by rw [List.getLast?_eq_getElem?]; exact hq]
theorem szB_all {bs : List BlkV} (z : ∀ b ∈ bs, MzB b) (h : ∀ b ∈ bs, checkB b = 0) (hw : ∀ b ∈ bs, wgt b ≤ 1000000) : ∀ b ∈ bs, SzB b := fun b hb => szB_of (z b hb) (h b hb) (hw b hb)
theorem t22_6 : rtab .any (opsOf Tryz.f22 6) = (true, [([], []), ([], []), ([1], [1]), ([2], [2]), ([0, 3], [0, 3]), ([4], [4]), ([5], [5]), ([], []), ([], []), ([7, 8], [7, 8]), ([6, 9], [6, 9]), ([10, 9, 0, 1, 2, 3, 4, 5, 6, 7, 8, 9, 10], [10]), ([11, 0, 1, 2, 3, 4, 5, 6, 7, 8, 9, 10, 11], [])]) := by kernel_rfl
theorem pjoin_spec {B w : World} {L : List HP} {X : HP} {a : Option Addr} {cap : Nat} {bs : List BlkV} (hX : ∀ {L : List HP} {w : World}, St B (X :: L) w → Rd w a bs.length 4 (bs.flatMap blc)) (hbz : ∀ b ∈ bs, MzB b) (hw8 : bs.length ≤ 64) (hwg : ∀ b ∈ bs, wgt b ≤ 1000000) (hcp : bs.length ≤ cap) (mark : Int) (hS : St B (X :: allA blA bs :: L) w) : Does Tryz.prog 22 [Value.slice a bs.length cap, Value.int .i64 mark] w (fun v w1 => ∃ c : BlkV, v = .tuple #[.agg (blc c).toArray, .int .i64 (joinV bs mark).2] ∧ c.p = (joinV bs mark).1 ∧ SzC c ∧ St B (blA c :: X :: allA blA bs :: L) w1) := by
 refine enter (n := 28) Tryz.func22 rfl rfl [Value.slice a bs.length cap, Value.int .i64 mark] rfl ?_
 refine WP.seq (WP.region rfl ?_)
 refine WO.alloc (l := [Value.int .i64 0, Value.int .i64 0, Value.slice none 0 0, Value.slice none 0 0]) hS Ty.zr46 rfl rfl (fun g2 w1 lg2 hS1 => ?_)
 clear hS
 refine WO.asg rfl rfl ?_
 refine WO.nil (NX.go (WP.seq (WP.seq (WP.region rfl ?_))))
 refine WO.mv rfl rfl ?_
 have hS3 := hS1.permT [1, 1] (L' := _::_::_::L) rfl
 clear hS1
 refine WO.call rfl rfl Ty.hd21 rfl (pfollow_spec hX hbz hw8 hwg hS3) (fun v5 w4 pv5 => ?_)
 obtain ⟨rfl, hS4⟩ := pv5
 clear hS3
 refine WO.asg rfl rfl ?_
 refine WO.nil (NX.go (WP.seq (WP.region rfl ?_)))
 refine WO.mv rfl rfl ?_
 refine WO.V (run_neq rfl rfl) ?_
 refine WO.nil (NX.go ?_)
 refine WP.condP rfl (fun g10 => ?_) (fun g10 => ?_)
 ·
  refine WP.seq (WP.region rfl ?_)
  refine WO.V (run_build (v := Value.agg #[Value.int .i64 0, Value.int .i64 0, Value.slice none 0 0, Value.slice none 0 0]) rfl (fun w => by kernel_rfl)) ?_
  refine WO.mv rfl rfl ?_
  refine WO.store (l' := [Value.int .i64 0, Value.int .i64 0, Value.slice none 0 0, Value.slice none 0 0]) 2 hS4 rfl Ty.sz46 rfl rfl rfl rfl rfl (Nat.le_of_ble_eq_true rfl) rfl (fun w6 (hS6 : St B (_::_::_::L) w6) => ?_)
  clear hS4
  refine WO.asg rfl rfl ?_
  refine WO.nil (NX.go (WP.ret (NX.thenRet ?_)))
  refine NX.doneC (l := [.cell 4 46, .tmp 5]) rfl (.cons (.cell rfl (loadVar_agg (vs := [Value.int .i64 0, Value.int .i64 0, Value.slice none 0 0, Value.slice none 0 0]) Ty.ag46 Ty.sz46 rfl (cell_all (hS6.cel_at 2 rfl) 0 rfl))) (.cons (.tmp rfl) .nil)) ?_
  exact ⟨blkN, by rw [joinV_err g10]; rfl, by rw [joinV_err g10]; rfl, szC_N, blA_zero (hS6.mask [true, true, false] (L' := _::_::L) rfl)⟩
 ·
  have hf0 : followV bs = 0 := by simpa using g10
  have hchk := follow_chk hf0
  obtain ⟨u1, u2, u3⟩ := tots hchk hwg
  refine WP.skip (NX.go (WP.seq (WP.seq (WP.region rfl ?_))))
  refine WO.mv rfl rfl ?_
  refine WO.V (run_len rfl Tryz.underlying39 rfl) ?_
  refine WO.V (run_eql rfl rfl) ?_
  refine WO.nil (NX.go ?_)
  refine WP.condP rfl (fun g15 => ?_) (fun g15 => ?_)
  ·
   refine WP.seq (WP.region rfl ?_)
   refine WO.V (run_build (v := Value.agg #[Value.int .i64 0, Value.int .i64 0, Value.slice none 0 0, Value.slice none 0 0]) rfl (fun w => by kernel_rfl)) ?_
   refine WO.store (l' := [Value.int .i64 0, Value.int .i64 0, Value.slice none 0 0, Value.slice none 0 0]) 2 hS4 rfl Ty.sz46 rfl rfl rfl rfl rfl (Nat.le_of_ble_eq_true rfl) rfl (fun w7 (hS7 : St B (_::_::_::L) w7) => ?_)
   clear hS4
   refine WO.asg rfl rfl ?_
   refine WO.nil (NX.go (WP.ret (NX.thenRet ?_)))
   refine NX.doneC (l := [.cell 4 46, .tmp 5]) rfl (.cons (.cell rfl (loadVar_agg (vs := [Value.int .i64 0, Value.int .i64 0, Value.slice none 0 0, Value.slice none 0 0]) Ty.ag46 Ty.sz46 rfl (cell_all (hS7.cel_at 2 rfl) 0 rfl))) (.cons (.tmp rfl) .nil)) ?_
   have hbs : bs = [] := List.length_eq_zero_iff.1 (by omega)
   have hjv : joinV bs mark = (⟨0, 0, [], []⟩, 2) := by rw [hbs] at hf0 ⊢; exact joinV_nil hf0
   exact ⟨blkN, by rw [hjv]; rfl, by rw [hjv]; rfl, szC_N, blA_zero (hS7.mask [true, true, false] (L' := _::_::L) rfl)⟩
  ·
   refine WP.skip (NX.go (WP.seq ?_))
   obtain ⟨lb, hlb⟩ : ∃ qq, bs[bs.length - 1]? = some qq := ⟨_, List.getElem?_eq_getElem (by omega)⟩
   have hsa : a.isSome = true := rd_isSome ((hX (hS4.focus 0 rfl))) (by omega)
   refine WD.start (fun w => Rd w a bs.length 4 (bs.flatMap blc) ∧ (∀ jz, World.cell? w ⟨g2, jz, none⟩ = [Value.int .i64 0, Value.int .i64 0, Value.slice none 0 0, Value.slice none 0 0][jz]?)) [11] (bt 13 0) Ty.mo rfl (by kernel_rfl) hS4 (fun _ h => ⟨(hX (h.focus 0 rfl)), h.cel_at 2 rfl⟩) (fun w8 hS8 s9 => ?_)
   clear hS4
   refine DP (i := 0) t22_6 (bt 13 1) rfl rfl rfl rfl (fun w => run_move rfl) ?_
   refine DP (i := 1) t22_6 (bt 13 3) rfl rfl rfl rfl (fun w => run_move rfl) ?_
   refine DP (i := 2) t22_6 (bt 13 7) rfl rfl rfl rfl (fun w => run_len rfl Tryz.underlying39 rfl) ?_
   refine DP (i := 3) t22_6 (bt 13 15) rfl rfl rfl rfl (fun w => run_sub rfl rfl (IntWalk.i64_in _ (by omega))) ?_
   refine DT (i := 4) t22_6 (bt 13 31) s9 rfl rfl rfl rfl (fun w hs => run_indexAddr (q := adr a ((bs.length - 1) * 4)) Tryz.underlying39 Ty.sz46 rfl rfl (by omega) (by omega) ((hs.1).2.1 (by omega)) (by rw [show ((bs.length : Int) - 1).toNat = bs.length - 1 by omega])) ?_
   refine DP (i := 5) t22_6 (bt 13 63) rfl rfl rfl rfl (fun w => run_fa 1 (adr a ((bs.length - 1) * 4 + 1)) rfl (adr_add _ (by assumption) _ _)) ?_
   refine DT (i := 6) t22_6 (bt 13 127) s9 rfl rfl rfl rfl (fun w hs => run_load Ty.ag3 rfl ((hs.1).cell ((flat_get blc_len hlb (j := 1) (by decide)).trans rfl))) ?_
   refine DP (i := 7) t22_6 (bt 13 255) rfl rfl rfl rfl (fun w => run_move rfl) ?_
   refine DP (i := 8) t22_6 (bt 13 511) rfl rfl rfl rfl (fun w => run_move rfl) ?_
   refine WD.one (i := 9) t22_6 (bt 13 1023) rfl (by kernel_rfl) ?_
   have hS10 : St B (allA recA [] :: .pure True :: _::_::_::L) w8 := (hS8.addPure trivial).addPure trivial
   clear hS8
   have hS11 := hS10.permT [2, 2, 1] (L' := _::_::_::_::_::L) rfl
   clear hS10
   refine WO.call rfl rfl Ty.hd52 rfl (pleft_spec (D := .pure True) (b := none) (cap2 := 0) (dels := []) hX (fun _ => rd_nilK 5) (szB_all hbz hchk hwg) (fun r hr => by cases hr) (fun b hb => checkB_chk (hchk b hb)) hcp (by omega) (by omega) (by omega) (by simp; omega) mark 9223372036854775807 hS11) (fun v13 w12 pv13 => ?_)
   obtain ⟨ra, rc, R, rfl, hR, hRn, hRc, hRp, hS12⟩ := pv13
   clear hS11
   refine WO.nil ?_
   have s14 : Rd w12 a bs.length 4 (bs.flatMap blc) ∧ (∀ jz, World.cell? w12 ⟨g2, jz, none⟩ = [Value.int .i64 0, Value.int .i64 0, Value.slice none 0 0, Value.slice none 0 0][jz]?) := ⟨(hX (hS12.focus 2 rfl)), hS12.cel_at 6 rfl⟩
   refine NX.held s14 ?_
   refine DP (i := 10) t22_6 (bt 13 2047) rfl rfl rfl rfl (fun w => run_build (v := Value.agg #[Value.int .i64 1, Value.int .i64 lb.to, Value.slice ra R.length rc, Value.slice none 0 0]) rfl (fun w => by kernel_rfl)) ?_
   refine WD.one (i := 11) t22_6 (bt 13 4095) rfl (by kernel_rfl) ?_
   refine WO.store (l' := [Value.int .i64 1, Value.int .i64 lb.to, Value.slice ra R.length rc, Value.slice none 0 0]) 6 hS12 rfl Ty.sz46 rfl rfl rfl rfl rfl (Nat.le_of_ble_eq_true rfl) rfl (fun w15 (hS15 : St B (own ra R.length rc 93 3 (R.flatMap mrc) :: allA mrA R :: _::_::_::_::cel g2 [Value.int .i64 1, Value.int .i64 lb.to, Value.slice ra R.length rc, Value.slice none 0 0] 46 :: L) w15) => ?_)
   clear hS12
   refine WO.nil ?_
   refine NX.last (by decide) ?_
   refine DP (i := 12) t22_6 (bt 13 8191) rfl rfl rfl rfl (fun w => run_assign rfl) ?_
   refine WD.done t22_6 (by kernel_rfl) ?_
   refine NX.go (WP.ret ?_)
   refine NX.doneC (l := [.cell 4 46, .tmp 5]) rfl (.cons (.cell rfl (loadVar_agg (vs := [Value.int .i64 1, Value.int .i64 lb.to, Value.slice ra R.length rc, Value.slice none 0 0]) Ty.ag46 Ty.sz46 rfl (cell_all (hS15.cel_at 6 rfl) 0 rfl))) (.cons (.tmp rfl) .nil)) ?_
   have hq1 : St B (rsA ⟨ra, R, rc⟩ :: _::_::_::_::_::_::L) w15 := rdH_own hS15
   have hjv : joinV bs mark = ((⟨1, lb.to, ⟨ra, R, rc⟩, ⟨none, [], 0⟩⟩ : BlkV).p, 0) := by rw [joinV_ok hf0 hlb]; show (BlkP.mk _ _ _ _, (0 : Int)) = (BlkP.mk _ _ _ _, 0); rw [show (⟨1, lb.to, ⟨ra, R, rc⟩, ⟨none, [], 0⟩⟩ : BlkV).rs.l.map MRow.p = joinRows (bs.map BlkV.p) mark from hR]; rfl
   exact ⟨(⟨1, lb.to, ⟨ra, R, rc⟩, ⟨none, [], 0⟩⟩ : BlkV), by rw [hjv]; rfl, by rw [hjv], ⟨rfl, hRn, fun r hr => ⟨by have := (chk_sz (hRc r hr)).1; omega, hRp r hr⟩⟩, blA_nil 1 lb.to (rs := ⟨ra, R, rc⟩) (hq1.mask [true, true, true, true, false, false, false] (L' := _::_::_::_::L) rfl)⟩
end Go.Proofs.YtidoidoelgfnaaaGreatDoor.SL

/- Blocks, joined: the reference. -/
namespace Go.Proofs.YtidoidoelgfnaaaGreatDoor.SL
open Go.RowKit Go.Proofs.YtidoidoelgfnaaaGreatDoor
open Go.Proofs.YtidoidoelgfnaaaGreatDoorW.PrintLast (rtab opsOf)
set_option linter.unusedVariables false
set_option linter.unusedSimpArgs false

end Go.Proofs.YtidoidoelgfnaaaGreatDoor.SL

/- What depends on plain values alone; rows compared. -/
namespace Go.Proofs.YtidoidoelgfnaaaGreatDoor.SL
open Go.RowKit Go.Proofs.YtidoidoelgfnaaaGreatDoor
open Go.Proofs.YtidoidoelgfnaaaGreatDoorW.PrintLast (rtab opsOf)
set_option linter.unusedVariables false
set_option linter.unusedSimpArgs false

theorem smsGo_p : ∀ {l m : List Smp}, l.map Smp.p = m.map Smp.p → smsGo l = smsGo m
  | [], [], _ => rfl
  | [], _ :: _, h => by simp at h
  | _ :: _, [], h => by simp at h
  | r :: l, s :: m, h => by
    simp only [List.map_cons, List.cons.injEq] at h
    rw [smsGo, smsGo, smsGo_p h.2, Smp.sz h.1]
theorem rcheck_p {r s : Rcd} (h : r.p = s.p) : rcheck r = rcheck s := by
  have h1 : r.k = s.k := congrArg RcP.k h
  have h2 : r.ss.l.map Smp.p = s.ss.l.map Smp.p := congrArg RcP.ss h
  have h3 : r.ms.l = s.ms.l := congrArg RcP.ms h
  have h4 : r.fr = s.fr := congrArg RcP.fr h
  have h5 : r.to = s.to := congrArg RcP.to h
  unfold rcheck
  rw [h1, h3, h4, h5, map_len h2, smsGo_p h2]
theorem delsOk_p : ∀ {l m : List Rcd}, l.map Rcd.p = m.map Rcd.p → delsOk l = delsOk m
  | [], [], _ => rfl
  | [], _ :: _, h => by simp at h
  | _ :: _, [], h => by simp at h
  | r :: l, s :: m, h => by
    simp only [List.map_cons, List.cons.injEq] at h
    have ih := delsOk_p h.2
    unfold delsOk at ih ⊢
    rw [List.all_cons, List.all_cons, ih, rcheck_p h.1, show r.k = s.k from congrArg RcP.k h.1]
theorem rowsGo_p : ∀ {l m : List MRow} {v u : Option MRow}, v.map MRow.p = u.map MRow.p → l.map MRow.p = m.map MRow.p → rowsGo v l = rowsGo u m
  | [], [], _, _, _, _ => by rw [rowsGo, rowsGo]
  | [], _ :: _, _, _, _, h => by simp at h
  | _ :: _, [], _, _, _, h => by simp at h
  | r :: l, s :: m, v, u, hv, h => by
    simp only [List.map_cons, List.cons.injEq] at h
    obtain ⟨e1, e2, e3⟩ := MRow.of_p h.1
    have ih := rowsGo_p (v := some r) (u := some s) (by simp [h.1]) h.2
    have hc : cmpV v r = cmpV u s := by
      cases v with
      | none => cases u with
        | none => rfl
        | some b => simp at hv
      | some a => cases u with
        | none => simp at hv
        | some b =>
          have e4 := (MRow.of_p (show a.p = b.p by simpa using hv)).1
          show decide (0 ≤ cmpF a.lb.l r.lb.l) = decide (0 ≤ cmpF b.lb.l s.lb.l)
          rw [e4, e1]
    rw [rowsGo, rowsGo, ih, hc, e1, e2, e3]
theorem checkB_p {b c : BlkV} (h : b.p = c.p) : checkB b = checkB c := by
  obtain ⟨h1, h2, h3, h4⟩ := BlkV.of_p h
  unfold checkB
  rw [h1, h2, rowsGo_p rfl h3, delsOk_p h4]
theorem chkAll_p : ∀ {l m : List BlkV}, l.map BlkV.p = m.map BlkV.p → chkAll l = chkAll m
  | [], [], _ => rfl
  | [], _ :: _, h => by simp at h
  | _ :: _, [], h => by simp at h
  | r :: l, s :: m, h => by
    simp only [List.map_cons, List.cons.injEq] at h
    rw [chkAll, chkAll, chkAll_p h.2, checkB_p h.1]
theorem any_p {l m : List MRow} {f : RowP → Bool} (h : l.map MRow.p = m.map MRow.p) : (l.any fun r => f r.p) = m.any fun r => f r.p := by
  have := congrArg (fun z : List RowP => z.any f) h
  rw [List.any_map, List.any_map] at this; exact this
theorem ordGo_p : ∀ {l m : List BlkV} {n : Int} {A : List RowP}, l.map BlkV.p = m.map BlkV.p → ordGo n A l = ordGo n A m
  | [], [], _, _, _ => rfl
  | [], _ :: _, _, _, h => by simp at h
  | _ :: _, [], _, _, h => by simp at h
  | r :: l, s :: m, n, A, h => by
    simp only [List.map_cons, List.cons.injEq] at h
    obtain ⟨h1, h2, h3, h4⟩ := BlkV.of_p h.1
    rw [ordGo, ordGo, h1, h2, h3, ordGo_p h.2, any_p (f := fun q => clashP A q) h3]
theorem followV_p {l m : List BlkV} (h : l.map BlkV.p = m.map BlkV.p) : followV l = followV m := by
  unfold followV; rw [chkAll_p h, ordGo_p h]
theorem joinV_p {l m : List BlkV} (h : l.map BlkV.p = m.map BlkV.p) (k : Int) : joinV l k = joinV m k := by
  have hl : l.getLast?.map BlkV.p = m.getLast?.map BlkV.p := by rw [← List.getLast?_map, ← List.getLast?_map, h]
  unfold joinV
  rw [followV_p h, h]
  cases hx : l.getLast? with
  | none => cases hy : m.getLast? with
    | none => rfl
    | some b => rw [hx, hy] at hl; simp at hl
  | some a => cases hy : m.getLast? with
    | none => rw [hx, hy] at hl; simp at hl
    | some b =>
      rw [hx, hy] at hl
      have : a.to = b.to := congrArg BlkP.to (show a.p = b.p by simpa using hl)
      simp only [this]
end Go.Proofs.YtidoidoelgfnaaaGreatDoor.SL
