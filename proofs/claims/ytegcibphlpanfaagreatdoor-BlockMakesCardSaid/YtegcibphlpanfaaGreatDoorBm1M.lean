import Derived.Test.YtegcibphlpanfaaGreatDoorBk
import Derived.Test.YtegcibphlpanfaaGreatDoorRhM
import Derived.Test.YtegcibphlpanfaaGreatDoorBo1M
import Derived.Test.YtegcibphlpanfaaGreatDoorKs1M
import Derived.Test.YtegcibphlpanfaaGreatDoorHl1M
/- A block of records: the document's. -/
namespace Go.Proofs.YtegcibphlpanfaaGreatDoor.SL
open Go.RowKit Go.Proofs.YtegcibphlpanfaaGreatDoor
open Go.Proofs.YtegcibphlpanfaaGreatDoorW.PrintLast (rtab opsOf)
set_option linter.unusedVariables false
set_option linter.unusedSimpArgs false

theorem rhw_mr {B w : World} {tP : TypeId} : ∀ {S : List MRow} {L : List HP}, St B (allA (rhwA tP) S :: L) w → St B (allA mrA S :: L) w
  | [], L, h => h.drop.addPure trivial
  | r :: S, L, h => by
    have h1 := (h.sep : St B (rhwA tP r :: allA (rhwA tP) S :: L) w).sep
    have h2 := rhw_mr (h1.permT [2, 0, 0] (L' := allA (rhwA tP) S :: labA r.lb :: own r.pt.a r.pt.l.length r.pt.cap tP 2 (r.pt.l.flatMap ptc) :: L) rfl)
    have h3 : St B (ptsA r.pt :: allA mrA S :: labA r.lb :: L) w := rdH_own (h2.permT [2, 0, 0] (L' := own r.pt.a r.pt.l.length r.pt.cap tP 2 (r.pt.l.flatMap ptc) :: allA mrA S :: labA r.lb :: L) rfl)
    have h4 := (h3.permT [2, 0, 0] (L' := labA r.lb :: ptsA r.pt :: allA mrA S :: L) rfl).join
    exact h4.join
theorem t7_12 : rtab .any (opsOf Tryz.f7 12) = (true, [([], []), ([0], [0]), ([], []), ([], []), ([2, 3], [2, 3]), ([4], [4]), ([5], [5]), ([1, 6], [1, 6]), ([0, 1, 2, 3, 4, 5, 6, 7], []), ([8, 7, 7, 0, 1, 2, 3, 4, 5, 6, 7], [7, 8])]) := by kernel_rfl
theorem t7_16 : rtab .any (opsOf Tryz.f7 16) = (true, [([], []), ([0], [0]), ([], []), ([2], [2]), ([3], [3]), ([4], [4]), ([], []), ([5, 6], [5, 6]), ([7], [7]), ([8], [8]), ([], []), ([10], [10]), ([11], [11]), ([12], [12]), ([], []), ([13, 14], [13, 14]), ([15], [15]), ([16], [16]), ([], []), ([18], [18]), ([19], [19]), ([20], [20]), ([], []), ([21, 22], [21, 22]), ([23], [23]), ([24], [24]), ([9, 17, 25], [9, 17, 25]), ([26], [26]), ([1, 27], [1, 27]), ([0, 1, 2, 3, 4, 5, 6, 7, 8, 9, 10, 11, 12, 13, 14, 15, 16, 17, 18, 19, 20, 21, 22, 23, 24, 25, 26, 27, 28], []), ([29, 28, 28, 0, 1, 2, 3, 4, 5, 6, 7, 8, 9, 10, 11, 12, 13, 14, 15, 16, 17, 18, 19, 20, 21, 22, 23, 24, 25, 26, 27, 28], [28, 29])]) := by kernel_rfl
theorem rof_spec {B w : World} {L : List HP} {X : HP} {b : Option Addr} {cap : Nat} {rs : List Rcd} (hX : ∀ {L : List HP} {w : World}, St B (X :: L) w → Rd w b rs.length 5 (rs.flatMap rcc)) (first : Int) (hz : ∀ r ∈ rs, SzR r) (hn : rs.length ≤ 2814749767106) (hf : -9223372036854775808 ≤ first ∧ first ≤ 9223372036854775807) (hS : St B (X :: allA recA rs :: L) w) : Does Tryz.prog 7 [Value.int .i64 first, Value.slice b rs.length cap] w (fun v w1 => ∃ b1 : BlkV, v = .tuple #[.agg (blc b1).toArray, .int .i64 (ofE first (rs.map Rcd.p))] ∧ (ofE first (rs.map Rcd.p) = 0 → b1.p = ofB first (rs.map Rcd.p)) ∧ (ofE first (rs.map Rcd.p) ≠ 0 → b1.p = ⟨0, 0, [], []⟩) ∧ SzB b1 ∧ b1.rs.l.length ≤ 256 ∧ St B (blA b1 :: X :: allA recA rs :: L) w1) := by
 refine enter (n := 111) Tryz.func7 rfl rfl [Value.int .i64 first, Value.slice b rs.length cap] rfl ?_
 refine WP.seq (WP.region rfl ?_)
 refine WO.alloc (l := [Value.int .i64 0, Value.int .i64 0, Value.slice none 0 0, Value.slice none 0 0]) hS Ty.zr37 rfl rfl (fun g2 w1 lg2 hS1 => ?_)
 clear hS
 refine WO.asg rfl rfl ?_
 refine WO.nil (NX.go (WP.seq (WP.seq (WP.region rfl ?_))))
 refine WO.mv rfl rfl ?_
 refine WO.V (run_lss rfl rfl) ?_
 refine WO.mv rfl rfl ?_
 refine dcase (p := first < 1) (fun g13 d13 => ?_) (fun g13 d13 => ?_)
 ·
  refine WO.off rfl rfl d13 rfl ?_
  refine WO.off rfl rfl d13 rfl ?_
  refine WO.V (run_pickT rfl d13 rfl) ?_
  refine WO.mv rfl rfl ?_
  refine WO.off rfl rfl rfl rfl ?_
  refine WO.off rfl rfl rfl rfl ?_
  refine WO.off rfl rfl rfl rfl ?_
  refine WO.V (run_pickT rfl rfl rfl) ?_
  refine WO.mv rfl rfl ?_
  refine WO.off rfl rfl rfl rfl ?_
  refine WO.off rfl rfl rfl rfl ?_
  refine WO.off rfl rfl rfl rfl ?_
  refine WO.off rfl rfl rfl rfl ?_
  refine WO.off rfl rfl rfl rfl ?_
  refine WO.off rfl rfl rfl rfl ?_
  refine WO.V (run_pickT rfl rfl rfl) ?_
  refine WO.nil (NX.go ?_)
  refine WP.condT rfl rfl ?_
  refine WP.seq (WP.region rfl ?_)
  refine WO.V (run_build (v := Value.agg #[Value.int .i64 0, Value.int .i64 0, Value.slice none 0 0, Value.slice none 0 0]) rfl (fun w => by kernel_rfl)) ?_
  refine WO.store (l' := [Value.int .i64 0, Value.int .i64 0, Value.slice none 0 0, Value.slice none 0 0]) 0 hS1 rfl Ty.sz37 rfl rfl rfl rfl rfl (Nat.le_of_ble_eq_true rfl) rfl (fun w3 (hS3 : St B (cel g2 [Value.int .i64 0, Value.int .i64 0, Value.slice none 0 0, Value.slice none 0 0] 37 :: X :: allA recA rs :: L) w3) => ?_)
  clear hS1
  refine WO.asg rfl rfl ?_
  refine WO.nil (NX.go (WP.ret (NX.thenRet ?_)))
  refine NX.doneC (l := [.cell 4 37, .tmp 5]) rfl (.cons (.cell rfl (loadVar_agg (vs := [Value.int .i64 0, Value.int .i64 0, Value.slice none 0 0, Value.slice none 0 0]) Ty.ag37 Ty.sz37 rfl (cell_all (hS3.cel_at 0 rfl) 0 rfl))) (.cons (.tmp rfl) .nil)) ?_
  have he : ofE first (rs.map Rcd.p) = 2 := if_pos (by rw [List.length_map]; omega)
  have hq1 : St B (allA recA [] :: X :: allA recA rs :: L) w3 := (hS3.drop).addPure trivial
  have hq2 := rdH_zero (a := none) (k := 5) (l := []) rfl hq1
  have hq3 := hq2.addPure (p := True) trivial
  have hq4 := rdH_zero (a := none) (k := 3) (l := []) rfl hq3
  exact ⟨(⟨0, 0, ⟨none, [], 0⟩, ⟨none, [], 0⟩⟩ : BlkV), by rw [he]; rfl, (fun h => by rw [he] at h; cases h), (fun _ => rfl), ⟨Nat.zero_le _, Nat.zero_le _, (fun r h => by cases h), fun d h => by cases h⟩, Nat.zero_le _, blA_shut (b := (⟨0, 0, ⟨none, [], 0⟩, ⟨none, [], 0⟩⟩ : BlkV)) hq4⟩
 ·
  refine WO.on rfl rfl d13 ?_
  refine WO.mv rfl rfl ?_
  refine WO.on rfl rfl d13 ?_
  refine WO.V (run_gtr rfl rfl) ?_
  refine WO.V (run_pickF rfl d13 rfl) ?_
  refine WO.mv rfl rfl ?_
  refine dcase (p := 99999999 < first) (fun g17 d17 => ?_) (fun g17 d17 => ?_)
  ·
   refine WO.off rfl rfl d17 rfl ?_
   refine WO.off rfl rfl d17 rfl ?_
   refine WO.off rfl rfl d17 rfl ?_
   refine WO.V (run_pickT rfl d17 rfl) ?_
   refine WO.mv rfl rfl ?_
   refine WO.off rfl rfl rfl rfl ?_
   refine WO.off rfl rfl rfl rfl ?_
   refine WO.off rfl rfl rfl rfl ?_
   refine WO.off rfl rfl rfl rfl ?_
   refine WO.off rfl rfl rfl rfl ?_
   refine WO.off rfl rfl rfl rfl ?_
   refine WO.V (run_pickT rfl rfl rfl) ?_
   refine WO.nil (NX.go ?_)
   refine WP.condT rfl rfl ?_
   refine WP.seq (WP.region rfl ?_)
   refine WO.V (run_build (v := Value.agg #[Value.int .i64 0, Value.int .i64 0, Value.slice none 0 0, Value.slice none 0 0]) rfl (fun w => by kernel_rfl)) ?_
   refine WO.store (l' := [Value.int .i64 0, Value.int .i64 0, Value.slice none 0 0, Value.slice none 0 0]) 0 hS1 rfl Ty.sz37 rfl rfl rfl rfl rfl (Nat.le_of_ble_eq_true rfl) rfl (fun w4 (hS4 : St B (cel g2 [Value.int .i64 0, Value.int .i64 0, Value.slice none 0 0, Value.slice none 0 0] 37 :: X :: allA recA rs :: L) w4) => ?_)
   clear hS1
   refine WO.asg rfl rfl ?_
   refine WO.nil (NX.go (WP.ret (NX.thenRet ?_)))
   refine NX.doneC (l := [.cell 4 37, .tmp 5]) rfl (.cons (.cell rfl (loadVar_agg (vs := [Value.int .i64 0, Value.int .i64 0, Value.slice none 0 0, Value.slice none 0 0]) Ty.ag37 Ty.sz37 rfl (cell_all (hS4.cel_at 0 rfl) 0 rfl))) (.cons (.tmp rfl) .nil)) ?_
   have he : ofE first (rs.map Rcd.p) = 2 := if_pos (by rw [List.length_map]; omega)
   have hq1 : St B (allA recA [] :: X :: allA recA rs :: L) w4 := (hS4.drop).addPure trivial
   have hq2 := rdH_zero (a := none) (k := 5) (l := []) rfl hq1
   have hq3 := hq2.addPure (p := True) trivial
   have hq4 := rdH_zero (a := none) (k := 3) (l := []) rfl hq3
   exact ⟨(⟨0, 0, ⟨none, [], 0⟩, ⟨none, [], 0⟩⟩ : BlkV), by rw [he]; rfl, (fun h => by rw [he] at h; cases h), (fun _ => rfl), ⟨Nat.zero_le _, Nat.zero_le _, (fun r h => by cases h), fun d h => by cases h⟩, Nat.zero_le _, blA_shut (b := (⟨0, 0, ⟨none, [], 0⟩, ⟨none, [], 0⟩⟩ : BlkV)) hq4⟩
  ·
   refine WO.on rfl rfl d17 ?_
   refine WO.mv rfl rfl ?_
   refine WO.on rfl rfl d17 ?_
   refine WO.V (run_len rfl Tryz.underlying22 rfl) ?_
   refine WO.on rfl rfl d17 ?_
   refine WO.V (run_eql rfl rfl) ?_
   refine WO.V (run_pickF rfl d17 rfl) ?_
   refine WO.mv rfl rfl ?_
   refine dcase (p := ((rs.length : Nat) : Int) = 0) (fun g22 d22 => ?_) (fun g22 d22 => ?_)
   ·
    refine WO.off rfl rfl d22 rfl ?_
    refine WO.off rfl rfl d22 rfl ?_
    refine WO.off rfl rfl d22 rfl ?_
    refine WO.off rfl rfl d22 rfl ?_
    refine WO.off rfl rfl d22 rfl ?_
    refine WO.off rfl rfl d22 rfl ?_
    refine WO.V (run_pickT rfl d22 rfl) ?_
    refine WO.nil (NX.go ?_)
    refine WP.condT rfl rfl ?_
    refine WP.seq (WP.region rfl ?_)
    refine WO.V (run_build (v := Value.agg #[Value.int .i64 0, Value.int .i64 0, Value.slice none 0 0, Value.slice none 0 0]) rfl (fun w => by kernel_rfl)) ?_
    refine WO.store (l' := [Value.int .i64 0, Value.int .i64 0, Value.slice none 0 0, Value.slice none 0 0]) 0 hS1 rfl Ty.sz37 rfl rfl rfl rfl rfl (Nat.le_of_ble_eq_true rfl) rfl (fun w5 (hS5 : St B (cel g2 [Value.int .i64 0, Value.int .i64 0, Value.slice none 0 0, Value.slice none 0 0] 37 :: X :: allA recA rs :: L) w5) => ?_)
    clear hS1
    refine WO.asg rfl rfl ?_
    refine WO.nil (NX.go (WP.ret (NX.thenRet ?_)))
    refine NX.doneC (l := [.cell 4 37, .tmp 5]) rfl (.cons (.cell rfl (loadVar_agg (vs := [Value.int .i64 0, Value.int .i64 0, Value.slice none 0 0, Value.slice none 0 0]) Ty.ag37 Ty.sz37 rfl (cell_all (hS5.cel_at 0 rfl) 0 rfl))) (.cons (.tmp rfl) .nil)) ?_
    have he : ofE first (rs.map Rcd.p) = 2 := if_pos (by rw [List.length_map]; omega)
    have hq1 : St B (allA recA [] :: X :: allA recA rs :: L) w5 := (hS5.drop).addPure trivial
    have hq2 := rdH_zero (a := none) (k := 5) (l := []) rfl hq1
    have hq3 := hq2.addPure (p := True) trivial
    have hq4 := rdH_zero (a := none) (k := 3) (l := []) rfl hq3
    exact ⟨(⟨0, 0, ⟨none, [], 0⟩, ⟨none, [], 0⟩⟩ : BlkV), by rw [he]; rfl, (fun h => by rw [he] at h; cases h), (fun _ => rfl), ⟨Nat.zero_le _, Nat.zero_le _, (fun r h => by cases h), fun d h => by cases h⟩, Nat.zero_le _, blA_shut (b := (⟨0, 0, ⟨none, [], 0⟩, ⟨none, [], 0⟩⟩ : BlkV)) hq4⟩
   ·
    refine WO.on rfl rfl d22 ?_
    refine WO.mv rfl rfl ?_
    refine WO.on rfl rfl d22 ?_
    refine WO.V (run_len rfl Tryz.underlying22 rfl) ?_
    refine WO.on rfl rfl d22 ?_
    refine WO.mv rfl rfl ?_
    refine WO.on rfl rfl d22 ?_
    refine WO.V (run_sub rfl rfl (IntWalk.i64_in _ (by omega))) ?_
    refine WO.on rfl rfl d22 ?_
    refine WO.V (run_add rfl rfl (IntWalk.i64_in _ (by omega))) ?_
    refine WO.on rfl rfl d22 ?_
    refine WO.V (run_gtr rfl rfl) ?_
    refine WO.V (run_pickF rfl d22 rfl) ?_
    refine WO.nil (NX.go ?_)
    refine WP.condP rfl (fun g29 => ?_) (fun g29 => ?_)
    ·
     refine WP.seq (WP.region rfl ?_)
     refine WO.V (run_build (v := Value.agg #[Value.int .i64 0, Value.int .i64 0, Value.slice none 0 0, Value.slice none 0 0]) rfl (fun w => by kernel_rfl)) ?_
     refine WO.store (l' := [Value.int .i64 0, Value.int .i64 0, Value.slice none 0 0, Value.slice none 0 0]) 0 hS1 rfl Ty.sz37 rfl rfl rfl rfl rfl (Nat.le_of_ble_eq_true rfl) rfl (fun w6 (hS6 : St B (cel g2 [Value.int .i64 0, Value.int .i64 0, Value.slice none 0 0, Value.slice none 0 0] 37 :: X :: allA recA rs :: L) w6) => ?_)
     clear hS1
     refine WO.asg rfl rfl ?_
     refine WO.nil (NX.go (WP.ret (NX.thenRet ?_)))
     refine NX.doneC (l := [.cell 4 37, .tmp 5]) rfl (.cons (.cell rfl (loadVar_agg (vs := [Value.int .i64 0, Value.int .i64 0, Value.slice none 0 0, Value.slice none 0 0]) Ty.ag37 Ty.sz37 rfl (cell_all (hS6.cel_at 0 rfl) 0 rfl))) (.cons (.tmp rfl) .nil)) ?_
     have he : ofE first (rs.map Rcd.p) = 2 := if_pos (by rw [List.length_map]; omega)
     have hq1 : St B (allA recA [] :: X :: allA recA rs :: L) w6 := (hS6.drop).addPure trivial
     have hq2 := rdH_zero (a := none) (k := 5) (l := []) rfl hq1
     have hq3 := hq2.addPure (p := True) trivial
     have hq4 := rdH_zero (a := none) (k := 3) (l := []) rfl hq3
     exact ⟨(⟨0, 0, ⟨none, [], 0⟩, ⟨none, [], 0⟩⟩ : BlkV), by rw [he]; rfl, (fun h => by rw [he] at h; cases h), (fun _ => rfl), ⟨Nat.zero_le _, Nat.zero_le _, (fun r h => by cases h), fun d h => by cases h⟩, Nat.zero_le _, blA_shut (b := (⟨0, 0, ⟨none, [], 0⟩, ⟨none, [], 0⟩⟩ : BlkV)) hq4⟩
    ·
     refine WP.skip (NX.go (WP.seq (WP.region rfl ?_)))
     refine WO.V (run_build (v := Value.agg #[Value.slice none 0 0]) rfl (fun w => by kernel_rfl)) ?_
     refine WO.box (l := [Value.slice none 0 0]) hS1 rfl rfl rfl (fun g8 w7 lg8 hS7 => ?_)
     clear hS1
     refine WO.asg rfl rfl ?_
     refine WO.nil (NX.go (WP.seq ?_))
     have hS9 := (hS7.own_nil 58 3)
     clear hS7
     have hS10 : St B (allA (rhwA 76) [] :: own none 0 0 58 3 [] :: cel g8 [Value.slice none 0 0] 55 :: cel g2 [Value.int .i64 0, Value.int .i64 0, Value.slice none 0 0, Value.slice none 0 0] 37 :: X :: allA recA rs :: L) w7 := hS9.addPure trivial
     clear hS9
     have hS11 := rf_shut (tH := 55) (tR := 58) (tP := 76) (g := g8) (S := []) (A := []) rfl (hS10.permT [2, 1] (L' := cel g8 [Value.slice none 0 0] 55 :: own none 0 0 58 3 [] :: allA (rhwA 76) [] :: cel g2 [Value.int .i64 0, Value.int .i64 0, Value.slice none 0 0, Value.slice none 0 0] 37 :: X :: allA recA rs :: L) rfl)
     clear hS10
     obtain ⟨gr, hgr, hS12⟩ : ∃ qq, g8 = qq ∧ St B (rfA 55 58 76 qq [] :: cel g2 [Value.int .i64 0, Value.int .i64 0, Value.slice none 0 0, Value.slice none 0 0] 37 :: X :: allA recA rs :: L) w7 := ⟨_, rfl, hS11⟩
     clear hS11
     refine WP.as (d := 32) (v := Value.pointer (some ⟨gr, 0, none⟩)) rfl (by rw [hgr]) ?_
     refine WP.as (d := 6) (v := Value.pointer (some ⟨gr, 0, none⟩)) rfl (by rw [hgr]) ?_
     have hlen : 1 ≤ rs.length ∧ rs.length ≤ 99999999 := by omega
     refine WP.region rfl ?_
     refine WO.mv rfl rfl ?_
     refine WO.mv rfl rfl ?_
     refine WO.mv rfl rfl ?_
     refine WO.V (run_len rfl Tryz.underlying22 rfl) ?_
     refine WO.V (run_add rfl rfl (IntWalk.i64_in _ (by omega))) ?_
     refine WO.V (run_sub rfl rfl (IntWalk.i64_in _ (by omega))) ?_
     refine WO.V (run_build (v := Value.agg #[Value.int .i64 first, Value.int .i64 ((first + ((rs.length : Nat) : Int)) - 1), Value.slice none 0 0, Value.slice none 0 0]) rfl (fun w => by kernel_rfl)) ?_
     refine WO.alloc (l := [Value.int .i64 0, Value.int .i64 0, Value.slice none 0 0, Value.slice none 0 0]) hS12 Ty.zr37 rfl rfl (fun g14 w13 lg14 hS13 => ?_)
     clear hS12
     refine WO.store (l' := [Value.int .i64 first, Value.int .i64 ((first + ((rs.length : Nat) : Int)) - 1), Value.slice none 0 0, Value.slice none 0 0]) 0 hS13 rfl Ty.sz37 rfl rfl rfl rfl rfl (Nat.le_of_ble_eq_true rfl) rfl (fun w15 (hS15 : St B (cel g14 [Value.int .i64 first, Value.int .i64 ((first + ((rs.length : Nat) : Int)) - 1), Value.slice none 0 0, Value.slice none 0 0] 37 :: rfA 55 58 76 gr [] :: cel g2 [Value.int .i64 0, Value.int .i64 0, Value.slice none 0 0, Value.slice none 0 0] 37 :: X :: allA recA rs :: L) w15) => ?_)
     clear hS13
     refine WO.nil (NX.go (WP.seq (WP.seq (WP.region rfl ?_))))
     refine WO.asg rfl rfl ?_
     refine WO.nil (NX.go (WP.block ?_))
     replace hS15 := (St.addPure trivial hS15 : St B (allA recA [] :: cel g14 [Value.int .i64 first, Value.int .i64 ((first + ((rs.length : Nat) : Int)) - 1), Value.slice none 0 0, Value.slice none 0 0] 37 :: rfA 55 58 76 gr [] :: cel g2 [Value.int .i64 0, Value.int .i64 0, Value.slice none 0 0, Value.slice none 0 0] 37 :: X :: allA recA rs :: L) w15)
     replace hS15 := hS15.own_nil 27 5
     refine WP.loop (α := Nat × List RowP × List Rcd × Option Addr × Nat) (fun x => match x with | ⟨i, A, ds, da, dc⟩ => [(0, Value.int .i64 first), (1, Value.slice b rs.length cap), (4, Value.pointer (some ⟨g2, 0, none⟩)), (6, Value.pointer (some ⟨gr, 0, none⟩)), (7, Value.pointer (some ⟨g14, 0, none⟩)), (8, Value.int .i64 (i : Int))]) (fun x w => match x with | ⟨i, A, ds, da, dc⟩ => (i ≤ rs.length ∧ WfH A (32 * i) ∧ A.length ≤ 256 ∧ runP [] (rs.map Rcd.p) = runP A ((rs.drop i).map Rcd.p) ∧ ds.map Rcd.p = delsOf ((rs.take i).map Rcd.p) ∧ ds.length ≤ i ∧ (∀ d ∈ ds, SzR d)) ∧ St B (own da ds.length dc 27 5 (ds.flatMap rcc) :: allA recA ds :: cel g14 [Value.int .i64 first, Value.int .i64 (first + ((rs.length : Nat) : Int) - 1), Value.slice none 0 0, Value.slice da ds.length dc] 37 :: cel g2 [Value.int .i64 0, Value.int .i64 0, Value.slice none 0 0, Value.slice none 0 0] 37 :: rfA 55 58 76 gr A :: X :: allA recA rs :: L) w) (fun x => match x with | ⟨i, A, ds, da, dc⟩ => rs.length - i) (0, [], [], none, 0) ⟨⟨Nat.zero_le _, wf_nil _, Nat.zero_le _, rfl, rfl, Nat.le_refl _, fun d h => by cases h⟩, (hS15.permT [0, 0, 0, 1] (L' := own none 0 0 27 5 [] :: allA recA [] :: cel g14 [Value.int .i64 first, Value.int .i64 ((first + ((rs.length : Nat) : Int)) - 1), Value.slice none 0 0, Value.slice none 0 0] 37 :: cel g2 [Value.int .i64 0, Value.int .i64 0, Value.slice none 0 0, Value.slice none 0 0] 37 :: rfA 55 58 76 gr [] :: X :: allA recA rs :: L) rfl)⟩ (Sub.cons rfl (Sub.cons rfl (Sub.cons rfl (Sub.cons rfl (Sub.cons rfl (Sub.consE rfl (by first | rfl | first | rfl | (congr 1; omega) | (simp; done) | (simp; omega)) (Sub.nil _))))))) ?_
     rintro ⟨i, A, ds, da, dc⟩ w16 ⟨⟨hi, hA, hAl, hrun, hds, hdn, hdz⟩, hS16⟩
     clear hS15
     refine WP.seq (WP.seq (WP.region rfl ?_))
     refine WO.mv rfl rfl ?_
     refine WO.mv rfl rfl ?_
     refine WO.V (run_len rfl Tryz.underlying22 rfl) ?_
     refine WO.V (run_lss rfl rfl) ?_
     refine WO.nil (NX.go ?_)
     refine WP.condP rfl (fun g43 => ?_) (fun g43 => ?_)
     ·
      refine WP.skip (NX.go (WP.seq (WP.block (WP.seq ?_))))
      obtain ⟨d1, hd1⟩ : ∃ qq, rs[i]? = some qq := ⟨_, List.getElem?_eq_getElem (by omega)⟩
      have hzd := hz d1 (List.mem_of_getElem? hd1)
      have hS17 := allA_get recA_pers (List.mem_of_getElem? hd1) (hS16.permT [6] (L' := allA recA rs :: own da ds.length dc 27 5 (ds.flatMap rcc) :: allA recA ds :: cel g14 [Value.int .i64 first, Value.int .i64 (first + ((rs.length : Nat) : Int) - 1), Value.slice none 0 0, Value.slice da ds.length dc] 37 :: cel g2 [Value.int .i64 0, Value.int .i64 0, Value.slice none 0 0, Value.slice none 0 0] 37 :: rfA 55 58 76 gr A :: X :: L) rfl)
      clear hS16
      have hsb : b.isSome = true := rd_isSome ((hX (hS17.focus 7 rfl))) (by omega)
      refine WP.region rfl ?_
      refine WO.mv rfl rfl ?_
      refine WO.mv rfl rfl ?_
      refine WO.mv rfl rfl ?_
      refine WO.V (run_indexAddr (q := adr b (i * 5)) Tryz.underlying22 Ty.sz27 rfl rfl (by omega) (by omega) ((hX (hS17.focus 7 rfl)).2.1 (by omega)) rfl) ?_
      refine WO.V (run_loadAgg (vs := (rcc d1)) Ty.ag27 Ty.sz27 rfl ((hX (hS17.focus 7 rfl)).cells (by rw [flat_len rcc_len]; omega) (flat_part rcc_len hd1)).1 ((hX (hS17.focus 7 rfl)).cells (by rw [flat_len rcc_len]; omega) (flat_part rcc_len hd1)).2) ?_
      have hS18 := hS17.permT [6] (L' := rfA 55 58 76 gr A :: recA d1 :: allA recA rs :: own da ds.length dc 27 5 (ds.flatMap rcc) :: allA recA ds :: cel g14 [Value.int .i64 first, Value.int .i64 (first + ((rs.length : Nat) : Int) - 1), Value.slice none 0 0, Value.slice da ds.length dc] 37 :: cel g2 [Value.int .i64 0, Value.int .i64 0, Value.slice none 0 0, Value.slice none 0 0] 37 :: X :: L) rfl
      clear hS17
      refine WO.call rfl rfl Ty.hd14 rfl (rhapply_spec (g := gr) hA (by omega) (by omega) d1 hzd hS18) (fun v20 w19 pv20 => ?_)
      obtain ⟨rfl, hS19⟩ := pv20
      clear hS18
      refine WO.asg rfl rfl ?_
      refine WO.nil (NX.go (WP.seq (WP.seq (WP.region rfl ?_))))
      refine WO.mv rfl rfl ?_
      refine WO.V (run_neq rfl rfl) ?_
      refine WO.nil (NX.go ?_)
      refine WP.condP rfl (fun g53 => ?_) (fun g53 => ?_)
      ·
       refine WP.seq (WP.region rfl ?_)
       refine WO.V (run_build (v := Value.agg #[Value.int .i64 0, Value.int .i64 0, Value.slice none 0 0, Value.slice none 0 0]) rfl (fun w => by kernel_rfl)) ?_
       refine WO.mv rfl rfl ?_
       refine WO.store (l' := [Value.int .i64 0, Value.int .i64 0, Value.slice none 0 0, Value.slice none 0 0]) 6 hS19 rfl Ty.sz37 rfl rfl rfl rfl rfl (Nat.le_of_ble_eq_true rfl) rfl (fun w21 (hS21 : St B (rfA 55 58 76 gr (applyP A d1.p) :: recA d1 :: allA recA rs :: own da ds.length dc 27 5 (ds.flatMap rcc) :: allA recA ds :: cel g14 [Value.int .i64 first, Value.int .i64 (first + ((rs.length : Nat) : Int) - 1), Value.slice none 0 0, Value.slice da ds.length dc] 37 :: cel g2 [Value.int .i64 0, Value.int .i64 0, Value.slice none 0 0, Value.slice none 0 0] 37 :: X :: L) w21) => ?_)
       clear hS19
       refine WO.asg rfl rfl ?_
       refine WO.nil (NX.go (WP.ret (NX.thenRet (NX.blkRet (NX.thenRet (NX.thenRet (NX.blkRet (NX.thenRet ?_))))))))
       refine NX.doneC (l := [.cell 4 37, .tmp 5]) rfl (.cons (.cell rfl (loadVar_agg (vs := [Value.int .i64 0, Value.int .i64 0, Value.slice none 0 0, Value.slice none 0 0]) Ty.ag37 Ty.sz37 rfl (cell_all (hS21.cel_at 6 rfl) 0 rfl))) (.cons (.tmp rfl) .nil)) ?_
       have hrun2 : runP [] (rs.map Rcd.p) = (tryP A d1.p, A) := by rw [hrun, drop_cons hd1, List.map_cons, runP, if_neg g53]
       have he : ofE first (rs.map Rcd.p) = tryP A d1.p := by rw [show ofE first (rs.map Rcd.p) = (runP [] (rs.map Rcd.p)).1 from if_neg (by rw [List.length_map]; omega), hrun2]
       have hq1 : St B (allA recA [] :: X :: allA recA rs :: L) w21 := (((hS21.mask [false, false, true, false, false, false, false] (L' := allA recA rs :: X :: L) rfl).permT [1] (L' := X :: allA recA rs :: L) rfl)).addPure trivial
       have hq2 := rdH_zero (a := none) (k := 5) (l := []) rfl hq1
       have hq3 := hq2.addPure (p := True) trivial
       have hq4 := rdH_zero (a := none) (k := 3) (l := []) rfl hq3
       exact ⟨(⟨0, 0, ⟨none, [], 0⟩, ⟨none, [], 0⟩⟩ : BlkV), by rw [he]; rfl, (fun h => absurd (he ▸ h) g53), (fun _ => rfl), ⟨Nat.zero_le _, Nat.zero_le _, (fun r h => by cases h), fun d h => by cases h⟩, Nat.zero_le _, blA_shut (b := (⟨0, 0, ⟨none, [], 0⟩, ⟨none, [], 0⟩⟩ : BlkV)) hq4⟩
      ·
       refine WP.skip (NX.go (WP.seq ?_))
       have ht0 : tryP A d1.p = 0 := by simpa using g53
       refine WP.region rfl ?_
       refine WO.mv rfl rfl ?_
       refine WO.mv rfl rfl ?_
       refine WO.V (run_indexAddr (q := adr b (i * 5)) Tryz.underlying22 Ty.sz27 rfl rfl (by omega) (by omega) ((hX (hS19.focus 7 rfl)).2.1 (by omega)) rfl) ?_
       refine WO.V (run_fa 0 (adr b (i * 5 + 0)) rfl (adr_add _ (by assumption) _ _)) ?_
       refine WO.V (run_load Ty.ag3 rfl ((hX (hS19.focus 7 rfl)).cell ((flat_get rcc_len hd1 (j := 0) (by decide)).trans rfl))) ?_
       refine WO.V (run_eql rfl rfl) ?_
       refine WO.nil (NX.go ?_)
       refine WP.condP rfl (fun g61 => ?_) (fun g61 => ?_)
       ·
        refine WD.start (fun w => (∀ jz, World.cell? w ⟨g14, jz, none⟩ = [Value.int .i64 first, Value.int .i64 (first + ((rs.length : Nat) : Int) - 1), Value.slice none 0 0, Value.slice da ds.length dc][jz]?) ∧ (∀ jz, World.cell? w ⟨g2, jz, none⟩ = [Value.int .i64 0, Value.int .i64 0, Value.slice none 0 0, Value.slice none 0 0][jz]?) ∧ Rd w b rs.length 5 (rs.flatMap rcc)) [7, 9] (bt 10 0) Ty.mo rfl (by kernel_rfl) hS19 (fun _ h => ⟨h.cel_at 5 rfl, h.cel_at 6 rfl, (hX (h.focus 7 rfl))⟩) (fun w22 hS22 s23 => ?_)
        clear hS19
        refine DP (i := 0) t7_12 (bt 10 1) rfl rfl rfl rfl (fun w => run_fa 3 ⟨g14, 3, none⟩ rfl rfl) ?_
        refine DT (i := 1) t7_12 (bt 10 3) s23 rfl rfl rfl rfl (fun w hs => run_load Ty.ag22 rfl ((hs.1 3).trans rfl)) ?_
        refine DP (i := 2) t7_12 (bt 10 7) rfl rfl rfl rfl (fun w => run_move rfl) ?_
        refine DP (i := 3) t7_12 (bt 10 15) rfl rfl rfl rfl (fun w => run_move rfl) ?_
        refine DT (i := 4) t7_12 (bt 10 31) s23 rfl rfl rfl rfl (fun w hs => run_indexAddr (q := adr b (i * 5)) Tryz.underlying22 Ty.sz27 rfl rfl (by omega) (by omega) ((hs.2.2).2.1 (by omega)) rfl) ?_
        refine DT (i := 5) t7_12 (bt 10 63) s23 rfl rfl rfl rfl (fun w hs => run_loadAgg (vs := (rcc d1)) Ty.ag27 Ty.sz27 rfl ((hs.2.2).cells (by rw [flat_len rcc_len]; omega) (flat_part rcc_len hd1)).1 ((hs.2.2).cells (by rw [flat_len rcc_len]; omega) (flat_part rcc_len hd1)).2) ?_
        refine WD.one (i := 6) t7_12 (bt 10 127) rfl (by kernel_rfl) ?_
        refine WO.buildSlice (l := (rcc d1)) hS22 Tryz.underlying22 rfl (fun w => by kernel_rfl) rfl (fun g25 w24 lg25 hS24 => ?_)
        clear hS22
        refine WO.nil ?_
        have s26 : (∀ jz, World.cell? w24 ⟨g14, jz, none⟩ = [Value.int .i64 first, Value.int .i64 (first + ((rs.length : Nat) : Int) - 1), Value.slice none 0 0, Value.slice da ds.length dc][jz]?) ∧ (∀ jz, World.cell? w24 ⟨g2, jz, none⟩ = [Value.int .i64 0, Value.int .i64 0, Value.slice none 0 0, Value.slice none 0 0][jz]?) ∧ Rd w24 b rs.length 5 (rs.flatMap rcc) := ⟨hS24.cel_at 6 rfl, hS24.cel_at 7 rfl, (hX (hS24.focus 8 rfl))⟩
        refine NX.held s26 ?_
        refine WD.one (i := 7) t7_12 (bt 10 255) rfl (by kernel_rfl) ?_
        refine WO.append (news := (rcc d1)) 4 rfl Tryz.underlying22 Tryz.underlying22 (fun _ h => by cases h) Ty.sz27 (by decide) Ty.by27 Ty.zr27 rfl rfl rfl rfl hS24 rfl ((hS24.cel_rd 0 rfl (o := 0) (m := 1) (k := 5) rfl (Nat.le_of_ble_eq_true rfl)).src) rfl (by omega) (by omega) (fun a28 c29 w27 hS27 => ?_)
        replace hS27 : St B (cel g25 (rcc d1) 27 :: rfA 55 58 76 gr (applyP A d1.p) :: recA d1 :: allA recA rs :: own a28 (ds.length + 1) c29 27 5 ((ds.flatMap rcc) ++ (rcc d1)) :: allA recA ds :: cel g14 [Value.int .i64 first, Value.int .i64 (first + ((rs.length : Nat) : Int) - 1), Value.slice none 0 0, Value.slice da ds.length dc] 37 :: cel g2 [Value.int .i64 0, Value.int .i64 0, Value.slice none 0 0, Value.slice none 0 0] 37 :: X :: L) w27 := hS27
        clear hS24
        refine WO.nil ?_
        refine NX.last (by decide) ?_
        refine DP (i := 8) t7_12 (bt 10 511) rfl rfl rfl rfl (fun w => run_fa 3 ⟨g14, 3, none⟩ rfl rfl) ?_
        refine WD.one (i := 9) t7_12 (bt 10 1023) rfl (by kernel_rfl) ?_
        refine WO.store (l' := [Value.int .i64 first, Value.int .i64 (first + ((rs.length : Nat) : Int) - 1), Value.slice none 0 0, Value.slice a28 (ds.length + 1) c29]) 6 hS27 rfl Ty.sz22 rfl rfl rfl rfl rfl (Nat.le_of_ble_eq_true rfl) rfl (fun w30 (hS30 : St B (cel g25 (rcc d1) 27 :: rfA 55 58 76 gr (applyP A d1.p) :: recA d1 :: allA recA rs :: own a28 (ds.length + 1) c29 27 5 ((ds.flatMap rcc) ++ (rcc d1)) :: allA recA ds :: cel g14 [Value.int .i64 first, Value.int .i64 (first + ((rs.length : Nat) : Int) - 1), Value.slice none 0 0, Value.slice a28 (ds.length + 1) c29] 37 :: cel g2 [Value.int .i64 0, Value.int .i64 0, Value.slice none 0 0, Value.slice none 0 0] 37 :: X :: L) w30) => ?_)
        clear hS27
        refine WO.nil ?_
        refine NX.last (by decide) ?_
        refine WD.done t7_12 (by kernel_rfl) ?_
        refine NX.blk (NX.go (WP.region rfl ?_))
        refine WO.mv rfl rfl ?_
        refine WO.V (run_add rfl rfl (IntWalk.i64_in _ (by omega))) ?_
        refine WO.asg rfl rfl ?_
        refine WO.nil ?_
        have hS31 := allA_snoc (x := d1) (hS30.permT [5, 2] (L' := allA recA ds :: recA d1 :: cel g25 (rcc d1) 27 :: rfA 55 58 76 gr (applyP A d1.p) :: allA recA rs :: own a28 (ds.length + 1) c29 27 5 ((ds.flatMap rcc) ++ (rcc d1)) :: cel g14 [Value.int .i64 first, Value.int .i64 (first + ((rs.length : Nat) : Int) - 1), Value.slice none 0 0, Value.slice a28 (ds.length + 1) c29] 37 :: cel g2 [Value.int .i64 0, Value.int .i64 0, Value.slice none 0 0, Value.slice none 0 0] 37 :: X :: L) rfl)
        clear hS30
        exact NX.again (i + 1, applyP A d1.p, ds ++ [d1], a28, c29) ⟨⟨by omega, wf_applyP hA, applyP_len hAl, by rw [drop_cons hd1, List.map_cons, runP, if_pos ht0] at hrun; exact hrun, by rw [take_snocM hd1, List.map_append, List.map_append, hds, show [d1].map Rcd.p = [d1.p] from rfl, dels_snoc, if_pos (show d1.p.k = 2 from g61)], by rw [List.length_append]; simp; omega, fun d hd => by rcases List.mem_append.1 hd with hd | hd; (· exact hdz d hd); (· rw [List.mem_singleton.1 hd]; exact hzd)⟩, by have z9 := own_eqM (l' := (ds ++ [d1]).flatMap rcc) (((hS31.mask [true, false] (L' := allA recA (ds ++ [d1]) :: rfA 55 58 76 gr (applyP A d1.p) :: allA recA rs :: own a28 (ds.length + 1) c29 27 5 ((ds.flatMap rcc) ++ (rcc d1)) :: cel g14 [Value.int .i64 first, Value.int .i64 (first + ((rs.length : Nat) : Int) - 1), Value.slice none 0 0, Value.slice a28 (ds.length + 1) c29] 37 :: cel g2 [Value.int .i64 0, Value.int .i64 0, Value.slice none 0 0, Value.slice none 0 0] 37 :: X :: L) rfl).permT [3, 0, 2, 2, 0, 1] (L' := own a28 (ds.length + 1) c29 27 5 ((ds.flatMap rcc) ++ (rcc d1)) :: allA recA (ds ++ [d1]) :: cel g14 [Value.int .i64 first, Value.int .i64 (first + ((rs.length : Nat) : Int) - 1), Value.slice none 0 0, Value.slice a28 (ds.length + 1) c29] 37 :: cel g2 [Value.int .i64 0, Value.int .i64 0, Value.slice none 0 0, Value.slice none 0 0] 37 :: rfA 55 58 76 gr (applyP A d1.p) :: X :: allA recA rs :: L) rfl)) rfl (by simp); rw [show ds.length + 1 = (ds ++ [d1]).length by simp] at z9; exact z9⟩ (by show rs.length - (i + 1) < rs.length - i; omega) (Sub.cons rfl (Sub.cons rfl (Sub.cons rfl (Sub.cons rfl (Sub.cons rfl (Sub.consE rfl (by congr 1) (Sub.nil _)))))))
       ·
        refine WP.skip (NX.blk (NX.go (WP.region rfl ?_)))
        refine WO.mv rfl rfl ?_
        refine WO.V (run_add rfl rfl (IntWalk.i64_in _ (by omega))) ?_
        refine WO.asg rfl rfl ?_
        refine WO.nil ?_
        exact NX.again (i + 1, applyP A d1.p, ds, da, dc) ⟨⟨by omega, wf_applyP hA, applyP_len hAl, by rw [drop_cons hd1, List.map_cons, runP, if_pos ht0] at hrun; exact hrun, by rw [take_snocM hd1, List.map_append, show [d1].map Rcd.p = [d1.p] from rfl, dels_snoc, if_neg (show ¬ d1.p.k = 2 from g61), List.append_nil]; exact hds, by omega, hdz⟩, ((hS19.mask [true, false] (L' := rfA 55 58 76 gr (applyP A d1.p) :: allA recA rs :: own da ds.length dc 27 5 (ds.flatMap rcc) :: allA recA ds :: cel g14 [Value.int .i64 first, Value.int .i64 (first + ((rs.length : Nat) : Int) - 1), Value.slice none 0 0, Value.slice da ds.length dc] 37 :: cel g2 [Value.int .i64 0, Value.int .i64 0, Value.slice none 0 0, Value.slice none 0 0] 37 :: X :: L) rfl).permT [2, 2, 2, 2, 0, 1] (L' := own da ds.length dc 27 5 (ds.flatMap rcc) :: allA recA ds :: cel g14 [Value.int .i64 first, Value.int .i64 (first + ((rs.length : Nat) : Int) - 1), Value.slice none 0 0, Value.slice da ds.length dc] 37 :: cel g2 [Value.int .i64 0, Value.int .i64 0, Value.slice none 0 0, Value.slice none 0 0] 37 :: rfA 55 58 76 gr (applyP A d1.p) :: X :: allA recA rs :: L) rfl)⟩ (by show rs.length - (i + 1) < rs.length - i; omega) (Sub.cons rfl (Sub.cons rfl (Sub.cons rfl (Sub.cons rfl (Sub.cons rfl (Sub.consE rfl (by congr 1) (Sub.nil _)))))))
     ·
      refine WP.exit (NX.thenExit (NX.thenExit ?_))
      refine NX.blkExit ?_
      refine NX.go (WP.seq (WP.seq ?_))
      obtain ⟨S, ra, rc, hSA, hS32⟩ := rf_open (hS16.permT [4] (L' := rfA 55 58 76 gr A :: own da ds.length dc 27 5 (ds.flatMap rcc) :: allA recA ds :: cel g14 [Value.int .i64 first, Value.int .i64 (first + ((rs.length : Nat) : Int) - 1), Value.slice none 0 0, Value.slice da ds.length dc] 37 :: cel g2 [Value.int .i64 0, Value.int .i64 0, Value.slice none 0 0, Value.slice none 0 0] 37 :: X :: allA recA rs :: L) rfl)
      clear hS16
      have hSl : S.length = A.length := by rw [← hSA, List.length_map]
      refine WP.region rfl ?_
      refine WO.asg rfl rfl ?_
      refine WO.nil (NX.go (WP.block ?_))
      replace hS32 := hS32.own_nil 60 3
      refine WP.loop (α := Nat × Option Addr × Nat) (fun x => match x with | ⟨j, ta, tc⟩ => [(0, Value.int .i64 first), (1, Value.slice b rs.length cap), (4, Value.pointer (some ⟨g2, 0, none⟩)), (6, Value.pointer (some ⟨gr, 0, none⟩)), (7, Value.pointer (some ⟨g14, 0, none⟩)), (10, Value.int .i64 (j : Int))]) (fun x w => match x with | ⟨j, ta, tc⟩ => (j ≤ S.length) ∧ St B (own ta j tc 60 3 ((S.take j).flatMap mrc) :: cel g14 [Value.int .i64 first, Value.int .i64 (first + ((rs.length : Nat) : Int) - 1), Value.slice ta j tc, Value.slice da ds.length dc] 37 :: own da ds.length dc 27 5 (ds.flatMap rcc) :: allA recA ds :: cel g2 [Value.int .i64 0, Value.int .i64 0, Value.slice none 0 0, Value.slice none 0 0] 37 :: cel gr [Value.slice ra S.length rc] 55 :: own ra S.length rc 58 3 (S.flatMap hsc) :: allA (rhwA 76) S :: X :: allA recA rs :: L) w) (fun x => match x with | ⟨j, ta, tc⟩ => S.length - j) (0, none, 0) ⟨Nat.zero_le _, (hS32.permT [0, 5, 3, 3, 3] (L' := own none 0 0 60 3 [] :: cel g14 [Value.int .i64 first, Value.int .i64 (first + ((rs.length : Nat) : Int) - 1), Value.slice none 0 0, Value.slice da ds.length dc] 37 :: own da ds.length dc 27 5 (ds.flatMap rcc) :: allA recA ds :: cel g2 [Value.int .i64 0, Value.int .i64 0, Value.slice none 0 0, Value.slice none 0 0] 37 :: cel gr [Value.slice ra S.length rc] 55 :: own ra S.length rc 58 3 (S.flatMap hsc) :: allA (rhwA 76) S :: X :: allA recA rs :: L) rfl)⟩ (Sub.cons rfl (Sub.cons rfl (Sub.cons rfl (Sub.cons rfl (Sub.cons rfl (Sub.consE rfl (by first | rfl | first | rfl | (congr 1; omega) | (simp; done) | (simp; omega)) (Sub.nil _))))))) ?_
      rintro ⟨j, ta, tc⟩ w33 ⟨hj, hS33⟩
      clear hS32
      refine WP.seq (WP.seq (WP.region rfl ?_))
      refine WO.mv rfl rfl ?_
      refine WO.mv rfl rfl ?_
      refine WO.V (run_nilCheck rfl) ?_
      refine WO.V (run_fa 0 ⟨gr, 0, none⟩ rfl rfl) ?_
      refine WO.V (run_load Ty.ag53 rfl ((hS33.cel_at 5 rfl 0).trans rfl)) ?_
      refine WO.V (run_len rfl Tryz.underlying53 rfl) ?_
      refine WO.V (run_lss rfl rfl) ?_
      refine WO.nil (NX.go ?_)
      refine WP.condP rfl (fun g77 => ?_) (fun g77 => ?_)
      ·
       refine WP.skip (NX.go (WP.seq (WP.block ?_)))
       obtain ⟨r, hr⟩ : ∃ qq, S[j]? = some qq := ⟨_, List.getElem?_eq_getElem (by omega)⟩
       have hsa : ra.isSome = true := rd_isSome ((hS33.own_rd_i 6 rfl)) (by omega)
       refine WD.start (fun w => (∀ jz, World.cell? w ⟨g14, jz, none⟩ = [Value.int .i64 first, Value.int .i64 (first + ((rs.length : Nat) : Int) - 1), Value.slice ta j tc, Value.slice da ds.length dc][jz]?) ∧ (∀ jz, World.cell? w ⟨g2, jz, none⟩ = [Value.int .i64 0, Value.int .i64 0, Value.slice none 0 0, Value.slice none 0 0][jz]?) ∧ (∀ jz, World.cell? w ⟨gr, jz, none⟩ = [Value.slice ra S.length rc][jz]?) ∧ Rd w ra S.length 3 (S.flatMap hsc)) [30] (bt 31 0) Ty.mo rfl (by kernel_rfl) hS33 (fun _ h => ⟨h.cel_at 1 rfl, h.cel_at 4 rfl, h.cel_at 5 rfl, (h.own_rd_i 6 rfl)⟩) (fun w34 hS34 s35 => ?_)
       clear hS33
       refine DP (i := 0) t7_16 (bt 31 1) rfl rfl rfl rfl (fun w => run_fa 2 ⟨g14, 2, none⟩ rfl rfl) ?_
       refine DT (i := 1) t7_16 (bt 31 3) s35 rfl rfl rfl rfl (fun w hs => run_load Ty.ag35 rfl ((hs.1 2).trans rfl)) ?_
       refine DP (i := 2) t7_16 (bt 31 7) rfl rfl rfl rfl (fun w => run_move rfl) ?_
       refine DP (i := 3) t7_16 (bt 31 15) rfl rfl rfl rfl (fun w => run_nilCheck rfl) ?_
       refine DP (i := 4) t7_16 (bt 31 31) rfl rfl rfl rfl (fun w => run_fa 0 ⟨gr, 0, none⟩ rfl rfl) ?_
       refine DT (i := 5) t7_16 (bt 31 63) s35 rfl rfl rfl rfl (fun w hs => run_load Ty.ag53 rfl ((hs.2.2.1 0).trans rfl)) ?_
       refine DP (i := 6) t7_16 (bt 31 127) rfl rfl rfl rfl (fun w => run_move rfl) ?_
       refine DT (i := 7) t7_16 (bt 31 255) s35 rfl rfl rfl rfl (fun w hs => run_indexAddr (q := adr ra (j * 3)) Tryz.underlying53 Ty.sz58 rfl rfl (by omega) (by omega) ((hs.2.2.2).2.1 (by omega)) rfl) ?_
       refine DP (i := 8) t7_16 (bt 31 511) rfl rfl rfl rfl (fun w => run_fa 0 (adr ra (j * 3 + 0)) rfl (adr_add _ (by assumption) _ _)) ?_
       refine DT (i := 9) t7_16 (bt 31 1023) s35 rfl rfl rfl rfl (fun w hs => run_load Ty.ag44 rfl ((hs.2.2.2).cell ((flat_get hsc_len hr (j := 0) (by decide)).trans rfl))) ?_
       refine DP (i := 10) t7_16 (bt 31 2047) rfl rfl rfl rfl (fun w => run_move rfl) ?_
       refine DP (i := 11) t7_16 (bt 31 4095) rfl rfl rfl rfl (fun w => run_nilCheck rfl) ?_
       refine DP (i := 12) t7_16 (bt 31 8191) rfl rfl rfl rfl (fun w => run_fa 0 ⟨gr, 0, none⟩ rfl rfl) ?_
       refine DT (i := 13) t7_16 (bt 31 16383) s35 rfl rfl rfl rfl (fun w hs => run_load Ty.ag53 rfl ((hs.2.2.1 0).trans rfl)) ?_
       refine DP (i := 14) t7_16 (bt 31 32767) rfl rfl rfl rfl (fun w => run_move rfl) ?_
       refine DT (i := 15) t7_16 (bt 31 65535) s35 rfl rfl rfl rfl (fun w hs => run_indexAddr (q := adr ra (j * 3)) Tryz.underlying53 Ty.sz58 rfl rfl (by omega) (by omega) ((hs.2.2.2).2.1 (by omega)) rfl) ?_
       refine DP (i := 16) t7_16 (bt 31 131071) rfl rfl rfl rfl (fun w => run_fa 2 (adr ra (j * 3 + 2)) rfl (adr_add _ (by assumption) _ _)) ?_
       refine DT (i := 17) t7_16 (bt 31 262143) s35 rfl rfl rfl rfl (fun w hs => run_load Ty.ag2 rfl ((hs.2.2.2).cell ((flat_get hsc_len hr (j := 2) (by decide)).trans rfl))) ?_
       refine DP (i := 18) t7_16 (bt 31 524287) rfl rfl rfl rfl (fun w => run_move rfl) ?_
       refine DP (i := 19) t7_16 (bt 31 1048575) rfl rfl rfl rfl (fun w => run_nilCheck rfl) ?_
       refine DP (i := 20) t7_16 (bt 31 2097151) rfl rfl rfl rfl (fun w => run_fa 0 ⟨gr, 0, none⟩ rfl rfl) ?_
       refine DT (i := 21) t7_16 (bt 31 4194303) s35 rfl rfl rfl rfl (fun w hs => run_load Ty.ag53 rfl ((hs.2.2.1 0).trans rfl)) ?_
       refine DP (i := 22) t7_16 (bt 31 8388607) rfl rfl rfl rfl (fun w => run_move rfl) ?_
       refine DT (i := 23) t7_16 (bt 31 16777215) s35 rfl rfl rfl rfl (fun w hs => run_indexAddr (q := adr ra (j * 3)) Tryz.underlying53 Ty.sz58 rfl rfl (by omega) (by omega) ((hs.2.2.2).2.1 (by omega)) rfl) ?_
       refine DP (i := 24) t7_16 (bt 31 33554431) rfl rfl rfl rfl (fun w => run_fa 1 (adr ra (j * 3 + 1)) rfl (adr_add _ (by assumption) _ _)) ?_
       refine DT (i := 25) t7_16 (bt 31 67108863) s35 rfl rfl rfl rfl (fun w hs => run_load Ty.ag56 rfl ((hs.2.2.2).cell ((flat_get hsc_len hr (j := 1) (by decide)).trans rfl))) ?_
       refine DP (i := 26) t7_16 (bt 31 134217727) rfl rfl rfl rfl (fun w => run_build (v := Value.agg #[Value.slice r.lb.a r.lb.l.length r.lb.cap, Value.int .i64 r.last, Value.slice r.pt.a r.pt.l.length r.pt.cap]) rfl (fun w => by kernel_rfl)) ?_
       refine WD.one (i := 27) t7_16 (bt 31 268435455) rfl (by kernel_rfl) ?_
       refine WO.buildSlice (l := (mrc r)) hS34 Tryz.underlying35 rfl (fun w => by kernel_rfl) rfl (fun g37 w36 lg37 hS36 => ?_)
       clear hS34
       refine WO.nil ?_
       have s38 : (∀ jz, World.cell? w36 ⟨g14, jz, none⟩ = [Value.int .i64 first, Value.int .i64 (first + ((rs.length : Nat) : Int) - 1), Value.slice ta j tc, Value.slice da ds.length dc][jz]?) ∧ (∀ jz, World.cell? w36 ⟨g2, jz, none⟩ = [Value.int .i64 0, Value.int .i64 0, Value.slice none 0 0, Value.slice none 0 0][jz]?) ∧ (∀ jz, World.cell? w36 ⟨gr, jz, none⟩ = [Value.slice ra S.length rc][jz]?) ∧ Rd w36 ra S.length 3 (S.flatMap hsc) := ⟨hS36.cel_at 2 rfl, hS36.cel_at 5 rfl, hS36.cel_at 6 rfl, (hS36.own_rd_i 7 rfl)⟩
       refine NX.held s38 ?_
       refine WD.one (i := 28) t7_16 (bt 31 536870911) rfl (by kernel_rfl) ?_
       refine WO.append (news := (mrc r)) 1 rfl Tryz.underlying35 Tryz.underlying35 (fun _ h => by cases h) Ty.sz60 (by decide) Ty.by60 Ty.zr60 rfl rfl rfl rfl hS36 rfl ((hS36.cel_rd 0 rfl (o := 0) (m := 1) (k := 3) rfl (Nat.le_of_ble_eq_true rfl)).src) rfl (by omega) (by omega) (fun a40 c41 w39 hS39 => ?_)
       replace hS39 : St B (cel g37 (mrc r) 60 :: own a40 (j + 1) c41 60 3 (((S.take j).flatMap mrc) ++ (mrc r)) :: cel g14 [Value.int .i64 first, Value.int .i64 (first + ((rs.length : Nat) : Int) - 1), Value.slice ta j tc, Value.slice da ds.length dc] 37 :: own da ds.length dc 27 5 (ds.flatMap rcc) :: allA recA ds :: cel g2 [Value.int .i64 0, Value.int .i64 0, Value.slice none 0 0, Value.slice none 0 0] 37 :: cel gr [Value.slice ra S.length rc] 55 :: own ra S.length rc 58 3 (S.flatMap hsc) :: allA (rhwA 76) S :: X :: allA recA rs :: L) w39 := hS39
       clear hS36
       refine WO.nil ?_
       have s42 : (∀ jz, World.cell? w39 ⟨g14, jz, none⟩ = [Value.int .i64 first, Value.int .i64 (first + ((rs.length : Nat) : Int) - 1), Value.slice ta j tc, Value.slice da ds.length dc][jz]?) ∧ (∀ jz, World.cell? w39 ⟨g2, jz, none⟩ = [Value.int .i64 0, Value.int .i64 0, Value.slice none 0 0, Value.slice none 0 0][jz]?) ∧ (∀ jz, World.cell? w39 ⟨gr, jz, none⟩ = [Value.slice ra S.length rc][jz]?) ∧ Rd w39 ra S.length 3 (S.flatMap hsc) := ⟨hS39.cel_at 2 rfl, hS39.cel_at 5 rfl, hS39.cel_at 6 rfl, (hS39.own_rd_i 7 rfl)⟩
       refine NX.held s42 ?_
       refine DP (i := 29) t7_16 (bt 31 1073741823) rfl rfl rfl rfl (fun w => run_fa 2 ⟨g14, 2, none⟩ rfl rfl) ?_
       refine WD.one (i := 30) t7_16 (bt 31 2147483647) rfl (by kernel_rfl) ?_
       refine WO.store (l' := [Value.int .i64 first, Value.int .i64 (first + ((rs.length : Nat) : Int) - 1), Value.slice a40 (j + 1) c41, Value.slice da ds.length dc]) 2 hS39 rfl Ty.sz35 rfl rfl rfl rfl rfl (Nat.le_of_ble_eq_true rfl) rfl (fun w43 (hS43 : St B (cel g37 (mrc r) 60 :: own a40 (j + 1) c41 60 3 (((S.take j).flatMap mrc) ++ (mrc r)) :: cel g14 [Value.int .i64 first, Value.int .i64 (first + ((rs.length : Nat) : Int) - 1), Value.slice a40 (j + 1) c41, Value.slice da ds.length dc] 37 :: own da ds.length dc 27 5 (ds.flatMap rcc) :: allA recA ds :: cel g2 [Value.int .i64 0, Value.int .i64 0, Value.slice none 0 0, Value.slice none 0 0] 37 :: cel gr [Value.slice ra S.length rc] 55 :: own ra S.length rc 58 3 (S.flatMap hsc) :: allA (rhwA 76) S :: X :: allA recA rs :: L) w43) => ?_)
       clear hS39
       refine WO.nil ?_
       refine NX.last (by decide) ?_
       refine WD.done t7_16 (by kernel_rfl) ?_
       refine NX.blk (NX.go (WP.region rfl ?_))
       refine WO.mv rfl rfl ?_
       refine WO.V (run_add rfl rfl (IntWalk.i64_in _ (by omega))) ?_
       refine WO.asg rfl rfl ?_
       refine WO.nil ?_
       exact NX.again (j + 1, a40, c41) ⟨by omega, own_eqM (l' := (S.take (j + 1)).flatMap mrc) (hS43.drop) rfl (by rw [take_snocM hr, List.flatMap_append]; simp [mrc])⟩ (by show S.length - (j + 1) < S.length - j; omega) (Sub.cons rfl (Sub.cons rfl (Sub.cons rfl (Sub.cons rfl (Sub.cons rfl (Sub.consE rfl (by congr 1) (Sub.nil _)))))))
      ·
       refine WP.exit (NX.thenExit (NX.thenExit ?_))
       refine NX.blkExit ?_
       refine NX.go (WP.seq (WP.region rfl ?_))
       refine WO.V (run_loadAgg (vs := [Value.int .i64 first, Value.int .i64 (first + ((rs.length : Nat) : Int) - 1), Value.slice ta j tc, Value.slice da ds.length dc]) Ty.ag37 Ty.sz37 rfl rfl (cell_all (hS33.cel_at 1 rfl) 0 rfl)) ?_
       refine WO.store (l' := [Value.int .i64 first, Value.int .i64 (first + ((rs.length : Nat) : Int) - 1), Value.slice ta j tc, Value.slice da ds.length dc]) 4 hS33 rfl Ty.sz37 rfl rfl rfl rfl rfl (Nat.le_of_ble_eq_true rfl) rfl (fun w44 (hS44 : St B (own ta j tc 60 3 ((S.take j).flatMap mrc) :: cel g14 [Value.int .i64 first, Value.int .i64 (first + ((rs.length : Nat) : Int) - 1), Value.slice ta j tc, Value.slice da ds.length dc] 37 :: own da ds.length dc 27 5 (ds.flatMap rcc) :: allA recA ds :: cel g2 [Value.int .i64 first, Value.int .i64 (first + ((rs.length : Nat) : Int) - 1), Value.slice ta j tc, Value.slice da ds.length dc] 37 :: cel gr [Value.slice ra S.length rc] 55 :: own ra S.length rc 58 3 (S.flatMap hsc) :: allA (rhwA 76) S :: X :: allA recA rs :: L) w44) => ?_)
       clear hS33
       refine WO.asg rfl rfl ?_
       refine WO.nil (NX.go (WP.ret ?_))
       refine NX.doneC (l := [.cell 4 37, .tmp 5]) rfl (.cons (.cell rfl (loadVar_agg (vs := [Value.int .i64 first, Value.int .i64 (first + ((rs.length : Nat) : Int) - 1), Value.slice ta j tc, Value.slice da ds.length dc]) Ty.ag37 Ty.sz37 rfl (cell_all (hS44.cel_at 4 rfl) 0 rfl))) (.cons (.tmp rfl) .nil)) ?_
       have hjS : j = S.length := by omega
       have htk : S.take j = S := List.take_of_length_le (by omega)
       have hrun2 : runP [] (rs.map Rcd.p) = (0, A) := by rw [hrun, List.drop_of_length_le (by omega)]; rfl
       have he : ofE first (rs.map Rcd.p) = 0 := by rw [show ofE first (rs.map Rcd.p) = (runP [] (rs.map Rcd.p)).1 from if_neg (by rw [List.length_map]; omega), hrun2]
       have hq1 : St B (rsA (⟨first, first + ((rs.length : Nat) : Int) - 1, ⟨ta, S, tc⟩, ⟨da, ds, dc⟩⟩ : BlkV).rs :: cel g14 [Value.int .i64 first, Value.int .i64 (first + ((rs.length : Nat) : Int) - 1), Value.slice ta j tc, Value.slice da ds.length dc] 37 :: own da ds.length dc 27 5 (ds.flatMap rcc) :: allA recA ds :: cel g2 [Value.int .i64 first, Value.int .i64 (first + ((rs.length : Nat) : Int) - 1), Value.slice ta j tc, Value.slice da ds.length dc] 37 :: cel gr [Value.slice ra S.length rc] 55 :: own ra S.length rc 58 3 (S.flatMap hsc) :: allA (rhwA 76) S :: X :: allA recA rs :: L) w44 := rdH_own (own_eqM hS44 hjS (by rw [htk]))
       have hq2 : St B (dsA (⟨first, first + ((rs.length : Nat) : Int) - 1, ⟨ta, S, tc⟩, ⟨da, ds, dc⟩⟩ : BlkV).ds :: rsA (⟨first, first + ((rs.length : Nat) : Int) - 1, ⟨ta, S, tc⟩, ⟨da, ds, dc⟩⟩ : BlkV).rs :: cel g14 [Value.int .i64 first, Value.int .i64 (first + ((rs.length : Nat) : Int) - 1), Value.slice ta j tc, Value.slice da ds.length dc] 37 :: allA recA ds :: cel g2 [Value.int .i64 first, Value.int .i64 (first + ((rs.length : Nat) : Int) - 1), Value.slice ta j tc, Value.slice da ds.length dc] 37 :: cel gr [Value.slice ra S.length rc] 55 :: own ra S.length rc 58 3 (S.flatMap hsc) :: allA (rhwA 76) S :: X :: allA recA rs :: L) w44 := rdH_own (hq1.permT [2] (L' := own da ds.length dc 27 5 (ds.flatMap rcc) :: rsA (⟨first, first + ((rs.length : Nat) : Int) - 1, ⟨ta, S, tc⟩, ⟨da, ds, dc⟩⟩ : BlkV).rs :: cel g14 [Value.int .i64 first, Value.int .i64 (first + ((rs.length : Nat) : Int) - 1), Value.slice ta j tc, Value.slice da ds.length dc] 37 :: allA recA ds :: cel g2 [Value.int .i64 first, Value.int .i64 (first + ((rs.length : Nat) : Int) - 1), Value.slice ta j tc, Value.slice da ds.length dc] 37 :: cel gr [Value.slice ra S.length rc] 55 :: own ra S.length rc 58 3 (S.flatMap hsc) :: allA (rhwA 76) S :: X :: allA recA rs :: L) rfl)
       have hq3 := rhw_mr (hq2.permT [7] (L' := allA (rhwA 76) S :: dsA (⟨first, first + ((rs.length : Nat) : Int) - 1, ⟨ta, S, tc⟩, ⟨da, ds, dc⟩⟩ : BlkV).ds :: rsA (⟨first, first + ((rs.length : Nat) : Int) - 1, ⟨ta, S, tc⟩, ⟨da, ds, dc⟩⟩ : BlkV).rs :: cel g14 [Value.int .i64 first, Value.int .i64 (first + ((rs.length : Nat) : Int) - 1), Value.slice ta j tc, Value.slice da ds.length dc] 37 :: allA recA ds :: cel g2 [Value.int .i64 first, Value.int .i64 (first + ((rs.length : Nat) : Int) - 1), Value.slice ta j tc, Value.slice da ds.length dc] 37 :: cel gr [Value.slice ra S.length rc] 55 :: own ra S.length rc 58 3 (S.flatMap hsc) :: X :: allA recA rs :: L) rfl)
       rw [List.take_of_length_le (by omega)] at hds
       exact ⟨(⟨first, first + ((rs.length : Nat) : Int) - 1, ⟨ta, S, tc⟩, ⟨da, ds, dc⟩⟩ : BlkV), by rw [he, hjS]; rfl, (fun _ => by show BlkP.mk _ _ _ _ = BlkP.mk _ _ _ _; rw [hSA, hds, hrun2, List.length_map]), (fun h => absurd he h), ⟨by show S.length ≤ _; omega, by show ds.length ≤ _; omega, fun r hr => by have h9 : r.p ∈ A := hSA ▸ List.mem_map.2 ⟨r, hr, rfl⟩; exact ⟨(chk_SzP (hA.chk _ h9)).2, Nat.le_trans (hA.pts _ h9) (by omega), (chk_SzP (hA.chk _ h9)).1⟩, hdz⟩, by show S.length ≤ _; omega, blA_shut (b := (⟨first, first + ((rs.length : Nat) : Int) - 1, ⟨ta, S, tc⟩, ⟨da, ds, dc⟩⟩ : BlkV)) (((hq3.mask [true, true, true, false, true, false, false, false] (L' := allA mrA S :: dsA (⟨first, first + ((rs.length : Nat) : Int) - 1, ⟨ta, S, tc⟩, ⟨da, ds, dc⟩⟩ : BlkV).ds :: rsA (⟨first, first + ((rs.length : Nat) : Int) - 1, ⟨ta, S, tc⟩, ⟨da, ds, dc⟩⟩ : BlkV).rs :: allA recA ds :: X :: allA recA rs :: L) rfl).permT [2] (L' := rsA (⟨first, first + ((rs.length : Nat) : Int) - 1, ⟨ta, S, tc⟩, ⟨da, ds, dc⟩⟩ : BlkV).rs :: allA mrA S :: dsA (⟨first, first + ((rs.length : Nat) : Int) - 1, ⟨ta, S, tc⟩, ⟨da, ds, dc⟩⟩ : BlkV).ds :: allA recA ds :: X :: allA recA rs :: L) rfl))⟩
end Go.Proofs.YtegcibphlpanfaaGreatDoor.SL

/- BlockMakes: the law. -/
namespace Go.Proofs.YtegcibphlpanfaaGreatDoor.SL
open Go.RowKit Go.Proofs.YtegcibphlpanfaaGreatDoor
open Go.Proofs.YtegcibphlpanfaaGreatDoorW.PrintLast (rtab opsOf)
set_option linter.unusedVariables false
set_option linter.unusedSimpArgs false
theorem t3_10 : rtab .any (opsOf Tryz.f3 10) = (true, [([], []), ([0], [0]), ([], []), ([1, 2, 1], [1, 2]), ([3, 3], [3]), ([4], [4]), ([4], [4]), ([5, 6, 4], [4, 5, 6]), ([4, 7], [4, 7]), ([8, 4, 0, 1, 2, 3, 4, 5, 6, 7, 8], [8])]) := by kernel_rfl
theorem blockMakes_core {B w : World} {L : List HP} {b : Option Addr} {cap : Nat} {rs : List Rcd} (first : Int) (hf : -9223372036854775808 ≤ first ∧ first ≤ 9223372036854775807) (hrz : ∀ r ∈ rs, SzR r) (hrng : ∀ r ∈ rs, RngP r.p) (hrn : rs.length ≤ 2814749767106) (hS : St B ((rdH b rs.length 5 (rs.flatMap rcc)) :: allA recA rs :: L) w) : Does Tryz.prog 3 [Value.int .i64 first, Value.slice b rs.length cap] w (fun v w1 => v = .bool true ∧ St B L w1) := by
 refine enter (n := 53) Tryz.func3 rfl rfl [Value.int .i64 first, Value.slice b rs.length cap] rfl ?_
 refine WP.seq (WP.region rfl ?_)
 refine WO.asg rfl rfl ?_
 refine WO.nil (NX.go (WP.seq (WP.seq (WP.region rfl ?_))))
 refine WO.mv rfl rfl ?_
 refine WO.call rfl rfl Ty.hd4 rfl (g13_spec rdH_rd hrz hrn hS) (fun v2 w1 pv2 => ?_)
 obtain ⟨⟨qg, rfl, hqg⟩, hS1⟩ := pv2
 clear hS
 refine WO.mv rfl rfl ?_
 rcases Bool.eq_false_or_eq_true qg with g13 | g13
 ·
  refine WO.off rfl rfl g13 rfl ?_
  refine WO.off rfl rfl g13 rfl ?_
  refine WO.off rfl rfl g13 rfl ?_
  refine WO.V (run_pickT rfl g13 rfl) ?_
  refine WO.nil (NX.go ?_)
  refine WP.condT rfl rfl ?_
  refine WP.seq (WP.region rfl ?_)
  refine WO.asg rfl rfl ?_
  refine WO.nil (NX.go (WP.ret (NX.thenRet ?_)))
  refine NX.done (l := [.tmp 4]) rfl rfl ?_
  exact ⟨rfl, hS1.drop.drop⟩
 ·
  refine WO.on rfl rfl g13 ?_
  refine WO.mv rfl rfl ?_
  refine WO.on rfl rfl g13 ?_
  refine WO.V (run_len rfl Tryz.underlying22 rfl) ?_
  refine WO.on rfl rfl g13 ?_
  refine WO.V (run_gtr rfl rfl) ?_
  refine WO.V (run_pickF rfl g13 rfl) ?_
  refine WO.nil (NX.go ?_)
  refine WP.condP rfl (fun g17 => ?_) (fun g17 => ?_)
  ·
   refine WP.seq (WP.region rfl ?_)
   refine WO.asg rfl rfl ?_
   refine WO.nil (NX.go (WP.ret (NX.thenRet ?_)))
   refine NX.done (l := [.tmp 4]) rfl rfl ?_
   exact ⟨rfl, hS1.drop.drop⟩
  ·
   refine WP.skip (NX.go (WP.seq (WP.region rfl ?_)))
   refine WO.asg rfl rfl ?_
   refine WO.nil (NX.go (WP.seq (WP.seq (WP.region rfl ?_))))
   refine WO.asg rfl rfl ?_
   refine WO.nil (NX.go (WP.block ?_))
   replace hS1 := (St.addPure trivial hS1 : St B (allA recA [] :: (rdH b rs.length 5 (rs.flatMap rcc)) :: allA recA rs :: L) w1)
   replace hS1 := hS1.own_nil 27 5
   refine WP.loop (α := Nat × List Rcd × Option Addr × Nat) (fun x => match x with | ⟨i, ol, oa, oc⟩ => [(0, Value.int .i64 first), (1, Value.slice b rs.length cap), (5, Value.slice oa ol.length oc), (6, Value.int .i64 (i : Int))]) (fun x w => match x with | ⟨i, ol, oa, oc⟩ => (i ≤ rs.length ∧ ol.map Rcd.p = (rs.take i).map Rcd.p ∧ ol.length = i) ∧ St B (own oa ol.length oc 27 5 (ol.flatMap rcc) :: allA recA ol :: (rdH b rs.length 5 (rs.flatMap rcc)) :: allA recA rs :: L) w) (fun x => match x with | ⟨i, ol, oa, oc⟩ => rs.length - i) (0, [], none, 0) ⟨⟨Nat.zero_le _, rfl, rfl⟩, hS1⟩ (Sub.cons rfl (Sub.cons rfl (Sub.consE rfl (by first | rfl | first | rfl | (congr 1; omega) | (simp; done) | (simp; omega)) (Sub.consE rfl (by first | rfl | first | rfl | (congr 1; omega) | (simp; done) | (simp; omega)) (Sub.nil _))))) ?_
   rintro ⟨i, ol, oa, oc⟩ w3 ⟨⟨hi, hol, hon⟩, hS3⟩
   clear hS1
   refine WP.seq (WP.seq (WP.region rfl ?_))
   refine WO.mv rfl rfl ?_
   refine WO.mv rfl rfl ?_
   refine WO.V (run_len rfl Tryz.underlying22 rfl) ?_
   refine WO.V (run_lss rfl rfl) ?_
   refine WO.nil (NX.go ?_)
   refine WP.condP rfl (fun g21 => ?_) (fun g21 => ?_)
   ·
    refine WP.skip (NX.go (WP.seq (WP.block ?_)))
    obtain ⟨d1, hd1⟩ : ∃ qq, rs[i]? = some qq := ⟨_, List.getElem?_eq_getElem (by omega)⟩
    have hzd := hrz d1 (List.mem_of_getElem? hd1)
    have hS4 := allA_get recA_pers (List.mem_of_getElem? hd1) (hS3.permT [3] (L' := allA recA rs :: own oa ol.length oc 27 5 (ol.flatMap rcc) :: allA recA ol :: (rdH b rs.length 5 (rs.flatMap rcc)) :: L) rfl)
    clear hS3
    have hsb : b.isSome = true := rd_isSome ((rdH_rd (hS4.focus 4 rfl))) (by omega)
    refine WP.region rfl ?_
    refine WO.mv rfl rfl ?_
    refine WO.mv rfl rfl ?_
    refine WO.mv rfl rfl ?_
    refine WO.V (run_indexAddr (q := adr b (i * 5)) Tryz.underlying22 Ty.sz27 rfl rfl (by omega) (by omega) ((rdH_rd (hS4.focus 4 rfl)).2.1 (by omega)) rfl) ?_
    refine WO.V (run_loadAgg (vs := (rcc d1)) Ty.ag27 Ty.sz27 rfl ((rdH_rd (hS4.focus 4 rfl)).cells (by rw [flat_len rcc_len]; omega) (flat_part rcc_len hd1)).1 ((rdH_rd (hS4.focus 4 rfl)).cells (by rw [flat_len rcc_len]; omega) (flat_part rcc_len hd1)).2) ?_
    refine WO.call rfl rfl Ty.hd5 rfl (own12_spec d1 hzd hS4) (fun v6 w5 pv6 => ?_)
    obtain ⟨r1, rfl, hr1, hS5⟩ := pv6
    clear hS4
    refine WO.buildSlice (l := (rcc r1)) hS5 Tryz.underlying22 rfl (fun w => by kernel_rfl) rfl (fun g8 w7 lg8 hS7 => ?_)
    clear hS5
    refine WO.append (news := (rcc r1)) 4 rfl Tryz.underlying22 Tryz.underlying22 (fun _ h => by cases h) Ty.sz27 (by decide) Ty.by27 Ty.zr27 rfl rfl rfl rfl hS7 rfl ((hS7.cel_rd 0 rfl (o := 0) (m := 1) (k := 5) rfl (Nat.le_of_ble_eq_true rfl)).src) rfl (by omega) (by omega) (fun a10 c11 w9 hS9 => ?_)
    replace hS9 : St B (cel g8 (rcc r1) 27 :: recA r1 :: recA d1 :: allA recA rs :: own a10 (ol.length + 1) c11 27 5 ((ol.flatMap rcc) ++ (rcc r1)) :: allA recA ol :: (rdH b rs.length 5 (rs.flatMap rcc)) :: L) w9 := hS9
    clear hS7
    refine WO.asg rfl rfl ?_
    refine WO.nil (NX.blk (NX.go (WP.region rfl ?_)))
    refine WO.mv rfl rfl ?_
    refine WO.V (run_add rfl rfl (IntWalk.i64_in _ (by omega))) ?_
    refine WO.asg rfl rfl ?_
    refine WO.nil ?_
    have hS12 := allA_snoc (x := r1) (hS9.permT [5, 1] (L' := allA recA ol :: recA r1 :: cel g8 (rcc r1) 27 :: recA d1 :: allA recA rs :: own a10 (ol.length + 1) c11 27 5 ((ol.flatMap rcc) ++ (rcc r1)) :: (rdH b rs.length 5 (rs.flatMap rcc)) :: L) rfl)
    clear hS9
    exact NX.again (i + 1, ol ++ [r1], a10, c11) ⟨⟨by omega, by rw [take_snocM hd1, List.map_append, List.map_append, hol, List.map_cons, hr1]; rfl, by rw [List.length_append, hon]; rfl⟩, own_eqM ((hS12.mask [true, false, false] (L' := allA recA (ol ++ [r1]) :: allA recA rs :: own a10 (ol.length + 1) c11 27 5 ((ol.flatMap rcc) ++ (rcc r1)) :: (rdH b rs.length 5 (rs.flatMap rcc)) :: L) rfl).permT [2, 0, 1] (L' := own a10 (ol.length + 1) c11 27 5 ((ol.flatMap rcc) ++ (rcc r1)) :: allA recA (ol ++ [r1]) :: (rdH b rs.length 5 (rs.flatMap rcc)) :: allA recA rs :: L) rfl) (by simp) (by simp [rcc])⟩ (by show rs.length - (i + 1) < rs.length - i; omega) (Sub.cons rfl (Sub.cons rfl (Sub.consE rfl (by simp) (Sub.consE rfl (by congr 1) (Sub.nil _)))))
   ·
    refine WP.exit (NX.thenExit (NX.thenExit ?_))
    refine NX.blkExit ?_
    refine NX.go (WP.seq ?_)
    have hole : ol.map Rcd.p = rs.map Rcd.p := by rw [hol, List.take_of_length_le (by omega)]
    have hom : ∀ r ∈ ol, ∃ d ∈ rs, r.p = d.p := fun r hr => by have h9 : r.p ∈ rs.map Rcd.p := hole ▸ List.mem_map.2 ⟨r, hr, rfl⟩; obtain ⟨d, hd, e⟩ := List.mem_map.1 h9; exact ⟨d, hd, e.symm⟩
    have holz : ∀ r ∈ ol, SzR r := fun r hr => by obtain ⟨d, hd, e⟩ := hom r hr; exact SzR.of_p e (hrz d hd)
    have holr : ∀ r ∈ ol, RngP r.p := fun r hr => by obtain ⟨d, hd, e⟩ := hom r hr; rw [e]; exact hrng d hd
    refine WP.region rfl ?_
    refine WO.mv rfl rfl ?_
    refine WO.mv rfl rfl ?_
    refine WO.call rfl rfl Ty.hd6 rfl ((by have z := bof_spec (cap := oc) (X := own oa ol.length oc 27 5 (ol.flatMap rcc)) (fun h => h.own_rd.1) first holr holz (by omega) hf hS3; rw [hole] at z; exact z)) (fun v14 w13 pv14 => ?_)
    obtain ⟨b1, rfl, hb1, hb1z, hs1, hn1, hS13⟩ := pv14
    clear hS3
    refine WO.mv rfl rfl ?_
    refine WO.V (run_extract rfl rfl) ?_
    refine WO.V (run_extract rfl rfl) ?_
    refine WO.alloc (l := [Value.int .i64 0, Value.int .i64 0, Value.slice none 0 0, Value.slice none 0 0]) hS13 Ty.zr31 rfl rfl (fun g16 w15 lg16 hS15 => ?_)
    clear hS13
    refine WO.store (l' := (blc b1)) 0 hS15 rfl Ty.sz31 rfl rfl rfl rfl rfl (Nat.le_of_ble_eq_true rfl) rfl (fun w17 (hS17 : St B (cel g16 (blc b1) 31 :: blA b1 :: own oa ol.length oc 27 5 (ol.flatMap rcc) :: allA recA ol :: (rdH b rs.length 5 (rs.flatMap rcc)) :: allA recA rs :: L) w17) => ?_)
    clear hS15
    refine WO.asg rfl rfl ?_
    refine WO.nil (NX.go (WP.seq (WP.region rfl ?_)))
    refine WO.mv rfl rfl ?_
    refine WO.mv rfl rfl ?_
    have hS18 := hS17.permT [4, 4] (L' := (rdH b rs.length 5 (rs.flatMap rcc)) :: allA recA rs :: cel g16 (blc b1) 31 :: blA b1 :: own oa ol.length oc 27 5 (ol.flatMap rcc) :: allA recA ol :: L) rfl
    clear hS17
    refine WO.call rfl rfl Ty.hd7 rfl (rof_spec rdH_rd first hrz hrn hf hS18) (fun v20 w19 pv20 => ?_)
    obtain ⟨b2, rfl, hb2, hb2z, hs2, hn2, hS19⟩ := pv20
    clear hS18
    refine WO.mv rfl rfl ?_
    refine WO.V (run_extract rfl rfl) ?_
    refine WO.V (run_extract rfl rfl) ?_
    refine WO.alloc (l := [Value.int .i64 0, Value.int .i64 0, Value.slice none 0 0, Value.slice none 0 0]) hS19 Ty.zr37 rfl rfl (fun g22 w21 lg22 hS21 => ?_)
    clear hS19
    refine WO.store (l' := (blc b2)) 0 hS21 rfl Ty.sz37 rfl rfl rfl rfl rfl (Nat.le_of_ble_eq_true rfl) rfl (fun w23 (hS23 : St B (cel g22 (blc b2) 37 :: blA b2 :: (rdH b rs.length 5 (rs.flatMap rcc)) :: allA recA rs :: cel g16 (blc b1) 31 :: blA b1 :: own oa ol.length oc 27 5 (ol.flatMap rcc) :: allA recA ol :: L) w23) => ?_)
    clear hS21
    refine WO.asg rfl rfl ?_
    refine WO.nil (NX.go (WP.seq ?_))
    have hbb : b1.p = b2.p := by by_cases h9 : ofE first (rs.map Rcd.p) = 0; (· rw [hb1 h9, hb2 h9]); (· rw [hb1z h9, hb2z h9])
    refine WD.start (fun w => (∀ jz, World.cell? w ⟨g22, jz, none⟩ = (blc b2)[jz]?) ∧ (∀ jz, World.cell? w ⟨g16, jz, none⟩ = (blc b1)[jz]?)) [] (bt 10 0) Ty.mo rfl (by kernel_rfl) hS23 (fun _ h => ⟨h.cel_at 0 rfl, h.cel_at 4 rfl⟩) (fun w24 hS24 s25 => ?_)
    clear hS23
    refine DT (i := 0) t3_10 (bt 10 1) s25 rfl rfl rfl rfl (fun w hs => run_loadAgg (vs := (blc b1)) Ty.ag31 Ty.sz31 rfl rfl (cell_all (hs.2) 0 rfl)) ?_
    refine DT (i := 2) t3_10 (bt 10 5) s25 rfl rfl rfl rfl (fun w hs => run_loadAgg (vs := (blc b2)) Ty.ag37 Ty.sz37 rfl rfl (cell_all (hs.1) 0 rfl)) ?_
    refine WD.one (i := 1) t3_10 (bt 10 7) rfl (by kernel_rfl) ?_
    have hS26 := hS24.permT [5] (L' := blA b1 :: cel g22 (blc b2) 37 :: blA b2 :: (rdH b rs.length 5 (rs.flatMap rcc)) :: allA recA rs :: cel g16 (blc b1) 31 :: own oa ol.length oc 27 5 (ol.flatMap rcc) :: allA recA ol :: L) rfl
    clear hS24
    refine WO.call rfl rfl Ty.hd9 rfl (from15_spec b1 (by omega) hS26) (fun v28 w27 pv28 => ?_)
    obtain ⟨ua, uc, rfl, hS27⟩ := pv28
    clear hS26
    refine WO.nil ?_
    have s29 : (∀ jz, World.cell? w27 ⟨g22, jz, none⟩ = (blc b2)[jz]?) ∧ (∀ jz, World.cell? w27 ⟨g16, jz, none⟩ = (blc b1)[jz]?) := ⟨hS27.cel_at 2 rfl, hS27.cel_at 6 rfl⟩
    refine NX.held s29 ?_
    refine WD.one (i := 3) t3_10 (bt 10 15) rfl (by kernel_rfl) ?_
    have hS30 := hS27.permT [0, 2] (L' := blA (⟨b1.first, b1.to, ⟨ua, b1.rs.l, uc⟩, b1.ds⟩ : BlkV) :: blA b2 :: blA b1 :: cel g22 (blc b2) 37 :: (rdH b rs.length 5 (rs.flatMap rcc)) :: allA recA rs :: cel g16 (blc b1) 31 :: own oa ol.length oc 27 5 (ol.flatMap rcc) :: allA recA ol :: L) rfl
    clear hS27
    refine WO.call rfl rfl Ty.hd8 rfl (r15same_spec (⟨b1.first, b1.to, ⟨ua, b1.rs.l, uc⟩, b1.ds⟩ : BlkV) b2 ⟨hs1.nr, hs1.nd, (fun r hr => ⟨(hs1.r r hr).1, (hs1.r r hr).2.1⟩), hs1.d⟩ ⟨hs2.nr, hs2.nd, (fun r hr => ⟨(hs2.r r hr).1, (hs2.r r hr).2.1⟩), hs2.d⟩ hS30) (fun v32 w31 pv32 => ?_)
    obtain ⟨qb, rfl, hqb, hS31⟩ := pv32
    clear hS30
    have hqt : qb = true := hqb.2 ((show (⟨b1.first, b1.to, ⟨ua, b1.rs.l, uc⟩, b1.ds⟩ : BlkV).p = b1.p from rfl).trans hbb)
    subst hqt
    refine WO.nil ?_
    have s33 : (∀ jz, World.cell? w31 ⟨g22, jz, none⟩ = (blc b2)[jz]?) ∧ (∀ jz, World.cell? w31 ⟨g16, jz, none⟩ = (blc b1)[jz]?) := ⟨hS31.cel_at 3 rfl, hS31.cel_at 6 rfl⟩
    refine NX.held s33 ?_
    refine DP (i := 4) t3_10 (bt 10 31) rfl rfl rfl rfl (fun w => run_move rfl) ?_
    refine DPn (i := 5) t3_10 (bt 10 63) rfl rfl rfl rfl rfl (fun w => run_move rfl) ?_
    refine DPn (i := 6) t3_10 (bt 10 127) rfl rfl rfl rfl rfl (fun w => run_move rfl) ?_
    refine DPn (i := 7) t3_10 (bt 10 255) rfl rfl rfl rfl rfl (fun w => run_eql rfl rfl) ?_
    refine DP (i := 8) t3_10 (bt 10 511) rfl rfl rfl rfl (fun w => run_pickT rfl rfl rfl) ?_
    refine DP (i := 9) t3_10 (bt 10 1023) rfl rfl rfl rfl (fun w => run_assign rfl) ?_
    refine WD.done t3_10 (by kernel_rfl) ?_
    refine NX.go (WP.ret ?_)
    refine NX.done (l := [.tmp 4]) rfl rfl ?_
    exact ⟨congrArg Value.bool (decide_eq_true rfl), hS31.drop.drop.drop.drop.drop.drop.drop.drop.drop⟩
end Go.Proofs.YtegcibphlpanfaaGreatDoor.SL
