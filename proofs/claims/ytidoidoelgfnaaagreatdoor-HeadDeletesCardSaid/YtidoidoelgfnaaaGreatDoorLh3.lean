/- HeadDeletes: points without others. -/
import Derived.Test.YtidoidoelgfnaaaGreatDoorHl1M
import Derived.Test.YtidoidoelgfnaaaGreatDoorHde
import Derived.Test.YtidoidoelgfnaaaGreatDoorKrmM
namespace Go.Proofs.YtidoidoelgfnaaaGreatDoor.SL
open Go.RowKit Go.Proofs.YtidoidoelgfnaaaGreatDoor
open Go.Proofs.YtidoidoelgfnaaaGreatDoorW.PrintLast (rtab opsOf)
set_option linter.unusedVariables false
set_option linter.unusedSimpArgs false

theorem mem_takeS {l : List Pt} {k : Nat} {p q : Pt} (h : l[k]? = some q) : p ∈ l.take (k + 1) ↔ p ∈ l.take k ∨ p = q := by
  rw [take_snocM h, List.mem_append, List.mem_singleton]
theorem in_yes {l : List Pt} {k : Nat} {p q : Pt} (h : l[k]? = some q) (hi : p ∈ l.take k) : decide (p ∈ l.take (k + 1)) = true := decide_eq_true ((mem_takeS h).2 (.inl hi))
theorem in_no {l : List Pt} {k : Nat} {p q : Pt} (h : l[k]? = some q) (hi : ¬ p ∈ l.take k) : decide (p = q) = decide (p ∈ l.take (k + 1)) := decide_eq_decide.2 ⟨fun e => (mem_takeS h).2 (.inr e), fun m => ((mem_takeS h).1 m).resolve_left hi⟩
theorem less_pos {b a : List Pt} {i : Nat} {p : Pt} (h : a[i]? = some p) (hn : ¬ p ∈ b) : lessF b (a.take (i + 1)) = lessF b (a.take i) ++ [p] := by rw [lessF_take h, if_neg hn]
theorem less_neg {b a : List Pt} {i : Nat} {p : Pt} (h : a[i]? = some p) (hn : p ∈ b) : lessF b (a.take (i + 1)) = lessF b (a.take i) := by rw [lessF_take h, if_pos hn, List.append_nil]
theorem ser_lab {B w : World} {L : List HP} {lb : SlV Pr} (h : St B (labA lb :: L) w) : St B (allA serA [(⟨lb, ⟨none, [], 0⟩⟩ : MSer)] :: labA lb :: L) w := by
  have h1 := St.dup (labA_pers lb) h
  have h2 : St B (ptsA ⟨none, [], 0⟩ :: labA lb :: labA lb :: L) w := rdH_zero rfl h1
  have h3 : St B (serA ⟨lb, ⟨none, [], 0⟩⟩ :: labA lb :: L) w := (h2.permT [1, 0, 0] (L' := labA lb :: ptsA ⟨none, [], 0⟩ :: labA lb :: L) rfl).join
  have h4 : St B (.pure True :: serA ⟨lb, ⟨none, [], 0⟩⟩ :: labA lb :: L) w := h3.addPure trivial
  exact (h4.permT [1, 0, 0] (L' := serA ⟨lb, ⟨none, [], 0⟩⟩ :: .pure True :: labA lb :: L) rfl).join
theorem t34_9 : rtab .any (opsOf Tryz.f34 9) = (true, [([], []), ([0], [0]), ([1], [1]), ([1], [1]), ([2, 3, 1], [1, 2, 3]), ([4, 1], [1, 4]), ([1], [1]), ([1], [1]), ([6, 7, 1], [1, 6, 7]), ([8, 1], [1, 8]), ([5, 9, 1], [1, 5, 9]), ([1, 10], [1, 10]), ([11, 1, 0, 1, 2, 3, 4, 5, 6, 7, 8, 9, 10, 11], [0, 11])]) := by kernel_rfl
theorem hless_spec {B w : World} {L : List HP} {X Y : HP} {a b : Option Addr} {cap cap2 : Nat} {l1 l2 : List Pt} (hX : ∀ {L : List HP} {w : World}, St B (X :: L) w → Rd w a l1.length 2 (l1.flatMap ptc)) (hY : ∀ {L : List HP} {w : World}, St B (Y :: L) w → Rd w b l2.length 2 (l2.flatMap ptc)) (hl1 : l1.length ≤ 4398046511104) (hl2 : l2.length ≤ 4398046511104) (hS : St B (X :: Y :: L) w) : Does Tryz.prog 34 [Value.slice a l1.length cap, Value.slice b l2.length cap2] w (fun v w1 => ∃ a1 c1, v = .slice a1 (lessF l2 l1).length c1 ∧ St B (own a1 (lessF l2 l1).length c1 103 2 ((lessF l2 l1).flatMap ptc) :: X :: Y :: L) w1) := by
 refine enter (n := 43) Tryz.func34 rfl rfl [Value.slice a l1.length cap, Value.slice b l2.length cap2] rfl ?_
 refine WP.seq (WP.region rfl ?_)
 refine WO.asg rfl rfl ?_
 refine WO.nil (NX.go (WP.seq (WP.region rfl ?_)))
 refine WO.asg rfl rfl ?_
 refine WO.nil (NX.go (WP.seq (WP.seq (WP.region rfl ?_))))
 refine WO.asg rfl rfl ?_
 refine WO.nil (NX.go (WP.block ?_))
 replace hS := hS.own_nil 103 2
 refine WP.loop (α := Nat × Option Addr × Nat) (fun x => match x with | ⟨i, oa, oc⟩ => [(0, Value.slice a l1.length cap), (1, Value.slice b l2.length cap2), (5, Value.slice oa ((lessF l2 (l1.take i)).length) oc), (6, Value.int .i64 (i : Int))]) (fun x w => match x with | ⟨i, oa, oc⟩ => (i ≤ l1.length) ∧ St B (own oa ((lessF l2 (l1.take i)).length) oc 103 2 ((lessF l2 (l1.take i)).flatMap ptc) :: X :: Y :: L) w) (fun x => match x with | ⟨i, oa, oc⟩ => l1.length - i) (0, none, 0) ⟨Nat.zero_le _, hS⟩ (Sub.cons rfl (Sub.cons rfl (Sub.consE rfl (by first | rfl | first | rfl | (congr 1; omega) | (simp; done) | (simp; omega)) (Sub.consE rfl (by first | rfl | first | rfl | (congr 1; omega) | (simp; done) | (simp; omega)) (Sub.nil _))))) ?_
 rintro ⟨i, oa, oc⟩ w1 ⟨hi, hS1⟩
 clear hS
 refine WP.seq (WP.seq (WP.region rfl ?_))
 refine WO.mv rfl rfl ?_
 refine WO.mv rfl rfl ?_
 refine WO.V (run_len rfl Tryz.underlying66 rfl) ?_
 refine WO.V (run_lss rfl rfl) ?_
 refine WO.nil (NX.go ?_)
 refine WP.condP rfl (fun g12 => ?_) (fun g12 => ?_)
 ·
  refine WP.skip (NX.go (WP.seq (WP.block (WP.seq ?_))))
  obtain ⟨p, hp⟩ : ∃ qq, l1[i]? = some qq := ⟨_, List.getElem?_eq_getElem (by omega)⟩
  have hsp : a.isSome = true := rd_isSome ((hX (hS1.focus 1 rfl))) (by omega)
  have hfl := lessF_len l2 (l1.take i)
  have hft := List.length_take_le i l1
  refine WP.region rfl ?_
  refine WO.asg rfl rfl ?_
  refine WO.nil (NX.go (WP.seq (WP.seq (WP.region rfl ?_))))
  refine WO.asg rfl rfl ?_
  refine WO.nil (NX.go (WP.block ?_))
  refine WP.loop (α := Nat) (fun x => match x with | k => [(0, Value.slice a l1.length cap), (1, Value.slice b l2.length cap2), (5, Value.slice oa ((lessF l2 (l1.take i)).length) oc), (6, Value.int .i64 (i : Int)), (7, Value.bool (decide (p ∈ l2.take k))), (8, Value.int .i64 (k : Int))]) (fun x w => match x with | k => (k ≤ l2.length) ∧ St B (own oa ((lessF l2 (l1.take i)).length) oc 103 2 ((lessF l2 (l1.take i)).flatMap ptc) :: X :: Y :: L) w) (fun x => match x with | k => l2.length - k) 0 ⟨Nat.zero_le _, hS1⟩ (Sub.cons rfl (Sub.cons rfl (Sub.cons rfl (Sub.cons rfl (Sub.consE rfl (congrArg Value.bool (by rw [List.take_zero]; simp)) (Sub.consE rfl (by first | rfl | first | rfl | (congr 1; omega) | (simp; done) | (simp; omega)) (Sub.nil _))))))) ?_
  rintro k w2 ⟨hk, hS2⟩
  clear hS1
  refine WP.seq (WP.seq (WP.region rfl ?_))
  refine WO.mv rfl rfl ?_
  refine WO.mv rfl rfl ?_
  refine WO.V (run_len rfl Tryz.underlying66 rfl) ?_
  refine WO.V (run_lss rfl rfl) ?_
  refine WO.nil (NX.go ?_)
  refine WP.condP rfl (fun g18 => ?_) (fun g18 => ?_)
  ·
   refine WP.skip (NX.go (WP.seq (WP.block ?_)))
   obtain ⟨q, hq⟩ : ∃ qq, l2[k]? = some qq := ⟨_, List.getElem?_eq_getElem (by omega)⟩
   have hsq : b.isSome = true := rd_isSome ((hY (hS2.focus 2 rfl))) (by omega)
   refine WD.start (fun w => Rd w oa ((lessF l2 (l1.take i)).length) 2 ((lessF l2 (l1.take i)).flatMap ptc) ∧ Rd w a l1.length 2 (l1.flatMap ptc) ∧ Rd w b l2.length 2 (l2.flatMap ptc)) [] (bt 13 0) Ty.mo rfl (by kernel_rfl) hS2 (fun _ h => ⟨(h.own_rd_i 0 rfl), (hX (h.focus 1 rfl)), (hY (h.focus 2 rfl))⟩) (fun w3 hS3 s4 => ?_)
   clear hS2
   refine DP (i := 0) t34_9 (bt 13 1) rfl rfl rfl rfl (fun w => run_move rfl) ?_
   refine DP (i := 1) t34_9 (bt 13 3) rfl rfl rfl rfl (fun w => run_move rfl) ?_
   refine dcase (p := p ∈ l2.take k) (fun g22 d22 => ?_) (fun g22 d22 => ?_)
   ·
    refine DO (i := 2) t34_9 (bt 13 7) rfl rfl rfl d22 rfl ?_
    refine DO (i := 3) t34_9 (bt 13 15) rfl rfl rfl d22 rfl ?_
    refine DO (i := 4) t34_9 (bt 13 31) rfl rfl rfl d22 rfl ?_
    refine DO (i := 5) t34_9 (bt 13 63) rfl rfl rfl d22 rfl ?_
    refine DO (i := 6) t34_9 (bt 13 127) rfl rfl rfl d22 rfl ?_
    refine DO (i := 7) t34_9 (bt 13 255) rfl rfl rfl d22 rfl ?_
    refine DO (i := 8) t34_9 (bt 13 511) rfl rfl rfl d22 rfl ?_
    refine DO (i := 9) t34_9 (bt 13 1023) rfl rfl rfl d22 rfl ?_
    refine DO (i := 10) t34_9 (bt 13 2047) rfl rfl rfl d22 rfl ?_
    refine DP (i := 11) t34_9 (bt 13 4095) rfl rfl rfl rfl (fun w => run_pickT rfl d22 rfl) ?_
    refine DP (i := 12) t34_9 (bt 13 8191) rfl rfl rfl rfl (fun w => run_assign rfl) ?_
    refine WD.done t34_9 (by kernel_rfl) ?_
    refine NX.blk (NX.go (WP.region rfl ?_))
    refine WO.mv rfl rfl ?_
    refine WO.V (run_add rfl rfl (IntWalk.i64_in _ (by omega))) ?_
    refine WO.asg rfl rfl ?_
    refine WO.nil ?_
    exact NX.again (k + 1) ⟨by omega, hS3⟩ (by show l2.length - (k + 1) < l2.length - k; omega) (Sub.cons rfl (Sub.cons rfl (Sub.cons rfl (Sub.cons rfl (Sub.consE rfl (congrArg Value.bool (in_yes hq g22).symm) (Sub.consE rfl (by congr 1) (Sub.nil _)))))))
   ·
    refine DPn (i := 2) t34_9 (bt 13 7) rfl rfl rfl d22 rfl (fun w => run_move rfl) ?_
    refine DPn (i := 3) t34_9 (bt 13 15) rfl rfl rfl d22 rfl (fun w => run_move rfl) ?_
    refine DTn (i := 4) t34_9 (bt 13 31) s4 rfl rfl rfl d22 rfl (fun w hs => run_indexAddr (q := adr a (i * 2)) Tryz.underlying66 Ty.sz103 rfl rfl (by omega) (by omega) ((hs.2.1).2.1 (by omega)) rfl) ?_
    refine DTn (i := 5) t34_9 (bt 13 63) s4 rfl rfl rfl d22 rfl (fun w hs => run_loadAgg (vs := (ptc p)) Ty.ag103 Ty.sz103 rfl ((hs.2.1).cells (by rw [flat_len ptc_len]; omega) (flat_part ptc_len hp)).1 ((hs.2.1).cells (by rw [flat_len ptc_len]; omega) (flat_part ptc_len hp)).2) ?_
    refine DPn (i := 6) t34_9 (bt 13 127) rfl rfl rfl d22 rfl (fun w => run_move rfl) ?_
    refine DPn (i := 7) t34_9 (bt 13 255) rfl rfl rfl d22 rfl (fun w => run_move rfl) ?_
    refine DTn (i := 8) t34_9 (bt 13 511) s4 rfl rfl rfl d22 rfl (fun w hs => run_indexAddr (q := adr b (k * 2)) Tryz.underlying66 Ty.sz103 rfl rfl (by omega) (by omega) ((hs.2.2).2.1 (by omega)) rfl) ?_
    refine DTn (i := 9) t34_9 (bt 13 1023) s4 rfl rfl rfl d22 rfl (fun w hs => run_loadAgg (vs := (ptc q)) Ty.ag103 Ty.sz103 rfl ((hs.2.2).cells (by rw [flat_len ptc_len]; omega) (flat_part ptc_len hq)).1 ((hs.2.2).cells (by rw [flat_len ptc_len]; omega) (flat_part ptc_len hq)).2) ?_
    refine DPn (i := 10) t34_9 (bt 13 2047) rfl rfl rfl d22 rfl (fun w => run_eqlPt p q rfl rfl) ?_
    refine DP (i := 11) t34_9 (bt 13 4095) rfl rfl rfl rfl (fun w => run_pickF rfl d22 rfl) ?_
    refine DP (i := 12) t34_9 (bt 13 8191) rfl rfl rfl rfl (fun w => run_assign rfl) ?_
    refine WD.done t34_9 (by kernel_rfl) ?_
    refine NX.blk (NX.go (WP.region rfl ?_))
    refine WO.mv rfl rfl ?_
    refine WO.V (run_add rfl rfl (IntWalk.i64_in _ (by omega))) ?_
    refine WO.asg rfl rfl ?_
    refine WO.nil ?_
    exact NX.again (k + 1) ⟨by omega, hS3⟩ (by show l2.length - (k + 1) < l2.length - k; omega) (Sub.cons rfl (Sub.cons rfl (Sub.cons rfl (Sub.cons rfl (Sub.consE rfl (congrArg Value.bool (in_no hq g22)) (Sub.consE rfl (by congr 1) (Sub.nil _)))))))
  ·
   refine WP.exit (NX.thenExit (NX.thenExit ?_))
   refine NX.blkExit ?_
   refine NX.go (WP.seq (WP.region rfl ?_))
   refine WO.mv rfl rfl ?_
   refine WO.V (run_notP rfl) ?_
   refine WO.nil (NX.go ?_)
   refine WP.condP rfl (fun g34 => ?_) (fun g34 => ?_)
   ·
    rw [List.take_of_length_le (by omega)] at g34
    refine WP.region rfl ?_
    refine WO.mv rfl rfl ?_
    refine WO.mv rfl rfl ?_
    refine WO.mv rfl rfl ?_
    refine WO.V (run_indexAddr (q := adr a (i * 2)) Tryz.underlying66 Ty.sz103 rfl rfl (by omega) (by omega) ((hX (hS2.focus 1 rfl)).2.1 (by omega)) rfl) ?_
    refine WO.V (run_loadAgg (vs := (ptc p)) Ty.ag103 Ty.sz103 rfl ((hX (hS2.focus 1 rfl)).cells (by rw [flat_len ptc_len]; omega) (flat_part ptc_len hp)).1 ((hX (hS2.focus 1 rfl)).cells (by rw [flat_len ptc_len]; omega) (flat_part ptc_len hp)).2) ?_
    refine WO.buildSlice (l := (ptc p)) hS2 Tryz.underlying66 rfl (fun w => by kernel_rfl) rfl (fun g6 w5 lg6 hS5 => ?_)
    clear hS2
    refine WO.append (news := (ptc p)) 1 rfl Tryz.underlying66 Tryz.underlying66 (fun _ h => by cases h) Ty.sz103 (by decide) Ty.by103 Ty.zr103 rfl rfl rfl rfl hS5 rfl ((hS5.cel_rd 0 rfl (o := 0) (m := 1) (k := 2) rfl (Nat.le_of_ble_eq_true rfl)).src) rfl (by omega) (by omega) (fun a8 c9 w7 hS7 => ?_)
    replace hS7 : St B (cel g6 (ptc p) 103 :: own a8 (((lessF l2 (l1.take i)).length) + 1) c9 103 2 (((lessF l2 (l1.take i)).flatMap ptc) ++ (ptc p)) :: X :: Y :: L) w7 := hS7
    clear hS5
    refine WO.asg rfl rfl ?_
    refine WO.nil (NX.blk (NX.go (WP.region rfl ?_)))
    refine WO.mv rfl rfl ?_
    refine WO.V (run_add rfl rfl (IntWalk.i64_in _ (by omega))) ?_
    refine WO.asg rfl rfl ?_
    refine WO.nil ?_
    exact NX.again (i + 1, a8, c9) ⟨by omega, own_eqM hS7.drop (by rw [(less_pos hp g34)]; simp) (by rw [(less_pos hp g34)]; rw [flat_snoc])⟩ (by show l1.length - (i + 1) < l1.length - i; omega) (Sub.cons rfl (Sub.cons rfl (Sub.consE rfl (by rw [(less_pos hp g34)]; simp) (Sub.consE rfl (by congr 1) (Sub.nil _)))))
   ·
    have hin : p ∈ l2 := by rw [List.take_of_length_le (by omega)] at g34; exact Classical.byContradiction fun h => g34 h
    refine WP.skip (NX.blk (NX.go (WP.region rfl ?_)))
    refine WO.mv rfl rfl ?_
    refine WO.V (run_add rfl rfl (IntWalk.i64_in _ (by omega))) ?_
    refine WO.asg rfl rfl ?_
    refine WO.nil ?_
    exact NX.again (i + 1, oa, oc) ⟨by omega, own_eqM hS2 (by rw [(less_neg hp hin)]) (by rw [(less_neg hp hin)])⟩ (by show l1.length - (i + 1) < l1.length - i; omega) (Sub.cons rfl (Sub.cons rfl (Sub.consE rfl (by rw [(less_neg hp hin)]) (Sub.consE rfl (by congr 1) (Sub.nil _)))))
 ·
  refine WP.exit (NX.thenExit (NX.thenExit ?_))
  refine NX.blkExit ?_
  refine NX.go (WP.seq (WP.region rfl ?_))
  refine WO.mv rfl rfl ?_
  refine WO.asg rfl rfl ?_
  refine WO.nil (NX.go (WP.ret ?_))
  refine NX.done (l := [.tmp 4]) rfl rfl ?_
  have hil : l1.take i = l1 := List.take_of_length_le (by omega)
  exact ⟨oa, oc, by rw [hil] at *; rfl, own_eqM (hS1) (by rw [hil]) (by rw [hil])⟩

theorem same1_spec {B w : World} {L : List HP} {a b : Option Addr} {c d : Nat} {x y : SlV Pr} (hx : x.l.length ≤ 4398046511104) (hy : y.l.length ≤ 4398046511104) (hS : St B (own a 1 c 68 2 [.slice x.a x.l.length x.cap, .slice none 0 0] :: own b 1 d 68 2 [.slice y.a y.l.length y.cap, .slice none 0 0] :: labA x :: labA y :: L) w) :
    Does Tryz.prog 17 [.slice a 1 c, .slice b 1 d] w (fun v w1 => v = .bool (decide (x.l = y.l)) ∧ St B (labA x :: labA y :: L) w1) := by
  have h1 := ser_lab (hS.permT [2, 0, 0, 0] (L' := labA x :: own a 1 c 68 2 [.slice x.a x.l.length x.cap, .slice none 0 0] :: own b 1 d 68 2 [.slice y.a y.l.length y.cap, .slice none 0 0] :: labA y :: L) rfl)
  have h2 := ser_lab (h1.permT [4, 0, 0, 0, 0] (L' := labA y :: allA serA [(⟨x, ⟨none, [], 0⟩⟩ : MSer)] :: labA x :: own a 1 c 68 2 [.slice x.a x.l.length x.cap, .slice none 0 0] :: own b 1 d 68 2 [.slice y.a y.l.length y.cap, .slice none 0 0] :: L) rfl)
  have h3 := h2.permT [4, 2, 3, 0, 1, 0] (L' := own a 1 c 68 2 [.slice x.a x.l.length x.cap, .slice none 0 0] :: allA serA [(⟨x, ⟨none, [], 0⟩⟩ : MSer)] :: own b 1 d 68 2 [.slice y.a y.l.length y.cap, .slice none 0 0] :: allA serA [(⟨y, ⟨none, [], 0⟩⟩ : MSer)] :: labA x :: labA y :: L) rfl
  refine Does.mono (rssame_spec (fun h => h.own_rd.1) (fun h => h.own_rd.1) (by show 1 ≤ _; omega) (by show 1 ≤ _; omega) (fun s hs => by simp at hs; subst hs; exact ⟨hx, Nat.zero_le _⟩) (fun s hs => by simp at hs; subst hs; exact ⟨hy, Nat.zero_le _⟩) (l := [(⟨x, ⟨none, [], 0⟩⟩ : MSer)]) (m := [(⟨y, ⟨none, [], 0⟩⟩ : MSer)]) h3) ?_
  rintro v w1 ⟨rfl, h4⟩
  refine ⟨congrArg Value.bool (decide_eq_decide.2 ?_), h4.drop.drop.drop.drop⟩
  simp [MSer.p]
end Go.Proofs.YtidoidoelgfnaaaGreatDoor.SL
