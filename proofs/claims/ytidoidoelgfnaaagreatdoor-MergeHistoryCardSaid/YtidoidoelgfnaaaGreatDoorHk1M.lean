import Derived.Test.YtidoidoelgfnaaaGreatDoorHdM
import Derived.Test.YtidoidoelgfnaaaGreatDoorKb
import Derived.Test.YtidoidoelgfnaaaGreatDoorKcl
import Derived.Test.YtidoidoelgfnaaaGreatDoorKmM
import Derived.Test.YtidoidoelgfnaaaGreatDoorKg1M
import Derived.Test.YtidoidoelgfnaaaGreatDoorRc2
/- The head: keys, times. -/
namespace Go.Proofs.YtidoidoelgfnaaaGreatDoor.SL
open Go.RowKit Go.Proofs.YtidoidoelgfnaaaGreatDoor
open Go.Proofs.YtidoidoelgfnaaaGreatDoorW.PrintLast (rtab opsOf)
set_option linter.unusedVariables false
set_option linter.unusedSimpArgs false
theorem new_spec {B w : World} {L : List HP} (hS : St B L w) : Does Tryz.prog 31 [] w (fun v w1 => ∃ g, v = .pointer (some ⟨g, 0, none⟩) ∧ St B (hdA 126 131 103 g [] :: L) w1) := by
 refine enter (n := 4) Tryz.func31 rfl rfl [] rfl ?_
 refine WP.seq (WP.region rfl ?_)
 refine WO.asg rfl rfl ?_
 refine WO.nil (NX.go (WP.seq (WP.region rfl ?_)))
 refine WO.makeMap hS rfl (fun r2 w1 hS1 => ?_)
 clear hS
 refine WO.V (run_build (v := Value.agg #[Value.map (some r2)]) rfl (fun w => by kernel_rfl)) ?_
 refine WO.box (l := [Value.map (some r2)]) hS1 rfl rfl rfl (fun g4 w3 lg4 hS3 => ?_)
 clear hS1
 refine WO.asg rfl rfl ?_
 refine WO.nil (NX.go (WP.ret ?_))
 refine NX.done (l := [.tmp 0]) rfl rfl ?_
 have hS5 : St B (sqA (hsA 131 103) [] [] :: cel g4 [Value.map (some r2)] 126 :: mpS r2 [] :: L) w3 := (hS3).addPure trivial
 exact ⟨g4, rfl, hd_shut (m := r2) (gs := []) (S := []) (List.Perm.refl _) (hS5.permT [1, 1] (L' := cel g4 [Value.map (some r2)] 126 :: mpS r2 [] :: sqA (hsA 131 103) [] [] :: L) rfl)⟩
theorem hkey_spec {B w : World} {L : List HP} {X : HP} {a : Option Addr} {cap : Nat} {l : List Pr} (hX : ∀ {L : List HP} {w : World}, St B (X :: L) w → Rd w a l.length 2 (l.flatMap prc)) (hz : SzP l) (hl : l.length ≤ 4398046511104) (hS : St B (X :: L) w) : Does Tryz.prog 64 [Value.slice a l.length cap] w (fun v w1 => v = str (keyB l) ∧ St B (X :: L) w1) := by
 refine enter (n := 11) Tryz.func64 rfl rfl [Value.slice a l.length cap] rfl ?_
 refine WP.seq (WP.region rfl ?_)
 refine WO.asg rfl rfl ?_
 refine WO.nil (NX.go (WP.seq (WP.region rfl ?_)))
 refine WO.mv rfl rfl ?_
 refine WO.call rfl rfl Ty.hd59 rfl (lenc_spec hX hz hl hS) (fun v2 w1 pv2 => ?_)
 obtain ⟨rfl, hS1⟩ := pv2
 clear hS
 refine WO.mv rfl rfl ?_
 refine WO.V (run_extract rfl rfl) ?_
 refine WO.V (run_extract rfl rfl) ?_
 refine WO.asg rfl rfl ?_
 refine WO.asg rfl rfl ?_
 refine WO.nil (NX.go (WP.seq (WP.region rfl ?_)))
 refine WO.mv rfl rfl ?_
 refine WO.asg rfl rfl ?_
 refine WO.nil (NX.go (WP.ret ?_))
 refine NX.done (l := [.tmp 2]) rfl rfl ?_
 exact ⟨rfl, hS1⟩

def cmpT (p : Pt) (t : Int) : Int := if p.t < t then -1 else if t < p.t then 1 else 0
theorem hcomp_spec {B w : World} {L : List HP} (p : Pt) (t : Int) (hS : St B L w) : Does Tryz.prog 109 [Value.agg #[Value.int .i64 p.t, Value.int .u64 p.v], Value.int .i64 t] w (fun v w1 => v = .int .i64 (cmpT p t) ∧ St B L w1) := by
 refine enter (n := 15) Tryz.func109 rfl rfl [Value.agg #[Value.int .i64 p.t, Value.int .u64 p.v], Value.int .i64 t] rfl ?_
 refine WP.seq (WP.region rfl ?_)
 refine WO.box (l := (ptc p)) hS rfl rfl rfl (fun g2 w1 lg2 hS1 => ?_)
 clear hS
 refine WO.asg rfl rfl ?_
 refine WO.nil (NX.go (WP.seq (WP.block (WP.seq (WP.region rfl ?_)))))
 refine WO.V (run_fa 0 ⟨g2, 0, none⟩ rfl rfl) ?_
 refine WO.V (run_load Ty.ag2 rfl ((hS1.cel_at 0 rfl 0).trans rfl)) ?_
 refine WO.mv rfl rfl ?_
 refine WO.V (run_lss rfl rfl) ?_
 refine WO.asg rfl rfl ?_
 refine WO.nil (NX.go ?_)
 refine WP.condP rfl (fun g5 => ?_) (fun g5 => ?_)
 ·
  refine WP.seq (WP.region rfl ?_)
  refine WO.asg rfl rfl ?_
  refine WO.nil (NX.go (WP.ret (NX.blkRet (NX.thenRet ?_))))
  refine NX.done (l := [.tmp 4]) rfl rfl ?_
  refine ⟨congrArg (Value.int .i64) ?_, hS1.drop⟩
  unfold cmpT
  rw [if_pos g5]
 ·
  refine WP.seq (WP.region rfl ?_)
  refine WO.V (run_fa 0 ⟨g2, 0, none⟩ rfl rfl) ?_
  refine WO.V (run_load Ty.ag2 rfl ((hS1.cel_at 0 rfl 0).trans rfl)) ?_
  refine WO.mv rfl rfl ?_
  refine WO.V (run_gtr rfl rfl) ?_
  refine WO.asg rfl rfl ?_
  refine WO.nil (NX.go ?_)
  refine WP.condP rfl (fun g10 => ?_) (fun g10 => ?_)
  ·
   refine WP.seq (WP.region rfl ?_)
   refine WO.asg rfl rfl ?_
   refine WO.nil (NX.go (WP.ret (NX.blkRet (NX.thenRet ?_))))
   refine NX.done (l := [.tmp 4]) rfl rfl ?_
   refine ⟨congrArg (Value.int .i64) ?_, hS1.drop⟩
   unfold cmpT
   rw [if_neg g5, if_pos g10]
  ·
   refine WP.skip (NX.blk (NX.go (WP.seq (WP.region rfl ?_))))
   refine WO.asg rfl rfl ?_
   refine WO.nil (NX.go (WP.ret ?_))
   refine NX.done (l := [.tmp 4]) rfl rfl ?_
   refine ⟨congrArg (Value.int .i64) ?_, hS1.drop⟩
   unfold cmpT
   rw [if_neg g5, if_neg g10]
theorem bsf_spec {B w : World} {L : List HP} {X : HP} {a : Option Addr} {cap : Nat} {l : List Pt} (hX : ∀ {L : List HP} {w : World}, St B (X :: L) w → Rd w a l.length 2 (l.flatMap ptc)) (hn : l.length ≤ 4398046511104) (hs : l.Pairwise fun a b => a.t < b.t) (t : Int) (hS : St B (X :: L) w) : Does Tryz.prog 108 [Value.slice a l.length cap, Value.int .i64 t, Value.func (.func 109) #[] #[]] w (fun v w1 => ∃ qf, v = .tuple #[.int .i64 ((lowN l t : Nat) : Int), .bool qf] ∧ (qf = true ↔ ∃ p, l[lowN l t]? = some p ∧ p.t = t) ∧ St B (X :: L) w1) := by
 refine enter (n := 49) Tryz.func108 rfl rfl [Value.slice a l.length cap, Value.int .i64 t, Value.func (.func 109) #[] #[]] rfl ?_
 refine WP.seq (WP.region rfl ?_)
 refine WO.asg rfl rfl ?_
 refine WO.asg rfl rfl ?_
 refine WO.nil (NX.go (WP.seq (WP.region rfl ?_)))
 refine WO.mv rfl rfl ?_
 refine WO.V (run_len rfl Tryz.underlying66 rfl) ?_
 refine WO.asg rfl rfl ?_
 refine WO.nil (NX.go (WP.seq (WP.region rfl ?_)))
 refine WO.mv rfl rfl ?_
 refine WO.asg rfl rfl ?_
 refine WO.asg rfl rfl ?_
 refine WO.nil (NX.go (WP.seq (WP.block ?_)))
 refine WP.loop (α := Nat × Nat) (fun x => match x with | ⟨i, j⟩ => [(0, Value.slice a l.length cap), (1, Value.int .i64 t), (2, Value.func (.func 109) #[] #[]), (8, Value.int .i64 ((l.length : Nat) : Int)), (9, Value.int .i64 (i : Int)), (10, Value.int .i64 (j : Int))]) (fun x w => match x with | ⟨i, j⟩ => (i ≤ lowN l t ∧ lowN l t ≤ j ∧ j ≤ l.length) ∧ St B (X :: L) w) (fun x => match x with | ⟨i, j⟩ => j - i) (0, l.length) ⟨⟨Nat.zero_le _, lowN_le l t, Nat.le_refl _⟩, hS⟩ (Sub.cons rfl (Sub.cons rfl (Sub.cons rfl (Sub.cons rfl (Sub.consE rfl (by first | rfl | first | rfl | (congr 1; omega) | (simp; done) | (simp; omega)) (Sub.consE rfl (by first | rfl | first | rfl | (congr 1; omega) | (simp; done) | (simp; omega)) (Sub.nil _))))))) ?_
 rintro ⟨i, j⟩ w1 ⟨⟨hi, hj, hjl⟩, hS1⟩
 clear hS
 refine WP.seq (WP.seq (WP.region rfl ?_))
 refine WO.mv rfl rfl ?_
 refine WO.mv rfl rfl ?_
 refine WO.V (run_lss rfl rfl) ?_
 refine WO.nil (NX.go ?_)
 refine WP.condP rfl (fun g17 => ?_) (fun g17 => ?_)
 ·
  refine WP.skip (NX.go (WP.block (WP.seq (WP.region rfl ?_))))
  refine WO.mv rfl rfl ?_
  refine WO.mv rfl rfl ?_
  refine WO.V (run_add rfl rfl (IntWalk.i64_in _ (by omega))) ?_
  refine WO.V (run_convI Tryz.underlying189 (by kernel_rfl) rfl (IntWalk.u64_in _ (by omega))) ?_
  refine WO.V (run_shr rfl rfl (by omega) (shr_lit (m := 2) rfl (by decide))) ?_
  refine WO.V (run_convI Tryz.underlying3 (by kernel_rfl) rfl (IntWalk.i64_in _ (by omega))) ?_
  refine WO.asg rfl rfl ?_
  refine WO.nil (NX.go (WP.seq ?_))
  obtain ⟨mm, hmm⟩ : ∃ mm : Nat, mm = (i + j) / 2 := ⟨_, rfl⟩
  obtain ⟨p, hp⟩ : ∃ p, l[mm]? = some p := ⟨_, List.getElem?_eq_getElem (by omega)⟩
  refine WP.as (d := 11) (v := Value.int .i64 (mm : Int)) rfl (by congr 1; omega) ?_
  refine WP.region rfl ?_
  refine WO.mv rfl rfl ?_
  refine WO.mv rfl rfl ?_
  refine WO.mv rfl rfl ?_
  refine WO.V (run_indexAddr (q := adr a (mm * 2)) Tryz.underlying66 Ty.sz103 rfl rfl (by omega) (by omega) ((hX (hS1.focus 0 rfl)).2.1 (by omega)) rfl) ?_
  refine WO.V (run_loadAgg (vs := (ptc p)) Ty.ag103 Ty.sz103 rfl ((hX (hS1.focus 0 rfl)).cells (by rw [flat_len ptc_len]; omega) (flat_part ptc_len hp)).1 ((hX (hS1.focus 0 rfl)).cells (by rw [flat_len ptc_len]; omega) (flat_part ptc_len hp)).2) ?_
  refine WO.mv rfl rfl ?_
  refine WO.call rfl rfl Ty.hd109 rfl (hcomp_spec p t hS1) (fun v3 w2 pv3 => ?_)
  obtain ⟨rfl, hS2⟩ := pv3
  clear hS1
  refine WO.V (run_lss rfl rfl) ?_
  refine WO.nil (NX.go ?_)
  refine WP.condP rfl (fun g31 => ?_) (fun g31 => ?_)
  ·
   have hlt : p.t < t := by unfold cmpT at g31; split at g31; (· assumption); (· split at g31 <;> omega)
   refine WP.region rfl ?_
   refine WO.mv rfl rfl ?_
   refine WO.V (run_add rfl rfl (IntWalk.i64_in _ (by omega))) ?_
   refine WO.asg rfl rfl ?_
   refine WO.nil (NX.blk ?_)
   exact NX.again (mm + 1, j) ⟨⟨(lowN_lt hs hp).1 hlt, hj, hjl⟩, hS2⟩ (by show j - (mm + 1) < j - i; omega) (Sub.cons rfl (Sub.cons rfl (Sub.cons rfl (Sub.cons rfl (Sub.consE rfl (by congr 1) (Sub.consE rfl rfl (Sub.nil _)))))))
  ·
   have hnl : ¬ p.t < t := fun h => g31 (by unfold cmpT; rw [if_pos h]; omega)
   refine WP.region rfl ?_
   refine WO.mv rfl rfl ?_
   refine WO.asg rfl rfl ?_
   refine WO.nil (NX.blk ?_)
   exact NX.again (i, mm) ⟨⟨hi, Nat.le_of_not_lt (fun h => hnl ((lowN_lt hs hp).2 h)), by omega⟩, hS2⟩ (by show mm - i < j - i; omega) (Sub.cons rfl (Sub.cons rfl (Sub.cons rfl (Sub.cons rfl (Sub.consE rfl rfl (Sub.consE rfl (by congr 1) (Sub.nil _)))))))
 ·
  refine WP.exit (NX.thenExit (NX.thenExit ?_))
  refine NX.blkExit ?_
  refine NX.go (WP.seq (WP.region rfl ?_))
  refine WO.mv rfl rfl ?_
  refine WO.mv rfl rfl ?_
  refine WO.mv rfl rfl ?_
  refine WO.V (run_lss rfl rfl) ?_
  refine WO.mv rfl rfl ?_
  refine dcase (p := (i : Int) < ((l.length : Nat) : Int)) (fun g39 d39 => ?_) (fun g39 d39 => ?_)
  ·
   obtain ⟨q, hq⟩ : ∃ q, l[i]? = some q := ⟨_, List.getElem?_eq_getElem (by omega)⟩
   refine WO.on rfl rfl d39 ?_
   refine WO.mv rfl rfl ?_
   refine WO.on rfl rfl d39 ?_
   refine WO.mv rfl rfl ?_
   refine WO.on rfl rfl d39 ?_
   refine WO.mv rfl rfl ?_
   refine WO.on rfl rfl d39 ?_
   refine WO.V (run_indexAddr (q := adr a (i * 2)) Tryz.underlying66 Ty.sz103 rfl rfl (by omega) (by omega) ((hX (hS1.focus 0 rfl)).2.1 (by omega)) rfl) ?_
   refine WO.on rfl rfl d39 ?_
   refine WO.V (run_loadAgg (vs := (ptc q)) Ty.ag103 Ty.sz103 rfl ((hX (hS1.focus 0 rfl)).cells (by rw [flat_len ptc_len]; omega) (flat_part ptc_len hq)).1 ((hX (hS1.focus 0 rfl)).cells (by rw [flat_len ptc_len]; omega) (flat_part ptc_len hq)).2) ?_
   refine WO.on rfl rfl d39 ?_
   refine WO.mv rfl rfl ?_
   refine WO.on rfl rfl d39 ?_
   refine WO.call rfl rfl Ty.hd109 rfl (hcomp_spec q t hS1) (fun v5 w4 pv5 => ?_)
   obtain ⟨rfl, hS4⟩ := pv5
   clear hS1
   refine WO.on rfl rfl d39 ?_
   refine WO.V (run_eql rfl rfl) ?_
   refine WO.V (run_pickT rfl d39 rfl) ?_
   refine WO.asg rfl rfl ?_
   refine WO.asg rfl rfl ?_
   refine WO.nil (NX.go (WP.ret ?_))
   refine NX.done (l := [.tmp 6, .tmp 7]) rfl rfl ?_
   have hie : lowN l t = i := by omega
   exact ⟨decide (cmpT q t = 0), by rw [hie]; rfl, ⟨fun h => ⟨q, by rw [hie]; exact hq, by unfold cmpT at h; simp at h; split at h <;> (try split at h) <;> omega⟩, fun ⟨p, h1, h2⟩ => by rw [hie, hq] at h1; cases h1; unfold cmpT; simp; rw [if_neg (by omega), if_neg (by omega)]⟩, hS4⟩
  ·
   refine WO.off rfl rfl d39 rfl ?_
   refine WO.off rfl rfl d39 rfl ?_
   refine WO.off rfl rfl d39 rfl ?_
   refine WO.off rfl rfl d39 rfl ?_
   refine WO.off rfl rfl d39 rfl ?_
   refine WO.off rfl rfl d39 rfl ?_
   refine WO.off rfl rfl d39 rfl ?_
   refine WO.off rfl rfl d39 rfl ?_
   refine WO.V (run_pickF rfl d39 rfl) ?_
   refine WO.asg rfl rfl ?_
   refine WO.asg rfl rfl ?_
   refine WO.nil (NX.go (WP.ret ?_))
   refine NX.done (l := [.tmp 6, .tmp 7]) rfl rfl ?_
   have hie : lowN l t = i := by omega
   exact ⟨false, by rw [hie]; rfl, ⟨(fun h => by cases h), fun ⟨p, h1, h2⟩ => by rw [hie, List.getElem?_eq_none (by omega)] at h1; cases h1⟩, hS1⟩
end Go.Proofs.YtidoidoelgfnaaaGreatDoor.SL

/- The head: points from one time to another one; cut out. -/
namespace Go.Proofs.YtidoidoelgfnaaaGreatDoor.SL
open Go.RowKit Go.Proofs.YtidoidoelgfnaaaGreatDoor
open Go.Proofs.YtidoidoelgfnaaaGreatDoorW.PrintLast (rtab opsOf)
set_option linter.unusedVariables false
set_option linter.unusedSimpArgs false
theorem hwithin_spec {B w : World} {L : List HP} {X : HP} {a : Option Addr} {cap : Nat} {l : List Pt} (hX : ∀ {L : List HP} {w : World}, St B (X :: L) w → Rd w a l.length 2 (l.flatMap ptc)) (hn : l.length ≤ 4398046511104) (hs : l.Pairwise fun a b => a.t < b.t) (fr to : Int) (hS : St B (X :: L) w) : Does Tryz.prog 68 [Value.slice a l.length cap, Value.int .i64 fr, Value.int .i64 to] w (fun v w1 => ∃ lo hi : Nat, v = .tuple #[.int .i64 (lo : Int), .int .i64 (hi : Int)] ∧ lo ≤ hi ∧ hi ≤ l.length ∧ (l.take hi).drop lo = l.filter (inF fr to) ∧ l.take lo ++ l.drop hi = l.filter (fun p => !(decide (fr ≤ p.t ∧ p.t ≤ to))) ∧ St B (X :: L) w1) := by
 refine enter (n := 31) Tryz.func68 rfl rfl [Value.slice a l.length cap, Value.int .i64 fr, Value.int .i64 to] rfl ?_
 refine WP.seq (WP.region rfl ?_)
 refine WO.asg rfl rfl ?_
 refine WO.asg rfl rfl ?_
 refine WO.nil (NX.go (WP.seq ?_))
 have hl0 := lowN_le l to
 have hl9 := lowN_le l fr
 refine WP.region rfl ?_
 refine WO.mv rfl rfl ?_
 refine WO.mv rfl rfl ?_
 refine WO.call rfl rfl Ty.hd108 rfl (bsf_spec hX hn hs fr hS) (fun v2 w1 pv2 => ?_)
 obtain ⟨qf1, rfl, hf1, hS1⟩ := pv2
 clear hS
 refine WO.mv rfl rfl ?_
 refine WO.V (run_extract rfl rfl) ?_
 refine WO.V (run_extract rfl rfl) ?_
 refine WO.asg rfl rfl ?_
 refine WO.asg rfl rfl ?_
 refine WO.nil (NX.go (WP.seq (WP.region rfl ?_)))
 refine WO.mv rfl rfl ?_
 refine WO.mv rfl rfl ?_
 refine WO.call rfl rfl Ty.hd108 rfl (bsf_spec hX hn hs to hS1) (fun v4 w3 pv4 => ?_)
 obtain ⟨qf2, rfl, hf2, hS3⟩ := pv4
 clear hS1
 refine WO.mv rfl rfl ?_
 refine WO.V (run_extract rfl rfl) ?_
 refine WO.V (run_extract rfl rfl) ?_
 refine WO.asg rfl rfl ?_
 refine WO.asg rfl rfl ?_
 refine WO.nil (NX.go (WP.seq (WP.seq (WP.region rfl ?_))))
 refine WO.mv rfl rfl ?_
 refine WO.nil (NX.go ?_)
 refine WP.condB rfl (fun g24 => ?_) (fun g24 => ?_)
 ·
  have hnx : lowN l (to + 1) = lowN l to + 1 := by rw [lowN_next hs hf2, if_pos (by rw [g24])]
  have hl1 := lowN_le l fr
  have hl2 := lowN_le l (to + 1)
  refine WP.region rfl ?_
  refine WO.mv rfl rfl ?_
  refine WO.V (run_add rfl rfl (IntWalk.i64_in _ (by omega))) ?_
  refine WO.asg rfl rfl ?_
  refine WO.nil (NX.go (WP.seq (WP.region rfl ?_)))
  refine WO.mv rfl rfl ?_
  refine WO.mv rfl rfl ?_
  refine WO.mv rfl rfl ?_
  refine WO.V (run_max rfl (by rw [hnx]; split <;> omega : (if _ > _ then _ else _) = ((max (lowN l fr) (lowN l (to + 1)) : Nat) : Int))) ?_
  refine WO.asg rfl rfl ?_
  refine WO.asg rfl rfl ?_
  refine WO.nil (NX.go (WP.ret ?_))
  refine NX.done (l := [.tmp 6, .tmp 7]) rfl rfl ?_
  exact ⟨lowN l fr, max (lowN l fr) (lowN l (to + 1)), rfl, by omega, by omega, (win hs).1, (win hs).2, hS3⟩
 ·
  have hnx : lowN l (to + 1) = lowN l to + 0 := by rw [lowN_next hs hf2, if_neg (by rw [g24]; decide)]
  have hl1 := lowN_le l fr
  have hl2 := lowN_le l (to + 1)
  refine WP.skip (NX.go (WP.seq (WP.region rfl ?_)))
  refine WO.mv rfl rfl ?_
  refine WO.mv rfl rfl ?_
  refine WO.mv rfl rfl ?_
  refine WO.V (run_max rfl (by rw [hnx]; split <;> omega : (if _ > _ then _ else _) = ((max (lowN l fr) (lowN l (to + 1)) : Nat) : Int))) ?_
  refine WO.asg rfl rfl ?_
  refine WO.asg rfl rfl ?_
  refine WO.nil (NX.go (WP.ret ?_))
  refine NX.done (l := [.tmp 6, .tmp 7]) rfl rfl ?_
  exact ⟨lowN l fr, max (lowN l fr) (lowN l (to + 1)), rfl, by omega, by omega, (win hs).1, (win hs).2, hS3⟩
theorem t103_5 : rtab .any (opsOf Tryz.f103 5) = (true, [([], []), ([], []), ([0, 1], [0, 1]), ([], []), ([], []), ([3, 4], [3, 4]), ([2, 5], [2, 5]), ([6, 6, 0, 1, 2, 3, 4, 5, 6], [0, 3, 6])]) := by kernel_rfl
theorem sdel_spec {B w : World} {L : List HP} {a : Option Addr} {cap i j : Nat} {l : List Pt} (hij : i ≤ j) (hj : j ≤ l.length) (hn : l.length ≤ 4398046511104) (hS : St B (own a l.length cap 103 2 (l.flatMap ptc) :: L) w) : Does Tryz.prog 103 [Value.slice a l.length cap, Value.int .i64 (i : Int), Value.int .i64 (j : Int)] w (fun v w1 => v = .slice a (l.take i ++ l.drop j).length cap ∧ St B (own a ((l.take i ++ l.drop j).length) cap 103 2 ((l.take i ++ l.drop j).flatMap ptc) :: L) w1) := by
 have hcap := hS.own_le_i 0 rfl
 refine enter (n := 33) Tryz.func103 rfl rfl [Value.slice a l.length cap, Value.int .i64 (i : Int), Value.int .i64 (j : Int)] rfl ?_
 refine WP.seq (WP.region rfl ?_)
 refine WO.asg rfl rfl ?_
 refine WO.nil (NX.go (WP.seq (WP.region rfl ?_)))
 refine WO.mv rfl rfl ?_
 refine WO.mv rfl rfl ?_
 refine WO.mv rfl rfl ?_
 refine WO.mv rfl rfl ?_
 refine WO.V (run_len rfl Tryz.underlying66 rfl) ?_
 refine WO.V (run_slice3 (i := i) (j := j) (c := l.length) Tryz.underlying66 Ty.sz103 rfl ⟨_, rfl⟩ ⟨_, rfl⟩ ⟨_, rfl⟩ hij hj hcap) ?_
 refine WO.nil (NX.go (WP.seq (WP.seq (WP.region rfl ?_))))
 refine WO.mv rfl rfl ?_
 refine WO.mv rfl rfl ?_
 refine WO.V (run_eql rfl rfl) ?_
 refine WO.nil (NX.go ?_)
 refine WP.condP rfl (fun g16 => ?_) (fun g16 => ?_)
 ·
  refine WP.seq (WP.region rfl ?_)
  refine WO.mv rfl rfl ?_
  refine WO.asg rfl rfl ?_
  refine WO.nil (NX.go (WP.ret (NX.thenRet ?_)))
  refine NX.done (l := [.tmp 6]) rfl rfl ?_
  have hij2 : i = j := by omega
  subst hij2
  exact ⟨by rw [List.take_append_drop]; rfl, by rw [List.take_append_drop]; exact hS⟩
 ·
  refine WP.skip (NX.go (WP.seq (WP.region rfl ?_)))
  refine WO.mv rfl rfl ?_
  refine WO.V (run_len rfl Tryz.underlying66 rfl) ?_
  refine WO.asg rfl rfl ?_
  refine WO.nil (NX.go (WP.seq ?_))
  refine WD.start (fun w => Rd w a l.length 2 (l.flatMap ptc)) [6] (bt 8 0) Ty.mo rfl (by kernel_rfl) hS (fun _ h => (h.own_rd_i 0 rfl)) (fun w1 hS1 s2 => ?_)
  clear hS
  refine DP (i := 0) t103_5 (bt 8 1) rfl rfl rfl rfl (fun w => run_move rfl) ?_
  refine DP (i := 1) t103_5 (bt 8 3) rfl rfl rfl rfl (fun w => run_move rfl) ?_
  refine DP (i := 2) t103_5 (bt 8 7) rfl rfl rfl rfl (fun w => run_sliceTo (j := i) Tryz.underlying66 Ty.sz103 rfl ⟨_, rfl⟩ (by omega)) ?_
  refine DP (i := 3) t103_5 (bt 8 15) rfl rfl rfl rfl (fun w => run_move rfl) ?_
  refine DP (i := 4) t103_5 (bt 8 31) rfl rfl rfl rfl (fun w => run_move rfl) ?_
  refine DP (i := 5) t103_5 (bt 8 63) rfl rfl rfl rfl (fun w => run_sliceL (i := j) (j := l.length) Tryz.underlying66 Ty.sz103 rfl ⟨_, rfl⟩ rfl (by omega) (by omega)) ?_
  refine WD.one (i := 6) t103_5 (bt 8 127) rfl (by kernel_rfl) ?_
  have hsrc := Rd.src (P := Tryz.prog) (cap := cap - j) (Rd.dropM ((hS1.own_rd_i 0 rfl)) (i := j) hj hcap)
  have hS3 := hS1.own_take_i (m := i) 0 rfl (by omega) (flat_take ptc_len _ _) (L' := own a i cap 103 2 ((l.take i).flatMap ptc) :: L) rfl
  clear hS1
  refine WO.appendIn (news := (l.flatMap ptc).drop (j * 2)) 0 rfl Tryz.underlying66 Tryz.underlying66 (fun _ h => by cases h) Ty.sz103 rfl rfl rfl hS3 rfl hsrc (all_dropM (flat_noAgg ptc_na l)) (by omega) (fun w4 hS4 => ?_)
  replace hS4 : St B (own a (i + (l.length - j)) cap 103 2 ((l.take i ++ l.drop j).flatMap ptc) :: L) w4 := by have z := hS4; rw [flat_drop ptc_len, ← List.flatMap_append] at z; exact z
  clear hS3
  refine WO.nil ?_
  refine NX.last (by decide) ?_
  refine DP (i := 7) t103_5 (bt 8 255) rfl rfl rfl rfl (fun w => run_assign rfl) ?_
  refine WD.done t103_5 (by kernel_rfl) ?_
  refine NX.go (WP.seq (WP.region rfl ?_))
  refine WO.mv rfl rfl ?_
  refine WO.mv rfl rfl ?_
  refine WO.V (run_len rfl Tryz.underlying66 rfl) ?_
  refine WO.mv rfl rfl ?_
  refine WO.V (run_sliceL (i := i + (l.length - j)) (j := l.length) Tryz.underlying66 Ty.sz103 rfl ⟨_, rfl⟩ ⟨_, rfl⟩ (by omega) (by omega)) ?_
  refine WO.clearSp (m := (i + (l.length - j))) 0 rfl Tryz.underlying66 Ty.sz103 (by decide) Ty.zr103 rfl rfl rfl hS4 rfl (by omega) (fun w5 hS5 => ?_)
  clear hS4
  refine WO.nil (NX.go (WP.seq (WP.region rfl ?_)))
  refine WO.mv rfl rfl ?_
  refine WO.asg rfl rfl ?_
  refine WO.nil (NX.go (WP.ret ?_))
  refine NX.done (l := [.tmp 6]) rfl rfl ?_
  have hlen : (i + (l.length - j)) = (l.take i ++ l.drop j).length := by rw [List.length_append, List.length_take, List.length_drop]; omega
  exact ⟨by rw [← hlen]; rfl, own_eqM hS5 hlen rfl⟩
end Go.Proofs.YtidoidoelgfnaaaGreatDoor.SL

/- The head: deletes. -/
namespace Go.Proofs.YtidoidoelgfnaaaGreatDoor.SL
open Go.RowKit Go.Proofs.YtidoidoelgfnaaaGreatDoor
open Go.Proofs.YtidoidoelgfnaaaGreatDoorW.PrintLast (rtab opsOf)
set_option linter.unusedVariables false
set_option linter.unusedSimpArgs false
theorem t66_4 : rtab .any (opsOf Tryz.f66 4) = (true, [([], []), ([0], [0]), ([], []), ([2], [2]), ([3], [3]), ([4], [4]), ([1, 5], [1, 5])]) := by kernel_rfl
theorem t66_5 : rtab .any (opsOf Tryz.f66 5) = (true, [([], []), ([0], [0]), ([1], [1]), ([2], [2]), ([], []), ([4], [4]), ([], []), ([6], [6]), ([3, 5, 7], [3, 5, 7]), ([8], [8]), ([9], [9]), ([9], [9]), ([10, 8, 0, 1, 2, 3, 4, 5, 6, 7, 8, 9, 10], [10]), ([11, 12, 0, 1, 2, 3, 4, 5, 6, 7, 8, 9, 10, 11, 12], [11])]) := by kernel_rfl
theorem hdel_spec {B w : World} {L : List HP} {g M : Nat} {A : List RowP} (hA : WfH A M) (hM : M ≤ 4398046511104) (r : Rcd) (hz : SzR r) (hS : St B (hdA 126 131 103 g A :: recA r :: L) w) : Does Tryz.prog 66 [Value.pointer (some ⟨g, 0, none⟩), Value.agg #[Value.int .i64 r.k, Value.slice r.ss.a r.ss.l.length r.ss.cap, Value.slice r.ms.a r.ms.l.length r.ms.cap, Value.int .i64 r.fr, Value.int .i64 r.to]] w (fun v w1 => v = .tuple #[] ∧ St B (hdA 126 131 103 g (delF r.fr r.to r.ms.l A) :: recA r :: L) w1) := by
 obtain ⟨m, gs, S, hp, hlen, hS⟩ := hd_open hS
 replace hS := recA_open (hS.permT [3] (L' := _::_::_::_::L) rfl)
 refine enter (n := 46) Tryz.func66 rfl rfl [Value.pointer (some ⟨g, 0, none⟩), Value.agg #[Value.int .i64 r.k, Value.slice r.ss.a r.ss.l.length r.ss.cap, Value.slice r.ms.a r.ms.l.length r.ms.cap, Value.int .i64 r.fr, Value.int .i64 r.to]] rfl ?_
 refine WP.seq (WP.region rfl ?_)
 refine WO.box (l := (rcc r)) hS rfl rfl rfl (fun g2 w1 lg2 hS1 => ?_)
 clear hS
 refine WO.nil (NX.go (WP.seq (WP.region rfl ?_)))
 refine WO.mv rfl rfl ?_
 refine WO.V (run_nilCheck rfl) ?_
 refine WO.V (run_fa 0 ⟨g, 0, none⟩ rfl rfl) ?_
 refine WO.V (run_load Ty.ag124 rfl ((hS1.cel_at 5 rfl 0).trans rfl)) ?_
 refine WO.rangeM 6 hS1 rfl Tryz.underlying124 rfl rfl (fun r4 w3 hS3 => ?_)
 clear hS1
 refine WO.nil (NX.go (WP.block ?_))
 have hS5 : St B (cel g2 (rcc r) 33 :: (rdH r.ms.a r.ms.l.length 3 (r.ms.l.flatMap mtc)) :: _::itM m r4 (entR gs S) (entR gs S) none :: _::(rdH r.ss.a r.ss.l.length 3 (r.ss.l.flatMap smc)) :: smsA r.ss.l :: _::L) w3 := (hS3.permT [0, 1, 3, 3, 3] (L' := _::_::_::_::_::_::_::_::L) rfl)
 clear hS3
 refine WP.loop (α := List ((List UInt8 × Value) × Nat) × List MRow × List (List UInt8 × Value) × Option (List UInt8 × Value)) (fun x => match x with | ⟨rr, Sc, rst, cur⟩ => [(0, Value.pointer (some ⟨g, 0, none⟩)), (3, Value.pointer (some ⟨g2, 0, none⟩)), (12, Value.pointer (some ⟨r4, 0, none⟩))]) (fun x w => match x with | ⟨rr, Sc, rst, cur⟩ => (rst.Perm (rr.map Prod.fst) ∧ DL gs S (delR r.fr r.to r.ms.l) rr Sc) ∧ St B (itM m r4 (entR gs S) rst cur :: sqA (hsA 131 103) gs Sc :: cel g [Value.map (some m)] 126 :: cel g2 (rcc r) 33 :: (rdH r.ms.a r.ms.l.length 3 (r.ms.l.flatMap mtc)) :: (rdH r.ss.a r.ss.l.length 3 (r.ss.l.flatMap smc)) :: smsA r.ss.l :: recA r :: L) w) (fun x => match x with | ⟨rr, Sc, rst, cur⟩ => rst.length) ((entR gs S).zipIdx, S, entR gs S, none) ⟨⟨by rw [show (entR gs S).zipIdx.map Prod.fst = entR gs S from List.zipIdx_map_fst ..], DL.start hlen⟩, (hS5.permT [3, 3, 2] (L' := _::_::_::_::_::_::_::_::L) rfl)⟩ (Sub.cons rfl (Sub.cons rfl (Sub.cons rfl (Sub.nil _)))) ?_
 rintro ⟨rr, Sc, rst, cur⟩ w6 ⟨⟨hR, hDL⟩, hS6⟩
 clear hS5
 refine WP.seq (WP.region rfl ?_)
 refine WO.nextM 0 hS6 rfl rfl rfl (fun e13 => ?_) (fun pre13 nk nv post13 e13 w7 hS7 => ?_)
 ·
  refine WO.V (run_extract rfl rfl) ?_
  refine WO.nil (NX.go (WP.seq ?_))
  refine WP.condF rfl rfl ?_
  refine WP.exit (NX.thenExit (NX.thenExit ?_))
  refine NX.blkExit ?_
  refine NX.ended (l := []) rfl rfl ?_
  have hdl := hDL.nil (by rw [e13] at hR; exact hR)
  have hS8 := St.itM_end hS6
  exact ⟨rfl, hd_shut (m := m) (gs := gs) (S := Sc) (by rw [hdl.done]; exact hp.map _) (by rw [hdl.ent]; exact ((hS8.mask [true, true, true, false, false, false, false] (L' := _::_::_::_::L) rfl).permT [2] (L' := _::_::_::_::L) rfl))⟩
 ·
  obtain ⟨j, rr2, hp1, hp2⟩ := ent_stepI hR e13
  obtain ⟨q, row, hj1, hj2, hj3, rfl, rfl, hst⟩ := hDL.step hp1
  obtain ⟨q', hq', hS9⟩ := sqA_pick hj3 (hS7.permT [1] (L' := _::_::_::_::_::_::_::_::L) rfl)
  have hqq : q' = q := by rw [hj1] at hq'; exact (Option.some.inj hq').symm
  subst hqq
  clear hS7
  have hS10 : St B (cel q' (hsc row) 131 :: (labA row.lb) :: own row.pt.a row.pt.l.length row.pt.cap 103 2 (row.pt.l.flatMap ptc) :: sqBut (hsA 131 103) j gs Sc :: itM m r4 (entR gs S) (pre13 ++ post13) (some (keyB row.lb.l, ptrG q')) :: _::_::_::_::_::_::L) w7 := hs_open hS9
  clear hS9
  have hrA : row.p ∈ A := hp.subset (List.mem_map.2 ⟨row, List.mem_of_getElem? hj2, rfl⟩)
  have hok := hA.ok row.p hrA
  have hrp : row.pt.l.length ≤ 4398046511104 := Nat.le_trans (hA.pts row.p hrA) hM
  have hrl : row.lb.l.length ≤ 4398046511104 := by have := (chk_sz (hA.chk row.p hrA)).1; show row.p.lb.length ≤ _; omega
  refine WO.V (run_extract rfl rfl) ?_
  refine WO.nil (NX.go (WP.seq ?_))
  refine WP.condT rfl rfl ?_
  refine WP.skip (NX.go (WP.block (WP.seq (WP.region rfl ?_))))
  refine WO.V (run_entryM (d := 0) 4 hS10 rfl rfl) ?_
  refine WO.V (run_extract rfl rfl) ?_
  refine WO.asg rfl rfl ?_
  refine WO.nil (NX.go (WP.seq ?_))
  refine WD.start (fun w => (∀ jz, World.cell? w ⟨q', jz, none⟩ = (hsc row)[jz]?) ∧ Rd w row.lb.a row.lb.l.length 2 (row.lb.l.flatMap prc) ∧ Rd w row.pt.a row.pt.l.length 2 (row.pt.l.flatMap ptc) ∧ (∀ jz, World.cell? w ⟨g, jz, none⟩ = [Value.map (some m)][jz]?) ∧ (∀ jz, World.cell? w ⟨g2, jz, none⟩ = (rcc r)[jz]?) ∧ Rd w r.ms.a r.ms.l.length 3 (r.ms.l.flatMap mtc)) [] (bt 7 0) Ty.mo rfl (by kernel_rfl) hS10 (fun _ h => ⟨h.cel_at 0 rfl, (rdH_rd (h.focus 1 rfl)), (h.own_rd_i 2 rfl), h.cel_at 5 rfl, h.cel_at 6 rfl, (rdH_rd (h.focus 7 rfl))⟩) (fun w11 hS11 s12 => ?_)
  clear hS10
  refine DP (i := 0) t66_4 (bt 7 1) rfl rfl rfl rfl (fun w => run_fa 2 ⟨g2, 2, none⟩ rfl rfl) ?_
  refine DT (i := 1) t66_4 (bt 7 3) s12 rfl rfl rfl rfl (fun w hs => run_load Ty.ag24 rfl ((hs.2.2.2.2.1 2).trans rfl)) ?_
  refine DP (i := 2) t66_4 (bt 7 7) rfl rfl rfl rfl (fun w => run_move rfl) ?_
  refine DP (i := 3) t66_4 (bt 7 15) rfl rfl rfl rfl (fun w => run_nilCheck rfl) ?_
  refine DP (i := 4) t66_4 (bt 7 31) rfl rfl rfl rfl (fun w => run_fa 0 ⟨q', 0, none⟩ rfl rfl) ?_
  refine DT (i := 5) t66_4 (bt 7 63) s12 rfl rfl rfl rfl (fun w hs => run_load Ty.ag65 rfl ((hs.1 0).trans rfl)) ?_
  refine WD.one (i := 6) t66_4 (bt 7 127) rfl (by kernel_rfl) ?_
  have hS13 := hS11.permT [7, 1] (L' := _::_::_::_::_::_::_::_::_::_::_::L) rfl
  clear hS11
  refine WO.call rfl rfl Ty.hd53 rfl (lis_spec rdH_rd rdH_rd hz.m hz.nm2 hrl hS13) (fun v15 w14 pv15 => ?_)
  obtain ⟨rfl, hS14⟩ := pv15
  clear hS13
  refine WO.nil ?_
  have s16 : (∀ jz, World.cell? w14 ⟨q', jz, none⟩ = (hsc row)[jz]?) ∧ Rd w14 row.lb.a row.lb.l.length 2 (row.lb.l.flatMap prc) ∧ Rd w14 row.pt.a row.pt.l.length 2 (row.pt.l.flatMap ptc) ∧ (∀ jz, World.cell? w14 ⟨g, jz, none⟩ = [Value.map (some m)][jz]?) ∧ (∀ jz, World.cell? w14 ⟨g2, jz, none⟩ = (rcc r)[jz]?) ∧ Rd w14 r.ms.a r.ms.l.length 3 (r.ms.l.flatMap mtc) := ⟨hS14.cel_at 2 rfl, (rdH_rd (hS14.focus 1 rfl)), (hS14.own_rd_i 3 rfl), hS14.cel_at 6 rfl, hS14.cel_at 7 rfl, (rdH_rd (hS14.focus 0 rfl))⟩
  refine NX.held s16 ?_
  refine WD.done t66_4 (by kernel_rfl) ?_
  refine NX.go ?_
  refine WP.condB rfl (fun g23 => ?_) (fun g23 => ?_)
  ·
   refine WP.seq ?_
   refine WD.start (fun w => Rd w r.ms.a r.ms.l.length 3 (r.ms.l.flatMap mtc) ∧ Rd w row.lb.a row.lb.l.length 2 (row.lb.l.flatMap prc) ∧ (∀ jz, World.cell? w ⟨q', jz, none⟩ = (hsc row)[jz]?) ∧ Rd w row.pt.a row.pt.l.length 2 (row.pt.l.flatMap ptc) ∧ (∀ jz, World.cell? w ⟨g, jz, none⟩ = [Value.map (some m)][jz]?) ∧ (∀ jz, World.cell? w ⟨g2, jz, none⟩ = (rcc r)[jz]?)) [] (bt 14 0) Ty.mo rfl (by kernel_rfl) hS14 (fun _ h => ⟨(rdH_rd (h.focus 0 rfl)), (rdH_rd (h.focus 1 rfl)), h.cel_at 2 rfl, (h.own_rd_i 3 rfl), h.cel_at 6 rfl, h.cel_at 7 rfl⟩) (fun w17 hS17 s18 => ?_)
   clear hS14
   refine DP (i := 0) t66_5 (bt 14 1) rfl rfl rfl rfl (fun w => run_move rfl) ?_
   refine DP (i := 1) t66_5 (bt 14 3) rfl rfl rfl rfl (fun w => run_nilCheck rfl) ?_
   refine DP (i := 2) t66_5 (bt 14 7) rfl rfl rfl rfl (fun w => run_fa 1 ⟨q', 1, none⟩ rfl rfl) ?_
   refine DT (i := 3) t66_5 (bt 14 15) s18 rfl rfl rfl rfl (fun w hs => run_load Ty.ag66 rfl ((hs.2.2.1 1).trans rfl)) ?_
   refine DP (i := 4) t66_5 (bt 14 31) rfl rfl rfl rfl (fun w => run_fa 3 ⟨g2, 3, none⟩ rfl rfl) ?_
   refine DT (i := 5) t66_5 (bt 14 63) s18 rfl rfl rfl rfl (fun w hs => run_load Ty.ag2 rfl ((hs.2.2.2.2.2 3).trans rfl)) ?_
   refine DP (i := 6) t66_5 (bt 14 127) rfl rfl rfl rfl (fun w => run_fa 4 ⟨g2, 4, none⟩ rfl rfl) ?_
   refine DT (i := 7) t66_5 (bt 14 255) s18 rfl rfl rfl rfl (fun w hs => run_load Ty.ag2 rfl ((hs.2.2.2.2.2 4).trans rfl)) ?_
   refine WD.one (i := 8) t66_5 (bt 14 511) rfl (by kernel_rfl) ?_
   have hS19 := hS17.permT [3] (L' := _::_::_::_::_::_::_::_::_::_::_::L) rfl
   clear hS17
   refine WO.call rfl rfl Ty.hd68 rfl (hwithin_spec (X := own row.pt.a row.pt.l.length row.pt.cap 103 2 (row.pt.l.flatMap ptc)) (fun h => h.own_rd.1) hrp hok.1 r.fr r.to hS19) (fun v21 w20 pv21 => ?_)
   obtain ⟨lo, hi, rfl, hlo, hhi, hw1, hw2, hS20⟩ := pv21
   clear hS19
   refine WO.nil ?_
   have s22 : Rd w20 r.ms.a r.ms.l.length 3 (r.ms.l.flatMap mtc) ∧ Rd w20 row.lb.a row.lb.l.length 2 (row.lb.l.flatMap prc) ∧ (∀ jz, World.cell? w20 ⟨q', jz, none⟩ = (hsc row)[jz]?) ∧ Rd w20 row.pt.a row.pt.l.length 2 (row.pt.l.flatMap ptc) ∧ (∀ jz, World.cell? w20 ⟨g, jz, none⟩ = [Value.map (some m)][jz]?) ∧ (∀ jz, World.cell? w20 ⟨g2, jz, none⟩ = (rcc r)[jz]?) := ⟨(rdH_rd (hS20.focus 1 rfl)), (rdH_rd (hS20.focus 2 rfl)), hS20.cel_at 3 rfl, (hS20.own_rd_i 0 rfl), hS20.cel_at 6 rfl, hS20.cel_at 7 rfl⟩
   refine NX.held s22 ?_
   refine DP (i := 9) t66_5 (bt 14 1023) rfl rfl rfl rfl (fun w => run_move rfl) ?_
   refine DP (i := 10) t66_5 (bt 14 2047) rfl rfl rfl rfl (fun w => run_extract rfl rfl) ?_
   refine DP (i := 11) t66_5 (bt 14 4095) rfl rfl rfl rfl (fun w => run_extract rfl rfl) ?_
   refine DP (i := 12) t66_5 (bt 14 8191) rfl rfl rfl rfl (fun w => run_assign rfl) ?_
   refine DP (i := 13) t66_5 (bt 14 16383) rfl rfl rfl rfl (fun w => run_assign rfl) ?_
   refine WD.done t66_5 (by kernel_rfl) ?_
   refine NX.go (WP.region rfl ?_)
   refine WO.mv rfl rfl ?_
   refine WO.mv rfl rfl ?_
   refine WO.V (run_nilCheck rfl) ?_
   refine WO.V (run_fa 1 ⟨q', 1, none⟩ rfl rfl) ?_
   refine WO.V (run_load Ty.ag66 rfl ((hS20.cel_at 3 rfl 1).trans rfl)) ?_
   refine WO.mv rfl rfl ?_
   refine WO.mv rfl rfl ?_
   refine WO.call rfl rfl Ty.hd103 rfl (sdel_spec hlo hhi hrp hS20) (fun v24 w23 pv24 => ?_)
   obtain ⟨rfl, hS23⟩ := pv24
   clear hS20
   refine WO.V (run_nilCheck rfl) ?_
   refine WO.V (run_fa 1 ⟨q', 1, none⟩ rfl rfl) ?_
   refine WO.store (l' := [Value.slice row.lb.a row.lb.l.length row.lb.cap, Value.slice row.pt.a ((row.pt.l.take lo ++ row.pt.l.drop hi).length) row.pt.cap, Value.int .i64 row.last]) 3 hS23 rfl Ty.sz66 rfl rfl rfl rfl rfl (Nat.le_of_ble_eq_true rfl) rfl (fun w25 (hS25 : St B (own row.pt.a ((row.pt.l.take lo ++ row.pt.l.drop hi).length) row.pt.cap 103 2 ((row.pt.l.take lo ++ row.pt.l.drop hi).flatMap ptc) :: _::_::cel q' [Value.slice row.lb.a row.lb.l.length row.lb.cap, Value.slice row.pt.a ((row.pt.l.take lo ++ row.pt.l.drop hi).length) row.pt.cap, Value.int .i64 row.last] 131 :: _::_::_::_::_::_::_::L) w25) => ?_)
   clear hS23
   refine WO.nil (NX.blk ?_)
   have hS26 := hs_shut (tS := 131) (tP := 103) (g := q') (r := (⟨row.lb, row.last, ⟨row.pt.a, row.pt.l.take lo ++ row.pt.l.drop hi, row.pt.cap⟩⟩ : MRow)) (hS25.permT [3, 2] (L' := _::_::_::_::_::_::_::_::_::_::_::L) rfl)
   clear hS25
   have hS27 := sqA_back hj1 (hS26.permT [0, 1] (L' := _::_::_::_::_::_::_::_::_::L) rfl)
   clear hS26
   exact NX.again (rr2, Sc.set j (⟨row.lb, row.last, ⟨row.pt.a, row.pt.l.take lo ++ row.pt.l.drop hi, row.pt.cap⟩⟩ : MRow), pre13 ++ post13, some (keyB row.lb.l, ptrG q')) ⟨⟨hp2, hst (⟨row.lb, row.last, ⟨row.pt.a, row.pt.l.take lo ++ row.pt.l.drop hi, row.pt.cap⟩⟩ : MRow) (by show RowP.mk _ _ _ = delR _ _ _ row.p; unfold delR; rw [if_pos (show isF r.ms.l row.p.lb = true from g23)]; show RowP.mk _ _ _ = RowP.mk _ _ (row.pt.l.filter _); rw [← hw2]; rfl) rfl⟩, (hS27.permT [2, 0, 1, 1] (L' := _::_::_::_::_::_::_::_::L) rfl)⟩ (by show (pre13 ++ post13).length < rst.length; rw [e13]; simp only [List.length_append, List.length_cons]; omega) (Sub.cons rfl (Sub.cons rfl (Sub.cons rfl (Sub.nil _))))
  ·
   refine WP.skip (NX.blk ?_)
   have hS28 := hs_shut (tS := 131) (tP := 103) (g := q') (r := row) (hS14.permT [2, 1, 1] (L' := _::_::_::_::_::_::_::_::_::_::_::L) rfl)
   clear hS14
   have hS29 := sqA_back hj1 (hS28.permT [0, 1] (L' := _::_::_::_::_::_::_::_::_::L) rfl)
   clear hS28
   exact NX.again (rr2, Sc.set j row, pre13 ++ post13, some (keyB row.lb.l, ptrG q')) ⟨⟨hp2, hst row (by unfold delR; rw [if_neg (show ¬ isF r.ms.l row.p.lb = true from by show ¬ isF r.ms.l row.lb.l = true; rw [g23]; decide)]) rfl⟩, (hS29.permT [2, 0, 1, 1] (L' := _::_::_::_::_::_::_::_::L) rfl)⟩ (by show (pre13 ++ post13).length < rst.length; rw [e13]; simp only [List.length_append, List.length_cons]; omega) (Sub.cons rfl (Sub.cons rfl (Sub.cons rfl (Sub.nil _))))
end Go.Proofs.YtidoidoelgfnaaaGreatDoor.SL

/- The head: whether a record may be applied. -/
namespace Go.Proofs.YtidoidoelgfnaaaGreatDoor.SL
open Go.RowKit Go.Proofs.YtidoidoelgfnaaaGreatDoor
open Go.Proofs.YtidoidoelgfnaaaGreatDoorW.PrintLast (rtab opsOf)
set_option linter.unusedVariables false
set_option linter.unusedSimpArgs false
theorem htry_spec {B w : World} {L : List HP} {g M : Nat} {A : List RowP} (hA : WfH A M) (hM : M ≤ 4398046511104) (hAn : A.length ≤ 1000000) (r : Rcd) (hz : SzR r) (hS : St B (hdA 126 131 103 g A :: recA r :: L) w) : Does Tryz.prog 37 [Value.pointer (some ⟨g, 0, none⟩), Value.agg #[Value.int .i64 r.k, Value.slice r.ss.a r.ss.l.length r.ss.cap, Value.slice r.ms.a r.ms.l.length r.ms.cap, Value.int .i64 r.fr, Value.int .i64 r.to]] w (fun v w1 => v = .int .i64 (tryF A (rcheck r) r.p.ss) ∧ St B (hdA 126 131 103 g A :: recA r :: L) w1) := by
 obtain ⟨m, gs, S, hp, hlen, hS⟩ := hd_open hS
 replace hS := recA_open (hS.permT [3] (L' := _::_::_::_::L) rfl)
 have hns := hz.ns
 have hcS := perm_chk hp hA.chk
 have hSl : S.length = A.length := by have := hp.length_eq; rwa [List.length_map] at this
 have hel := entR_len hlen
 refine enter (n := 76) Tryz.func37 rfl rfl [Value.pointer (some ⟨g, 0, none⟩), Value.agg #[Value.int .i64 r.k, Value.slice r.ss.a r.ss.l.length r.ss.cap, Value.slice r.ms.a r.ms.l.length r.ms.cap, Value.int .i64 r.fr, Value.int .i64 r.to]] rfl ?_
 refine WP.seq (WP.region rfl ?_)
 refine WO.box (l := (rcc r)) hS rfl rfl rfl (fun g2 w1 lg2 hS1 => ?_)
 clear hS
 refine WO.asg rfl rfl ?_
 refine WO.nil (NX.go (WP.seq (WP.seq (WP.region rfl ?_))))
 refine WO.V (run_loadAgg (vs := (rcc r)) Ty.ag33 Ty.sz33 rfl rfl (cell_all (hS1.cel_at 0 rfl) 0 rfl)) ?_
 have hS3 := hS1.permT [4] (L' := _::_::_::_::_::_::_::_::L) rfl
 clear hS1
 refine WO.call rfl rfl Ty.hd70 rfl (rec_check r hz hS3) (fun v5 w4 pv5 => ?_)
 obtain ⟨rfl, hS4⟩ := pv5
 clear hS3
 refine WO.asg rfl rfl ?_
 refine WO.nil (NX.go (WP.seq (WP.region rfl ?_)))
 refine WO.mv rfl rfl ?_
 refine WO.V (run_neq rfl rfl) ?_
 refine WO.nil (NX.go ?_)
 refine WP.condP rfl (fun g17 => ?_) (fun g17 => ?_)
 ·
  refine WP.seq (WP.region rfl ?_)
  refine WO.mv rfl rfl ?_
  refine WO.asg rfl rfl ?_
  refine WO.nil (NX.go (WP.ret (NX.thenRet ?_)))
  refine NX.done (l := [.tmp 4]) rfl rfl ?_
  exact ⟨congrArg (Value.int .i64) (tryF_bad g17).symm, hd_shut hp (((hS4.mask [true, false, false, false, false] (L' := _::_::_::_::L) rfl).permT [1, 1, 1] (L' := _::_::_::_::L) rfl))⟩
 ·
  have hc0 : rcheck r = 0 := by simpa using g17
  have hcs := rcheck_smp hc0
  have hss := rcheck_len hc0
  refine WP.skip (NX.go (WP.seq (WP.region rfl ?_)))
  refine WO.makeMap hS4 rfl (fun r7 w6 hS6 => ?_)
  clear hS4
  refine WO.asg rfl rfl ?_
  refine WO.nil (NX.go (WP.seq (WP.region rfl ?_)))
  refine WO.asg rfl rfl ?_
  refine WO.nil (NX.go (WP.seq (WP.seq (WP.region rfl ?_))))
  refine WO.V (run_fa 1 ⟨g2, 1, none⟩ rfl rfl) ?_
  refine WO.V (run_load Ty.ag31 rfl ((hS6.cel_at 2 rfl 1).trans rfl)) ?_
  refine WO.V (run_len rfl Tryz.underlying31 rfl) ?_
  refine WO.mv rfl rfl ?_
  refine WO.nil (NX.go (WP.block ?_))
  have hS8 : St B (mpS r7 [] :: _::_::_::_::_::_::_::_::L) w6 := (hS6.permT [0, 1, 1, 2, 2, 2, 2] (L' := _::_::_::_::_::_::_::_::_::L) rfl)
  clear hS6
  refine WP.loop (α := Nat × Nat × List (List UInt8 × Value) × (List Pr → Option Int) × List RowP) (fun x => match x with | ⟨k, n, es, o, Ak⟩ => [(0, Value.pointer (some ⟨g, 0, none⟩)), (3, Value.pointer (some ⟨g2, 0, none⟩)), (6, Value.map (some r7)), (7, Value.int .i64 (n : Int)), (21, Value.slice r.ss.a r.ss.l.length r.ss.cap), (22, Value.int .i64 ((r.ss.l.length : Nat) : Int)), (23, Value.int .i64 (k : Int))]) (fun x w => match x with | ⟨k, n, es, o, Ak⟩ => (k ≤ r.ss.l.length ∧ putAll A (r.ss.l.map Smp.p) = putAll Ak ((r.ss.l.drop k).map Smp.p) ∧ WfH Ak (M + k) ∧ TrR A Ak n es o ∧ n ≤ k) ∧ St B (mpS r7 es :: mpS m (entR gs S) :: sqA (hsA 131 103) gs S :: cel g [Value.map (some m)] 126 :: cel g2 (rcc r) 33 :: (rdH r.ss.a r.ss.l.length 3 (r.ss.l.flatMap smc)) :: smsA r.ss.l :: recA r :: (rdH r.ms.a r.ms.l.length 3 (r.ms.l.flatMap mtc)) :: L) w) (fun x => match x with | ⟨k, n, es, o, Ak⟩ => r.ss.l.length - k) (0, 0, [], (fun _ => none), A) ⟨⟨Nat.zero_le _, rfl, hA, TrR.start A, Nat.le_refl _⟩, (hS8.permT [0, 4, 4, 3] (L' := _::_::_::_::_::_::_::_::_::L) rfl)⟩ (Sub.cons rfl (Sub.cons rfl (Sub.cons rfl (Sub.consE rfl (by first | rfl | first | rfl | (congr 1; omega) | (simp; done) | (simp; omega)) (Sub.cons rfl (Sub.cons rfl (Sub.consE rfl (by first | rfl | first | rfl | (congr 1; omega) | (simp; done) | (simp; omega)) (Sub.nil _)))))))) ?_
  rintro ⟨k, n, es, o, Ak⟩ w9 ⟨⟨hk, hpa, hWk, hT, hnk⟩, hS9⟩
  clear hS8
  refine WP.seq (WP.region rfl ?_)
  refine WO.V (run_lss rfl rfl) ?_
  refine WO.nil (NX.go (WP.seq ?_))
  refine WP.condP rfl (fun g24 => ?_) (fun g24 => ?_)
  ·
   refine WP.skip (NX.go (WP.seq (WP.block (WP.seq ?_))))
   obtain ⟨z, hz1⟩ : ∃ qq, r.ss.l[k]? = some qq := ⟨_, List.getElem?_eq_getElem (by omega)⟩
   have hzz := hz.s z (List.mem_of_getElem? hz1)
   have hcz := hcs z (List.mem_of_getElem? hz1)
   have hS10 := smsA_get hz1 (hS9.permT [6] (L' := _::_::_::_::_::_::_::_::_::L) rfl)
   clear hS9
   refine WP.region rfl ?_
   refine WO.V (run_indexAddr (q := adr r.ss.a (k * 3)) Tryz.underlying31 Ty.sz83 rfl rfl (by omega) (by omega) ((rdH_rd (hS10.focus 7 rfl)).2.1 (by omega)) rfl) ?_
   refine WO.V (run_loadAgg (vs := (smc z)) Ty.ag83 Ty.sz83 rfl ((rdH_rd (hS10.focus 7 rfl)).cells (by rw [flat_len smc_len]; omega) (flat_part smc_len hz1)).1 ((rdH_rd (hS10.focus 7 rfl)).cells (by rw [flat_len smc_len]; omega) (flat_part smc_len hz1)).2) ?_
   refine WO.alloc (l := [Value.slice none 0 0, Value.int .i64 0, Value.int .u64 0]) hS10 Ty.zr83 rfl rfl (fun g12 w11 lg12 hS11 => ?_)
   clear hS10
   refine WO.store (l' := (smc z)) 0 hS11 rfl Ty.sz83 rfl rfl rfl rfl rfl (Nat.le_of_ble_eq_true rfl) rfl (fun w13 (hS13 : St B (cel g12 (smc z) 83 :: (labA z.lb) :: _::_::_::_::_::_::_::_::_::L) w13) => ?_)
   clear hS11
   refine WO.nil (NX.go (WP.seq (WP.region rfl ?_)))
   refine WO.V (run_fa 0 ⟨g12, 0, none⟩ rfl rfl) ?_
   refine WO.V (run_load Ty.ag65 rfl ((hS13.cel_at 0 rfl 0).trans rfl)) ?_
   have hS14 := hS13.permT [1] (L' := _::_::_::_::_::_::_::_::_::_::_::L) rfl
   clear hS13
   refine WO.call rfl rfl Ty.hd64 rfl (hkey_spec rdH_rd hzz.2 hzz.1 hS14) (fun v16 w15 pv16 => ?_)
   obtain ⟨rfl, hS15⟩ := pv16
   clear hS14
   refine WO.asg rfl rfl ?_
   refine WO.nil (NX.go (WP.seq (WP.region rfl ?_)))
   refine WO.mv rfl rfl ?_
   refine WO.mv rfl rfl ?_
   refine WO.V (run_lookupSok 3 hS15 rfl Tryz.underlying138 Tryz.underlying9 Ty.zr2 rfl rfl (lk_get (hT.es _ hcz)) (lk_is (hT.es _ hcz))) ?_
   refine WO.mv rfl rfl ?_
   refine WO.V (run_extract rfl rfl) ?_
   refine WO.V (run_extract rfl rfl) ?_
   refine WO.asg rfl rfl ?_
   refine WO.asg rfl rfl ?_
   refine WO.nil (NX.go (WP.seq (WP.seq (WP.region rfl ?_))))
   refine WO.mv rfl rfl ?_
   refine WO.V (run_nilCheck rfl) ?_
   refine WO.V (run_fa 0 ⟨g, 0, none⟩ rfl rfl) ?_
   refine WO.V (run_load Ty.ag124 rfl ((hS15.cel_at 6 rfl 0).trans rfl)) ?_
   refine WO.mv rfl rfl ?_
   refine WO.V (run_lookupS 4 hS15 rfl Tryz.underlying124 Tryz.underlying9 Ty.zr128 rfl rfl (look_row hcz hcS)) ?_
   refine WO.asg rfl rfl ?_
   refine WO.nil (NX.go (WP.seq (WP.region rfl ?_)))
   refine WO.mv rfl rfl ?_
   refine WO.V (run_not rfl rfl) ?_
   refine WO.mv rfl rfl ?_
   rcases Bool.eq_false_or_eq_true (!((o z.lb.l).isSome)) with g44 | g44
   ·
    have hon : o z.lb.l = none := by cases hq : o z.lb.l with | none => rfl | some t => (rw [hq] at g44; cases g44)
    refine WO.as (d := 12) (v := Value.bool false) rfl (by rw [hon]; rfl) ?_
    refine WO.on rfl rfl g44 ?_
    refine WO.mv rfl rfl ?_
    refine WO.on rfl rfl g44 ?_
    refine WO.V (run_neqNilP Tryz.underlying128 rfl rfl) ?_
    refine WO.V (run_pickT rfl g44 rfl) ?_
    refine WO.nil (NX.go ?_)
    refine WP.condB rfl (fun g47 => ?_) (fun g47 => ?_)
    ·
     obtain ⟨q, hgq⟩ : ∃ g, findG gs S z.lb.l = some g := by cases hq : findG gs S z.lb.l with | none => (rw [hq] at g47; cases g47) | some g => exact ⟨g, rfl⟩
     obtain ⟨j, row, hj1, hj2, hj3, hlast⟩ := last_find hA.srt hp hgq
     obtain ⟨q', hq', hS17⟩ := sqA_pick hj2 (hS15.permT [5] (L' := _::_::_::_::_::_::_::_::_::_::_::L) rfl)
     have hqq : q' = q := by rw [hj1] at hq'; exact (Option.some.inj hq').symm
     subst hqq
     clear hS15
     have hS18 : St B (cel q' (hsc row) 131 :: (labA row.lb) :: own row.pt.a row.pt.l.length row.pt.cap 103 2 (row.pt.l.flatMap ptc) :: sqBut (hsA 131 103) j gs S :: _::_::_::_::_::_::_::_::_::_::L) w15 := hs_open hS17
     clear hS17
     refine WP.region rfl ?_
     refine WO.mv rfl rfl ?_
     refine WO.V (run_nilCheck (ptr_findH hgq)) ?_
     refine WO.V (run_fa 2 ⟨q', 2, none⟩ rfl rfl) ?_
     refine WO.V (run_load Ty.ag2 rfl ((hS18.cel_at 0 rfl 2).trans rfl)) ?_
     refine WO.asg rfl rfl ?_
     refine WO.asg rfl rfl ?_
     refine WO.nil (NX.go (WP.seq (WP.seq ?_)))
     have hS19 := hs_shut (tS := 131) (tP := 103) (g := q') (r := row) hS18
     clear hS18
     have hS20 := sqA_same hj2 hj1 hS19
     clear hS19
     have hla : lastF Ak z.lb.l = some row.last := by rw [hT.las _ hcz, hon]; exact hlast
     refine WP.region rfl ?_
     refine WO.mv rfl rfl ?_
     refine WO.V (run_not rfl rfl) ?_
     refine WO.nil (NX.go ?_)
     refine WP.condF rfl (notB_t rfl) ?_
     refine WP.skip (NX.go (WP.seq (WP.seq (WP.region rfl ?_))))
     refine WO.mv rfl rfl ?_
     refine WO.mv rfl rfl ?_
     refine WO.on rfl rfl rfl ?_
     refine WO.V (run_fa 1 ⟨g12, 1, none⟩ rfl rfl) ?_
     refine WO.on rfl rfl rfl ?_
     refine WO.V (run_load Ty.ag2 rfl ((hS20.cel_at 2 rfl 1).trans rfl)) ?_
     refine WO.on rfl rfl rfl ?_
     refine WO.mv rfl rfl ?_
     refine WO.on rfl rfl rfl ?_
     refine WO.V (run_leq rfl rfl) ?_
     refine WO.V (run_pickT rfl rfl rfl) ?_
     refine WO.nil (NX.go ?_)
     refine WP.condP rfl (fun g62 => ?_) (fun g62 => ?_)
     ·
      refine WP.seq (WP.region rfl ?_)
      refine WO.asg rfl rfl ?_
      refine WO.nil (NX.go (WP.ret (NX.thenRet (NX.blkRet (NX.thenRet (NX.thenRet (NX.blkRet (NX.thenRet ?_))))))))
      refine NX.done (l := [.tmp 4]) rfl rfl ?_
      have hold : oldF Ak (z.lb.l, z.t, z.v) = true := by rw [old_some hla]; exact decide_eq_true g62
      exact ⟨congrArg (Value.int .i64) (by rw [hc0]; exact (tryF_old (by rw [show r.p.ss = r.ss.l.map Smp.p from rfl, hpa, drop_cons hz1, List.map_cons, putAll, if_pos (show oldF Ak z.p = true from hold)])).symm), hd_shut hp (((hS20.mask [true, false, false, false, false, true, true, false, false, true, false] (L' := _::_::_::_::L) rfl).permT [2, 1] (L' := _::_::_::_::L) rfl))⟩
     ·
      refine WP.skip (NX.go ?_)
      have hold : oldF Ak (z.lb.l, z.t, z.v) = false := by rw [old_some hla]; exact decide_eq_false g62
      have hstep := hT.step hWk.srt hcz hold
      rw [hla] at hstep
      refine WP.region rfl ?_
      refine WO.mv rfl rfl ?_
      refine WO.mv rfl rfl ?_
      refine WO.V (run_fa 1 ⟨g12, 1, none⟩ rfl rfl) ?_
      refine WO.V (run_load Ty.ag2 rfl ((hS20.cel_at 2 rfl 1).trans rfl)) ?_
      refine WO.mapUpdateS 4 hS20 rfl Tryz.underlying138 Tryz.underlying9 rfl rfl rfl (fun w21 hS21 => ?_)
      replace hS21 : St B (_::_::_::_::mpS r7 (putS es (keyB z.lb.l) (Value.int .i64 z.t)) :: _::_::_::_::_::_::L) w21 := hS21
      clear hS20
      refine WO.nil (NX.blk (NX.go (WP.region rfl ?_)))
      refine WO.V (run_add rfl rfl (IntWalk.i64_in _ (by omega))) ?_
      refine WO.mv rfl rfl ?_
      refine WO.nil ?_
      exact NX.again (k + 1, n, putS es (keyB z.lb.l) (Value.int .i64 z.t), (fun q => if q = z.lb.l then some z.t else o q), addF Ak z.lb.l z.t [⟨z.t, z.v⟩]) ⟨⟨by omega, by rw [hpa, drop_cons hz1, List.map_cons, putAll, if_neg (by rw [show oldF Ak z.p = false from hold]; decide)]; rfl, wf_add hWk hcz hold, hstep, by omega⟩, ((hS21.mask [true, false, false] (L' := _::_::_::_::_::_::_::_::_::L) rfl).permT [2, 2, 0, 1, 1, 1] (L' := _::_::_::_::_::_::_::_::_::L) rfl)⟩ (by show r.ss.l.length - (k + 1) < r.ss.l.length - k; omega) (Sub.cons rfl (Sub.cons rfl (Sub.cons rfl (Sub.consE rfl rfl (Sub.cons rfl (Sub.cons rfl (Sub.consE rfl (by congr 1) (Sub.nil _))))))))
    ·
     have hgn : findG gs S z.lb.l = none := by cases hq : findG gs S z.lb.l with | none => rfl | some g => (rw [hq] at g47; cases g47)
     refine WP.skip (NX.go (WP.seq (WP.seq ?_)))
     have hla : lastF Ak z.lb.l = none := by rw [hT.las _ hcz, hon]; exact last_none hlen hp hgn
     refine WP.region rfl ?_
     refine WO.mv rfl rfl ?_
     refine WO.V (run_not rfl rfl) ?_
     refine WO.nil (NX.go ?_)
     refine WP.condT rfl (notB_f rfl) ?_
     refine WP.region rfl ?_
     refine WO.mv rfl rfl ?_
     refine WO.V (run_add rfl rfl (IntWalk.i64_in _ (by omega))) ?_
     refine WO.asg rfl rfl ?_
     refine WO.nil (NX.go (WP.seq (WP.seq (WP.region rfl ?_))))
     refine WO.mv rfl rfl ?_
     refine WO.mv rfl rfl ?_
     refine WO.off rfl rfl rfl rfl ?_
     refine WO.off rfl rfl rfl rfl ?_
     refine WO.off rfl rfl rfl rfl ?_
     refine WO.off rfl rfl rfl rfl ?_
     refine WO.V (run_pickF rfl rfl rfl) ?_
     refine WO.nil (NX.go ?_)
     refine WP.condF rfl rfl ?_
     refine WP.skip (NX.go ?_)
     have hold : oldF Ak (z.lb.l, z.t, z.v) = false := old_none hla
     have hstep := hT.step hWk.srt hcz hold
     rw [hla] at hstep
     refine WP.region rfl ?_
     refine WO.mv rfl rfl ?_
     refine WO.mv rfl rfl ?_
     refine WO.V (run_fa 1 ⟨g12, 1, none⟩ rfl rfl) ?_
     refine WO.V (run_load Ty.ag2 rfl ((hS15.cel_at 1 rfl 1).trans rfl)) ?_
     refine WO.mapUpdateS 3 hS15 rfl Tryz.underlying138 Tryz.underlying9 rfl rfl rfl (fun w22 hS22 => ?_)
     replace hS22 : St B (_::_::_::_::_::_::_::_::_::_::_::L) w22 := hS22
     clear hS15
     refine WO.nil (NX.blk (NX.go (WP.region rfl ?_)))
     refine WO.V (run_add rfl rfl (IntWalk.i64_in _ (by omega))) ?_
     refine WO.mv rfl rfl ?_
     refine WO.nil ?_
     exact NX.again (k + 1, n + 1, putS es (keyB z.lb.l) (Value.int .i64 z.t), (fun q => if q = z.lb.l then some z.t else o q), addF Ak z.lb.l z.t [⟨z.t, z.v⟩]) ⟨⟨by omega, by rw [hpa, drop_cons hz1, List.map_cons, putAll, if_neg (by rw [show oldF Ak z.p = false from hold]; decide)]; rfl, wf_add hWk hcz hold, hstep, by omega⟩, (hS22.permT [0, 0, 1, 1, 1, 1, 1, 1] (L' := _::_::_::_::_::_::_::_::_::_::_::L) rfl).drop.drop⟩ (by show r.ss.l.length - (k + 1) < r.ss.l.length - k; omega) (Sub.cons rfl (Sub.cons rfl (Sub.cons rfl (Sub.consE rfl (by congr 1) (Sub.cons rfl (Sub.cons rfl (Sub.consE rfl (by congr 1) (Sub.nil _))))))))
   ·
    obtain ⟨t0, ho⟩ : ∃ t0, o z.lb.l = some t0 := by cases hq : o z.lb.l with | none => (rw [hq] at g44; cases g44) | some t => exact ⟨t, rfl⟩
    refine WO.as (d := 12) (v := Value.bool true) rfl (by rw [ho]; rfl) ?_
    refine WO.as (d := 11) (v := Value.int .i64 t0) rfl (by rw [ho]; rfl) ?_
    refine WO.off rfl rfl g44 rfl ?_
    refine WO.off rfl rfl g44 rfl ?_
    refine WO.V (run_pickF rfl g44 rfl) ?_
    refine WO.nil (NX.go ?_)
    refine WP.condF rfl rfl ?_
    refine WP.skip (NX.go (WP.seq (WP.seq ?_)))
    have hla : lastF Ak z.lb.l = some t0 := by rw [hT.las _ hcz, ho]; rfl
    refine WP.region rfl ?_
    refine WO.mv rfl rfl ?_
    refine WO.V (run_not rfl rfl) ?_
    refine WO.nil (NX.go ?_)
    refine WP.condF rfl (notB_t rfl) ?_
    refine WP.skip (NX.go (WP.seq (WP.seq (WP.region rfl ?_))))
    refine WO.mv rfl rfl ?_
    refine WO.mv rfl rfl ?_
    refine WO.on rfl rfl rfl ?_
    refine WO.V (run_fa 1 ⟨g12, 1, none⟩ rfl rfl) ?_
    refine WO.on rfl rfl rfl ?_
    refine WO.V (run_load Ty.ag2 rfl ((hS15.cel_at 1 rfl 1).trans rfl)) ?_
    refine WO.on rfl rfl rfl ?_
    refine WO.mv rfl rfl ?_
    refine WO.on rfl rfl rfl ?_
    refine WO.V (run_leq rfl rfl) ?_
    refine WO.V (run_pickT rfl rfl rfl) ?_
    refine WO.nil (NX.go ?_)
    refine WP.condP rfl (fun g62 => ?_) (fun g62 => ?_)
    ·
     refine WP.seq (WP.region rfl ?_)
     refine WO.asg rfl rfl ?_
     refine WO.nil (NX.go (WP.ret (NX.thenRet (NX.blkRet (NX.thenRet (NX.thenRet (NX.blkRet (NX.thenRet ?_))))))))
     refine NX.done (l := [.tmp 4]) rfl rfl ?_
     have hold : oldF Ak (z.lb.l, z.t, z.v) = true := by rw [old_some hla]; exact decide_eq_true g62
     exact ⟨congrArg (Value.int .i64) (by rw [hc0]; exact (tryF_old (by rw [show r.p.ss = r.ss.l.map Smp.p from rfl, hpa, drop_cons hz1, List.map_cons, putAll, if_pos (show oldF Ak z.p = true from hold)])).symm), hd_shut hp (((hS15.mask [false, false, false, false, true, true, true, false, false, true, false] (L' := _::_::_::_::L) rfl).permT [2] (L' := _::_::_::_::L) rfl))⟩
    ·
     refine WP.skip (NX.go ?_)
     have hold : oldF Ak (z.lb.l, z.t, z.v) = false := by rw [old_some hla]; exact decide_eq_false g62
     have hstep := hT.step hWk.srt hcz hold
     rw [hla] at hstep
     refine WP.region rfl ?_
     refine WO.mv rfl rfl ?_
     refine WO.mv rfl rfl ?_
     refine WO.V (run_fa 1 ⟨g12, 1, none⟩ rfl rfl) ?_
     refine WO.V (run_load Ty.ag2 rfl ((hS15.cel_at 1 rfl 1).trans rfl)) ?_
     refine WO.mapUpdateS 3 hS15 rfl Tryz.underlying138 Tryz.underlying9 rfl rfl rfl (fun w23 hS23 => ?_)
     replace hS23 : St B (_::_::_::_::_::_::_::_::_::_::_::L) w23 := hS23
     clear hS15
     refine WO.nil (NX.blk (NX.go (WP.region rfl ?_)))
     refine WO.V (run_add rfl rfl (IntWalk.i64_in _ (by omega))) ?_
     refine WO.mv rfl rfl ?_
     refine WO.nil ?_
     exact NX.again (k + 1, n, putS es (keyB z.lb.l) (Value.int .i64 z.t), (fun q => if q = z.lb.l then some z.t else o q), addF Ak z.lb.l z.t [⟨z.t, z.v⟩]) ⟨⟨by omega, by rw [hpa, drop_cons hz1, List.map_cons, putAll, if_neg (by rw [show oldF Ak z.p = false from hold]; decide)]; rfl, wf_add hWk hcz hold, hstep, by omega⟩, (hS23.permT [0, 0, 1, 1, 1, 1, 1, 1] (L' := _::_::_::_::_::_::_::_::_::_::_::L) rfl).drop.drop⟩ (by show r.ss.l.length - (k + 1) < r.ss.l.length - k; omega) (Sub.cons rfl (Sub.cons rfl (Sub.cons rfl (Sub.consE rfl rfl (Sub.cons rfl (Sub.cons rfl (Sub.consE rfl (by congr 1) (Sub.nil _))))))))
  ·
   refine WP.exit (NX.thenExit (NX.thenExit ?_))
   refine NX.blkExit ?_
   refine NX.go (WP.seq (WP.seq (WP.region rfl ?_)))
   refine WO.mv rfl rfl ?_
   refine WO.V (run_nilCheck rfl) ?_
   refine WO.V (run_fa 0 ⟨g, 0, none⟩ rfl rfl) ?_
   refine WO.V (run_load Ty.ag124 rfl ((hS9.cel_at 3 rfl 0).trans rfl)) ?_
   refine WO.V (run_lenMapS 1 hS9 rfl rfl Tryz.underlying124 rfl) ?_
   refine WO.mv rfl rfl ?_
   refine WO.V (run_add rfl rfl (IntWalk.i64_in _ (by omega))) ?_
   refine WO.V (run_gtr rfl rfl) ?_
   refine WO.nil (NX.go ?_)
   refine WP.condP rfl (fun g75 => ?_) (fun g75 => ?_)
   ·
    refine WP.seq (WP.region rfl ?_)
    refine WO.asg rfl rfl ?_
    refine WO.nil (NX.go (WP.ret (NX.thenRet ?_)))
    refine NX.done (l := [.tmp 4]) rfl rfl ?_
    have hpk : putAll A (r.ss.l.map Smp.p) = some Ak := by rw [hpa, List.drop_of_length_le (by omega)]; rfl
    have hlk := hT.len
    exact ⟨congrArg (Value.int .i64) (by rw [hc0, show r.p.ss = r.ss.l.map Smp.p from rfl, tryF_ok hpk, if_pos (by omega)]), hd_shut hp (((hS9.mask [false, true, true, true, false, false, false, true, false] (L' := _::_::_::_::L) rfl).permT [2] (L' := _::_::_::_::L) rfl))⟩
   ·
    refine WP.skip (NX.go (WP.seq (WP.region rfl ?_)))
    refine WO.asg rfl rfl ?_
    refine WO.nil (NX.go (WP.ret ?_))
    refine NX.done (l := [.tmp 4]) rfl rfl ?_
    have hpk : putAll A (r.ss.l.map Smp.p) = some Ak := by rw [hpa, List.drop_of_length_le (by omega)]; rfl
    have hlk := hT.len
    exact ⟨congrArg (Value.int .i64) (by rw [hc0, show r.p.ss = r.ss.l.map Smp.p from rfl, tryF_ok hpk, if_neg (by omega)]), hd_shut hp (((hS9.mask [false, true, true, true, false, false, false, true, false] (L' := _::_::_::_::L) rfl).permT [2] (L' := _::_::_::_::L) rfl))⟩
end Go.Proofs.YtidoidoelgfnaaaGreatDoor.SL

/- The head: a record is applied. -/
namespace Go.Proofs.YtidoidoelgfnaaaGreatDoor.SL
open Go.RowKit Go.Proofs.YtidoidoelgfnaaaGreatDoor
open Go.Proofs.YtidoidoelgfnaaaGreatDoorW.PrintLast (rtab opsOf)
set_option linter.unusedVariables false
set_option linter.unusedSimpArgs false
theorem t32_12 : rtab .any (opsOf Tryz.f32 12) = (true, [([], []), ([], []), ([1], [1]), ([2], [2]), ([3], [3]), ([], []), ([5], [5]), ([], []), ([7], [7]), ([6, 8], [6, 8]), ([9], [9]), ([4, 10], [4, 10]), ([0, 0, 1, 2, 3, 4, 5, 6, 7, 8, 9, 10, 11], [0]), ([12, 0, 1, 2, 3, 4, 5, 6, 7, 8, 9, 10, 11], [12]), ([13, 11, 11, 0, 1, 2, 3, 4, 5, 6, 7, 8, 9, 10, 11], [11, 13])]) := by kernel_rfl
theorem happly_spec {B w : World} {L : List HP} {g M : Nat} {A : List RowP} (hA : WfH A M) (hM : M + 32 ≤ 4398046511104) (hAn : A.length ≤ 1000000) (r : Rcd) (hz : SzR r) (hS : St B (hdA 126 131 103 g A :: recA r :: L) w) : Does Tryz.prog 32 [Value.pointer (some ⟨g, 0, none⟩), Value.agg #[Value.int .i64 r.k, Value.slice r.ss.a r.ss.l.length r.ss.cap, Value.slice r.ms.a r.ms.l.length r.ms.cap, Value.int .i64 r.fr, Value.int .i64 r.to]] w (fun v w1 => v = .int .i64 (tryF A (rcheck r) r.p.ss) ∧ St B (hdA 126 131 103 g (applyF A (rcheck r) r.p) :: recA r :: L) w1) := by
 have hns := hz.ns
 refine enter (n := 71) Tryz.func32 rfl rfl [Value.pointer (some ⟨g, 0, none⟩), Value.agg #[Value.int .i64 r.k, Value.slice r.ss.a r.ss.l.length r.ss.cap, Value.slice r.ms.a r.ms.l.length r.ms.cap, Value.int .i64 r.fr, Value.int .i64 r.to]] rfl ?_
 refine WP.seq (WP.region rfl ?_)
 refine WO.box (l := (rcc r)) hS rfl rfl rfl (fun g2 w1 lg2 hS1 => ?_)
 clear hS
 refine WO.asg rfl rfl ?_
 refine WO.nil (NX.go (WP.seq (WP.seq (WP.region rfl ?_))))
 refine WO.mv rfl rfl ?_
 refine WO.V (run_loadAgg (vs := (rcc r)) Ty.ag33 Ty.sz33 rfl rfl (cell_all (hS1.cel_at 0 rfl) 0 rfl)) ?_
 have hS3 := hS1.permT [1, 1] (L' := _::_::_::L) rfl
 clear hS1
 refine WO.call rfl rfl Ty.hd37 rfl (htry_spec hA (by omega) hAn r hz hS3) (fun v5 w4 pv5 => ?_)
 obtain ⟨rfl, hS4⟩ := pv5
 clear hS3
 refine WO.asg rfl rfl ?_
 refine WO.nil (NX.go (WP.seq (WP.region rfl ?_)))
 refine WO.mv rfl rfl ?_
 refine WO.V (run_neq rfl rfl) ?_
 refine WO.nil (NX.go ?_)
 refine WP.condP rfl (fun g14 => ?_) (fun g14 => ?_)
 ·
  refine WP.seq (WP.region rfl ?_)
  refine WO.mv rfl rfl ?_
  refine WO.asg rfl rfl ?_
  refine WO.nil (NX.go (WP.ret (NX.thenRet ?_)))
  refine NX.done (l := [.tmp 4]) rfl rfl ?_
  exact ⟨rfl, by rw [apply_bad g14]; exact (hS4.mask [true, true, false] (L' := _::_::L) rfl)⟩
 ·
  have ht0 : tryF A (rcheck r) r.p.ss = 0 := by simpa using g14
  obtain ⟨hc0, A1, hA1, hA1n⟩ := try_zero ht0
  have hcs := rcheck_smp hc0
  have hss := rcheck_len hc0
  refine WP.skip (NX.go (WP.seq (WP.seq ?_)))
  obtain ⟨m, gs, S, hp, hlen, hS6⟩ := hd_open hS4
  clear hS4
  have hS7 := recA_open (hS6.permT [3] (L' := _::_::_::_::_::L) rfl)
  clear hS6
  refine WP.region rfl ?_
  refine WO.V (run_fa 1 ⟨g2, 1, none⟩ rfl rfl) ?_
  refine WO.V (run_load Ty.ag31 rfl ((hS7.cel_at 7 rfl 1).trans rfl)) ?_
  refine WO.V (run_len rfl Tryz.underlying31 rfl) ?_
  refine WO.mv rfl rfl ?_
  refine WO.nil (NX.go (WP.block ?_))
  have hS8 : St B ((rdH r.ss.a r.ss.l.length 3 (r.ss.l.flatMap smc)) :: smsA r.ss.l :: _::_::_::_::(rdH r.ms.a r.ms.l.length 3 (r.ms.l.flatMap mtc)) :: _::L) w4 := (hS7.permT [0, 1, 2, 2, 2, 2] (L' := _::_::_::_::_::_::_::_::L) rfl)
  clear hS7
  refine WP.loop (α := Nat × List Nat × List MRow × List RowP) (fun x => match x with | ⟨k, gs, S, Ak⟩ => [(0, Value.pointer (some ⟨g, 0, none⟩)), (3, Value.pointer (some ⟨g2, 0, none⟩)), (17, Value.slice r.ss.a r.ss.l.length r.ss.cap), (18, Value.int .i64 ((r.ss.l.length : Nat) : Int)), (19, Value.int .i64 (k : Int))]) (fun x w => match x with | ⟨k, gs, S, Ak⟩ => (k ≤ r.ss.l.length ∧ putAll Ak ((r.ss.l.drop k).map Smp.p) = some A1 ∧ WfH Ak (M + k) ∧ (S.map MRow.p).Perm Ak ∧ gs.length = S.length) ∧ St B (mpS m (entR gs S) :: sqA (hsA 131 103) gs S :: cel g [Value.map (some m)] 126 :: cel g2 (rcc r) 33 :: (rdH r.ss.a r.ss.l.length 3 (r.ss.l.flatMap smc)) :: smsA r.ss.l :: (rdH r.ms.a r.ms.l.length 3 (r.ms.l.flatMap mtc)) :: recA r :: L) w) (fun x => match x with | ⟨k, gs, S, Ak⟩ => r.ss.l.length - k) (0, gs, S, A) ⟨⟨Nat.zero_le _, hA1, hA, hp, hlen⟩, (hS8.permT [3, 3, 2, 2] (L' := _::_::_::_::_::_::_::_::L) rfl)⟩ (Sub.cons rfl (Sub.cons rfl (Sub.cons rfl (Sub.cons rfl (Sub.consE rfl (by first | rfl | first | rfl | (congr 1; omega) | (simp; done) | (simp; omega)) (Sub.nil _)))))) ?_
  rintro ⟨k, gs, S, Ak⟩ w9 ⟨⟨hk, hpa, hWk, hp, hlen⟩, hS9⟩
  clear hS8
  refine WP.seq (WP.region rfl ?_)
  refine WO.V (run_lss rfl rfl) ?_
  refine WO.nil (NX.go (WP.seq ?_))
  refine WP.condP rfl (fun g20 => ?_) (fun g20 => ?_)
  ·
   refine WP.skip (NX.go (WP.seq (WP.block (WP.seq ?_))))
   obtain ⟨z, hz1⟩ : ∃ qq, r.ss.l[k]? = some qq := ⟨_, List.getElem?_eq_getElem (by omega)⟩
   have hzz := hz.s z (List.mem_of_getElem? hz1)
   have hcz := hcs z (List.mem_of_getElem? hz1)
   have hS10 := smsA_get hz1 (hS9.permT [5] (L' := _::_::_::_::_::_::_::_::L) rfl)
   clear hS9
   have hold : oldF Ak (z.lb.l, z.t, z.v) = false := by rw [drop_cons hz1, List.map_cons, putAll] at hpa; split at hpa; (· cases hpa); (· rename_i h9; exact (by simpa using h9 : oldF Ak z.p = false))
   have hpa2 : putAll (addF Ak z.lb.l z.t [⟨z.t, z.v⟩]) ((r.ss.l.drop (k + 1)).map Smp.p) = some A1 := by rw [drop_cons hz1, List.map_cons, putAll, if_neg (by rw [show oldF Ak z.p = false from hold]; decide)] at hpa; exact hpa
   refine WP.region rfl ?_
   refine WO.V (run_indexAddr (q := adr r.ss.a (k * 3)) Tryz.underlying31 Ty.sz83 rfl rfl (by omega) (by omega) ((rdH_rd (hS10.focus 6 rfl)).2.1 (by omega)) rfl) ?_
   refine WO.V (run_loadAgg (vs := (smc z)) Ty.ag83 Ty.sz83 rfl ((rdH_rd (hS10.focus 6 rfl)).cells (by rw [flat_len smc_len]; omega) (flat_part smc_len hz1)).1 ((rdH_rd (hS10.focus 6 rfl)).cells (by rw [flat_len smc_len]; omega) (flat_part smc_len hz1)).2) ?_
   refine WO.alloc (l := [Value.slice none 0 0, Value.int .i64 0, Value.int .u64 0]) hS10 Ty.zr83 rfl rfl (fun g12 w11 lg12 hS11 => ?_)
   clear hS10
   refine WO.store (l' := (smc z)) 0 hS11 rfl Ty.sz83 rfl rfl rfl rfl rfl (Nat.le_of_ble_eq_true rfl) rfl (fun w13 (hS13 : St B (cel g12 (smc z) 83 :: (labA z.lb) :: _::_::_::_::_::_::_::_::L) w13) => ?_)
   clear hS11
   refine WO.nil (NX.go (WP.seq (WP.region rfl ?_)))
   refine WO.V (run_fa 0 ⟨g12, 0, none⟩ rfl rfl) ?_
   refine WO.V (run_load Ty.ag65 rfl ((hS13.cel_at 0 rfl 0).trans rfl)) ?_
   have hS14 := hS13.permT [1] (L' := _::_::_::_::_::_::_::_::_::_::L) rfl
   clear hS13
   refine WO.call rfl rfl Ty.hd64 rfl (hkey_spec rdH_rd hzz.2 hzz.1 hS14) (fun v16 w15 pv16 => ?_)
   obtain ⟨rfl, hS15⟩ := pv16
   clear hS14
   refine WO.asg rfl rfl ?_
   refine WO.nil (NX.go (WP.seq (WP.region rfl ?_)))
   refine WO.mv rfl rfl ?_
   refine WO.V (run_nilCheck rfl) ?_
   refine WO.V (run_fa 0 ⟨g, 0, none⟩ rfl rfl) ?_
   refine WO.V (run_load Ty.ag124 rfl ((hS15.cel_at 5 rfl 0).trans rfl)) ?_
   refine WO.mv rfl rfl ?_
   refine WO.V (run_lookupS 3 hS15 rfl Tryz.underlying124 Tryz.underlying9 Ty.zr128 rfl rfl (look_row hcz (perm_chk hp hWk.chk))) ?_
   refine WO.asg rfl rfl ?_
   refine WO.nil (NX.go (WP.seq (WP.seq (WP.region rfl ?_))))
   refine WO.mv rfl rfl ?_
   refine WO.V (run_eqlNilP Tryz.underlying128 rfl rfl) ?_
   refine WO.nil (NX.go ?_)
   refine WP.condB rfl (fun g33 => ?_) (fun g33 => ?_)
   ·
    have hgn : findG gs S z.lb.l = none := by cases hq : findG gs S z.lb.l with | none => rfl | some g => (rw [hq] at g33; cases g33)
    refine WP.seq (WP.region rfl ?_)
    refine WO.V (run_fa 0 ⟨g12, 0, none⟩ rfl rfl) ?_
    refine WO.V (run_load Ty.ag65 rfl ((hS15.cel_at 1 rfl 0).trans rfl)) ?_
    refine WO.call rfl rfl Ty.hd65 rfl (clonePr (X := labA z.lb) rdH_rd (by have := (chk_sz hcz).1; omega) hS15) (fun v18 w17 pv18 => ?_)
    obtain ⟨ca, cc, rfl, hS17⟩ := pv18
    clear hS15
    refine WO.V (run_build (v := Value.agg #[Value.slice ca z.lb.l.length cc, Value.slice none 0 0, Value.int .i64 0]) rfl (fun w => by kernel_rfl)) ?_
    refine WO.box (l := [Value.slice ca z.lb.l.length cc, Value.slice none 0 0, Value.int .i64 0]) hS17 rfl rfl rfl (fun g21 w19 lg21 hS19 => ?_)
    clear hS17
    refine WO.asg rfl rfl ?_
    refine WO.nil (NX.go (WP.region rfl ?_))
    refine WO.mv rfl rfl ?_
    refine WO.V (run_nilCheck rfl) ?_
    refine WO.V (run_fa 0 ⟨g, 0, none⟩ rfl rfl) ?_
    refine WO.V (run_load Ty.ag124 rfl ((hS19.cel_at 7 rfl 0).trans rfl)) ?_
    refine WO.mv rfl rfl ?_
    refine WO.mv rfl rfl ?_
    refine WO.mapUpdateS 5 hS19 rfl Tryz.underlying124 Tryz.underlying9 rfl rfl rfl (fun w22 hS22 => ?_)
    replace hS22 : St B (cel g21 [Value.slice ca z.lb.l.length cc, Value.slice none 0 0, Value.int .i64 0] 131 :: own ca z.lb.l.length cc 105 2 (z.lb.l.flatMap prc) :: _::_::_::mpS m (entR gs S ++ [(keyB z.lb.l, ptrG g21)]) :: _::_::_::_::_::_::L) w22 := (by rw [← putS_new (by rw [entR_get hcz (perm_chk hp hWk.chk), hgn]; rfl)]; exact hS22)
    clear hS19
    refine WO.nil (NX.go (WP.seq ?_))
    refine WD.start (fun w => (∀ jz, World.cell? w ⟨g21, jz, none⟩ = [Value.slice ca z.lb.l.length cc, Value.slice none 0 0, Value.int .i64 0][jz]?) ∧ (∀ jz, World.cell? w ⟨g12, jz, none⟩ = (smc z)[jz]?) ∧ (∀ jz, World.cell? w ⟨g, jz, none⟩ = [Value.map (some m)][jz]?) ∧ (∀ jz, World.cell? w ⟨g2, jz, none⟩ = (rcc r)[jz]?)) [14] (bt 15 0) Ty.mo rfl (by kernel_rfl) hS22 (fun _ h => ⟨h.cel_at 0 rfl, h.cel_at 3 rfl, h.cel_at 7 rfl, h.cel_at 8 rfl⟩) (fun w23 hS23 s24 => ?_)
    clear hS22
    refine DP (i := 0) t32_12 (bt 15 1) rfl rfl rfl rfl (fun w => run_move rfl) ?_
    refine DP (i := 1) t32_12 (bt 15 3) rfl rfl rfl rfl (fun w => run_move rfl) ?_
    refine DP (i := 2) t32_12 (bt 15 7) rfl rfl rfl rfl (fun w => run_nilCheck rfl) ?_
    refine DP (i := 3) t32_12 (bt 15 15) rfl rfl rfl rfl (fun w => run_fa 1 ⟨g21, 1, none⟩ rfl rfl) ?_
    refine DT (i := 4) t32_12 (bt 15 31) s24 rfl rfl rfl rfl (fun w hs => run_load Ty.ag66 rfl ((hs.1 1).trans rfl)) ?_
    refine DP (i := 5) t32_12 (bt 15 63) rfl rfl rfl rfl (fun w => run_fa 1 ⟨g12, 1, none⟩ rfl rfl) ?_
    refine DT (i := 6) t32_12 (bt 15 127) s24 rfl rfl rfl rfl (fun w hs => run_load Ty.ag2 rfl ((hs.2.1 1).trans rfl)) ?_
    refine DP (i := 7) t32_12 (bt 15 255) rfl rfl rfl rfl (fun w => run_fa 2 ⟨g12, 2, none⟩ rfl rfl) ?_
    refine DT (i := 8) t32_12 (bt 15 511) s24 rfl rfl rfl rfl (fun w hs => run_load Ty.ag81 rfl ((hs.2.1 2).trans rfl)) ?_
    refine DP (i := 9) t32_12 (bt 15 1023) rfl rfl rfl rfl (fun w => run_build (v := Value.agg #[Value.int .i64 z.t, Value.int .u64 z.v]) rfl (fun w => by kernel_rfl)) ?_
    refine WD.one (i := 10) t32_12 (bt 15 2047) rfl (by kernel_rfl) ?_
    refine WO.buildSlice (l := [Value.int .i64 z.t, Value.int .u64 z.v]) hS23 Tryz.underlying66 rfl (fun w => by kernel_rfl) rfl (fun g26 w25 lg26 hS25 => ?_)
    clear hS23
    refine WO.nil ?_
    have s27 : (∀ jz, World.cell? w25 ⟨g21, jz, none⟩ = [Value.slice ca z.lb.l.length cc, Value.slice none 0 0, Value.int .i64 0][jz]?) ∧ (∀ jz, World.cell? w25 ⟨g12, jz, none⟩ = (smc z)[jz]?) ∧ (∀ jz, World.cell? w25 ⟨g, jz, none⟩ = [Value.map (some m)][jz]?) ∧ (∀ jz, World.cell? w25 ⟨g2, jz, none⟩ = (rcc r)[jz]?) := ⟨hS25.cel_at 1 rfl, hS25.cel_at 4 rfl, hS25.cel_at 8 rfl, hS25.cel_at 9 rfl⟩
    refine NX.held s27 ?_
    refine WD.one (i := 11) t32_12 (bt 15 4095) rfl (by kernel_rfl) ?_
    have hS25 := hS25.own_nil 103 2
    refine WO.append (news := [Value.int .i64 z.t, Value.int .u64 z.v]) 0 rfl Tryz.underlying66 Tryz.underlying66 (fun _ h => by cases h) Ty.sz103 (by decide) Ty.by103 Ty.zr103 rfl rfl rfl rfl hS25 rfl ((hS25.cel_rd 1 rfl (o := 0) (m := 1) (k := 2) rfl (Nat.le_of_ble_eq_true rfl)).src) rfl (by omega) (by omega) (fun a29 c30 w28 hS28 => ?_)
    replace hS28 : St B (own a29 ([(⟨z.t, z.v⟩ : Pt)].length) c30 103 2 ([(⟨z.t, z.v⟩ : Pt)].flatMap ptc) :: cel g26 [Value.int .i64 z.t, Value.int .u64 z.v] 103 :: _::_::_::_::_::_::_::_::_::_::_::_::L) w28 := hS28
    refine WO.as (d := 56) (v := Value.slice a29 ([(⟨z.t, z.v⟩ : Pt)].length) c30) rfl rfl ?_
    clear hS25
    refine WO.nil ?_
    have s31 : (∀ jz, World.cell? w28 ⟨g21, jz, none⟩ = [Value.slice ca z.lb.l.length cc, Value.slice none 0 0, Value.int .i64 0][jz]?) ∧ (∀ jz, World.cell? w28 ⟨g12, jz, none⟩ = (smc z)[jz]?) ∧ (∀ jz, World.cell? w28 ⟨g, jz, none⟩ = [Value.map (some m)][jz]?) ∧ (∀ jz, World.cell? w28 ⟨g2, jz, none⟩ = (rcc r)[jz]?) := ⟨hS28.cel_at 2 rfl, hS28.cel_at 5 rfl, hS28.cel_at 9 rfl, hS28.cel_at 10 rfl⟩
    refine NX.held s31 ?_
    refine DP (i := 12) t32_12 (bt 15 8191) rfl rfl rfl rfl (fun w => run_nilCheck rfl) ?_
    refine DP (i := 13) t32_12 (bt 15 16383) rfl rfl rfl rfl (fun w => run_fa 1 ⟨g21, 1, none⟩ rfl rfl) ?_
    refine WD.one (i := 14) t32_12 (bt 15 32767) rfl (by kernel_rfl) ?_
    refine WO.store (l' := [Value.slice ca z.lb.l.length cc, Value.slice a29 ([(⟨z.t, z.v⟩ : Pt)].length) c30, Value.int .i64 0]) 2 hS28 rfl Ty.sz66 rfl rfl rfl rfl rfl (Nat.le_of_ble_eq_true rfl) rfl (fun w32 (hS32 : St B (_::_::cel g21 [Value.slice ca z.lb.l.length cc, Value.slice a29 ([(⟨z.t, z.v⟩ : Pt)].length) c30, Value.int .i64 0] 131 :: _::_::_::_::_::_::_::_::_::_::_::L) w32) => ?_)
    clear hS28
    refine WO.nil ?_
    refine NX.last (by decide) ?_
    refine WD.done t32_12 (by kernel_rfl) ?_
    refine NX.go (WP.region rfl ?_)
    refine WO.mv rfl rfl ?_
    refine WO.V (run_fa 1 ⟨g12, 1, none⟩ rfl rfl) ?_
    refine WO.V (run_load Ty.ag2 rfl ((hS32.cel_at 5 rfl 1).trans rfl)) ?_
    refine WO.V (run_nilCheck rfl) ?_
    refine WO.V (run_fa 2 ⟨g21, 2, none⟩ rfl rfl) ?_
    refine WO.store (l' := [Value.slice ca z.lb.l.length cc, Value.slice a29 ([(⟨z.t, z.v⟩ : Pt)].length) c30, Value.int .i64 z.t]) 2 hS32 rfl Ty.sz2 rfl rfl rfl rfl rfl (Nat.le_of_ble_eq_true rfl) rfl (fun w33 (hS33 : St B (_::_::cel g21 [Value.slice ca z.lb.l.length cc, Value.slice a29 ([(⟨z.t, z.v⟩ : Pt)].length) c30, Value.int .i64 z.t] 131 :: _::_::_::_::_::_::_::_::_::_::_::L) w33) => ?_)
    clear hS32
    refine WO.nil (NX.blk (NX.go (WP.region rfl ?_)))
    refine WO.V (run_add rfl rfl (IntWalk.i64_in _ (by omega))) ?_
    refine WO.mv rfl rfl ?_
    refine WO.nil ?_
    have hS34 : St B (labA ⟨ca, z.lb.l, cc⟩ :: _::_::_::_::_::_::_::_::_::_::_::_::_::L) w33 := rdH_own (hS33.permT [3] (L' := _::_::_::_::_::_::_::_::_::_::_::_::_::_::L) rfl)
    clear hS33
    have hS35 := hs_shut (tS := 131) (tP := 103) (g := g21) (r := (⟨⟨ca, z.lb.l, cc⟩, z.t, ⟨a29, [(⟨z.t, z.v⟩ : Pt)], c30⟩⟩ : MRow)) (hS34.permT [3] (L' := _::_::_::_::_::_::_::_::_::_::_::_::_::_::L) rfl)
    clear hS34
    have hS36 := sqA_snoc (hS35.permT [6] (L' := _::_::_::_::_::_::_::_::_::_::_::_::L) rfl)
    clear hS35
    have hperm2 : ((S ++ [(⟨⟨ca, z.lb.l, cc⟩, z.t, ⟨a29, [(⟨z.t, z.v⟩ : Pt)], c30⟩⟩ : MRow)]).map MRow.p).Perm (addF Ak z.lb.l z.t [(⟨z.t, z.v⟩ : Pt)]) := by rw [upd_snoc (lb := ⟨ca, z.lb.l, cc⟩) (fun r hr => findG_none hlen hgn r hr)]; exact updF_perm hWk.srt hp _ _ _
    have hS37 : St B (sqA (hsA 131 103) (gs ++ [g21]) (S ++ [(⟨⟨ca, z.lb.l, cc⟩, z.t, ⟨a29, [(⟨z.t, z.v⟩ : Pt)], c30⟩⟩ : MRow)]) :: cel g26 [Value.int .i64 z.t, Value.int .u64 z.v] 103 :: (labA z.lb) :: cel g12 (smc z) 83 :: smsA r.ss.l :: mpS m (entR (gs ++ [g21]) (S ++ [(⟨⟨ca, z.lb.l, cc⟩, z.t, ⟨a29, [(⟨z.t, z.v⟩ : Pt)], c30⟩⟩ : MRow)])) :: cel g [Value.map (some m)] 126 :: cel g2 (rcc r) 33 :: (rdH r.ss.a r.ss.l.length 3 (r.ss.l.flatMap smc)) :: (rdH r.ms.a r.ms.l.length 3 (r.ms.l.flatMap mtc)) :: recA r :: L) w33 := by rw [entR_snoc hlen]; exact hS36
    clear hS36
    exact NX.again (k + 1, gs ++ [g21], S ++ [(⟨⟨ca, z.lb.l, cc⟩, z.t, ⟨a29, [(⟨z.t, z.v⟩ : Pt)], c30⟩⟩ : MRow)], addF Ak z.lb.l z.t [(⟨z.t, z.v⟩ : Pt)]) ⟨⟨by omega, hpa2, wf_add hWk hcz hold, hperm2, by rw [List.length_append, List.length_append, hlen]; rfl⟩, ((hS37.mask [true, false, false, false] (L' := _::_::_::_::_::_::_::_::L) rfl).permT [2, 0, 1, 1, 1] (L' := _::_::_::_::_::_::_::_::L) rfl)⟩ (by show r.ss.l.length - (k + 1) < r.ss.l.length - k; omega) (Sub.cons rfl (Sub.cons rfl (Sub.cons rfl (Sub.cons rfl (Sub.consE rfl (by congr 1) (Sub.nil _))))))
   ·
    obtain ⟨q, hgq⟩ : ∃ g, findG gs S z.lb.l = some g := by cases hq : findG gs S z.lb.l with | none => (rw [hq] at g33; cases g33) | some g => exact ⟨g, rfl⟩
    obtain ⟨j, row, hj1, hj2, hj3, hset⟩ := upd_set (v := z.v) hWk.srt hp hgq hold
    have hrA : row.p ∈ Ak := hp.subset (List.mem_map.2 ⟨row, List.mem_of_getElem? hj2, rfl⟩)
    have hrp : row.pt.l.length ≤ M + k := hWk.pts row.p hrA
    obtain ⟨q', hq', hS38⟩ := sqA_pick hj2 (hS15.permT [4] (L' := _::_::_::_::_::_::_::_::_::_::L) rfl)
    have hqq : q' = q := by rw [hj1] at hq'; exact (Option.some.inj hq').symm
    subst hqq
    clear hS15
    have hS39 : St B (cel q' (hsc row) 131 :: (labA row.lb) :: own row.pt.a row.pt.l.length row.pt.cap 103 2 (row.pt.l.flatMap ptc) :: sqBut (hsA 131 103) j gs S :: _::_::_::_::_::_::_::_::_::L) w15 := hs_open hS38
    clear hS38
    refine WP.as (d := 9) (v := Value.pointer (some ⟨q', 0, none⟩)) rfl (by rw [hgq]; rfl) ?_
    refine WP.skip (NX.go (WP.seq ?_))
    refine WD.start (fun w => (∀ jz, World.cell? w ⟨q', jz, none⟩ = (hsc row)[jz]?) ∧ (∀ jz, World.cell? w ⟨g12, jz, none⟩ = (smc z)[jz]?) ∧ (∀ jz, World.cell? w ⟨g, jz, none⟩ = [Value.map (some m)][jz]?) ∧ (∀ jz, World.cell? w ⟨g2, jz, none⟩ = (rcc r)[jz]?)) [14] (bt 15 0) Ty.mo rfl (by kernel_rfl) hS39 (fun _ h => ⟨h.cel_at 0 rfl, h.cel_at 5 rfl, h.cel_at 8 rfl, h.cel_at 9 rfl⟩) (fun w40 hS40 s41 => ?_)
    clear hS39
    refine DP (i := 0) t32_12 (bt 15 1) rfl rfl rfl rfl (fun w => run_move rfl) ?_
    refine DP (i := 1) t32_12 (bt 15 3) rfl rfl rfl rfl (fun w => run_move rfl) ?_
    refine DP (i := 2) t32_12 (bt 15 7) rfl rfl rfl rfl (fun w => run_nilCheck rfl) ?_
    refine DP (i := 3) t32_12 (bt 15 15) rfl rfl rfl rfl (fun w => run_fa 1 ⟨q', 1, none⟩ rfl rfl) ?_
    refine DT (i := 4) t32_12 (bt 15 31) s41 rfl rfl rfl rfl (fun w hs => run_load Ty.ag66 rfl ((hs.1 1).trans rfl)) ?_
    refine DP (i := 5) t32_12 (bt 15 63) rfl rfl rfl rfl (fun w => run_fa 1 ⟨g12, 1, none⟩ rfl rfl) ?_
    refine DT (i := 6) t32_12 (bt 15 127) s41 rfl rfl rfl rfl (fun w hs => run_load Ty.ag2 rfl ((hs.2.1 1).trans rfl)) ?_
    refine DP (i := 7) t32_12 (bt 15 255) rfl rfl rfl rfl (fun w => run_fa 2 ⟨g12, 2, none⟩ rfl rfl) ?_
    refine DT (i := 8) t32_12 (bt 15 511) s41 rfl rfl rfl rfl (fun w hs => run_load Ty.ag81 rfl ((hs.2.1 2).trans rfl)) ?_
    refine DP (i := 9) t32_12 (bt 15 1023) rfl rfl rfl rfl (fun w => run_build (v := Value.agg #[Value.int .i64 z.t, Value.int .u64 z.v]) rfl (fun w => by kernel_rfl)) ?_
    refine WD.one (i := 10) t32_12 (bt 15 2047) rfl (by kernel_rfl) ?_
    refine WO.buildSlice (l := [Value.int .i64 z.t, Value.int .u64 z.v]) hS40 Tryz.underlying66 rfl (fun w => by kernel_rfl) rfl (fun g43 w42 lg43 hS42 => ?_)
    clear hS40
    refine WO.nil ?_
    have s44 : (∀ jz, World.cell? w42 ⟨q', jz, none⟩ = (hsc row)[jz]?) ∧ (∀ jz, World.cell? w42 ⟨g12, jz, none⟩ = (smc z)[jz]?) ∧ (∀ jz, World.cell? w42 ⟨g, jz, none⟩ = [Value.map (some m)][jz]?) ∧ (∀ jz, World.cell? w42 ⟨g2, jz, none⟩ = (rcc r)[jz]?) := ⟨hS42.cel_at 1 rfl, hS42.cel_at 6 rfl, hS42.cel_at 9 rfl, hS42.cel_at 10 rfl⟩
    refine NX.held s44 ?_
    refine WD.one (i := 11) t32_12 (bt 15 4095) rfl (by kernel_rfl) ?_
    refine WO.append (news := [Value.int .i64 z.t, Value.int .u64 z.v]) 3 rfl Tryz.underlying66 Tryz.underlying66 (fun _ h => by cases h) Ty.sz103 (by decide) Ty.by103 Ty.zr103 rfl rfl rfl rfl hS42 rfl ((hS42.cel_rd 0 rfl (o := 0) (m := 1) (k := 2) rfl (Nat.le_of_ble_eq_true rfl)).src) rfl (by omega) (by omega) (fun a46 c47 w45 hS45 => ?_)
    replace hS45 : St B (cel g43 [Value.int .i64 z.t, Value.int .u64 z.v] 103 :: _::_::own a46 ((row.pt.l ++ [(⟨z.t, z.v⟩ : Pt)]).length) c47 103 2 ((row.pt.l ++ [(⟨z.t, z.v⟩ : Pt)]).flatMap ptc) :: _::_::_::_::_::_::_::_::_::_::L) w45 := (by have z1 := hS45; rw [show row.pt.l.length + 1 = (row.pt.l ++ [(⟨z.t, z.v⟩ : Pt)]).length by simp] at z1; exact (show row.pt.l.flatMap ptc ++ ptc (⟨z.t, z.v⟩ : Pt) = (row.pt.l ++ [(⟨z.t, z.v⟩ : Pt)]).flatMap ptc by simp) ▸ z1)
    refine WO.as (d := 56) (v := Value.slice a46 ((row.pt.l ++ [(⟨z.t, z.v⟩ : Pt)]).length) c47) rfl (congrArg (fun z => Value.slice _ z _) (by simp)) ?_
    clear hS42
    refine WO.nil ?_
    have s48 : (∀ jz, World.cell? w45 ⟨q', jz, none⟩ = (hsc row)[jz]?) ∧ (∀ jz, World.cell? w45 ⟨g12, jz, none⟩ = (smc z)[jz]?) ∧ (∀ jz, World.cell? w45 ⟨g, jz, none⟩ = [Value.map (some m)][jz]?) ∧ (∀ jz, World.cell? w45 ⟨g2, jz, none⟩ = (rcc r)[jz]?) := ⟨hS45.cel_at 1 rfl, hS45.cel_at 6 rfl, hS45.cel_at 9 rfl, hS45.cel_at 10 rfl⟩
    refine NX.held s48 ?_
    refine DP (i := 12) t32_12 (bt 15 8191) rfl rfl rfl rfl (fun w => run_nilCheck rfl) ?_
    refine DP (i := 13) t32_12 (bt 15 16383) rfl rfl rfl rfl (fun w => run_fa 1 ⟨q', 1, none⟩ rfl rfl) ?_
    refine WD.one (i := 14) t32_12 (bt 15 32767) rfl (by kernel_rfl) ?_
    refine WO.store (l' := [Value.slice row.lb.a row.lb.l.length row.lb.cap, Value.slice a46 ((row.pt.l ++ [(⟨z.t, z.v⟩ : Pt)]).length) c47, Value.int .i64 row.last]) 1 hS45 rfl Ty.sz66 rfl rfl rfl rfl rfl (Nat.le_of_ble_eq_true rfl) rfl (fun w49 (hS49 : St B (_::cel q' [Value.slice row.lb.a row.lb.l.length row.lb.cap, Value.slice a46 ((row.pt.l ++ [(⟨z.t, z.v⟩ : Pt)]).length) c47, Value.int .i64 row.last] 131 :: _::_::_::_::_::_::_::_::_::_::_::_::L) w49) => ?_)
    clear hS45
    refine WO.nil ?_
    refine NX.last (by decide) ?_
    refine WD.done t32_12 (by kernel_rfl) ?_
    refine NX.go (WP.region rfl ?_)
    refine WO.mv rfl rfl ?_
    refine WO.V (run_fa 1 ⟨g12, 1, none⟩ rfl rfl) ?_
    refine WO.V (run_load Ty.ag2 rfl ((hS49.cel_at 6 rfl 1).trans rfl)) ?_
    refine WO.V (run_nilCheck rfl) ?_
    refine WO.V (run_fa 2 ⟨q', 2, none⟩ rfl rfl) ?_
    refine WO.store (l' := [Value.slice row.lb.a row.lb.l.length row.lb.cap, Value.slice a46 ((row.pt.l ++ [(⟨z.t, z.v⟩ : Pt)]).length) c47, Value.int .i64 z.t]) 1 hS49 rfl Ty.sz2 rfl rfl rfl rfl rfl (Nat.le_of_ble_eq_true rfl) rfl (fun w50 (hS50 : St B (_::cel q' [Value.slice row.lb.a row.lb.l.length row.lb.cap, Value.slice a46 ((row.pt.l ++ [(⟨z.t, z.v⟩ : Pt)]).length) c47, Value.int .i64 z.t] 131 :: _::_::_::_::_::_::_::_::_::_::_::_::L) w50) => ?_)
    clear hS49
    refine WO.nil (NX.blk (NX.go (WP.region rfl ?_)))
    refine WO.V (run_add rfl rfl (IntWalk.i64_in _ (by omega))) ?_
    refine WO.mv rfl rfl ?_
    refine WO.nil ?_
    have hS51 := hs_shut (tS := 131) (tP := 103) (g := q') (r := (⟨row.lb, z.t, ⟨a46, row.pt.l ++ [(⟨z.t, z.v⟩ : Pt)], c47⟩⟩ : MRow)) (hS50.permT [1, 1, 1] (L' := _::_::_::_::_::_::_::_::_::_::_::_::_::_::L) rfl)
    clear hS50
    have hS52 := sqA_back hj1 (hS51.permT [0, 1] (L' := _::_::_::_::_::_::_::_::_::_::_::_::L) rfl)
    clear hS51
    have hS53 : St B (sqA (hsA 131 103) gs (S.set j (⟨row.lb, z.t, ⟨a46, row.pt.l ++ [(⟨z.t, z.v⟩ : Pt)], c47⟩⟩ : MRow)) :: cel g43 [Value.int .i64 z.t, Value.int .u64 z.v] 103 :: (labA z.lb) :: cel g12 (smc z) 83 :: smsA r.ss.l :: mpS m (entR gs (S.set j (⟨row.lb, z.t, ⟨a46, row.pt.l ++ [(⟨z.t, z.v⟩ : Pt)], c47⟩⟩ : MRow))) :: cel g [Value.map (some m)] 126 :: cel g2 (rcc r) 33 :: (rdH r.ss.a r.ss.l.length 3 (r.ss.l.flatMap smc)) :: (rdH r.ms.a r.ms.l.length 3 (r.ms.l.flatMap mtc)) :: recA r :: L) w50 := by rw [entR_set (r' := (⟨row.lb, z.t, ⟨a46, row.pt.l ++ [(⟨z.t, z.v⟩ : Pt)], c47⟩⟩ : MRow)) hj2 rfl]; exact hS52
    clear hS52
    exact NX.again (k + 1, gs, S.set j (⟨row.lb, z.t, ⟨a46, row.pt.l ++ [(⟨z.t, z.v⟩ : Pt)], c47⟩⟩ : MRow), addF Ak z.lb.l z.t [(⟨z.t, z.v⟩ : Pt)]) ⟨⟨by omega, hpa2, wf_add hWk hcz hold, hset ⟨a46, row.pt.l ++ [(⟨z.t, z.v⟩ : Pt)], c47⟩ rfl, by rw [List.length_set]; exact hlen⟩, ((hS53.mask [true, false, false, false] (L' := _::_::_::_::_::_::_::_::L) rfl).permT [2, 0, 1, 1, 1] (L' := _::_::_::_::_::_::_::_::L) rfl)⟩ (by show r.ss.l.length - (k + 1) < r.ss.l.length - k; omega) (Sub.cons rfl (Sub.cons rfl (Sub.cons rfl (Sub.cons rfl (Sub.consE rfl (by congr 1) (Sub.nil _))))))
  ·
   refine WP.exit (NX.thenExit (NX.thenExit ?_))
   refine NX.blkExit ?_
   refine NX.go (WP.seq (WP.seq (WP.region rfl ?_)))
   refine WO.V (run_fa 0 ⟨g2, 0, none⟩ rfl rfl) ?_
   refine WO.V (run_load Ty.ag3 rfl ((hS9.cel_at 3 rfl 0).trans rfl)) ?_
   refine WO.V (run_eql rfl rfl) ?_
   refine WO.nil (NX.go ?_)
   refine WP.condP rfl (fun g67 => ?_) (fun g67 => ?_)
   ·
    have hS54 := hd_shut hp (hS9.permT [2] (L' := _::_::_::_::_::_::_::_::L) rfl)
    clear hS9
    refine WP.region rfl ?_
    refine WO.mv rfl rfl ?_
    refine WO.V (run_loadAgg (vs := (rcc r)) Ty.ag33 Ty.sz33 rfl rfl (cell_all (hS54.cel_at 1 rfl) 0 rfl)) ?_
    have hS55 := hS54.permT [0, 4] (L' := _::_::_::_::_::_::L) rfl
    clear hS54
    refine WO.call rfl rfl Ty.hd66 rfl (hdel_spec hWk (by omega) r hz hS55) (fun v57 w56 pv57 => ?_)
    obtain ⟨rfl, hS56⟩ := pv57
    clear hS55
    refine WO.nil (NX.go (WP.seq (WP.region rfl ?_)))
    refine WO.asg rfl rfl ?_
    refine WO.nil (NX.go (WP.ret ?_))
    refine NX.done (l := [.tmp 4]) rfl rfl ?_
    have hAk : A1 = Ak := by rw [List.drop_of_length_le (by omega)] at hpa; exact (Option.some.inj hpa).symm
    have hA1' : putAll A r.p.ss = some A1 := hA1
    have hap : applyF A (rcheck r) r.p = delF r.fr r.to r.ms.l Ak := by rw [apply_ok ht0 hA1', if_pos (show r.p.k = 2 from g67)]; rw [hAk]; rfl
    exact ⟨congrArg (Value.int .i64) ht0.symm, by rw [hap]; exact (hS56.mask [true, true, false, false, false, false] (L' := _::_::L) rfl)⟩
   ·
    refine WP.skip (NX.go (WP.seq (WP.region rfl ?_)))
    refine WO.asg rfl rfl ?_
    refine WO.nil (NX.go (WP.ret ?_))
    have hS58 := hd_shut hp (hS9.permT [2] (L' := _::_::_::_::_::_::_::_::L) rfl)
    clear hS9
    refine NX.done (l := [.tmp 4]) rfl rfl ?_
    have hAk : A1 = Ak := by rw [List.drop_of_length_le (by omega)] at hpa; exact (Option.some.inj hpa).symm
    have hA1' : putAll A r.p.ss = some A1 := hA1
    have hap : applyF A (rcheck r) r.p = Ak := by rw [apply_ok ht0 hA1', if_neg (show ¬ r.p.k = 2 from g67)]; rw [hAk]
    exact ⟨congrArg (Value.int .i64) ht0.symm, by rw [hap]; exact (hS58.mask [true, false, false, false, false] (L' := _::_::L) rfl)⟩
end Go.Proofs.YtidoidoelgfnaaaGreatDoor.SL

/- The head: counts. -/
namespace Go.Proofs.YtidoidoelgfnaaaGreatDoor.SL
open Go.RowKit Go.Proofs.YtidoidoelgfnaaaGreatDoor
open Go.Proofs.YtidoidoelgfnaaaGreatDoorW.PrintLast (rtab opsOf)
set_option linter.unusedVariables false
set_option linter.unusedSimpArgs false

end Go.Proofs.YtidoidoelgfnaaaGreatDoor.SL

/- The head: a copy. -/
namespace Go.Proofs.YtidoidoelgfnaaaGreatDoor.SL
open Go.RowKit Go.Proofs.YtidoidoelgfnaaaGreatDoor
open Go.Proofs.YtidoidoelgfnaaaGreatDoorW.PrintLast (rtab opsOf)
set_option linter.unusedVariables false
set_option linter.unusedSimpArgs false
end Go.Proofs.YtidoidoelgfnaaaGreatDoor.SL
