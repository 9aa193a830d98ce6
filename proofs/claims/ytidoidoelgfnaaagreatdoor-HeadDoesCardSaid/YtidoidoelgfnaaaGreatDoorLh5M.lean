import Derived.Test.YtidoidoelgfnaaaGreatDoorHl1M
import Derived.Test.YtidoidoelgfnaaaGreatDoorHv1M
import Derived.Test.YtidoidoelgfnaaaGreatDoorRhM
import Derived.Test.YtidoidoelgfnaaaGreatDoorKrmM
import Derived.Test.YtidoidoelgfnaaaGreatDoorKs1
/- HeadDoes: two heads tell the same. -/
namespace Go.Proofs.YtidoidoelgfnaaaGreatDoor.SL
open Go.RowKit Go.Proofs.YtidoidoelgfnaaaGreatDoor
open Go.Proofs.YtidoidoelgfnaaaGreatDoorW.PrintLast (rtab opsOf)
set_option linter.unusedVariables false
set_option linter.unusedSimpArgs false
theorem t41_7 : rtab .any (opsOf Tryz.f41 7) = (true, [([], []), ([], []), ([0, 1], [0, 1]), ([2], [2]), ([3], [3]), ([3], [3]), ([4, 5, 3], [3, 4, 5]), ([3, 6], [3, 6]), ([7, 3], [7]), ([8], [8]), ([8], [8]), ([9, 10, 8], [8, 9, 10]), ([8, 11], [8, 11]), ([12, 8], [12]), ([13], [13]), ([13], [13]), ([14, 15, 13], [13, 14, 15]), ([13, 16], [13, 16]), ([17, 13], [17]), ([18], [18]), ([18], [18]), ([19, 20, 18], [18, 19, 20]), ([18, 21], [18, 21]), ([22, 18], [22]), ([23], [23]), ([23], [23]), ([24, 25, 23], [23, 24, 25]), ([23, 26], [23, 26]), ([27, 23], [27]), ([28], [28]), ([28], [28]), ([30, 28], [28, 30]), ([28], [28]), ([32, 28], [28, 32]), ([28], [28]), ([34, 28], [28, 34]), ([29, 31, 33, 35, 28, 28], [28, 29, 31, 33, 35]), ([28], [28]), ([28], [28]), ([38, 28], [28, 38]), ([28], [28]), ([40, 28], [28, 40]), ([28], [28]), ([42, 28], [28, 42]), ([37, 39, 41, 43, 36, 28], [28, 37, 39, 41, 43]), ([36, 44, 44, 28], [28, 36, 44]), ([28, 45], [28, 45]), ([46, 45, 0, 1, 2, 3, 4, 5, 6, 7, 8, 9, 10, 11, 12, 13, 14, 15, 16, 17, 18, 19, 20, 21, 22, 23, 24, 25, 26, 27, 28, 29, 30, 31, 32, 33, 34, 35, 36, 37, 38, 39, 40, 41, 42, 43, 44, 45, 46], [46])]) := by kernel_rfl
theorem hsame_spec {B w : World} {L : List HP} {Y : HP} {gh gr M : Nat} {b : Option Addr} {cap2 : Nat} {A : List RowP} {p : List Pr} (hY : ∀ {L : List HP} {w : World}, St B (Y :: L) w → Rd w b p.length 2 (p.flatMap prc)) (hA : WfH A M) (hM : M ≤ 1600) (hAl : A.length ≤ 256) (q : AskV) (hqz : SzM q.ms.l) (hqn : q.ms.l.length ≤ 4398046511104) (hzp : SzP p) (hpl : p.length ≤ 4398046511104) (hS : St B (hdA 126 131 103 gh A :: rfA 79 95 103 gr A :: (rdH q.ms.a q.ms.l.length 3 (q.ms.l.flatMap mtc)) :: Y :: L) w) : Does Tryz.prog 41 [Value.pointer (some ⟨gh, 0, none⟩), Value.pointer (some ⟨gr, 0, none⟩), Value.agg #[Value.slice q.ms.a q.ms.l.length q.ms.cap, Value.int .i64 q.fr, Value.int .i64 q.to], Value.slice b p.length cap2] w (fun v w1 => v = .bool true ∧ St B (hdA 126 131 103 gh A :: rfA 79 95 103 gr A :: (rdH q.ms.a q.ms.l.length 3 (q.ms.l.flatMap mtc)) :: Y :: L) w1) := by
 have hpts : ptsN A ≤ 1000000000000000 := Nat.le_trans (ptsN_le hA.pts) (Nat.le_trans (Nat.mul_le_mul hAl hM) (by decide))
 refine enter (n := 100) Tryz.func41 rfl rfl [Value.pointer (some ⟨gh, 0, none⟩), Value.pointer (some ⟨gr, 0, none⟩), Value.agg #[Value.slice q.ms.a q.ms.l.length q.ms.cap, Value.int .i64 q.fr, Value.int .i64 q.to], Value.slice b p.length cap2] rfl ?_
 refine WP.seq (WP.region rfl ?_)
 refine WO.box (l := [Value.slice q.ms.a q.ms.l.length q.ms.cap, Value.int .i64 q.fr, Value.int .i64 q.to]) hS rfl rfl rfl (fun g2 w1 lg2 hS1 => ?_)
 clear hS
 refine WO.asg rfl rfl ?_
 refine WO.nil (NX.go (WP.seq (WP.region rfl ?_)))
 refine WO.mv rfl rfl ?_
 have hS3 := hS1.permT [1] (L' := hdA 126 131 103 gh A :: cel g2 [Value.slice q.ms.a q.ms.l.length q.ms.cap, Value.int .i64 q.fr, Value.int .i64 q.to] 26 :: rfA 79 95 103 gr A :: (rdH q.ms.a q.ms.l.length 3 (q.ms.l.flatMap mtc)) :: Y :: L) rfl
 clear hS1
 refine WO.call rfl rfl Ty.hd35 rfl (hcounts_spec (g := gh) hpts hS3) (fun v5 w4 pv5 => ?_)
 obtain ⟨rfl, hS4⟩ := pv5
 clear hS3
 refine WO.mv rfl rfl ?_
 refine WO.V (run_extract rfl rfl) ?_
 refine WO.V (run_extract rfl rfl) ?_
 refine WO.asg rfl rfl ?_
 refine WO.asg rfl rfl ?_
 refine WO.nil (NX.go (WP.seq (WP.region rfl ?_)))
 refine WO.mv rfl rfl ?_
 have hS6 := hS4.permT [2] (L' := rfA 79 95 103 gr A :: hdA 126 131 103 gh A :: cel g2 [Value.slice q.ms.a q.ms.l.length q.ms.cap, Value.int .i64 q.fr, Value.int .i64 q.to] 26 :: (rdH q.ms.a q.ms.l.length 3 (q.ms.l.flatMap mtc)) :: Y :: L) rfl
 clear hS4
 refine WO.call rfl rfl Ty.hd75 rfl (rhcounts_spec (g := gr) (by omega) hpts hS6) (fun v8 w7 pv8 => ?_)
 obtain ⟨rfl, hS7⟩ := pv8
 clear hS6
 refine WO.mv rfl rfl ?_
 refine WO.V (run_extract rfl rfl) ?_
 refine WO.V (run_extract rfl rfl) ?_
 refine WO.asg rfl rfl ?_
 refine WO.asg rfl rfl ?_
 refine WO.nil (NX.go (WP.seq (WP.region rfl ?_)))
 refine WO.mv rfl rfl ?_
 have hS9 := hS7.permT [1] (L' := hdA 126 131 103 gh A :: rfA 79 95 103 gr A :: cel g2 [Value.slice q.ms.a q.ms.l.length q.ms.cap, Value.int .i64 q.fr, Value.int .i64 q.to] 26 :: (rdH q.ms.a q.ms.l.length 3 (q.ms.l.flatMap mtc)) :: Y :: L) rfl
 clear hS7
 refine WO.call rfl rfl Ty.hd76 rfl (htop_spec (g := gh) hS9) (fun v11 w10 pv11 => ?_)
 obtain ⟨t1, ht1, rfl, hS10⟩ := pv11
 clear hS9
 refine WO.mv rfl rfl ?_
 refine WO.V (run_extract rfl rfl) ?_
 refine WO.V (run_extract rfl rfl) ?_
 refine WO.asg rfl rfl ?_
 refine WO.asg rfl rfl ?_
 refine WO.nil (NX.go (WP.seq (WP.region rfl ?_)))
 refine WO.mv rfl rfl ?_
 have hS12 := hS10.permT [1] (L' := rfA 79 95 103 gr A :: hdA 126 131 103 gh A :: cel g2 [Value.slice q.ms.a q.ms.l.length q.ms.cap, Value.int .i64 q.fr, Value.int .i64 q.to] 26 :: (rdH q.ms.a q.ms.l.length 3 (q.ms.l.flatMap mtc)) :: Y :: L) rfl
 clear hS10
 refine WO.call rfl rfl Ty.hd77 rfl (rhtop_spec (g := gr) (by omega) hS12) (fun v14 w13 pv14 => ?_)
 obtain ⟨t2, ht2, rfl, hS13⟩ := pv14
 clear hS12
 refine WO.mv rfl rfl ?_
 refine WO.V (run_extract rfl rfl) ?_
 refine WO.V (run_extract rfl rfl) ?_
 refine WO.asg rfl rfl ?_
 refine WO.asg rfl rfl ?_
 refine WO.nil (NX.go (WP.seq (WP.region rfl ?_)))
 refine WO.mv rfl rfl ?_
 refine WO.mv rfl rfl ?_
 have hS15 := hS13.permT [1, 3] (L' := hdA 126 131 103 gh A :: Y :: rfA 79 95 103 gr A :: cel g2 [Value.slice q.ms.a q.ms.l.length q.ms.cap, Value.int .i64 q.fr, Value.int .i64 q.to] 26 :: (rdH q.ms.a q.ms.l.length 3 (q.ms.l.flatMap mtc)) :: L) rfl
 clear hS13
 refine WO.call rfl rfl Ty.hd78 rfl (hlast_spec (g := gh) hY hA hzp hpl hS15) (fun v17 w16 pv17 => ?_)
 obtain ⟨rfl, hS16⟩ := pv17
 clear hS15
 refine WO.mv rfl rfl ?_
 refine WO.V (run_extract rfl rfl) ?_
 refine WO.V (run_extract rfl rfl) ?_
 refine WO.asg rfl rfl ?_
 refine WO.asg rfl rfl ?_
 refine WO.nil (NX.go (WP.seq (WP.region rfl ?_)))
 refine WO.mv rfl rfl ?_
 refine WO.mv rfl rfl ?_
 have hS18 := hS16.permT [2, 1] (L' := rfA 79 95 103 gr A :: Y :: hdA 126 131 103 gh A :: cel g2 [Value.slice q.ms.a q.ms.l.length q.ms.cap, Value.int .i64 q.fr, Value.int .i64 q.to] 26 :: (rdH q.ms.a q.ms.l.length 3 (q.ms.l.flatMap mtc)) :: L) rfl
 clear hS16
 refine WO.call rfl rfl Ty.hd79 rfl (rhlast_spec (g := gr) hY hA (by omega) hpl hS18) (fun v20 w19 pv20 => ?_)
 obtain ⟨rfl, hS19⟩ := pv20
 clear hS18
 refine WO.mv rfl rfl ?_
 refine WO.V (run_extract rfl rfl) ?_
 refine WO.V (run_extract rfl rfl) ?_
 refine WO.asg rfl rfl ?_
 refine WO.asg rfl rfl ?_
 refine WO.nil (NX.go (WP.seq ?_))
 refine WD.start (fun w => (∀ jz, World.cell? w ⟨g2, jz, none⟩ = [Value.slice q.ms.a q.ms.l.length q.ms.cap, Value.int .i64 q.fr, Value.int .i64 q.to][jz]?)) [] (bt 48 0) Ty.mo rfl (by kernel_rfl) hS19 (fun _ h => h.cel_at 3 rfl) (fun w21 hS21 s22 => ?_)
 clear hS19
 refine DP (i := 0) t41_7 (bt 48 1) rfl rfl rfl rfl (fun w => run_move rfl) ?_
 refine DP (i := 1) t41_7 (bt 48 3) rfl rfl rfl rfl (fun w => run_move rfl) ?_
 refine DP (i := 2) t41_7 (bt 48 7) rfl rfl rfl rfl (fun w => run_eql rfl rfl) ?_
 refine DP (i := 3) t41_7 (bt 48 15) rfl rfl rfl rfl (fun w => run_move rfl) ?_
 refine DPn (i := 4) t41_7 (bt 48 31) rfl rfl rfl (decide_eq_true rfl) rfl (fun w => run_move rfl) ?_
 refine DPn (i := 5) t41_7 (bt 48 63) rfl rfl rfl (decide_eq_true rfl) rfl (fun w => run_move rfl) ?_
 refine DPn (i := 6) t41_7 (bt 48 127) rfl rfl rfl (decide_eq_true rfl) rfl (fun w => run_eql rfl rfl) ?_
 refine DP (i := 7) t41_7 (bt 48 255) rfl rfl rfl rfl (fun w => run_pickT rfl (decide_eq_true rfl) rfl) ?_
 refine DP (i := 8) t41_7 (bt 48 511) rfl rfl rfl rfl (fun w => run_move rfl) ?_
 refine DPn (i := 9) t41_7 (bt 48 1023) rfl rfl rfl (decide_eq_true rfl) rfl (fun w => run_move rfl) ?_
 refine DPn (i := 10) t41_7 (bt 48 2047) rfl rfl rfl (decide_eq_true rfl) rfl (fun w => run_move rfl) ?_
 refine DPn (i := 11) t41_7 (bt 48 4095) rfl rfl rfl (decide_eq_true rfl) rfl (fun w => run_eql rfl rfl) ?_
 refine DP (i := 12) t41_7 (bt 48 8191) rfl rfl rfl rfl (fun w => run_pickT rfl (decide_eq_true rfl) rfl) ?_
 refine DP (i := 13) t41_7 (bt 48 16383) rfl rfl rfl rfl (fun w => run_move rfl) ?_
 refine dcase (p := t1 = t2) (fun g66 d66 => ?_) (fun g66 d66 => ?_)
 ·
  refine DPn (i := 14) t41_7 (bt 48 32767) rfl rfl rfl d66 rfl (fun w => run_move rfl) ?_
  refine DPn (i := 15) t41_7 (bt 48 65535) rfl rfl rfl d66 rfl (fun w => run_move rfl) ?_
  refine DPn (i := 16) t41_7 (bt 48 131071) rfl rfl rfl d66 rfl (fun w => run_eqlB Tryz.underlying4 rfl rfl rfl) ?_
  refine DP (i := 17) t41_7 (bt 48 262143) rfl rfl rfl rfl (fun w => run_pickT rfl d66 rfl) ?_
  refine DP (i := 18) t41_7 (bt 48 524287) rfl rfl rfl rfl (fun w => run_move rfl) ?_
  refine DPn (i := 19) t41_7 (bt 48 1048575) rfl rfl rfl (by simp) rfl (fun w => run_move rfl) ?_
  refine DPn (i := 20) t41_7 (bt 48 2097151) rfl rfl rfl (by simp) rfl (fun w => run_move rfl) ?_
  refine DPn (i := 21) t41_7 (bt 48 4194303) rfl rfl rfl (by simp) rfl (fun w => run_eql rfl rfl) ?_
  refine DP (i := 22) t41_7 (bt 48 8388607) rfl rfl rfl rfl (fun w => run_pickT rfl (by simp) rfl) ?_
  refine DP (i := 23) t41_7 (bt 48 16777215) rfl rfl rfl rfl (fun w => run_move rfl) ?_
  refine DPn (i := 24) t41_7 (bt 48 33554431) rfl rfl rfl (decide_eq_true rfl) rfl (fun w => run_move rfl) ?_
  refine DPn (i := 25) t41_7 (bt 48 67108863) rfl rfl rfl (decide_eq_true rfl) rfl (fun w => run_move rfl) ?_
  refine DPn (i := 26) t41_7 (bt 48 134217727) rfl rfl rfl (decide_eq_true rfl) rfl (fun w => run_eqlB Tryz.underlying4 rfl rfl rfl) ?_
  refine DP (i := 27) t41_7 (bt 48 268435455) rfl rfl rfl rfl (fun w => run_pickT rfl (decide_eq_true rfl) rfl) ?_
  refine DP (i := 28) t41_7 (bt 48 536870911) rfl rfl rfl rfl (fun w => run_move rfl) ?_
  refine DPn (i := 29) t41_7 (bt 48 1073741823) rfl rfl rfl (by simp) rfl (fun w => run_move rfl) ?_
  refine DPn (i := 30) t41_7 (bt 48 2147483647) rfl rfl rfl (by simp) rfl (fun w => run_fa 0 ⟨g2, 0, none⟩ rfl rfl) ?_
  refine DTn (i := 31) t41_7 (bt 48 4294967295) s22 rfl rfl rfl (by simp) rfl (fun w hs => run_load Ty.ag24 rfl ((hs 0).trans rfl)) ?_
  refine DPn (i := 32) t41_7 (bt 48 8589934591) rfl rfl rfl (by simp) rfl (fun w => run_fa 1 ⟨g2, 1, none⟩ rfl rfl) ?_
  refine DTn (i := 33) t41_7 (bt 48 17179869183) s22 rfl rfl rfl (by simp) rfl (fun w hs => run_load Ty.ag2 rfl ((hs 1).trans rfl)) ?_
  refine DPn (i := 34) t41_7 (bt 48 34359738367) rfl rfl rfl (by simp) rfl (fun w => run_fa 2 ⟨g2, 2, none⟩ rfl rfl) ?_
  refine DTn (i := 35) t41_7 (bt 48 68719476735) s22 rfl rfl rfl (by simp) rfl (fun w hs => run_load Ty.ag2 rfl ((hs 2).trans rfl)) ?_
  refine DPn (i := 37) t41_7 (bt 48 206158430207) rfl rfl rfl (by simp) rfl (fun w => run_move rfl) ?_
  refine DPn (i := 38) t41_7 (bt 48 481036337151) rfl rfl rfl (by simp) rfl (fun w => run_fa 0 ⟨g2, 0, none⟩ rfl rfl) ?_
  refine DTn (i := 39) t41_7 (bt 48 1030792151039) s22 rfl rfl rfl (by simp) rfl (fun w hs => run_load Ty.ag24 rfl ((hs 0).trans rfl)) ?_
  refine DPn (i := 40) t41_7 (bt 48 2130303778815) rfl rfl rfl (by simp) rfl (fun w => run_fa 1 ⟨g2, 1, none⟩ rfl rfl) ?_
  refine DTn (i := 41) t41_7 (bt 48 4329327034367) s22 rfl rfl rfl (by simp) rfl (fun w hs => run_load Ty.ag2 rfl ((hs 1).trans rfl)) ?_
  refine DPn (i := 42) t41_7 (bt 48 8727373545471) rfl rfl rfl (by simp) rfl (fun w => run_fa 2 ⟨g2, 2, none⟩ rfl rfl) ?_
  refine DTn (i := 43) t41_7 (bt 48 17523466567679) s22 rfl rfl rfl (by simp) rfl (fun w hs => run_load Ty.ag2 rfl ((hs 2).trans rfl)) ?_
  refine WD.one (i := 36) t41_7 (bt 48 17592186044415) rfl (by kernel_rfl) ?_
  refine WO.on rfl rfl (by simp) ?_
  have hS23 := hS21.permT [2, 3] (L' := hdA 126 131 103 gh A :: (rdH q.ms.a q.ms.l.length 3 (q.ms.l.flatMap mtc)) :: rfA 79 95 103 gr A :: Y :: cel g2 [Value.slice q.ms.a q.ms.l.length q.ms.cap, Value.int .i64 q.fr, Value.int .i64 q.to] 26 :: L) rfl
  clear hS21
  refine WO.call rfl rfl Ty.hd33 rfl (hquery_spec (g := gh) rdH_rd hA (by omega) (by omega) hqz hqn q.fr q.to hS23) (fun v25 w24 pv25 => ?_)
  obtain ⟨a1, c1, o1, rfl, ho1, hn1, hz1, hS24⟩ := pv25
  clear hS23
  refine WO.nil ?_
  have s26 : (∀ jz, World.cell? w24 ⟨g2, jz, none⟩ = [Value.slice q.ms.a q.ms.l.length q.ms.cap, Value.int .i64 q.fr, Value.int .i64 q.to][jz]?) := hS24.cel_at 6 rfl
  refine NX.held s26 ?_
  refine WD.one (i := 44) t41_7 (bt 48 35184372088831) rfl (by kernel_rfl) ?_
  refine WO.on rfl rfl (by simp) ?_
  have hS27 := hS24.permT [4, 3] (L' := rfA 79 95 103 gr A :: (rdH q.ms.a q.ms.l.length 3 (q.ms.l.flatMap mtc)) :: own a1 o1.length c1 68 2 (o1.flatMap msc) :: allA serA o1 :: hdA 126 131 103 gh A :: Y :: cel g2 [Value.slice q.ms.a q.ms.l.length q.ms.cap, Value.int .i64 q.fr, Value.int .i64 q.to] 26 :: L) rfl
  clear hS24
  refine WO.call rfl rfl Ty.hd44 rfl (rhquery_spec (g := gr) rdH_rd hA (by omega) (by omega) hqz hqn q.fr q.to hS27) (fun v29 w28 pv29 => ?_)
  obtain ⟨a2, c2, o2, rfl, ho2, hn2, hz2, hS28⟩ := pv29
  clear hS27
  refine WO.nil ?_
  have s30 : (∀ jz, World.cell? w28 ⟨g2, jz, none⟩ = [Value.slice q.ms.a q.ms.l.length q.ms.cap, Value.int .i64 q.fr, Value.int .i64 q.to][jz]?) := hS28.cel_at 8 rfl
  refine NX.held s30 ?_
  refine WD.one (i := 45) t41_7 (bt 48 70368744177663) rfl (by kernel_rfl) ?_
  refine WO.on rfl rfl (by simp) ?_
  have hS31 := hS28.permT [4, 4] (L' := own a1 o1.length c1 68 2 (o1.flatMap msc) :: allA serA o1 :: own a2 o2.length c2 68 2 (o2.flatMap msc) :: allA serA o2 :: rfA 79 95 103 gr A :: (rdH q.ms.a q.ms.l.length 3 (q.ms.l.flatMap mtc)) :: hdA 126 131 103 gh A :: Y :: cel g2 [Value.slice q.ms.a q.ms.l.length q.ms.cap, Value.int .i64 q.fr, Value.int .i64 q.to] 26 :: L) rfl
  clear hS28
  refine WO.call rfl rfl Ty.hd17 rfl (rssame_spec (X := own a1 o1.length c1 68 2 (o1.flatMap msc)) (Y := own a2 o2.length c2 68 2 (o2.flatMap msc)) (fun h => h.own_rd.1) (fun h => h.own_rd.1) (by omega) (by omega) hz1 hz2 hS31) (fun v33 w32 pv33 => ?_)
  obtain ⟨rfl, hS32⟩ := pv33
  clear hS31
  refine WO.nil ?_
  have s34 : (∀ jz, World.cell? w32 ⟨g2, jz, none⟩ = [Value.slice q.ms.a q.ms.l.length q.ms.cap, Value.int .i64 q.fr, Value.int .i64 q.to][jz]?) := hS32.cel_at 8 rfl
  refine NX.held s34 ?_
  refine DP (i := 46) t41_7 (bt 48 140737488355327) rfl rfl rfl rfl (fun w => run_pickT rfl (by simp) rfl) ?_
  refine DP (i := 47) t41_7 (bt 48 281474976710655) rfl rfl rfl rfl (fun w => run_assign rfl) ?_
  refine WD.done t41_7 (by kernel_rfl) ?_
  refine NX.go (WP.ret ?_)
  refine NX.done (l := [.tmp 8]) rfl rfl ?_
  have heq : o1.map MSer.p = o2.map MSer.p := by rw [ho1, ho2]
  exact ⟨congrArg Value.bool (decide_eq_true heq), ((hS32.mask [false, false, false, false, true, true, true, true, false] (L' := rfA 79 95 103 gr A :: (rdH q.ms.a q.ms.l.length 3 (q.ms.l.flatMap mtc)) :: hdA 126 131 103 gh A :: Y :: L) rfl).permT [2] (L' := hdA 126 131 103 gh A :: rfA 79 95 103 gr A :: (rdH q.ms.a q.ms.l.length 3 (q.ms.l.flatMap mtc)) :: Y :: L) rfl)⟩
 ·
  exact absurd (topOf_one ht1 ht2) g66
end Go.Proofs.YtidoidoelgfnaaaGreatDoor.SL

/- HeadDoes: the law. -/
namespace Go.Proofs.YtidoidoelgfnaaaGreatDoor.SL
open Go.RowKit Go.Proofs.YtidoidoelgfnaaaGreatDoor
open Go.Proofs.YtidoidoelgfnaaaGreatDoorW.PrintLast (rtab opsOf)
set_option linter.unusedVariables false
set_option linter.unusedSimpArgs false

def askA (q : AskV) : HP := rdH q.ms.a q.ms.l.length 3 (q.ms.l.flatMap mtc)
theorem askA_pers (q : AskV) : (askA q).Pers := rdH_pers _ _ _ _
theorem t8_10 : rtab .any (opsOf Tryz.f8 10) = (true, [([], []), ([], []), ([0, 1], [0, 1]), ([], []), ([], []), ([], []), ([4, 5], [4, 5]), ([6], [6]), ([3, 7, 2], [3, 7]), ([2, 8], [2, 8]), ([9, 8], [9]), ([10], [10]), ([10], [10]), ([11, 12, 10, 10], [10, 11, 12]), ([10], [10]), ([10], [10]), ([10], [10]), ([15, 16, 10], [10, 15, 16]), ([17, 10], [10, 17]), ([14, 18, 13, 10], [10, 14, 18]), ([13, 19, 10], [10, 13, 19]), ([10, 20], [10, 20]), ([21, 19], [21]), ([22], [22]), ([22], [22]), ([22], [22]), ([24, 25, 22], [22, 24, 25]), ([26, 22], [22, 26]), ([23, 27, 22, 22], [22, 23, 27]), ([28, 22], [22, 28]), ([22, 29], [22, 29])]) := by kernel_rfl
theorem headDoes_core {B w : World} {L : List HP} {a b : Option Addr} {cap cap2 : Nat} {rs : List Rcd} {asks : List AskV} (hrz : ∀ r ∈ rs, SzR r) (hrn : rs.length ≤ 2814749767106) (hqz : ∀ q ∈ asks, SzM q.ms.l) (hqn : ∀ q ∈ asks, q.ms.l.length ≤ 5864062014805) (han : asks.length ≤ 140737488355328) (hS : St B ((rdH a rs.length 5 (rs.flatMap rcc)) :: allA recA rs :: (rdH b asks.length 3 (asks.flatMap askc)) :: allA askA asks :: L) w) : Does Tryz.prog 8 [Value.slice a rs.length cap, Value.slice b asks.length cap2] w (fun v w1 => v = .bool true ∧ St B L w1) := by
 refine enter (n := 104) Tryz.func8 rfl rfl [Value.slice a rs.length cap, Value.slice b asks.length cap2] rfl ?_
 refine WP.seq (WP.region rfl ?_)
 refine WO.asg rfl rfl ?_
 refine WO.nil (NX.go (WP.seq (WP.seq (WP.region rfl ?_))))
 refine WO.mv rfl rfl ?_
 refine WO.call rfl rfl Ty.hd30 rfl (g13_spec rdH_rd hrz hrn hS) (fun v2 w1 pv2 => ?_)
 obtain ⟨⟨qg, rfl, hqg⟩, hS1⟩ := pv2
 clear hS
 refine WO.nil (NX.go ?_)
 refine WP.condB rfl (fun g12 => ?_) (fun g12 => ?_)
 ·
  refine WP.seq (WP.region rfl ?_)
  refine WO.asg rfl rfl ?_
  refine WO.nil (NX.go (WP.ret (NX.thenRet ?_)))
  refine NX.done (l := [.tmp 4]) rfl rfl ?_
  exact ⟨rfl, hS1.drop.drop.drop.drop⟩
 ·
  refine WP.skip (NX.go (WP.seq (WP.region rfl ?_)))
  refine WO.call rfl rfl Ty.hd31 rfl (new_spec hS1) (fun v4 w3 pv4 => ?_)
  obtain ⟨gh, rfl, hS3⟩ := pv4
  clear hS1
  refine WO.V (run_build (v := Value.agg #[Value.slice none 0 0]) rfl (fun w => by kernel_rfl)) ?_
  refine WO.box (l := [Value.slice none 0 0]) hS3 rfl rfl rfl (fun g6 w5 lg6 hS5 => ?_)
  clear hS3
  refine WO.asg rfl rfl ?_
  refine WO.asg rfl rfl ?_
  refine WO.nil (NX.go (WP.seq (WP.seq ?_)))
  have hS7 := (hS5.own_nil 95 3)
  clear hS5
  have hS8 : St B (allA (rhwA 103) [] :: own none 0 0 95 3 [] :: cel g6 [Value.slice none 0 0] 79 :: hdA 126 131 103 gh [] :: (rdH a rs.length 5 (rs.flatMap rcc)) :: allA recA rs :: (rdH b asks.length 3 (asks.flatMap askc)) :: allA askA asks :: L) w5 := hS7.addPure trivial
  clear hS7
  have hS9 := rf_shut (tH := 79) (tR := 95) (tP := 103) (g := g6) (S := []) (A := []) rfl (hS8.permT [2, 1] (L' := cel g6 [Value.slice none 0 0] 79 :: own none 0 0 95 3 [] :: allA (rhwA 103) [] :: hdA 126 131 103 gh [] :: (rdH a rs.length 5 (rs.flatMap rcc)) :: allA recA rs :: (rdH b asks.length 3 (asks.flatMap askc)) :: allA askA asks :: L) rfl)
  clear hS8
  obtain ⟨gr, hgr, hS10⟩ : ∃ qq, g6 = qq ∧ St B (rfA 79 95 103 qq [] :: hdA 126 131 103 gh [] :: (rdH a rs.length 5 (rs.flatMap rcc)) :: allA recA rs :: (rdH b asks.length 3 (asks.flatMap askc)) :: allA askA asks :: L) w5 := ⟨_, rfl, hS9⟩
  clear hS9
  refine WP.as (d := 15) (v := Value.pointer (some ⟨gr, 0, none⟩)) rfl (by rw [hgr]) ?_
  refine WP.as (d := 6) (v := Value.pointer (some ⟨gr, 0, none⟩)) rfl (by rw [hgr]) ?_
  refine WP.region rfl ?_
  refine WO.mv rfl rfl ?_
  refine WO.V (run_eqlNilP Tryz.underlying62 rfl rfl) ?_
  refine WO.nil (NX.go ?_)
  refine WP.condF rfl rfl ?_
  refine WP.skip (NX.go (WP.seq (WP.seq (WP.region rfl ?_))))
  refine WO.asg rfl rfl ?_
  refine WO.nil (NX.go (WP.block ?_))
  refine WP.loop (α := Nat × List RowP) (fun x => match x with | ⟨i, A⟩ => [(0, Value.slice a rs.length cap), (1, Value.slice b asks.length cap2), (5, Value.pointer (some ⟨gh, 0, none⟩)), (6, Value.pointer (some ⟨gr, 0, none⟩)), (7, Value.int .i64 (i : Int))]) (fun x w => match x with | ⟨i, A⟩ => (i ≤ rs.length ∧ i ≤ 50 ∧ WfH A (32 * i) ∧ A.length ≤ 256) ∧ St B (hdA 126 131 103 gh A :: rfA 79 95 103 gr A :: (rdH a rs.length 5 (rs.flatMap rcc)) :: allA recA rs :: (rdH b asks.length 3 (asks.flatMap askc)) :: allA askA asks :: L) w) (fun x => match x with | ⟨i, A⟩ => rs.length - i) (0, []) ⟨⟨Nat.zero_le _, Nat.zero_le _, wf_nil _, Nat.zero_le _⟩, (hS10.permT [1] (L' := hdA 126 131 103 gh [] :: rfA 79 95 103 gr [] :: (rdH a rs.length 5 (rs.flatMap rcc)) :: allA recA rs :: (rdH b asks.length 3 (asks.flatMap askc)) :: allA askA asks :: L) rfl)⟩ (Sub.cons rfl (Sub.cons rfl (Sub.cons rfl (Sub.cons rfl (Sub.consE rfl (by first | rfl | first | rfl | (congr 1; omega) | (simp; done) | (simp; omega)) (Sub.nil _)))))) ?_
  rintro ⟨i, A⟩ w11 ⟨⟨hi, hi5, hA, hAl⟩, hS11⟩
  clear hS10
  refine WP.seq (WP.seq (WP.region rfl ?_))
  refine WO.mv rfl rfl ?_
  refine WO.mv rfl rfl ?_
  refine WO.V (run_len rfl Tryz.underlying23 rfl) ?_
  refine WO.V (run_lss rfl rfl) ?_
  refine WO.mv rfl rfl ?_
  refine dcase (p := (i : Int) < ((rs.length : Nat) : Int)) (fun g22 d22 => ?_) (fun g22 d22 => ?_)
  ·
   refine WO.on rfl rfl d22 ?_
   refine WO.mv rfl rfl ?_
   refine WO.on rfl rfl d22 ?_
   refine WO.V (run_lss rfl rfl) ?_
   refine WO.V (run_pickT rfl d22 rfl) ?_
   refine WO.nil (NX.go ?_)
   refine WP.condP rfl (fun g25 => ?_) (fun g25 => ?_)
   ·
    refine WP.skip (NX.go (WP.seq (WP.block (WP.seq ?_))))
    obtain ⟨d1, hd1⟩ : ∃ qq, rs[i]? = some qq := ⟨_, List.getElem?_eq_getElem (by omega)⟩
    have hzd := hrz d1 (List.mem_of_getElem? hd1)
    have hS12 := allA_get recA_pers (List.mem_of_getElem? hd1) (hS11.permT [3] (L' := allA recA rs :: hdA 126 131 103 gh A :: rfA 79 95 103 gr A :: (rdH a rs.length 5 (rs.flatMap rcc)) :: (rdH b asks.length 3 (asks.flatMap askc)) :: allA askA asks :: L) rfl)
    clear hS11
    have hsa : a.isSome = true := rd_isSome ((rdH_rd (hS12.focus 4 rfl))) (by omega)
    refine WP.region rfl ?_
    refine WO.mv rfl rfl ?_
    refine WO.mv rfl rfl ?_
    refine WO.V (run_indexAddr (q := adr a (i * 5)) Tryz.underlying23 Ty.sz33 rfl rfl (by omega) (by omega) ((rdH_rd (hS12.focus 4 rfl)).2.1 (by omega)) rfl) ?_
    refine WO.V (run_loadAgg (vs := (rcc d1)) Ty.ag33 Ty.sz33 rfl ((rdH_rd (hS12.focus 4 rfl)).cells (by rw [flat_len rcc_len]; omega) (flat_part rcc_len hd1)).1 ((rdH_rd (hS12.focus 4 rfl)).cells (by rw [flat_len rcc_len]; omega) (flat_part rcc_len hd1)).2) ?_
    refine WO.call rfl rfl Ty.hd16 rfl (own12_spec d1 hzd hS12) (fun v14 w13 pv14 => ?_)
    obtain ⟨r1, rfl, hr1, hS13⟩ := pv14
    clear hS12
    refine WO.alloc (l := [Value.int .i64 0, Value.slice none 0 0, Value.slice none 0 0, Value.int .i64 0, Value.int .i64 0]) hS13 Ty.zr33 rfl rfl (fun g16 w15 lg16 hS15 => ?_)
    clear hS13
    refine WO.store (l' := (rcc r1)) 0 hS15 rfl Ty.sz33 rfl rfl rfl rfl rfl (Nat.le_of_ble_eq_true rfl) rfl (fun w17 (hS17 : St B (cel g16 (rcc r1) 33 :: recA r1 :: recA d1 :: allA recA rs :: hdA 126 131 103 gh A :: rfA 79 95 103 gr A :: (rdH a rs.length 5 (rs.flatMap rcc)) :: (rdH b asks.length 3 (asks.flatMap askc)) :: allA askA asks :: L) w17) => ?_)
    clear hS15
    refine WO.nil (NX.go (WP.seq (WP.seq ?_)))
    refine WD.start (fun w => (∀ jz, World.cell? w ⟨g16, jz, none⟩ = (rcc r1)[jz]?) ∧ Rd w a rs.length 5 (rs.flatMap rcc)) [] (bt 31 0) Ty.mo rfl (by kernel_rfl) hS17 (fun _ h => ⟨h.cel_at 0 rfl, (rdH_rd (h.focus 6 rfl))⟩) (fun w18 hS18 s19 => ?_)
    clear hS17
    refine DP (i := 0) t8_10 (bt 31 1) rfl rfl rfl rfl (fun w => run_move rfl) ?_
    refine DT (i := 1) t8_10 (bt 31 3) s19 rfl rfl rfl rfl (fun w hs => run_loadAgg (vs := (rcc r1)) Ty.ag33 Ty.sz33 rfl rfl (cell_all (hs.1) 0 rfl)) ?_
    refine DP (i := 3) t8_10 (bt 31 11) rfl rfl rfl rfl (fun w => run_move rfl) ?_
    refine DP (i := 4) t8_10 (bt 31 27) rfl rfl rfl rfl (fun w => run_move rfl) ?_
    refine DP (i := 5) t8_10 (bt 31 59) rfl rfl rfl rfl (fun w => run_move rfl) ?_
    refine DT (i := 6) t8_10 (bt 31 123) s19 rfl rfl rfl rfl (fun w hs => run_indexAddr (q := adr a (i * 5)) Tryz.underlying23 Ty.sz33 rfl rfl (by omega) (by omega) ((hs.2).2.1 (by omega)) rfl) ?_
    refine DT (i := 7) t8_10 (bt 31 251) s19 rfl rfl rfl rfl (fun w hs => run_loadAgg (vs := (rcc d1)) Ty.ag33 Ty.sz33 rfl ((hs.2).cells (by rw [flat_len rcc_len]; omega) (flat_part rcc_len hd1)).1 ((hs.2).cells (by rw [flat_len rcc_len]; omega) (flat_part rcc_len hd1)).2) ?_
    refine WD.one (i := 2) t8_10 (bt 31 255) rfl (by kernel_rfl) ?_
    have hS20 := hS18.permT [4, 1] (L' := hdA 126 131 103 gh A :: recA r1 :: cel g16 (rcc r1) 33 :: recA d1 :: allA recA rs :: rfA 79 95 103 gr A :: (rdH a rs.length 5 (rs.flatMap rcc)) :: (rdH b asks.length 3 (asks.flatMap askc)) :: allA askA asks :: L) rfl
    clear hS18
    refine WO.call rfl rfl Ty.hd37 rfl ((by have z := htryP_spec (g := gh) hA (by omega) (by omega) r1 (SzR.of_p hr1 hzd) hS20; rw [hr1] at z; exact z)) (fun v22 w21 pv22 => ?_)
    obtain ⟨rfl, hS21⟩ := pv22
    clear hS20
    refine WO.nil ?_
    have s23 : (∀ jz, World.cell? w21 ⟨g16, jz, none⟩ = (rcc r1)[jz]?) ∧ Rd w21 a rs.length 5 (rs.flatMap rcc) := ⟨hS21.cel_at 2 rfl, (rdH_rd (hS21.focus 6 rfl))⟩
    refine NX.held s23 ?_
    refine WD.one (i := 8) t8_10 (bt 31 511) rfl (by kernel_rfl) ?_
    have hS24 := hS21.permT [5, 3] (L' := rfA 79 95 103 gr A :: recA d1 :: hdA 126 131 103 gh A :: recA r1 :: cel g16 (rcc r1) 33 :: allA recA rs :: (rdH a rs.length 5 (rs.flatMap rcc)) :: (rdH b asks.length 3 (asks.flatMap askc)) :: allA askA asks :: L) rfl
    clear hS21
    refine WO.call rfl rfl Ty.hd38 rfl (rhtry_spec (g := gr) hA (by omega) (by omega) d1 hzd hS24) (fun v26 w25 pv26 => ?_)
    obtain ⟨rfl, hS25⟩ := pv26
    clear hS24
    refine WO.nil ?_
    have s27 : (∀ jz, World.cell? w25 ⟨g16, jz, none⟩ = (rcc r1)[jz]?) ∧ Rd w25 a rs.length 5 (rs.flatMap rcc) := ⟨hS25.cel_at 4 rfl, (rdH_rd (hS25.focus 6 rfl))⟩
    refine NX.held s27 ?_
    refine DP (i := 9) t8_10 (bt 31 1023) rfl rfl rfl rfl (fun w => run_neq rfl rfl) ?_
    refine DP (i := 10) t8_10 (bt 31 2047) rfl rfl rfl rfl (fun w => run_move rfl) ?_
    refine DPn (i := 11) t8_10 (bt 31 4095) rfl rfl rfl (decide_eq_false (fun h => h rfl)) rfl (fun w => run_move rfl) ?_
    refine DTn (i := 12) t8_10 (bt 31 8191) s27 rfl rfl rfl (decide_eq_false (fun h => h rfl)) rfl (fun w hs => run_loadAgg (vs := (rcc r1)) Ty.ag33 Ty.sz33 rfl rfl (cell_all (hs.1) 0 rfl)) ?_
    refine DPn (i := 14) t8_10 (bt 31 24575) rfl rfl rfl (decide_eq_false (fun h => h rfl)) rfl (fun w => run_move rfl) ?_
    refine DPn (i := 15) t8_10 (bt 31 57343) rfl rfl rfl (decide_eq_false (fun h => h rfl)) rfl (fun w => run_move rfl) ?_
    refine DPn (i := 16) t8_10 (bt 31 122879) rfl rfl rfl (decide_eq_false (fun h => h rfl)) rfl (fun w => run_move rfl) ?_
    refine DTn (i := 17) t8_10 (bt 31 253951) s27 rfl rfl rfl (decide_eq_false (fun h => h rfl)) rfl (fun w hs => run_indexAddr (q := adr a (i * 5)) Tryz.underlying23 Ty.sz33 rfl rfl (by omega) (by omega) ((hs.2).2.1 (by omega)) rfl) ?_
    refine DTn (i := 18) t8_10 (bt 31 516095) s27 rfl rfl rfl (decide_eq_false (fun h => h rfl)) rfl (fun w hs => run_loadAgg (vs := (rcc d1)) Ty.ag33 Ty.sz33 rfl ((hs.2).cells (by rw [flat_len rcc_len]; omega) (flat_part rcc_len hd1)).1 ((hs.2).cells (by rw [flat_len rcc_len]; omega) (flat_part rcc_len hd1)).2) ?_
    refine WD.one (i := 13) t8_10 (bt 31 524287) rfl (by kernel_rfl) ?_
    refine WO.on rfl rfl (decide_eq_false (fun h => h rfl)) ?_
    have hS28 := hS25.permT [2, 2] (L' := hdA 126 131 103 gh A :: recA r1 :: rfA 79 95 103 gr A :: recA d1 :: cel g16 (rcc r1) 33 :: allA recA rs :: (rdH a rs.length 5 (rs.flatMap rcc)) :: (rdH b asks.length 3 (asks.flatMap askc)) :: allA askA asks :: L) rfl
    clear hS25
    refine WO.call rfl rfl Ty.hd32 rfl ((by have z := happlyP_spec (g := gh) hA (by omega) (by omega) r1 (SzR.of_p hr1 hzd) hS28; rw [hr1] at z; exact z)) (fun v30 w29 pv30 => ?_)
    obtain ⟨rfl, hS29⟩ := pv30
    clear hS28
    refine WO.nil ?_
    have s31 : (∀ jz, World.cell? w29 ⟨g16, jz, none⟩ = (rcc r1)[jz]?) ∧ Rd w29 a rs.length 5 (rs.flatMap rcc) := ⟨hS29.cel_at 4 rfl, (rdH_rd (hS29.focus 6 rfl))⟩
    refine NX.held s31 ?_
    refine WD.one (i := 19) t8_10 (bt 31 1048575) rfl (by kernel_rfl) ?_
    refine WO.on rfl rfl (decide_eq_false (fun h => h rfl)) ?_
    have hS32 := hS29.permT [2, 2] (L' := rfA 79 95 103 gr A :: recA d1 :: hdA 126 131 103 gh (applyP A d1.p) :: recA r1 :: cel g16 (rcc r1) 33 :: allA recA rs :: (rdH a rs.length 5 (rs.flatMap rcc)) :: (rdH b asks.length 3 (asks.flatMap askc)) :: allA askA asks :: L) rfl
    clear hS29
    refine WO.call rfl rfl Ty.hd39 rfl (rhapply_spec (g := gr) hA (by omega) (by omega) d1 hzd hS32) (fun v34 w33 pv34 => ?_)
    obtain ⟨rfl, hS33⟩ := pv34
    clear hS32
    refine WO.nil ?_
    have s35 : (∀ jz, World.cell? w33 ⟨g16, jz, none⟩ = (rcc r1)[jz]?) ∧ Rd w33 a rs.length 5 (rs.flatMap rcc) := ⟨hS33.cel_at 4 rfl, (rdH_rd (hS33.focus 6 rfl))⟩
    refine NX.held s35 ?_
    refine DPn (i := 20) t8_10 (bt 31 2097151) rfl rfl rfl (decide_eq_false (fun h => h rfl)) rfl (fun w => run_neq rfl rfl) ?_
    refine DP (i := 21) t8_10 (bt 31 4194303) rfl rfl rfl rfl (fun w => run_pickF rfl (decide_eq_false (fun h => h rfl)) rfl) ?_
    refine DP (i := 22) t8_10 (bt 31 8388607) rfl rfl rfl rfl (fun w => run_move rfl) ?_
    refine DTn (i := 23) t8_10 (bt 31 16777215) s35 rfl rfl rfl (decide_eq_false (fun h => h rfl)) rfl (fun w hs => run_loadAgg (vs := (rcc r1)) Ty.ag33 Ty.sz33 rfl rfl (cell_all (hs.1) 0 rfl)) ?_
    refine DPn (i := 24) t8_10 (bt 31 33554431) rfl rfl rfl (decide_eq_false (fun h => h rfl)) rfl (fun w => run_move rfl) ?_
    refine DPn (i := 25) t8_10 (bt 31 67108863) rfl rfl rfl (decide_eq_false (fun h => h rfl)) rfl (fun w => run_move rfl) ?_
    refine DTn (i := 26) t8_10 (bt 31 134217727) s35 rfl rfl rfl (decide_eq_false (fun h => h rfl)) rfl (fun w hs => run_indexAddr (q := adr a (i * 5)) Tryz.underlying23 Ty.sz33 rfl rfl (by omega) (by omega) ((hs.2).2.1 (by omega)) rfl) ?_
    refine DTn (i := 27) t8_10 (bt 31 268435455) s35 rfl rfl rfl (decide_eq_false (fun h => h rfl)) rfl (fun w hs => run_loadAgg (vs := (rcc d1)) Ty.ag33 Ty.sz33 rfl ((hs.2).cells (by rw [flat_len rcc_len]; omega) (flat_part rcc_len hd1)).1 ((hs.2).cells (by rw [flat_len rcc_len]; omega) (flat_part rcc_len hd1)).2) ?_
    refine WD.one (i := 28) t8_10 (bt 31 536870911) rfl (by kernel_rfl) ?_
    refine WO.on rfl rfl (decide_eq_false (fun h => h rfl)) ?_
    have hS36 := hS33.permT [3, 1] (L' := recA r1 :: recA d1 :: rfA 79 95 103 gr (applyP A d1.p) :: hdA 126 131 103 gh (applyP A d1.p) :: cel g16 (rcc r1) 33 :: allA recA rs :: (rdH a rs.length 5 (rs.flatMap rcc)) :: (rdH b asks.length 3 (asks.flatMap askc)) :: allA askA asks :: L) rfl
    clear hS33
    refine WO.call rfl rfl Ty.hd40 rfl (r12same_spec r1 d1 (SzR.of_p hr1 hzd) hzd hS36) (fun v38 w37 pv38 => ?_)
    obtain ⟨qb, rfl, hqb, hS37⟩ := pv38
    clear hS36
    refine WO.nil ?_
    have s39 : (∀ jz, World.cell? w37 ⟨g16, jz, none⟩ = (rcc r1)[jz]?) ∧ Rd w37 a rs.length 5 (rs.flatMap rcc) := ⟨hS37.cel_at 4 rfl, (rdH_rd (hS37.focus 6 rfl))⟩
    refine NX.held s39 ?_
    refine DPn (i := 29) t8_10 (bt 31 1073741823) rfl rfl rfl (decide_eq_false (fun h => h rfl)) rfl (fun w => run_not rfl rfl) ?_
    refine DP (i := 30) t8_10 (bt 31 2147483647) rfl rfl rfl rfl (fun w => run_pickF rfl (decide_eq_false (fun h => h rfl)) rfl) ?_
    refine WD.done t8_10 (by kernel_rfl) ?_
    refine NX.go ?_
    refine WP.condB rfl (fun g63 => ?_) (fun g63 => ?_)
    ·
     exact absurd (hqb.2 hr1) (by simpa using g63)
    ·
     refine WP.skip (NX.go (WP.seq ?_))
     have hA1 : WfH (applyP A d1.p) (32 * i + 32) := wf_applyP hA
     have hAl1 : (applyP A d1.p).length ≤ 256 := applyP_len hAl
     refine WP.region rfl ?_
     refine WO.asg rfl rfl ?_
     refine WO.nil (NX.go (WP.seq (WP.seq (WP.region rfl ?_))))
     refine WO.mv rfl rfl ?_
     refine WO.mv rfl rfl ?_
     refine WO.V (run_indexAddr (q := adr a (i * 5)) Tryz.underlying23 Ty.sz33 rfl rfl (by omega) (by omega) ((rdH_rd (hS37.focus 6 rfl)).2.1 (by omega)) rfl) ?_
     refine WO.V (run_fa 1 (adr a (i * 5 + 1)) rfl (adr_add _ (by assumption) _ _)) ?_
     refine WO.V (run_load Ty.ag31 rfl ((rdH_rd (hS37.focus 6 rfl)).cell ((flat_get rcc_len hd1 (j := 1) (by decide)).trans rfl))) ?_
     refine WO.V (run_len rfl Tryz.underlying31 rfl) ?_
     refine WO.V (run_gtr rfl rfl) ?_
     refine WO.nil (NX.go ?_)
     refine WP.meet (α := SlV Pr) (fun x => match x with | pl => [(0, Value.slice a rs.length cap), (1, Value.slice b asks.length cap2), (5, Value.pointer (some ⟨gh, 0, none⟩)), (6, Value.pointer (some ⟨gr, 0, none⟩)), (7, Value.int .i64 (i : Int)), (9, Value.slice pl.a pl.l.length pl.cap)]) (fun x w => match x with | pl => (SzP pl.l ∧ pl.l.length ≤ 4398046511104) ∧ St B (hdA 126 131 103 gh (applyP A d1.p) :: rfA 79 95 103 gr (applyP A d1.p) :: (labA pl) :: (rdH a rs.length 5 (rs.flatMap rcc)) :: allA recA rs :: (rdH b asks.length 3 (asks.flatMap askc)) :: allA askA asks :: L) w) ?_ (fun K40 => ?_)
     ·
      rintro pl w41 ⟨⟨hpz, hpn⟩, hS41⟩
      clear hS37
      refine NX.go (WP.seq (WP.region rfl ?_))
      refine WO.V (run_build (v := Value.agg #[Value.slice none 0 0, Value.int .i64 (-9223372036854775808), Value.int .i64 9223372036854775807]) rfl (fun w => by kernel_rfl)) ?_
      refine WO.alloc (l := [Value.slice none 0 0, Value.int .i64 0, Value.int .i64 0]) hS41 Ty.zr26 rfl rfl (fun g44 w42 lg44 hS42 => ?_)
      clear hS41
      refine WO.store (l' := [Value.slice none 0 0, Value.int .i64 (-9223372036854775808), Value.int .i64 9223372036854775807]) 0 hS42 rfl Ty.sz26 rfl rfl rfl rfl rfl (Nat.le_of_ble_eq_true rfl) rfl (fun w45 (hS45 : St B (cel g44 [Value.slice none 0 0, Value.int .i64 (-9223372036854775808), Value.int .i64 9223372036854775807] 26 :: hdA 126 131 103 gh (applyP A d1.p) :: rfA 79 95 103 gr (applyP A d1.p) :: (labA pl) :: (rdH a rs.length 5 (rs.flatMap rcc)) :: allA recA rs :: (rdH b asks.length 3 (asks.flatMap askc)) :: allA askA asks :: L) w45) => ?_)
      clear hS42
      refine WO.nil (NX.go (WP.seq (WP.seq (WP.region rfl ?_))))
      refine WO.mv rfl rfl ?_
      refine WO.mv rfl rfl ?_
      refine WO.V (run_len rfl Tryz.underlying75 rfl) ?_
      refine WO.V (run_lss rfl rfl) ?_
      refine WO.nil (NX.go ?_)
      refine WP.meet (α := AskV) (fun x => match x with | q => [(0, Value.slice a rs.length cap), (1, Value.slice b asks.length cap2), (5, Value.pointer (some ⟨gh, 0, none⟩)), (6, Value.pointer (some ⟨gr, 0, none⟩)), (7, Value.int .i64 (i : Int)), (9, Value.slice pl.a pl.l.length pl.cap), (10, Value.pointer (some ⟨g44, 0, none⟩))]) (fun x w => match x with | q => (SzM q.ms.l ∧ q.ms.l.length ≤ 5864062014805) ∧ St B (hdA 126 131 103 gh (applyP A d1.p) :: rfA 79 95 103 gr (applyP A d1.p) :: cel g44 [Value.slice q.ms.a q.ms.l.length q.ms.cap, Value.int .i64 q.fr, Value.int .i64 q.to] 26 :: (rdH q.ms.a q.ms.l.length 3 (q.ms.l.flatMap mtc)) :: (labA pl) :: (rdH a rs.length 5 (rs.flatMap rcc)) :: allA recA rs :: (rdH b asks.length 3 (asks.flatMap askc)) :: allA askA asks :: L) w) ?_ (fun K46 => ?_)
      ·
       rintro q w47 ⟨⟨hqz1, hqn1⟩, hS47⟩
       clear hS45
       refine NX.go (WP.seq (WP.region rfl ?_))
       refine WO.V (run_fa 0 ⟨g44, 0, none⟩ rfl rfl) ?_
       refine WO.V (run_load Ty.ag24 rfl ((hS47.cel_at 2 rfl 0).trans rfl)) ?_
       refine WO.V (run_len rfl Tryz.underlying24 rfl) ?_
       refine WO.V (run_gtr rfl rfl) ?_
       refine WO.mv rfl rfl ?_
       refine dcase (p := 50 < ((q.ms.l.length : Nat) : Int)) (fun g92 d92 => ?_) (fun g92 d92 => ?_)
       ·
        refine WO.off rfl rfl d92 rfl ?_
        refine WO.off rfl rfl d92 rfl ?_
        refine WO.off rfl rfl d92 rfl ?_
        refine WO.off rfl rfl d92 rfl ?_
        refine WO.off rfl rfl d92 rfl ?_
        refine WO.off rfl rfl d92 rfl ?_
        refine WO.V (run_pickT rfl d92 rfl) ?_
        refine WO.nil (NX.go ?_)
        refine WP.condT rfl rfl ?_
        refine WP.seq (WP.region rfl ?_)
        refine WO.V (run_fa 0 ⟨g44, 0, none⟩ rfl rfl) ?_
        refine WO.V (run_load Ty.ag24 rfl ((hS47.cel_at 2 rfl 0).trans rfl)) ?_
        refine WO.V (run_len rfl Tryz.underlying24 rfl) ?_
        refine WO.V (run_gtr rfl rfl) ?_
        refine WO.asg rfl rfl ?_
        refine WO.nil (NX.go (WP.ret (NX.blkRet (NX.thenRet (NX.thenRet (NX.blkRet (NX.thenRet ?_)))))))
        refine NX.done (l := [.tmp 4]) rfl rfl ?_
        exact ⟨congrArg Value.bool (decide_eq_true g92), hS47.drop.drop.drop.drop.drop.drop.drop.drop.drop⟩
       ·
        refine WO.on rfl rfl d92 ?_
        refine WO.mv rfl rfl ?_
        refine WO.on rfl rfl d92 ?_
        refine WO.mv rfl rfl ?_
        refine WO.on rfl rfl d92 ?_
        refine WO.V (run_loadAgg (vs := [Value.slice q.ms.a q.ms.l.length q.ms.cap, Value.int .i64 q.fr, Value.int .i64 q.to]) Ty.ag26 Ty.sz26 rfl rfl (cell_all (hS47.cel_at 2 rfl) 0 rfl)) ?_
        refine WO.on rfl rfl d92 ?_
        refine WO.mv rfl rfl ?_
        refine WO.on rfl rfl d92 ?_
        have hS48 := hS47.permT [0, 0, 1, 1] (L' := hdA 126 131 103 gh (applyP A d1.p) :: rfA 79 95 103 gr (applyP A d1.p) :: (rdH q.ms.a q.ms.l.length 3 (q.ms.l.flatMap mtc)) :: (labA pl) :: cel g44 [Value.slice q.ms.a q.ms.l.length q.ms.cap, Value.int .i64 q.fr, Value.int .i64 q.to] 26 :: (rdH a rs.length 5 (rs.flatMap rcc)) :: allA recA rs :: (rdH b asks.length 3 (asks.flatMap askc)) :: allA askA asks :: L) rfl
        clear hS47
        refine WO.call rfl rfl Ty.hd41 rfl (hsame_spec (Y := labA pl) (gh := gh) (gr := gr) rdH_rd hA1 (by omega) hAl1 q hqz1 (by omega) hpz hpn hS48) (fun v50 w49 pv50 => ?_)
        obtain ⟨rfl, hS49⟩ := pv50
        clear hS48
        refine WO.on rfl rfl d92 ?_
        refine WO.V (run_not rfl rfl) ?_
        refine WO.V (run_pickF rfl d92 rfl) ?_
        refine WO.nil (NX.go ?_)
        refine WP.condF rfl (notB_t rfl) ?_
        refine WP.skip (NX.blk (NX.go (WP.region rfl ?_)))
        refine WO.mv rfl rfl ?_
        refine WO.V (run_add rfl rfl (IntWalk.i64_in _ (by omega))) ?_
        refine WO.asg rfl rfl ?_
        refine WO.nil ?_
        exact NX.again (i + 1, applyP A d1.p) ⟨⟨by omega, by omega, wf_applyP hA, applyP_len hAl⟩, (hS49.mask [true, true, false, false, false] (L' := hdA 126 131 103 gh (applyP A d1.p) :: rfA 79 95 103 gr (applyP A d1.p) :: (rdH a rs.length 5 (rs.flatMap rcc)) :: allA recA rs :: (rdH b asks.length 3 (asks.flatMap askc)) :: allA askA asks :: L) rfl)⟩ (by show rs.length - (i + 1) < rs.length - i; omega) (Sub.cons rfl (Sub.cons rfl (Sub.cons rfl (Sub.cons rfl (Sub.consE rfl (by congr 1) (Sub.nil _))))))
      ·
       refine WP.condP rfl (fun g83 => ?_) (fun g83 => ?_)
       ·
        obtain ⟨q1, hq1⟩ : ∃ qq, asks[i]? = some qq := ⟨_, List.getElem?_eq_getElem (by omega)⟩
        have hS51 := allA_get askA_pers (List.mem_of_getElem? hq1) (hS45.permT [7] (L' := allA askA asks :: cel g44 [Value.slice none 0 0, Value.int .i64 (-9223372036854775808), Value.int .i64 9223372036854775807] 26 :: hdA 126 131 103 gh (applyP A d1.p) :: rfA 79 95 103 gr (applyP A d1.p) :: (labA pl) :: (rdH a rs.length 5 (rs.flatMap rcc)) :: allA recA rs :: (rdH b asks.length 3 (asks.flatMap askc)) :: L) rfl)
        clear hS45
        have hsb : b.isSome = true := rd_isSome ((rdH_rd (hS51.focus 8 rfl))) (by omega)
        refine WP.region rfl ?_
        refine WO.mv rfl rfl ?_
        refine WO.mv rfl rfl ?_
        refine WO.V (run_indexAddr (q := adr b (i * 3)) Tryz.underlying75 Ty.sz26 rfl rfl (by omega) (by omega) ((rdH_rd (hS51.focus 8 rfl)).2.1 (by omega)) rfl) ?_
        refine WO.V (run_loadAgg (vs := [Value.slice q1.ms.a q1.ms.l.length q1.ms.cap, Value.int .i64 q1.fr, Value.int .i64 q1.to]) Ty.ag26 Ty.sz26 rfl ((rdH_rd (hS51.focus 8 rfl)).cells (by rw [flat_len askc_len]; omega) (flat_part askc_len hq1)).1 ((rdH_rd (hS51.focus 8 rfl)).cells (by rw [flat_len askc_len]; omega) (flat_part askc_len hq1)).2) ?_
        refine WO.store (l' := [Value.slice q1.ms.a q1.ms.l.length q1.ms.cap, Value.int .i64 q1.fr, Value.int .i64 q1.to]) 2 hS51 rfl Ty.sz26 rfl rfl rfl rfl rfl (Nat.le_of_ble_eq_true rfl) rfl (fun w52 (hS52 : St B ((rdH q1.ms.a q1.ms.l.length 3 (q1.ms.l.flatMap mtc)) :: allA askA asks :: cel g44 [Value.slice q1.ms.a q1.ms.l.length q1.ms.cap, Value.int .i64 q1.fr, Value.int .i64 q1.to] 26 :: hdA 126 131 103 gh (applyP A d1.p) :: rfA 79 95 103 gr (applyP A d1.p) :: (labA pl) :: (rdH a rs.length 5 (rs.flatMap rcc)) :: allA recA rs :: (rdH b asks.length 3 (asks.flatMap askc)) :: L) w52) => ?_)
        clear hS51
        refine WO.nil ?_
        exact K46 q1 _ _ ⟨⟨hqz q1 (List.mem_of_getElem? hq1), hqn q1 (List.mem_of_getElem? hq1)⟩, (hS52.permT [3, 3, 2, 0, 1, 1, 1, 1] (L' := hdA 126 131 103 gh (applyP A d1.p) :: rfA 79 95 103 gr (applyP A d1.p) :: cel g44 [Value.slice q1.ms.a q1.ms.l.length q1.ms.cap, Value.int .i64 q1.fr, Value.int .i64 q1.to] 26 :: (rdH q1.ms.a q1.ms.l.length 3 (q1.ms.l.flatMap mtc)) :: (labA pl) :: (rdH a rs.length 5 (rs.flatMap rcc)) :: allA recA rs :: (rdH b asks.length 3 (asks.flatMap askc)) :: allA askA asks :: L) rfl)⟩ (Sub.cons rfl (Sub.cons rfl (Sub.cons rfl (Sub.cons rfl (Sub.cons rfl (Sub.cons rfl (Sub.cons rfl (Sub.nil _))))))))
       ·
        refine WP.skip ?_
        have hnq := (rdH_zero (a := none) (k := 3) (l := []) rfl hS45 : St B (rdH none 0 3 [] :: cel g44 [Value.slice none 0 0, Value.int .i64 (-9223372036854775808), Value.int .i64 9223372036854775807] 26 :: hdA 126 131 103 gh (applyP A d1.p) :: rfA 79 95 103 gr (applyP A d1.p) :: (labA pl) :: (rdH a rs.length 5 (rs.flatMap rcc)) :: allA recA rs :: (rdH b asks.length 3 (asks.flatMap askc)) :: allA askA asks :: L) w45)
        clear hS45
        exact K46 (⟨⟨none, [], 0⟩, -9223372036854775808, 9223372036854775807⟩ : AskV) _ _ ⟨⟨(fun p h => by cases h), Nat.zero_le _⟩, (hnq.permT [2, 2, 1] (L' := hdA 126 131 103 gh (applyP A d1.p) :: rfA 79 95 103 gr (applyP A d1.p) :: cel g44 [Value.slice none 0 0, Value.int .i64 (-9223372036854775808), Value.int .i64 9223372036854775807] 26 :: (rdH none 0 3 []) :: (labA pl) :: (rdH a rs.length 5 (rs.flatMap rcc)) :: allA recA rs :: (rdH b asks.length 3 (asks.flatMap askc)) :: allA askA asks :: L) rfl)⟩ (Sub.cons rfl (Sub.cons rfl (Sub.cons rfl (Sub.cons rfl (Sub.cons rfl (Sub.cons rfl (Sub.cons rfl (Sub.nil _))))))))
     ·
      refine WP.condP rfl (fun g70 => ?_) (fun g70 => ?_)
      ·
       have hS53 := recA_open (hS37.permT [1] (L' := recA d1 :: recA r1 :: rfA 79 95 103 gr (applyP A d1.p) :: hdA 126 131 103 gh (applyP A d1.p) :: cel g16 (rcc r1) 33 :: allA recA rs :: (rdH a rs.length 5 (rs.flatMap rcc)) :: (rdH b asks.length 3 (asks.flatMap askc)) :: allA askA asks :: L) rfl)
       clear hS37
       obtain ⟨z1, hz1⟩ : ∃ qq, d1.ss.l[0]? = some qq := ⟨_, List.getElem?_eq_getElem (by omega)⟩
       have hzz := hzd.s z1 (List.mem_of_getElem? hz1)
       have hS54 := smsA_get hz1 (hS53.permT [2] (L' := smsA d1.ss.l :: (rdH d1.ss.a d1.ss.l.length 3 (d1.ss.l.flatMap smc)) :: (rdH d1.ms.a d1.ms.l.length 3 (d1.ms.l.flatMap mtc)) :: recA d1 :: recA r1 :: rfA 79 95 103 gr (applyP A d1.p) :: hdA 126 131 103 gh (applyP A d1.p) :: cel g16 (rcc r1) 33 :: allA recA rs :: (rdH a rs.length 5 (rs.flatMap rcc)) :: (rdH b asks.length 3 (asks.flatMap askc)) :: allA askA asks :: L) rfl)
       clear hS53
       have hss1 : d1.ss.a.isSome = true := rd_isSome ((rdH_rd (hS54.focus 2 rfl))) (by omega)
       have hns9 := hzd.ns
       refine WP.region rfl ?_
       refine WO.mv rfl rfl ?_
       refine WO.mv rfl rfl ?_
       refine WO.V (run_indexAddr (q := adr a (i * 5)) Tryz.underlying23 Ty.sz33 rfl rfl (by omega) (by omega) ((rdH_rd (hS54.focus 10 rfl)).2.1 (by omega)) rfl) ?_
       refine WO.V (run_fa 1 (adr a (i * 5 + 1)) rfl (adr_add _ (by assumption) _ _)) ?_
       refine WO.V (run_load Ty.ag31 rfl ((rdH_rd (hS54.focus 10 rfl)).cell ((flat_get rcc_len hd1 (j := 1) (by decide)).trans rfl))) ?_
       refine WO.V (run_indexAddr (q := adr d1.ss.a (0 * 3)) Tryz.underlying31 Ty.sz83 rfl rfl (by omega) (by omega) ((rdH_rd (hS54.focus 2 rfl)).2.1 (by omega)) rfl) ?_
       refine WO.V (run_fa 0 (adr d1.ss.a (0 * 3 + 0)) rfl (adr_add _ (by assumption) _ _)) ?_
       refine WO.V (run_load Ty.ag65 rfl ((rdH_rd (hS54.focus 2 rfl)).cell ((flat_get smc_len hz1 (j := 0) (by decide)).trans rfl))) ?_
       refine WO.asg rfl rfl ?_
       refine WO.nil ?_
       exact K40 z1.lb _ _ ⟨⟨hzz.2, hzz.1⟩, ((hS54.mask [true, false, false, false, false, false, true, true, false] (L' := (labA z1.lb) :: rfA 79 95 103 gr (applyP A d1.p) :: hdA 126 131 103 gh (applyP A d1.p) :: allA recA rs :: (rdH a rs.length 5 (rs.flatMap rcc)) :: (rdH b asks.length 3 (asks.flatMap askc)) :: allA askA asks :: L) rfl).permT [2, 1, 0, 1] (L' := hdA 126 131 103 gh (applyP A d1.p) :: rfA 79 95 103 gr (applyP A d1.p) :: (labA z1.lb) :: (rdH a rs.length 5 (rs.flatMap rcc)) :: allA recA rs :: (rdH b asks.length 3 (asks.flatMap askc)) :: allA askA asks :: L) rfl)⟩ (Sub.cons rfl (Sub.cons rfl (Sub.cons rfl (Sub.cons rfl (Sub.cons rfl (Sub.consE rfl (by first | rfl | first | rfl | (congr 1; omega) | (simp; done) | (simp; omega)) (Sub.nil _)))))))
      ·
       refine WP.skip ?_
       have hnl := (rdH_zero (a := none) (k := 2) (l := []) rfl hS37 : St B (labA ⟨none, [], 0⟩ :: recA r1 :: recA d1 :: rfA 79 95 103 gr (applyP A d1.p) :: hdA 126 131 103 gh (applyP A d1.p) :: cel g16 (rcc r1) 33 :: allA recA rs :: (rdH a rs.length 5 (rs.flatMap rcc)) :: (rdH b asks.length 3 (asks.flatMap askc)) :: allA askA asks :: L) w37)
       clear hS37
       exact K40 (⟨none, [], 0⟩ : SlV Pr) _ _ ⟨⟨(fun p h => by cases h), Nat.zero_le _⟩, ((hnl.mask [true, false, false, true, true, false] (L' := (labA ⟨none, [], 0⟩) :: rfA 79 95 103 gr (applyP A d1.p) :: hdA 126 131 103 gh (applyP A d1.p) :: allA recA rs :: (rdH a rs.length 5 (rs.flatMap rcc)) :: (rdH b asks.length 3 (asks.flatMap askc)) :: allA askA asks :: L) rfl).permT [2, 1, 0, 1] (L' := hdA 126 131 103 gh (applyP A d1.p) :: rfA 79 95 103 gr (applyP A d1.p) :: (labA ⟨none, [], 0⟩) :: (rdH a rs.length 5 (rs.flatMap rcc)) :: allA recA rs :: (rdH b asks.length 3 (asks.flatMap askc)) :: allA askA asks :: L) rfl)⟩ (Sub.cons rfl (Sub.cons rfl (Sub.cons rfl (Sub.cons rfl (Sub.cons rfl (Sub.consE rfl (by first | rfl | first | rfl | (congr 1; omega) | (simp; done) | (simp; omega)) (Sub.nil _)))))))
   ·
    refine WP.exit (NX.thenExit (NX.thenExit ?_))
    refine NX.blkExit ?_
    refine NX.go (WP.seq (WP.region rfl ?_))
    refine WO.asg rfl rfl ?_
    refine WO.nil (NX.go (WP.ret ?_))
    refine NX.done (l := [.tmp 4]) rfl rfl ?_
    exact ⟨rfl, hS11.drop.drop.drop.drop.drop.drop⟩
  ·
   refine WO.off rfl rfl d22 rfl ?_
   refine WO.off rfl rfl d22 rfl ?_
   refine WO.V (run_pickF rfl d22 rfl) ?_
   refine WO.nil (NX.go ?_)
   refine WP.condF rfl rfl ?_
   refine WP.exit (NX.thenExit (NX.thenExit ?_))
   refine NX.blkExit ?_
   refine NX.go (WP.seq (WP.region rfl ?_))
   refine WO.asg rfl rfl ?_
   refine WO.nil (NX.go (WP.ret ?_))
   refine NX.done (l := [.tmp 4]) rfl rfl ?_
   exact ⟨rfl, hS11.drop.drop.drop.drop.drop.drop⟩
end Go.Proofs.YtidoidoelgfnaaaGreatDoor.SL
