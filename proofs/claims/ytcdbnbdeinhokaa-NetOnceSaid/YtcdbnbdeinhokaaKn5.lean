/- Laws of layer 20: a net works; what is spoilt. -/
import Derived.Test.YtcdbnbdeinhokaaKn4
namespace Go.Proofs.Ytcdbnbdeinhokaa.SL
open Go.RowKit Go.Proofs.Ytcdbnbdeinhokaa
open Go.Proofs.YtcdbnbdeinhokaaW.PrintLast (rtab opsOf)
set_option linter.unusedVariables false
set_option linter.unusedSimpArgs false
theorem works_spec {B w : World} {L : List HP} (hS : St B L w) : Does Try.prog 7 [] w (fun v w1 => v = .bool true ∧ St B L w1) := by
 refine enter (n := 75) Try.func7 rfl rfl [] rfl ?_
 refine WP.seq ?_
 refine WP.region rfl ?_
 refine WO.val (run_assign rfl) rfl rfl rfl ?_
 refine WO.nil ?_
 refine NX.go ?_
 refine WP.seq ?_
 refine WP.region rfl ?_
 refine WO.call rfl rfl Ty.hd8 rfl (new_spec hS) (fun v2 w1 pv2 => ?_)
 obtain ⟨gn, rfl, hS1⟩ := pv2
 clear hS
 refine WO.val (run_assign rfl) rfl rfl rfl ?_
 refine WO.nil ?_
 refine NX.go ?_
 refine WP.seq ?_
 refine WP.seq ?_
 refine WP.region rfl ?_
 refine WO.val (run_move rfl) rfl rfl rfl ?_
 refine WO.val (run_eqlNilP Try.underlying25 rfl rfl) rfl rfl rfl ?_
 refine WO.nil ?_
 refine NX.go ?_
 refine WP.condF rfl rfl ?_
 refine WP.skip ?_
 refine NX.go ?_
 refine WP.seq ?_
 refine WP.region rfl ?_
 refine WO.val (run_move rfl) rfl rfl rfl ?_
 refine WO.call rfl rfl Ty.hd9 rfl (send_spec hS1 1 [97] (by omega)) (fun v4 w3 pv4 => ?_)
 obtain ⟨hv, hS3⟩ := pv4
 clear hS1
 replace hv : v4 = Value.bool true := hv
 subst hv
 replace hS3 : St B ((netP gn [⟨1, [97], false⟩] 0) :: L) w3 := hS3
 refine WO.nil ?_
 refine NX.go ?_
 refine WP.seq ?_
 refine WP.region rfl ?_
 refine WO.val (run_move rfl) rfl rfl rfl ?_
 refine WO.call rfl rfl Ty.hd9 rfl (send_spec hS3 1 [98] (by omega)) (fun v6 w5 pv6 => ?_)
 obtain ⟨hv, hS5⟩ := pv6
 clear hS3
 replace hv : v6 = Value.bool true := hv
 subst hv
 replace hS5 : St B ((netP gn [⟨1, [97], false⟩, ⟨1, [98], false⟩] 0) :: L) w5 := hS5
 refine WO.nil ?_
 refine NX.go ?_
 refine WP.seq ?_
 refine WP.region rfl ?_
 refine WO.val (run_move rfl) rfl rfl rfl ?_
 refine WO.call rfl rfl Ty.hd9 rfl (send_spec hS5 1 [99] (by omega)) (fun v8 w7 pv8 => ?_)
 obtain ⟨hv, hS7⟩ := pv8
 clear hS5
 replace hv : v8 = Value.bool true := hv
 subst hv
 replace hS7 : St B ((netP gn [⟨1, [97], false⟩, ⟨1, [98], false⟩, ⟨1, [99], false⟩] 0) :: L) w7 := hS7
 refine WO.nil ?_
 refine NX.go ?_
 refine WP.seq ?_
 refine WP.region rfl ?_
 refine WO.val (run_move rfl) rfl rfl rfl ?_
 refine WO.call rfl rfl Ty.hd10 rfl (take_spec hS7 0) (fun v10 w9 pv10 => ?_)
 obtain ⟨hv, hS9⟩ := pv10
 clear hS7
 replace hv : v10 = Value.tuple #[Value.int .i64 1, str [97], Value.int .i64 0] := hv
 subst hv
 replace hS9 : St B ((netP gn [⟨1, [99], false⟩, ⟨1, [98], false⟩] 0) :: L) w9 := hS9
 refine WO.val (run_move rfl) rfl rfl rfl ?_
 refine WO.val (run_extract rfl rfl) rfl rfl rfl ?_
 refine WO.val (run_extract rfl rfl) rfl rfl rfl ?_
 refine WO.val (run_extract rfl rfl) rfl rfl rfl ?_
 refine WO.val (run_assign rfl) rfl rfl rfl ?_
 refine WO.val (run_assign rfl) rfl rfl rfl ?_
 refine WO.val (run_assign rfl) rfl rfl rfl ?_
 refine WO.nil ?_
 refine NX.go ?_
 refine WP.seq ?_
 refine WP.region rfl ?_
 refine WO.val (run_move rfl) rfl rfl rfl ?_
 refine WO.call rfl rfl Ty.hd15 rfl (at_spec hS9 0) (fun v12 w11 pv12 => ?_)
 obtain ⟨hv, hS11⟩ := pv12
 clear hS9
 replace hv : v12 = Value.tuple #[Value.int .i64 1, str [99], Value.int .i64 0] := hv
 subst hv
 replace hS11 : St B ((netP gn [⟨1, [99], false⟩, ⟨1, [98], false⟩] 0) :: L) w11 := hS11
 refine WO.val (run_move rfl) rfl rfl rfl ?_
 refine WO.val (run_extract rfl rfl) rfl rfl rfl ?_
 refine WO.val (run_extract rfl rfl) rfl rfl rfl ?_
 refine WO.val (run_extract rfl rfl) rfl rfl rfl ?_
 refine WO.val (run_assign rfl) rfl rfl rfl ?_
 refine WO.val (run_assign rfl) rfl rfl rfl ?_
 refine WO.val (run_assign rfl) rfl rfl rfl ?_
 refine WO.nil ?_
 refine NX.go ?_
 refine WP.seq ?_
 refine WP.region rfl ?_
 refine WO.val (run_move rfl) rfl rfl rfl ?_
 refine WO.call rfl rfl Ty.hd14 rfl (spoil_spec hS11 0 0 1 (by simp)) (fun v14 w13 pv14 => ?_)
 obtain ⟨hv, hS13⟩ := pv14
 clear hS11
 replace hv : v14 = Value.int .i64 0 := hv
 subst hv
 replace hS13 : St B ((netP gn [⟨1, [98], true⟩, ⟨1, [98], false⟩] 0) :: L) w13 := hS13
 refine WO.val (run_move rfl) rfl rfl rfl ?_
 refine WO.call rfl rfl Ty.hd14 rfl (spoil_spec hS13 0 0 1 (by simp)) (fun v16 w15 pv16 => ?_)
 obtain ⟨hv, hS15⟩ := pv16
 clear hS13
 replace hv : v16 = Value.int .i64 13 := hv
 subst hv
 replace hS15 : St B ((netP gn [⟨1, [98], true⟩, ⟨1, [98], false⟩] 0) :: L) w15 := hS15
 refine WO.val (run_assign rfl) rfl rfl rfl ?_
 refine WO.val (run_assign rfl) rfl rfl rfl ?_
 refine WO.nil ?_
 refine NX.go ?_
 refine WP.seq ?_
 refine WP.region rfl ?_
 refine WO.val (run_move rfl) rfl rfl rfl ?_
 refine WO.call rfl rfl Ty.hd15 rfl (at_spec hS15 0) (fun v18 w17 pv18 => ?_)
 obtain ⟨hv, hS17⟩ := pv18
 clear hS15
 replace hv : v18 = Value.tuple #[Value.int .i64 1, str [98], Value.int .i64 0] := hv
 subst hv
 replace hS17 : St B ((netP gn [⟨1, [98], true⟩, ⟨1, [98], false⟩] 0) :: L) w17 := hS17
 refine WO.val (run_move rfl) rfl rfl rfl ?_
 refine WO.val (run_extract rfl rfl) rfl rfl rfl ?_
 refine WO.val (run_extract rfl rfl) rfl rfl rfl ?_
 refine WO.val (run_extract rfl rfl) rfl rfl rfl ?_
 refine WO.val (run_assign rfl) rfl rfl rfl ?_
 refine WO.val (run_assign rfl) rfl rfl rfl ?_
 refine WO.val (run_assign rfl) rfl rfl rfl ?_
 refine WO.nil ?_
 refine NX.go ?_
 refine WP.seq ?_
 refine WP.region rfl ?_
 refine WO.val (run_move rfl) rfl rfl rfl ?_
 refine WO.val (run_eql rfl rfl) rfl rfl rfl ?_
 refine WO.val (run_move rfl) rfl rfl rfl ?_
 refine WO.on rfl rfl (by decide) ?_
 refine WO.val (run_move rfl) rfl rfl rfl ?_
 refine WO.on rfl rfl (by decide) ?_
 refine WO.val (run_eqlS rfl rfl) rfl rfl rfl ?_
 refine WO.val (run_pickT rfl (by decide) rfl) rfl rfl rfl ?_
 refine WO.val (run_move rfl) rfl rfl rfl ?_
 refine WO.on rfl rfl (by decide) ?_
 refine WO.val (run_move rfl) rfl rfl rfl ?_
 refine WO.on rfl rfl (by decide) ?_
 refine WO.val (run_eql rfl rfl) rfl rfl rfl ?_
 refine WO.val (run_pickT rfl (by decide) rfl) rfl rfl rfl ?_
 refine WO.val (run_move rfl) rfl rfl rfl ?_
 refine WO.on rfl rfl (by decide) ?_
 refine WO.val (run_move rfl) rfl rfl rfl ?_
 refine WO.on rfl rfl (by decide) ?_
 refine WO.val (run_eqlS rfl rfl) rfl rfl rfl ?_
 refine WO.val (run_pickT rfl (by decide) rfl) rfl rfl rfl ?_
 refine WO.val (run_move rfl) rfl rfl rfl ?_
 refine WO.on rfl rfl (by decide) ?_
 refine WO.val (run_move rfl) rfl rfl rfl ?_
 refine WO.on rfl rfl (by decide) ?_
 refine WO.val (run_eql rfl rfl) rfl rfl rfl ?_
 refine WO.val (run_pickT rfl (by decide) rfl) rfl rfl rfl ?_
 refine WO.val (run_move rfl) rfl rfl rfl ?_
 refine WO.on rfl rfl (by decide) ?_
 refine WO.val (run_move rfl) rfl rfl rfl ?_
 refine WO.on rfl rfl (by decide) ?_
 refine WO.val (run_eql rfl rfl) rfl rfl rfl ?_
 refine WO.val (run_pickT rfl (by decide) rfl) rfl rfl rfl ?_
 refine WO.val (run_move rfl) rfl rfl rfl ?_
 refine WO.on rfl rfl (by decide) ?_
 refine WO.val (run_move rfl) rfl rfl rfl ?_
 refine WO.on rfl rfl (by decide) ?_
 refine WO.val (run_eqlS rfl rfl) rfl rfl rfl ?_
 refine WO.val (run_pickT rfl (by decide) rfl) rfl rfl rfl ?_
 refine WO.val (run_move rfl) rfl rfl rfl ?_
 refine WO.on rfl rfl (by decide) ?_
 refine WO.val (run_move rfl) rfl rfl rfl ?_
 refine WO.on rfl rfl (by decide) ?_
 refine WO.call rfl rfl Ty.hd11 rfl (len_spec hS17) (fun v20 w19 pv20 => ?_)
 obtain ⟨hv, hS19⟩ := pv20
 clear hS17
 replace hv : v20 = Value.int .i64 2 := hv
 subst hv
 replace hS19 : St B ((netP gn [⟨1, [98], true⟩, ⟨1, [98], false⟩] 0) :: L) w19 := hS19
 refine WO.on rfl rfl (by decide) ?_
 refine WO.val (run_eql rfl rfl) rfl rfl rfl ?_
 refine WO.val (run_pickT rfl (by decide) rfl) rfl rfl rfl ?_
 refine WO.val (run_assign rfl) rfl rfl rfl ?_
 refine WO.nil ?_
 refine NX.go ?_
 refine WP.ret ?_
 refine NX.done (l := [.tmp 0]) rfl rfl ?_
 exact ⟨rfl, hS19.drop⟩

theorem xorAt_take (s : List UInt8) (k : Nat) (b : UInt8) : (xorAt s k b).take k = s.take k := by unfold xorAt; rw [List.take_set_of_le (Nat.le_refl _)]
theorem xorAt_drop (s : List UInt8) (k : Nat) (b : UInt8) : (xorAt s k b).drop (k + 1) = s.drop (k + 1) := by unfold xorAt; rw [List.drop_set_of_lt (Nat.lt_succ_self _)]
theorem xorAt_get {s : List UInt8} {k : Nat} {c : UInt8} (h : s[k]? = some c) (b : UInt8) : (xorAt s k b)[k]? = some (c ^^^ b) := by
  unfold xorAt
  rw [List.getElem?_set_self (List.getElem?_eq_some_iff.1 h).1, List.getD_eq_getElem?_getD, h]; rfl
theorem spoil_ok {V : List PV} {i k : Nat} {b : UInt8} {p : PV} (hp : V[i]? = some p) (hk : k < p.s.length) (hb : ¬ b = 0) (hsp : p.sp = false) : spoilF V (i : Int) (k : Int) b = (0, V.set i ⟨p.who, xorAt p.s k b, true⟩) := by
  unfold spoilF; rw [if_neg (by omega), Int.toNat_natCast, hp]
  show (if _ then _ else if _ then _ else if _ then _ else _) = _
  rw [if_neg (by omega), if_neg hb, if_neg (by rw [hsp]; decide), Int.toNat_natCast]
theorem spoil_twice {V : List PV} {i k : Nat} {b : UInt8} {p : PV} (hp : V[i]? = some p) (hk : k < p.s.length) (hb : ¬ b = 0) (hsp : p.sp = true) : spoilF V (i : Int) (k : Int) b = (13, V) := by
  unfold spoilF; rw [if_neg (by omega), Int.toNat_natCast, hp]
  show (if _ then _ else if _ then _ else if _ then _ else _) = _
  rw [if_neg (by omega), if_neg hb, if_pos hsp]
theorem netSpoils_core_t13 : rtab .any (opsOf Try.f5 13) = (true, [([], []), ([], []), ([0, 1], [0, 1]), ([2], [2]), ([3], [3]), ([3], [3]), ([4, 5, 3], [3, 4, 5]), ([3, 6], [3, 6]), ([7, 3], [7]), ([8], [8]), ([9, 8], [8, 9]), ([8], [8]), ([11, 8], [8, 11]), ([10, 12, 8], [8, 10, 12]), ([8, 13], [8, 13]), ([14, 8], [14]), ([15], [15]), ([15], [15]), ([16, 17, 15], [15, 16, 17]), ([15], [15]), ([15], [15]), ([19, 20, 15], [15, 19, 20]), ([18, 21, 15], [15, 18, 21]), ([15, 22], [15, 22]), ([23, 15], [23]), ([24], [24]), ([24], [24]), ([25, 26, 24], [24, 25, 26]), ([24], [24]), ([24], [24]), ([28, 29, 24], [24, 28, 29]), ([24], [24]), ([30, 31, 24], [24, 30, 31]), ([27, 32, 24], [24, 27, 32]), ([24, 33], [24, 33]), ([34, 24], [34]), ([35], [35]), ([35], [35]), ([37, 35], [35, 37]), ([36, 38, 35], [35, 36, 38]), ([35], [35]), ([35], [35]), ([41, 35], [35, 41]), ([40, 42, 35], [35, 40, 42]), ([39, 43, 35], [35, 39, 43]), ([35, 44], [35, 44]), ([45, 35], [45]), ([46], [46]), ([46], [46]), ([46], [46]), ([47, 48, 49, 46, 46], [46, 47, 48, 49]), ([50, 46], [46, 50]), ([46, 51], [46, 51]), ([52, 50], [52]), ([53], [53]), ([53], [53]), ([53], [53]), ([54, 55, 56, 53, 53], [53, 54, 55, 56]), ([57, 53], [53, 57]), ([53, 58], [53, 58]), ([59, 57, 0, 1, 2, 3, 4, 5, 6, 7, 8, 9, 10, 11, 12, 13, 14, 15, 16, 17, 18, 19, 20, 21, 22, 23, 24, 25, 26, 27, 28, 29, 30, 31, 32, 33, 34, 35, 36, 37, 38, 39, 40, 41, 42, 43, 44, 45, 46, 47, 48, 49, 50, 51, 52, 53, 54, 55, 56, 57, 58, 59], [59])]) := by kernel_rfl
theorem netSpoils_core {B w : World} {L : List HP} (s : List UInt8) (at_ : Int) (b : UInt8) (hs : s.length ≤ 140737488351232) (hS : St B L w) : Does Try.prog 5 [str s, Value.int .i64 at_, Value.int .u8 (b.toNat : Int)] w (fun v w1 => v = .bool true ∧ St B L w1) := by
 refine enter (n := 135) Try.func5 rfl rfl [str s, Value.int .i64 at_, Value.int .u8 (b.toNat : Int)] rfl ?_
 refine WP.seq ?_
 refine WP.region rfl ?_
 refine WO.val (run_assign rfl) rfl rfl rfl ?_
 refine WO.nil ?_
 refine NX.go ?_
 refine WP.seq ?_
 refine WP.seq ?_
 refine WP.region rfl ?_
 refine WO.call rfl rfl Ty.hd7 rfl (works_spec hS) (fun v2 w1 pv2 => ?_)
 obtain ⟨rfl, hS1⟩ := pv2
 clear hS
 refine WO.val (run_not rfl rfl) rfl rfl rfl ?_
 refine WO.nil ?_
 refine NX.go ?_
 refine WP.condF rfl (notB_t rfl) ?_
 refine WP.skip ?_
 refine NX.go ?_
 refine WP.seq ?_
 refine WP.seq ?_
 refine WP.region rfl ?_
 refine WO.val (run_move rfl) rfl rfl rfl ?_
 refine WO.val (run_eqlS rfl rfl) rfl rfl rfl ?_
 refine WO.val (run_move rfl) rfl rfl rfl ?_
 by_cases g22 : s = []
 ·
  refine WO.off rfl rfl (decide_eq_true g22) rfl ?_
  refine WO.off rfl rfl (decide_eq_true g22) rfl ?_
  refine WO.off rfl rfl (decide_eq_true g22) rfl ?_
  refine WO.val (run_pickT rfl (decide_eq_true g22) rfl) rfl rfl rfl ?_
  refine WO.val (run_move rfl) rfl rfl rfl ?_
  refine WO.off rfl rfl rfl rfl ?_
  refine WO.off rfl rfl rfl rfl ?_
  refine WO.val (run_pickT rfl rfl rfl) rfl rfl rfl ?_
  refine WO.nil ?_
  refine NX.go ?_
  refine WP.condT rfl rfl ?_
  refine WP.seq ?_
  refine WP.region rfl ?_
  refine WO.val (run_assign rfl) rfl rfl rfl ?_
  refine WO.nil ?_
  refine NX.go ?_
  refine WP.ret ?_
  refine NX.thenRet ?_
  refine NX.done (l := [.tmp 6]) rfl rfl ?_
  exact ⟨rfl, hS1⟩
 ·
  refine WO.on rfl rfl (decide_eq_false g22) ?_
  refine WO.val (run_move rfl) rfl rfl rfl ?_
  refine WO.on rfl rfl (decide_eq_false g22) ?_
  refine WO.val (run_lenS rfl Try.underlying9 rfl) rfl rfl rfl ?_
  refine WO.on rfl rfl (decide_eq_false g22) ?_
  refine WO.val (run_gtr rfl rfl) rfl rfl rfl ?_
  refine WO.val (run_pickF rfl (decide_eq_false g22) rfl) rfl rfl rfl ?_
  refine WO.val (run_move rfl) rfl rfl rfl ?_
  by_cases g27 : 1000 < (s.length : Int)
  ·
   refine WO.off rfl rfl (decide_eq_true g27) rfl ?_
   refine WO.off rfl rfl (decide_eq_true g27) rfl ?_
   refine WO.val (run_pickT rfl (decide_eq_true g27) rfl) rfl rfl rfl ?_
   refine WO.nil ?_
   refine NX.go ?_
   refine WP.condT rfl rfl ?_
   refine WP.seq ?_
   refine WP.region rfl ?_
   refine WO.val (run_assign rfl) rfl rfl rfl ?_
   refine WO.nil ?_
   refine NX.go ?_
   refine WP.ret ?_
   refine NX.thenRet ?_
   refine NX.done (l := [.tmp 6]) rfl rfl ?_
   exact ⟨rfl, hS1⟩
  ·
   refine WO.on rfl rfl (decide_eq_false g27) ?_
   refine WO.val (run_move rfl) rfl rfl rfl ?_
   refine WO.on rfl rfl (decide_eq_false g27) ?_
   refine WO.val (run_eql rfl rfl) rfl rfl rfl ?_
   refine WO.val (run_pickF rfl (decide_eq_false g27) rfl) rfl rfl rfl ?_
   refine WO.nil ?_
   refine NX.go ?_
   refine WP.condP rfl (fun g30 => ?_) (fun g30 => ?_)
   ·
    refine WP.seq ?_
    refine WP.region rfl ?_
    refine WO.val (run_assign rfl) rfl rfl rfl ?_
    refine WO.nil ?_
    refine NX.go ?_
    refine WP.ret ?_
    refine NX.thenRet ?_
    refine NX.done (l := [.tmp 6]) rfl rfl ?_
    exact ⟨rfl, hS1⟩
   ·
    refine WP.skip ?_
    refine NX.go ?_
    refine WP.seq ?_
    refine WP.region rfl ?_
    refine WO.call rfl rfl Ty.hd8 rfl (new_spec hS1) (fun v4 w3 pv4 => ?_)
    obtain ⟨gn, rfl, hS3⟩ := pv4
    clear hS1
    refine WO.val (run_assign rfl) rfl rfl rfl ?_
    refine WO.nil ?_
    refine NX.go ?_
    refine WP.seq ?_
    refine WP.region rfl ?_
    refine WO.val (run_move rfl) rfl rfl rfl ?_
    refine WO.val (run_convI Try.underlying24 (by kernel_rfl) rfl (IntKind.wrap_u64 _)) rfl rfl rfl ?_
    refine WO.val (run_move rfl) rfl rfl rfl ?_
    refine WO.val (run_lenS rfl Try.underlying9 rfl) rfl rfl rfl ?_
    refine WO.val (run_convI Try.underlying24 (by kernel_rfl) rfl (IntWalk.u64_in _ (by omega))) rfl rfl rfl ?_
    have hlpos : 0 < s.length := List.length_pos_iff.2 (by assumption)
    have hm1 := Int.emod_nonneg (at_ % 18446744073709551616) (show (s.length : Int) ≠ 0 by omega)
    have hm2 := Int.emod_lt_of_pos (at_ % 18446744073709551616) (show (0 : Int) < (s.length : Int) by omega)
    refine WO.val (run_rem rfl rfl (by omega) (IntWalk.rem_in _ _ (by omega))) rfl rfl rfl ?_
    refine WO.val (run_convI Try.underlying3 (by kernel_rfl) rfl (IntWalk.i64_in _ (by omega))) rfl rfl rfl ?_
    obtain ⟨k, hk⟩ : ∃ k : Nat, at_ % 18446744073709551616 % (s.length : Int) = (k : Int) := ⟨(at_ % 18446744073709551616 % (s.length : Int)).toNat, by omega⟩
    have hks : k < s.length := by omega
    have hb : ¬ b = 0 := fun h => by have := (u8_eq0 b).2 h; omega
    have sp1 : spoilF [⟨0, s, false⟩, ⟨0, s, false⟩] 0 k b = (0, [⟨0, xorAt s k b, true⟩, ⟨0, s, false⟩]) := spoil_ok (i := 0) (p := ⟨0, s, false⟩) rfl hks hb rfl
    have sp2 : spoilF [⟨0, xorAt s k b, true⟩, ⟨0, s, false⟩, ⟨0, xorAt s k b, true⟩] 2 k b = (13, [⟨0, xorAt s k b, true⟩, ⟨0, s, false⟩, ⟨0, xorAt s k b, true⟩]) := spoil_twice (i := 2) (p := ⟨0, xorAt s k b, true⟩) rfl (by rw [xorAt_len]; exact hks) hb rfl
    have sp3 : spoilF [⟨0, xorAt s k b, true⟩, ⟨0, s, false⟩, ⟨0, xorAt s k b, true⟩] 1 k b = (0, [⟨0, xorAt s k b, true⟩, ⟨0, xorAt s k b, true⟩, ⟨0, xorAt s k b, true⟩]) := spoil_ok (i := 1) (p := ⟨0, s, false⟩) rfl hks hb rfl
    obtain ⟨c, hc⟩ : ∃ c, s[k]? = some c := ⟨_, List.getElem?_eq_getElem hks⟩
    refine WO.val (run_assignAs (v := Value.int .i64 (k : Int)) rfl (by rw [hk])) rfl rfl rfl ?_
    refine WO.nil ?_
    refine NX.go ?_
    refine WP.seq ?_
    refine WP.region rfl ?_
    refine WO.val (run_move rfl) rfl rfl rfl ?_
    refine WO.val (run_move rfl) rfl rfl rfl ?_
    refine WO.call rfl rfl Ty.hd9 rfl (send_spec hS3 0 s (by omega)) (fun v6 w5 pv6 => ?_)
    obtain ⟨hv, hS5⟩ := pv6
    clear hS3
    replace hv : v6 = Value.bool true := hv
    subst hv
    replace hS5 : St B ((netP gn [⟨0, s, false⟩] 0) :: L) w5 := hS5
    refine WO.nil ?_
    refine NX.go ?_
    refine WP.seq ?_
    refine WP.seq ?_
    refine WP.region rfl ?_
    refine WO.val (run_move rfl) rfl rfl rfl ?_
    refine WO.call rfl rfl Ty.hd13 rfl (double_spec hS5 0) (fun v8 w7 pv8 => ?_)
    obtain ⟨hv, hS7⟩ := pv8
    clear hS5
    replace hv : v8 = Value.int .i64 0 := hv
    subst hv
    replace hS7 : St B ((netP gn [⟨0, s, false⟩, ⟨0, s, false⟩] 0) :: L) w7 := hS7
    refine WO.val (run_neq rfl rfl) rfl rfl rfl ?_
    refine WO.val (run_move rfl) rfl rfl rfl ?_
    refine WO.on rfl rfl (by decide) ?_
    refine WO.val (run_move rfl) rfl rfl rfl ?_
    refine WO.on rfl rfl (by decide) ?_
    refine WO.val (run_move rfl) rfl rfl rfl ?_
    refine WO.on rfl rfl (by decide) ?_
    refine WO.val (run_move rfl) rfl rfl rfl ?_
    refine WO.on rfl rfl (by decide) ?_
    refine WO.call rfl rfl Ty.hd14 rfl (spoil_spec hS7 0 k b (by simp; omega)) (fun v10 w9 pv10 => ?_)
    obtain ⟨hv, hS9⟩ := pv10
    clear hS7
    replace hv : v10 = Value.int .i64 0 := by rw [hv, sp1]
    subst hv
    replace hS9 : St B ((netP gn [⟨0, (xorAt s k b), true⟩, ⟨0, s, false⟩] 0) :: L) w9 := by rw [sp1] at hS9; exact hS9
    refine WO.on rfl rfl (by decide) ?_
    refine WO.val (run_neq rfl rfl) rfl rfl rfl ?_
    refine WO.val (run_pickF rfl (by decide) rfl) rfl rfl rfl ?_
    refine WO.val (run_move rfl) rfl rfl rfl ?_
    refine WO.on rfl rfl (by decide) ?_
    refine WO.val (run_move rfl) rfl rfl rfl ?_
    refine WO.on rfl rfl (by decide) ?_
    refine WO.call rfl rfl Ty.hd13 rfl (double_spec hS9 0) (fun v12 w11 pv12 => ?_)
    obtain ⟨hv, hS11⟩ := pv12
    clear hS9
    replace hv : v12 = Value.int .i64 0 := hv
    subst hv
    replace hS11 : St B ((netP gn [⟨0, (xorAt s k b), true⟩, ⟨0, s, false⟩, ⟨0, (xorAt s k b), true⟩] 0) :: L) w11 := hS11
    refine WO.on rfl rfl (by decide) ?_
    refine WO.val (run_neq rfl rfl) rfl rfl rfl ?_
    refine WO.val (run_pickF rfl (by decide) rfl) rfl rfl rfl ?_
    refine WO.nil ?_
    refine NX.go ?_
    refine WP.condF rfl (by decide) ?_
    refine WP.skip ?_
    refine NX.go ?_
    refine WP.seq ?_
    refine WP.region rfl ?_
    refine WO.val (run_move rfl) rfl rfl rfl ?_
    refine WO.call rfl rfl Ty.hd15 rfl (at_spec hS11 0) (fun v14 w13 pv14 => ?_)
    obtain ⟨hv, hS13⟩ := pv14
    clear hS11
    replace hv : v14 = Value.tuple #[Value.int .i64 0, str (xorAt s k b), Value.int .i64 0] := hv
    subst hv
    replace hS13 : St B ((netP gn [⟨0, (xorAt s k b), true⟩, ⟨0, s, false⟩, ⟨0, (xorAt s k b), true⟩] 0) :: L) w13 := hS13
    refine WO.val (run_move rfl) rfl rfl rfl ?_
    refine WO.val (run_extract rfl rfl) rfl rfl rfl ?_
    refine WO.val (run_extract rfl rfl) rfl rfl rfl ?_
    refine WO.val (run_extract rfl rfl) rfl rfl rfl ?_
    refine WO.val (run_assign rfl) rfl rfl rfl ?_
    refine WO.val (run_assign rfl) rfl rfl rfl ?_
    refine WO.val (run_assign rfl) rfl rfl rfl ?_
    refine WO.nil ?_
    refine NX.go ?_
    refine WP.seq ?_
    refine WP.region rfl ?_
    refine WO.val (run_move rfl) rfl rfl rfl ?_
    refine WO.call rfl rfl Ty.hd15 rfl (at_spec hS13 1) (fun v16 w15 pv16 => ?_)
    obtain ⟨hv, hS15⟩ := pv16
    clear hS13
    replace hv : v16 = Value.tuple #[Value.int .i64 0, str s, Value.int .i64 0] := hv
    subst hv
    replace hS15 : St B ((netP gn [⟨0, (xorAt s k b), true⟩, ⟨0, s, false⟩, ⟨0, (xorAt s k b), true⟩] 0) :: L) w15 := hS15
    refine WO.val (run_move rfl) rfl rfl rfl ?_
    refine WO.val (run_extract rfl rfl) rfl rfl rfl ?_
    refine WO.val (run_extract rfl rfl) rfl rfl rfl ?_
    refine WO.val (run_extract rfl rfl) rfl rfl rfl ?_
    refine WO.val (run_assign rfl) rfl rfl rfl ?_
    refine WO.val (run_assign rfl) rfl rfl rfl ?_
    refine WO.val (run_assign rfl) rfl rfl rfl ?_
    refine WO.nil ?_
    refine NX.go ?_
    refine WP.seq ?_
    refine WP.region rfl ?_
    refine WO.val (run_move rfl) rfl rfl rfl ?_
    refine WO.call rfl rfl Ty.hd15 rfl (at_spec hS15 2) (fun v18 w17 pv18 => ?_)
    obtain ⟨hv, hS17⟩ := pv18
    clear hS15
    replace hv : v18 = Value.tuple #[Value.int .i64 0, str (xorAt s k b), Value.int .i64 0] := hv
    subst hv
    replace hS17 : St B ((netP gn [⟨0, (xorAt s k b), true⟩, ⟨0, s, false⟩, ⟨0, (xorAt s k b), true⟩] 0) :: L) w17 := hS17
    refine WO.val (run_move rfl) rfl rfl rfl ?_
    refine WO.val (run_extract rfl rfl) rfl rfl rfl ?_
    refine WO.val (run_extract rfl rfl) rfl rfl rfl ?_
    refine WO.val (run_extract rfl rfl) rfl rfl rfl ?_
    refine WO.val (run_assign rfl) rfl rfl rfl ?_
    refine WO.val (run_assign rfl) rfl rfl rfl ?_
    refine WO.val (run_assign rfl) rfl rfl rfl ?_
    refine WO.nil ?_
    refine NX.go ?_
    refine WP.seq ?_
    refine WD.start (fun w => True) [] #[false, false, false, false, false, false, false, false, false, false, false, false, false, false, false, false, false, false, false, false, false, false, false, false, false, false, false, false, false, false, false, false, false, false, false, false, false, false, false, false, false, false, false, false, false, false, false, false, false, false, false, false, false, false, false, false, false, false, false, false, false] Ty.mo rfl (by kernel_rfl) hS17 (fun _ h => trivial) (fun w19 hS19 s20 => ?_)
    clear hS17
    refine WD.pure (i := 0) netSpoils_core_t13 #[true, false, false, false, false, false, false, false, false, false, false, false, false, false, false, false, false, false, false, false, false, false, false, false, false, false, false, false, false, false, false, false, false, false, false, false, false, false, false, false, false, false, false, false, false, false, false, false, false, false, false, false, false, false, false, false, false, false, false, false, false] rfl rfl rfl (by kernel_rfl) (PQ.then PQ.body) rfl (fun w => run_move rfl) ?_
    refine WD.pure (i := 1) netSpoils_core_t13 #[true, true, false, false, false, false, false, false, false, false, false, false, false, false, false, false, false, false, false, false, false, false, false, false, false, false, false, false, false, false, false, false, false, false, false, false, false, false, false, false, false, false, false, false, false, false, false, false, false, false, false, false, false, false, false, false, false, false, false, false, false] rfl rfl rfl (by kernel_rfl) (PQ.then PQ.body) rfl (fun w => run_move rfl) ?_
    refine WD.pure (i := 2) netSpoils_core_t13 #[true, true, true, false, false, false, false, false, false, false, false, false, false, false, false, false, false, false, false, false, false, false, false, false, false, false, false, false, false, false, false, false, false, false, false, false, false, false, false, false, false, false, false, false, false, false, false, false, false, false, false, false, false, false, false, false, false, false, false, false, false] rfl rfl rfl (by kernel_rfl) (PQ.then PQ.body) rfl (fun w => run_eqlS rfl rfl) ?_
    refine WD.pure (i := 3) netSpoils_core_t13 #[true, true, true, true, false, false, false, false, false, false, false, false, false, false, false, false, false, false, false, false, false, false, false, false, false, false, false, false, false, false, false, false, false, false, false, false, false, false, false, false, false, false, false, false, false, false, false, false, false, false, false, false, false, false, false, false, false, false, false, false, false] rfl rfl rfl (by kernel_rfl) (PQ.then PQ.body) rfl (fun w => run_move rfl) ?_
    refine WD.pureOn (i := 4) netSpoils_core_t13 #[true, true, true, true, true, false, false, false, false, false, false, false, false, false, false, false, false, false, false, false, false, false, false, false, false, false, false, false, false, false, false, false, false, false, false, false, false, false, false, false, false, false, false, false, false, false, false, false, false, false, false, false, false, false, false, false, false, false, false, false, false] rfl rfl rfl (decide_eq_true rfl) (by kernel_rfl) (PQ.then PQ.body) rfl (fun w => run_move rfl) ?_
    refine WD.pureOn (i := 5) netSpoils_core_t13 #[true, true, true, true, true, true, false, false, false, false, false, false, false, false, false, false, false, false, false, false, false, false, false, false, false, false, false, false, false, false, false, false, false, false, false, false, false, false, false, false, false, false, false, false, false, false, false, false, false, false, false, false, false, false, false, false, false, false, false, false, false] rfl rfl rfl (decide_eq_true rfl) (by kernel_rfl) (PQ.then PQ.body) rfl (fun w => run_move rfl) ?_
    refine WD.pureOn (i := 6) netSpoils_core_t13 #[true, true, true, true, true, true, true, false, false, false, false, false, false, false, false, false, false, false, false, false, false, false, false, false, false, false, false, false, false, false, false, false, false, false, false, false, false, false, false, false, false, false, false, false, false, false, false, false, false, false, false, false, false, false, false, false, false, false, false, false, false] rfl rfl rfl (decide_eq_true rfl) (by kernel_rfl) (PQ.then PQ.body) rfl (fun w => run_eqlS rfl rfl) ?_
    refine WD.pure (i := 7) netSpoils_core_t13 #[true, true, true, true, true, true, true, true, false, false, false, false, false, false, false, false, false, false, false, false, false, false, false, false, false, false, false, false, false, false, false, false, false, false, false, false, false, false, false, false, false, false, false, false, false, false, false, false, false, false, false, false, false, false, false, false, false, false, false, false, false] rfl rfl rfl (by kernel_rfl) (PQ.then PQ.body) rfl (fun w => run_pickT rfl (decide_eq_true rfl) rfl) ?_
    refine WD.pure (i := 8) netSpoils_core_t13 #[true, true, true, true, true, true, true, true, true, false, false, false, false, false, false, false, false, false, false, false, false, false, false, false, false, false, false, false, false, false, false, false, false, false, false, false, false, false, false, false, false, false, false, false, false, false, false, false, false, false, false, false, false, false, false, false, false, false, false, false, false] rfl rfl rfl (by kernel_rfl) (PQ.then PQ.body) rfl (fun w => run_move rfl) ?_
    refine WD.pureOn (i := 9) netSpoils_core_t13 #[true, true, true, true, true, true, true, true, true, true, false, false, false, false, false, false, false, false, false, false, false, false, false, false, false, false, false, false, false, false, false, false, false, false, false, false, false, false, false, false, false, false, false, false, false, false, false, false, false, false, false, false, false, false, false, false, false, false, false, false, false] rfl rfl rfl (decide_eq_true rfl) (by kernel_rfl) (PQ.then PQ.body) rfl (fun w => run_move rfl) ?_
    refine WD.pureOn (i := 10) netSpoils_core_t13 #[true, true, true, true, true, true, true, true, true, true, true, false, false, false, false, false, false, false, false, false, false, false, false, false, false, false, false, false, false, false, false, false, false, false, false, false, false, false, false, false, false, false, false, false, false, false, false, false, false, false, false, false, false, false, false, false, false, false, false, false, false] rfl rfl rfl (decide_eq_true rfl) (by kernel_rfl) (PQ.then PQ.body) rfl (fun w => run_lenS rfl Try.underlying9 rfl) ?_
    refine WD.pureOn (i := 11) netSpoils_core_t13 #[true, true, true, true, true, true, true, true, true, true, true, true, false, false, false, false, false, false, false, false, false, false, false, false, false, false, false, false, false, false, false, false, false, false, false, false, false, false, false, false, false, false, false, false, false, false, false, false, false, false, false, false, false, false, false, false, false, false, false, false, false] rfl rfl rfl (decide_eq_true rfl) (by kernel_rfl) (PQ.then PQ.body) rfl (fun w => run_move rfl) ?_
    refine WD.pureOn (i := 12) netSpoils_core_t13 #[true, true, true, true, true, true, true, true, true, true, true, true, true, false, false, false, false, false, false, false, false, false, false, false, false, false, false, false, false, false, false, false, false, false, false, false, false, false, false, false, false, false, false, false, false, false, false, false, false, false, false, false, false, false, false, false, false, false, false, false, false] rfl rfl rfl (decide_eq_true rfl) (by kernel_rfl) (PQ.then PQ.body) rfl (fun w => run_lenS rfl Try.underlying9 rfl) ?_
    refine WD.pureOn (i := 13) netSpoils_core_t13 #[true, true, true, true, true, true, true, true, true, true, true, true, true, true, false, false, false, false, false, false, false, false, false, false, false, false, false, false, false, false, false, false, false, false, false, false, false, false, false, false, false, false, false, false, false, false, false, false, false, false, false, false, false, false, false, false, false, false, false, false, false] rfl rfl rfl (decide_eq_true rfl) (by kernel_rfl) (PQ.then PQ.body) rfl (fun w => run_eql rfl rfl) ?_
    refine WD.pure (i := 14) netSpoils_core_t13 #[true, true, true, true, true, true, true, true, true, true, true, true, true, true, true, false, false, false, false, false, false, false, false, false, false, false, false, false, false, false, false, false, false, false, false, false, false, false, false, false, false, false, false, false, false, false, false, false, false, false, false, false, false, false, false, false, false, false, false, false, false] rfl rfl rfl (by kernel_rfl) (PQ.then PQ.body) rfl (fun w => run_pickT rfl (decide_eq_true rfl) rfl) ?_
    refine WD.pure (i := 15) netSpoils_core_t13 #[true, true, true, true, true, true, true, true, true, true, true, true, true, true, true, true, false, false, false, false, false, false, false, false, false, false, false, false, false, false, false, false, false, false, false, false, false, false, false, false, false, false, false, false, false, false, false, false, false, false, false, false, false, false, false, false, false, false, false, false, false] rfl rfl rfl (by kernel_rfl) (PQ.then PQ.body) rfl (fun w => run_move rfl) ?_
    by_cases g90 : ((xorAt s k b).length : Int) = (s.length : Int)
    ·
     refine WD.pureOn (i := 16) netSpoils_core_t13 #[true, true, true, true, true, true, true, true, true, true, true, true, true, true, true, true, true, false, false, false, false, false, false, false, false, false, false, false, false, false, false, false, false, false, false, false, false, false, false, false, false, false, false, false, false, false, false, false, false, false, false, false, false, false, false, false, false, false, false, false, false] rfl rfl rfl (decide_eq_true g90) (by kernel_rfl) (PQ.then PQ.body) rfl (fun w => run_move rfl) ?_
     refine WD.pureOn (i := 17) netSpoils_core_t13 #[true, true, true, true, true, true, true, true, true, true, true, true, true, true, true, true, true, true, false, false, false, false, false, false, false, false, false, false, false, false, false, false, false, false, false, false, false, false, false, false, false, false, false, false, false, false, false, false, false, false, false, false, false, false, false, false, false, false, false, false, false] rfl rfl rfl (decide_eq_true g90) (by kernel_rfl) (PQ.then PQ.body) rfl (fun w => run_move rfl) ?_
     refine WD.pureOn (i := 18) netSpoils_core_t13 #[true, true, true, true, true, true, true, true, true, true, true, true, true, true, true, true, true, true, true, false, false, false, false, false, false, false, false, false, false, false, false, false, false, false, false, false, false, false, false, false, false, false, false, false, false, false, false, false, false, false, false, false, false, false, false, false, false, false, false, false, false] rfl rfl rfl (decide_eq_true g90) (by kernel_rfl) (PQ.then PQ.body) rfl (fun w => run_sliceS (i := 0) (j := k) Try.underlying9 rfl rfl ⟨_, rfl⟩ (Nat.zero_le _) (by rw [xorAt_len]; omega) (List.drop_zero)) ?_
     refine WD.pureOn (i := 19) netSpoils_core_t13 #[true, true, true, true, true, true, true, true, true, true, true, true, true, true, true, true, true, true, true, true, false, false, false, false, false, false, false, false, false, false, false, false, false, false, false, false, false, false, false, false, false, false, false, false, false, false, false, false, false, false, false, false, false, false, false, false, false, false, false, false, false] rfl rfl rfl (decide_eq_true g90) (by kernel_rfl) (PQ.then PQ.body) rfl (fun w => run_move rfl) ?_
     refine WD.pureOn (i := 20) netSpoils_core_t13 #[true, true, true, true, true, true, true, true, true, true, true, true, true, true, true, true, true, true, true, true, true, false, false, false, false, false, false, false, false, false, false, false, false, false, false, false, false, false, false, false, false, false, false, false, false, false, false, false, false, false, false, false, false, false, false, false, false, false, false, false, false] rfl rfl rfl (decide_eq_true g90) (by kernel_rfl) (PQ.then PQ.body) rfl (fun w => run_move rfl) ?_
     refine WD.pureOn (i := 21) netSpoils_core_t13 #[true, true, true, true, true, true, true, true, true, true, true, true, true, true, true, true, true, true, true, true, true, true, false, false, false, false, false, false, false, false, false, false, false, false, false, false, false, false, false, false, false, false, false, false, false, false, false, false, false, false, false, false, false, false, false, false, false, false, false, false, false] rfl rfl rfl (decide_eq_true g90) (by kernel_rfl) (PQ.then PQ.body) rfl (fun w => run_sliceS (i := 0) (j := k) Try.underlying9 rfl rfl ⟨_, rfl⟩ (Nat.zero_le _) (by omega) (List.drop_zero)) ?_
     refine WD.pureOn (i := 22) netSpoils_core_t13 #[true, true, true, true, true, true, true, true, true, true, true, true, true, true, true, true, true, true, true, true, true, true, true, false, false, false, false, false, false, false, false, false, false, false, false, false, false, false, false, false, false, false, false, false, false, false, false, false, false, false, false, false, false, false, false, false, false, false, false, false, false] rfl rfl rfl (decide_eq_true g90) (by kernel_rfl) (PQ.then PQ.body) rfl (fun w => run_eqlS rfl rfl) ?_
     refine WD.pure (i := 23) netSpoils_core_t13 #[true, true, true, true, true, true, true, true, true, true, true, true, true, true, true, true, true, true, true, true, true, true, true, true, false, false, false, false, false, false, false, false, false, false, false, false, false, false, false, false, false, false, false, false, false, false, false, false, false, false, false, false, false, false, false, false, false, false, false, false, false] rfl rfl rfl (by kernel_rfl) (PQ.then PQ.body) rfl (fun w => run_pickT rfl (decide_eq_true g90) rfl) ?_
     refine WD.pure (i := 24) netSpoils_core_t13 #[true, true, true, true, true, true, true, true, true, true, true, true, true, true, true, true, true, true, true, true, true, true, true, true, true, false, false, false, false, false, false, false, false, false, false, false, false, false, false, false, false, false, false, false, false, false, false, false, false, false, false, false, false, false, false, false, false, false, false, false, false] rfl rfl rfl (by kernel_rfl) (PQ.then PQ.body) rfl (fun w => run_move rfl) ?_
     by_cases g99 : ((xorAt s k b).take k) = (s.take k)
     ·
      refine WD.pureOn (i := 25) netSpoils_core_t13 #[true, true, true, true, true, true, true, true, true, true, true, true, true, true, true, true, true, true, true, true, true, true, true, true, true, true, false, false, false, false, false, false, false, false, false, false, false, false, false, false, false, false, false, false, false, false, false, false, false, false, false, false, false, false, false, false, false, false, false, false, false] rfl rfl rfl (decide_eq_true g99) (by kernel_rfl) (PQ.then PQ.body) rfl (fun w => run_move rfl) ?_
      refine WD.pureOn (i := 26) netSpoils_core_t13 #[true, true, true, true, true, true, true, true, true, true, true, true, true, true, true, true, true, true, true, true, true, true, true, true, true, true, true, false, false, false, false, false, false, false, false, false, false, false, false, false, false, false, false, false, false, false, false, false, false, false, false, false, false, false, false, false, false, false, false, false, false] rfl rfl rfl (decide_eq_true g99) (by kernel_rfl) (PQ.then PQ.body) rfl (fun w => run_move rfl) ?_
      refine WD.pureOn (i := 27) netSpoils_core_t13 #[true, true, true, true, true, true, true, true, true, true, true, true, true, true, true, true, true, true, true, true, true, true, true, true, true, true, true, true, false, false, false, false, false, false, false, false, false, false, false, false, false, false, false, false, false, false, false, false, false, false, false, false, false, false, false, false, false, false, false, false, false] rfl rfl rfl (decide_eq_true g99) (by kernel_rfl) (PQ.then PQ.body) rfl (fun w => run_indexS Try.underlying9 rfl rfl (by omega) (by rw [Int.toNat_natCast]; exact xorAt_get hc b)) ?_
      refine WD.pureOn (i := 28) netSpoils_core_t13 #[true, true, true, true, true, true, true, true, true, true, true, true, true, true, true, true, true, true, true, true, true, true, true, true, true, true, true, true, true, false, false, false, false, false, false, false, false, false, false, false, false, false, false, false, false, false, false, false, false, false, false, false, false, false, false, false, false, false, false, false, false] rfl rfl rfl (decide_eq_true g99) (by kernel_rfl) (PQ.then PQ.body) rfl (fun w => run_move rfl) ?_
      refine WD.pureOn (i := 29) netSpoils_core_t13 #[true, true, true, true, true, true, true, true, true, true, true, true, true, true, true, true, true, true, true, true, true, true, true, true, true, true, true, true, true, true, false, false, false, false, false, false, false, false, false, false, false, false, false, false, false, false, false, false, false, false, false, false, false, false, false, false, false, false, false, false, false] rfl rfl rfl (decide_eq_true g99) (by kernel_rfl) (PQ.then PQ.body) rfl (fun w => run_move rfl) ?_
      refine WD.pureOn (i := 30) netSpoils_core_t13 #[true, true, true, true, true, true, true, true, true, true, true, true, true, true, true, true, true, true, true, true, true, true, true, true, true, true, true, true, true, true, true, false, false, false, false, false, false, false, false, false, false, false, false, false, false, false, false, false, false, false, false, false, false, false, false, false, false, false, false, false, false] rfl rfl rfl (decide_eq_true g99) (by kernel_rfl) (PQ.then PQ.body) rfl (fun w => run_indexS Try.underlying9 rfl rfl (by omega) (by rw [Int.toNat_natCast]; exact hc)) ?_
      refine WD.pureOn (i := 31) netSpoils_core_t13 #[true, true, true, true, true, true, true, true, true, true, true, true, true, true, true, true, true, true, true, true, true, true, true, true, true, true, true, true, true, true, true, true, false, false, false, false, false, false, false, false, false, false, false, false, false, false, false, false, false, false, false, false, false, false, false, false, false, false, false, false, false] rfl rfl rfl (decide_eq_true g99) (by kernel_rfl) (PQ.then PQ.body) rfl (fun w => run_move rfl) ?_
      refine WD.pureOn (i := 32) netSpoils_core_t13 #[true, true, true, true, true, true, true, true, true, true, true, true, true, true, true, true, true, true, true, true, true, true, true, true, true, true, true, true, true, true, true, true, true, false, false, false, false, false, false, false, false, false, false, false, false, false, false, false, false, false, false, false, false, false, false, false, false, false, false, false, false] rfl rfl rfl (decide_eq_true g99) (by kernel_rfl) (PQ.then PQ.body) rfl (fun w => run_xor rfl rfl (u8x c b)) ?_
      refine WD.pureOn (i := 33) netSpoils_core_t13 #[true, true, true, true, true, true, true, true, true, true, true, true, true, true, true, true, true, true, true, true, true, true, true, true, true, true, true, true, true, true, true, true, true, true, false, false, false, false, false, false, false, false, false, false, false, false, false, false, false, false, false, false, false, false, false, false, false, false, false, false, false] rfl rfl rfl (decide_eq_true g99) (by kernel_rfl) (PQ.then PQ.body) rfl (fun w => run_eql rfl rfl) ?_
      refine WD.pure (i := 34) netSpoils_core_t13 #[true, true, true, true, true, true, true, true, true, true, true, true, true, true, true, true, true, true, true, true, true, true, true, true, true, true, true, true, true, true, true, true, true, true, true, false, false, false, false, false, false, false, false, false, false, false, false, false, false, false, false, false, false, false, false, false, false, false, false, false, false] rfl rfl rfl (by kernel_rfl) (PQ.then PQ.body) rfl (fun w => run_pickT rfl (decide_eq_true g99) rfl) ?_
      refine WD.pure (i := 35) netSpoils_core_t13 #[true, true, true, true, true, true, true, true, true, true, true, true, true, true, true, true, true, true, true, true, true, true, true, true, true, true, true, true, true, true, true, true, true, true, true, true, false, false, false, false, false, false, false, false, false, false, false, false, false, false, false, false, false, false, false, false, false, false, false, false, false] rfl rfl rfl (by kernel_rfl) (PQ.then PQ.body) rfl (fun w => run_move rfl) ?_
      refine WD.pureOn (i := 36) netSpoils_core_t13 #[true, true, true, true, true, true, true, true, true, true, true, true, true, true, true, true, true, true, true, true, true, true, true, true, true, true, true, true, true, true, true, true, true, true, true, true, true, false, false, false, false, false, false, false, false, false, false, false, false, false, false, false, false, false, false, false, false, false, false, false, false] rfl rfl rfl (decide_eq_true rfl) (by kernel_rfl) (PQ.then PQ.body) rfl (fun w => run_move rfl) ?_
      refine WD.pureOn (i := 37) netSpoils_core_t13 #[true, true, true, true, true, true, true, true, true, true, true, true, true, true, true, true, true, true, true, true, true, true, true, true, true, true, true, true, true, true, true, true, true, true, true, true, true, true, false, false, false, false, false, false, false, false, false, false, false, false, false, false, false, false, false, false, false, false, false, false, false] rfl rfl rfl (decide_eq_true rfl) (by kernel_rfl) (PQ.then PQ.body) rfl (fun w => run_move rfl) ?_
      refine WD.pureOn (i := 38) netSpoils_core_t13 #[true, true, true, true, true, true, true, true, true, true, true, true, true, true, true, true, true, true, true, true, true, true, true, true, true, true, true, true, true, true, true, true, true, true, true, true, true, true, true, false, false, false, false, false, false, false, false, false, false, false, false, false, false, false, false, false, false, false, false, false, false] rfl rfl rfl (decide_eq_true rfl) (by kernel_rfl) (PQ.then PQ.body) rfl (fun w => run_add rfl rfl (by rw [IntWalk.i64_in _ (by omega)])) ?_
      refine WD.pureOn (i := 39) netSpoils_core_t13 #[true, true, true, true, true, true, true, true, true, true, true, true, true, true, true, true, true, true, true, true, true, true, true, true, true, true, true, true, true, true, true, true, true, true, true, true, true, true, true, true, false, false, false, false, false, false, false, false, false, false, false, false, false, false, false, false, false, false, false, false, false] rfl rfl rfl (decide_eq_true rfl) (by kernel_rfl) (PQ.then PQ.body) rfl (fun w => run_sliceS (i := (k + 1)) (j := (xorAt s k b).length) Try.underlying9 rfl ⟨_, rfl⟩ rfl (by rw [xorAt_len]; omega) (Nat.le_refl _) (by rw [List.take_length])) ?_
      refine WD.pureOn (i := 40) netSpoils_core_t13 #[true, true, true, true, true, true, true, true, true, true, true, true, true, true, true, true, true, true, true, true, true, true, true, true, true, true, true, true, true, true, true, true, true, true, true, true, true, true, true, true, true, false, false, false, false, false, false, false, false, false, false, false, false, false, false, false, false, false, false, false, false] rfl rfl rfl (decide_eq_true rfl) (by kernel_rfl) (PQ.then PQ.body) rfl (fun w => run_move rfl) ?_
      refine WD.pureOn (i := 41) netSpoils_core_t13 #[true, true, true, true, true, true, true, true, true, true, true, true, true, true, true, true, true, true, true, true, true, true, true, true, true, true, true, true, true, true, true, true, true, true, true, true, true, true, true, true, true, true, false, false, false, false, false, false, false, false, false, false, false, false, false, false, false, false, false, false, false] rfl rfl rfl (decide_eq_true rfl) (by kernel_rfl) (PQ.then PQ.body) rfl (fun w => run_move rfl) ?_
      refine WD.pureOn (i := 42) netSpoils_core_t13 #[true, true, true, true, true, true, true, true, true, true, true, true, true, true, true, true, true, true, true, true, true, true, true, true, true, true, true, true, true, true, true, true, true, true, true, true, true, true, true, true, true, true, true, false, false, false, false, false, false, false, false, false, false, false, false, false, false, false, false, false, false] rfl rfl rfl (decide_eq_true rfl) (by kernel_rfl) (PQ.then PQ.body) rfl (fun w => run_add rfl rfl (by rw [IntWalk.i64_in _ (by omega)])) ?_
      refine WD.pureOn (i := 43) netSpoils_core_t13 #[true, true, true, true, true, true, true, true, true, true, true, true, true, true, true, true, true, true, true, true, true, true, true, true, true, true, true, true, true, true, true, true, true, true, true, true, true, true, true, true, true, true, true, true, false, false, false, false, false, false, false, false, false, false, false, false, false, false, false, false, false] rfl rfl rfl (decide_eq_true rfl) (by kernel_rfl) (PQ.then PQ.body) rfl (fun w => run_sliceS (i := (k + 1)) (j := s.length) Try.underlying9 rfl ⟨_, rfl⟩ rfl (by omega) (Nat.le_refl _) (by rw [List.take_length])) ?_
      refine WD.pureOn (i := 44) netSpoils_core_t13 #[true, true, true, true, true, true, true, true, true, true, true, true, true, true, true, true, true, true, true, true, true, true, true, true, true, true, true, true, true, true, true, true, true, true, true, true, true, true, true, true, true, true, true, true, true, false, false, false, false, false, false, false, false, false, false, false, false, false, false, false, false] rfl rfl rfl (decide_eq_true rfl) (by kernel_rfl) (PQ.then PQ.body) rfl (fun w => run_eqlS rfl rfl) ?_
      refine WD.pure (i := 45) netSpoils_core_t13 #[true, true, true, true, true, true, true, true, true, true, true, true, true, true, true, true, true, true, true, true, true, true, true, true, true, true, true, true, true, true, true, true, true, true, true, true, true, true, true, true, true, true, true, true, true, true, false, false, false, false, false, false, false, false, false, false, false, false, false, false, false] rfl rfl rfl (by kernel_rfl) (PQ.then PQ.body) rfl (fun w => run_pickT rfl (decide_eq_true rfl) rfl) ?_
      refine WD.pure (i := 46) netSpoils_core_t13 #[true, true, true, true, true, true, true, true, true, true, true, true, true, true, true, true, true, true, true, true, true, true, true, true, true, true, true, true, true, true, true, true, true, true, true, true, true, true, true, true, true, true, true, true, true, true, true, false, false, false, false, false, false, false, false, false, false, false, false, false, false] rfl rfl rfl (by kernel_rfl) (PQ.then PQ.body) rfl (fun w => run_move rfl) ?_
      by_cases g121 : ((xorAt s k b).drop (k + 1)) = (s.drop (k + 1))
      ·
       refine WD.pureOn (i := 47) netSpoils_core_t13 #[true, true, true, true, true, true, true, true, true, true, true, true, true, true, true, true, true, true, true, true, true, true, true, true, true, true, true, true, true, true, true, true, true, true, true, true, true, true, true, true, true, true, true, true, true, true, true, true, false, false, false, false, false, false, false, false, false, false, false, false, false] rfl rfl rfl (decide_eq_true g121) (by kernel_rfl) (PQ.then PQ.body) rfl (fun w => run_move rfl) ?_
       refine WD.pureOn (i := 48) netSpoils_core_t13 #[true, true, true, true, true, true, true, true, true, true, true, true, true, true, true, true, true, true, true, true, true, true, true, true, true, true, true, true, true, true, true, true, true, true, true, true, true, true, true, true, true, true, true, true, true, true, true, true, true, false, false, false, false, false, false, false, false, false, false, false, false] rfl rfl rfl (decide_eq_true g121) (by kernel_rfl) (PQ.then PQ.body) rfl (fun w => run_move rfl) ?_
       refine WD.pureOn (i := 49) netSpoils_core_t13 #[true, true, true, true, true, true, true, true, true, true, true, true, true, true, true, true, true, true, true, true, true, true, true, true, true, true, true, true, true, true, true, true, true, true, true, true, true, true, true, true, true, true, true, true, true, true, true, true, true, true, false, false, false, false, false, false, false, false, false, false, false] rfl rfl rfl (decide_eq_true g121) (by kernel_rfl) (PQ.then PQ.body) rfl (fun w => run_move rfl) ?_
       refine WD.one (i := 50) netSpoils_core_t13 #[true, true, true, true, true, true, true, true, true, true, true, true, true, true, true, true, true, true, true, true, true, true, true, true, true, true, true, true, true, true, true, true, true, true, true, true, true, true, true, true, true, true, true, true, true, true, true, true, true, true, true, false, false, false, false, false, false, false, false, false, false] rfl (by kernel_rfl) ?_
       refine WO.on rfl rfl (decide_eq_true g121) ?_
       refine WO.call rfl rfl Ty.hd14 rfl (spoil_spec hS19 2 k b (by simp; omega)) (fun v22 w21 pv22 => ?_)
       obtain ⟨hv, hS21⟩ := pv22
       clear hS19
       replace hv : v22 = Value.int .i64 13 := by rw [hv, sp2]
       subst hv
       replace hS21 : St B ((netP gn [⟨0, (xorAt s k b), true⟩, ⟨0, s, false⟩, ⟨0, (xorAt s k b), true⟩] 0) :: L) w21 := by rw [sp2] at hS21; exact hS21
       refine WO.nil ?_
       have s23 : True := trivial
       refine NX.held s23 ?_
       refine WD.pureOn (i := 51) netSpoils_core_t13 #[true, true, true, true, true, true, true, true, true, true, true, true, true, true, true, true, true, true, true, true, true, true, true, true, true, true, true, true, true, true, true, true, true, true, true, true, true, true, true, true, true, true, true, true, true, true, true, true, true, true, true, true, false, false, false, false, false, false, false, false, false] rfl rfl rfl (decide_eq_true g121) (by kernel_rfl) (PQ.then PQ.body) rfl (fun w => run_eql rfl rfl) ?_
       refine WD.pure (i := 52) netSpoils_core_t13 #[true, true, true, true, true, true, true, true, true, true, true, true, true, true, true, true, true, true, true, true, true, true, true, true, true, true, true, true, true, true, true, true, true, true, true, true, true, true, true, true, true, true, true, true, true, true, true, true, true, true, true, true, true, false, false, false, false, false, false, false, false] rfl rfl rfl (by kernel_rfl) (PQ.then PQ.body) rfl (fun w => run_pickT rfl (decide_eq_true g121) rfl) ?_
       refine WD.pure (i := 53) netSpoils_core_t13 #[true, true, true, true, true, true, true, true, true, true, true, true, true, true, true, true, true, true, true, true, true, true, true, true, true, true, true, true, true, true, true, true, true, true, true, true, true, true, true, true, true, true, true, true, true, true, true, true, true, true, true, true, true, true, false, false, false, false, false, false, false] rfl rfl rfl (by kernel_rfl) (PQ.then PQ.body) rfl (fun w => run_move rfl) ?_
       refine WD.pureOn (i := 54) netSpoils_core_t13 #[true, true, true, true, true, true, true, true, true, true, true, true, true, true, true, true, true, true, true, true, true, true, true, true, true, true, true, true, true, true, true, true, true, true, true, true, true, true, true, true, true, true, true, true, true, true, true, true, true, true, true, true, true, true, true, false, false, false, false, false, false] rfl rfl rfl (by decide) (by kernel_rfl) (PQ.then PQ.body) rfl (fun w => run_move rfl) ?_
       refine WD.pureOn (i := 55) netSpoils_core_t13 #[true, true, true, true, true, true, true, true, true, true, true, true, true, true, true, true, true, true, true, true, true, true, true, true, true, true, true, true, true, true, true, true, true, true, true, true, true, true, true, true, true, true, true, true, true, true, true, true, true, true, true, true, true, true, true, true, false, false, false, false, false] rfl rfl rfl (by decide) (by kernel_rfl) (PQ.then PQ.body) rfl (fun w => run_move rfl) ?_
       refine WD.pureOn (i := 56) netSpoils_core_t13 #[true, true, true, true, true, true, true, true, true, true, true, true, true, true, true, true, true, true, true, true, true, true, true, true, true, true, true, true, true, true, true, true, true, true, true, true, true, true, true, true, true, true, true, true, true, true, true, true, true, true, true, true, true, true, true, true, true, false, false, false, false] rfl rfl rfl (by decide) (by kernel_rfl) (PQ.then PQ.body) rfl (fun w => run_move rfl) ?_
       refine WD.one (i := 57) netSpoils_core_t13 #[true, true, true, true, true, true, true, true, true, true, true, true, true, true, true, true, true, true, true, true, true, true, true, true, true, true, true, true, true, true, true, true, true, true, true, true, true, true, true, true, true, true, true, true, true, true, true, true, true, true, true, true, true, true, true, true, true, true, false, false, false] rfl (by kernel_rfl) ?_
       refine WO.on rfl rfl (by decide) ?_
       refine WO.call rfl rfl Ty.hd14 rfl (spoil_spec hS21 1 k b (by simp; omega)) (fun v25 w24 pv25 => ?_)
       obtain ⟨hv, hS24⟩ := pv25
       clear hS21
       replace hv : v25 = Value.int .i64 0 := by rw [hv, sp3]
       subst hv
       replace hS24 : St B ((netP gn [⟨0, (xorAt s k b), true⟩, ⟨0, (xorAt s k b), true⟩, ⟨0, (xorAt s k b), true⟩] 0) :: L) w24 := by rw [sp3] at hS24; exact hS24
       refine WO.nil ?_
       have s26 : True := trivial
       refine NX.held s26 ?_
       refine WD.pureOn (i := 58) netSpoils_core_t13 #[true, true, true, true, true, true, true, true, true, true, true, true, true, true, true, true, true, true, true, true, true, true, true, true, true, true, true, true, true, true, true, true, true, true, true, true, true, true, true, true, true, true, true, true, true, true, true, true, true, true, true, true, true, true, true, true, true, true, true, false, false] rfl rfl rfl (by decide) (by kernel_rfl) (PQ.then PQ.body) rfl (fun w => run_eql rfl rfl) ?_
       refine WD.pure (i := 59) netSpoils_core_t13 #[true, true, true, true, true, true, true, true, true, true, true, true, true, true, true, true, true, true, true, true, true, true, true, true, true, true, true, true, true, true, true, true, true, true, true, true, true, true, true, true, true, true, true, true, true, true, true, true, true, true, true, true, true, true, true, true, true, true, true, true, false] rfl rfl rfl (by kernel_rfl) (PQ.then PQ.body) rfl (fun w => run_pickT rfl (by decide) rfl) ?_
       refine WD.pure (i := 60) netSpoils_core_t13 #[true, true, true, true, true, true, true, true, true, true, true, true, true, true, true, true, true, true, true, true, true, true, true, true, true, true, true, true, true, true, true, true, true, true, true, true, true, true, true, true, true, true, true, true, true, true, true, true, true, true, true, true, true, true, true, true, true, true, true, true, true] rfl rfl rfl (by kernel_rfl) (PQ.then PQ.body) rfl (fun w => run_assign rfl) ?_
       refine WD.done netSpoils_core_t13 (by kernel_rfl) ?_
       refine NX.go ?_
       refine WP.ret ?_
       refine NX.done (l := [.tmp 6]) rfl rfl ?_
       exact ⟨rfl, hS24.drop⟩
      ·
       exact absurd (xorAt_drop s k b) g121
     ·
      exact absurd (xorAt_take s k b) g99
    ·
     exact absurd (by rw [xorAt_len]) g90
end Go.Proofs.Ytcdbnbdeinhokaa.SL
