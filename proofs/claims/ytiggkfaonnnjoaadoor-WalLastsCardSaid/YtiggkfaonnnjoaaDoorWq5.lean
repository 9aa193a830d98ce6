/- Behind a crash the log has all that lasts. -/
import Derived.Test.YtiggkfaonnnjoaaDoorWxM
import Derived.Test.YtiggkfaonnnjoaaDoorWq
namespace Go.Proofs.YtiggkfaonnnjoaaDoor.SL
open Go.RowKit Go.Proofs.YtiggkfaonnnjoaaDoor
open Go.Proofs.YtiggkfaonnnjoaaDoorW.PrintLast (rtab opsOf)
set_option linter.unusedVariables false
set_option linter.unusedSimpArgs false
theorem walLasts_core {B w : World} {L : List HP} {la ba ka : Option Addr} {lc bc kc : Nat} {l : List (List UInt8)} {bl : List Bool} {zs : List Int} (fz : Int) (hA : Rd B la l.length 1 (l.map str)) (hB : Rd B ba bl.length 1 (bl.map Value.bool)) (hK : Rd B ka zs.length 1 (ri zs)) (hkl : zs.length ≤ 17592186043904) (hS : St B L w) : Does Tryd.prog 3 [Value.slice la l.length lc, Value.slice ba bl.length bc, Value.int .i64 fz, Value.slice ka zs.length kc] w (fun v w1 => v = .bool true ∧ St B L w1) := by
 replace hS := ((hS.addPure (p := True) trivial).addPure (p := True) trivial).addPure (p := True) trivial
 refine enter (n := 146) Tryd.func3 rfl rfl [Value.slice la l.length lc, Value.slice ba bl.length bc, Value.int .i64 fz, Value.slice ka zs.length kc] rfl ?_
 refine WP.seq (WP.region rfl ?_)
 refine WO.asg rfl rfl ?_
 refine WO.nil (NX.go (WP.seq (WP.seq (WP.region rfl ?_))))
 refine WO.call rfl rfl Ty.hd7 rfl (works05_spec hS) (fun v2 w1 pv2 => ?_)
 obtain ⟨rfl, hS1⟩ := pv2
 clear hS
 refine WO.val (run_not rfl rfl) rfl rfl rfl ?_
 refine WO.nil (NX.go ?_)
 refine WP.condF rfl (notB_t rfl) ?_
 refine WP.skip (NX.go (WP.seq (WP.region rfl ?_)))
 refine WO.call rfl rfl Ty.hd8 rfl (dnew_spec 1048576 hS1) (fun v4 w3 pv4 => ?_)
 obtain ⟨gd, rfl, hS3⟩ := pv4
 clear hS1
 have k0 : OkD (newD 1048576) 0 0 := OkD.new (by omega)
 refine WO.asg rfl rfl ?_
 refine WO.nil (NX.go (WP.seq (WP.region rfl ?_)))
 refine WO.mv rfl rfl ?_
 have hW0 : ∀ q ∈ namesD (newD 1048576), ¬ numW q = 0 ∧ numW q ≤ 99999999 := fun q hq => (by cases hq)
 refine WO.call rfl rfl Ty.hd9 rfl (lopen_spec 0 (by omega) k0 (by omega) (by omega) rfl (fun q hq => (hW0 q hq).1) (fun q hq => (hW0 q hq).2) (by rw [openL_none (base := 0) (D := newD 1048576) rfl]) hS3) (fun v6 w5 pv6 => ?_)
 obtain ⟨g, hv, hS5⟩ := pv6
 clear hS3
 rw [openL_none (base := 0) (D := newD 1048576) rfl] at hS5
 subst hv
 replace hS5 : St B (lgA g gd (lg0 []) :: dkA gd (newD 1048576) :: (.pure True) :: (.pure True) :: (.pure True) :: L) w5 := hS5
 refine WO.mv rfl rfl ?_
 refine WO.val (run_extract rfl rfl) rfl rfl rfl ?_
 refine WO.val (run_extract rfl rfl) rfl rfl rfl ?_
 refine WO.asg rfl rfl ?_
 refine WO.asg rfl rfl ?_
 refine WO.nil (NX.go (WP.seq (WP.seq (WP.region rfl ?_))))
 refine WO.mv rfl rfl ?_
 refine WO.val (run_neq rfl rfl) rfl rfl rfl ?_
 refine WO.mv rfl rfl ?_
 refine WO.on rfl rfl (by decide) ?_
 refine WO.mv rfl rfl ?_
 refine WO.on rfl rfl (by decide) ?_
 refine WO.val (run_eqlNilP Tryd.underlying28 rfl rfl) rfl rfl rfl ?_
 refine WO.val (run_pickF rfl (by decide) rfl) rfl rfl rfl ?_
 refine WO.nil (NX.go ?_)
 refine WP.condF rfl rfl ?_
 refine WP.skip (NX.go (WP.seq (WP.region rfl ?_)))
 refine WO.asg rfl rfl ?_
 refine WO.nil (NX.go (WP.seq (WP.seq (WP.region rfl ?_))))
 refine WO.mv rfl rfl ?_
 refine WO.val (run_geq rfl rfl) rfl rfl rfl ?_
 refine WO.nil (NX.go ?_)
 refine WP.meet (α := Dk) (fun x => match x with | D0 => [(0, Value.slice la l.length lc), (1, Value.slice ba bl.length bc), (3, Value.slice ka zs.length kc), (9, Value.pointer (some ⟨gd, 0, none⟩)), (10, Value.pointer (some ⟨g, 0, none⟩)), (12, Value.slice none 0 0)]) (fun x w => match x with | D0 => (LV (lg0 []) D0 0 0 0 []) ∧ St B (lgA g gd (lg0 []) :: dkA gd D0 :: (.pure True) :: (.pure True) :: (.pure True) :: L) w) ?_ (fun K7 => ?_)
 ·
  rintro D0 w8 ⟨hvF, hS8⟩
  clear hS5
  refine NX.go (WP.seq (WP.seq (WP.region rfl ?_)))
  refine WO.asg rfl rfl ?_
  refine WO.nil (NX.go ?_)
  refine WP.meet (α := Nat × Lg × Dk × List (List UInt8) × Option Addr × Nat) (fun x => match x with | ⟨i, lg, D, rs, ia, ic⟩ => [(3, Value.slice ka zs.length kc), (9, Value.pointer (some ⟨gd, 0, none⟩)), (10, Value.pointer (some ⟨g, 0, none⟩)), (12, Value.slice ia rs.length ic)]) (fun x w => match x with | ⟨i, lg, D, rs, ia, ic⟩ => (i ≤ 60 ∧ LV lg D (i) (1014 * (i)) (1014 * (i)) rs ∧ lg.l.length ≤ i ∧ rs.length ≤ i) ∧ St B (lgA g gd lg :: dkA gd D :: (.pure True) :: (.pure True) :: (.pure True) :: own ia rs.length ic 9 1 (rs.map str) :: L) w) ?_ (fun K9 => ?_)
  ·
   rintro ⟨i, lg, D, rs, ia, ic⟩ w10 ⟨⟨hi, hv0, hll, hrl⟩, hS10⟩
   clear hS8
   refine NX.go (WP.seq (WP.region rfl ?_))
   refine WO.mv rfl rfl ?_
   refine WO.call rfl rfl Ty.hd13 rfl (ldur_spec hS10) (fun v12 w11 pv12 => ?_)
   obtain ⟨rfl, hS11⟩ := pv12
   clear hS10
   refine WO.asg rfl rfl ?_
   refine WO.nil (NX.go (WP.seq (WP.region rfl ?_)))
   refine WO.mv rfl rfl ?_
   refine WO.buildSlice (l := []) hS11 Tryd.underlying24 rfl (fun w => by kernel_rfl) rfl (fun g14 w13 lg14 hS13 => ?_)
   clear hS11
   have hS13 := hS13.own_of_cel (m := 0) (k := 1) rfl
   refine WO.mv rfl rfl ?_
   refine WO.append (news := (ri zs)) 0 rfl Tryd.underlying24 Tryd.underlying24 (fun _ h => by cases h) Ty.sz3 (by decide) Ty.by3 Ty.zr3 rfl rfl rfl rfl hS13 rfl (((fun h => St.rdB h hK) (hS13.focus 5 rfl)).src) (ri_noAgg _) (by omega) (by omega) (fun a16 c17 w15 hS15 => ?_)
   replace hS15 : St B (own a16 zs.length c17 3 1 (ri zs) :: lgA g gd lg :: dkA gd D :: (.pure True) :: (.pure True) :: (.pure True) :: own ia rs.length ic 9 1 (rs.map str) :: L) w15 := (by have z := hS15; rw [Nat.zero_add] at z; exact z)
   refine WO.as (d := 97) (v := Value.slice a16 zs.length c17) rfl (by rw [Nat.zero_add]) ?_
   clear hS13
   have hcap := hS15.own_le_i 0 rfl
   have hS18 := hS15.permT [2, 0, 0, 0, 0, 0, 0] (L' := dkA gd D :: own a16 zs.length c17 3 1 (ri zs) :: lgA g gd lg :: (.pure True) :: (.pure True) :: (.pure True) :: own ia rs.length ic 9 1 (rs.map str) :: L) rfl
   clear hS15
   refine WO.call rfl rfl Ty.hd14 rfl (dcrash_spec (zs := zs) hv0.dk.w hv0.dk.b (by omega) (by omega) (fun h => h.own_rd.1) (by omega) (by omega) hS18) (fun v20 w19 pv20 => ?_)
   obtain ⟨rfl, hS19⟩ := pv20
   clear hS18
   obtain ⟨lo, D2, M, eqO, hoL, hoD, hoF, hdM, hMr, hrd, hnum, hoE, hdE⟩ := hv0.reopen zs
   refine WO.nil (NX.go (WP.seq (WP.region rfl ?_)))
   refine WO.mv rfl rfl ?_
   refine WO.call rfl rfl Ty.hd9 rfl (lopen_spec 0 (by omega) hoE (by omega) (by omega) hdE (fun q hq => (hnum q hq).1) (fun q hq => (hnum q hq).2) (by rw [eqO]) hS19) (fun v22 w21 pv22 => ?_)
   obtain ⟨g2, hv, hS21⟩ := pv22
   clear hS19
   rw [eqO] at hS21
   subst hv
   replace hS21 : St B (lgA g2 gd (⟨lo, false, false, M, M⟩ : Lg) :: dkA gd D2 :: own a16 zs.length c17 3 1 (ri zs) :: lgA g gd lg :: (.pure True) :: (.pure True) :: (.pure True) :: own ia rs.length ic 9 1 (rs.map str) :: L) w21 := hS21
   refine WO.mv rfl rfl ?_
   refine WO.val (run_extract rfl rfl) rfl rfl rfl ?_
   refine WO.val (run_extract rfl rfl) rfl rfl rfl ?_
   refine WO.asg rfl rfl ?_
   refine WO.asg rfl rfl ?_
   refine WO.nil (NX.go (WP.seq (WP.seq (WP.region rfl ?_))))
   refine WO.mv rfl rfl ?_
   refine WO.val (run_neq rfl rfl) rfl rfl rfl ?_
   refine WO.mv rfl rfl ?_
   refine WO.on rfl rfl (by decide) ?_
   refine WO.mv rfl rfl ?_
   refine WO.on rfl rfl (by decide) ?_
   refine WO.val (run_eqlNilP Tryd.underlying28 rfl rfl) rfl rfl rfl ?_
   refine WO.val (run_pickF rfl (by decide) rfl) rfl rfl rfl ?_
   refine WO.mv rfl rfl ?_
   refine WO.on rfl rfl rfl ?_
   refine WO.mv rfl rfl ?_
   refine WO.on rfl rfl rfl ?_
   refine WO.call rfl rfl Ty.hd15 rfl (llast_spec (lg := (⟨lo, false, false, M, M⟩ : Lg)) hS21) (fun v24 w23 pv24 => ?_)
   obtain ⟨hv, hS23⟩ := pv24
   clear hS21
   change _ = Value.int .i64 (M : Int) at hv
   subst hv
   refine WO.on rfl rfl rfl ?_
   refine WO.mv rfl rfl ?_
   refine WO.on rfl rfl rfl ?_
   refine WO.val (run_lss rfl rfl) rfl rfl rfl ?_
   refine WO.val (run_pickF rfl rfl rfl) rfl rfl rfl ?_
   refine WO.mv rfl rfl ?_
   by_cases g116 : (M : Int) < (lg.durable : Int)
   ·
    exfalso; omega
   ·
    refine WO.on rfl rfl (decide_eq_false g116) ?_
    refine WO.mv rfl rfl ?_
    refine WO.on rfl rfl (decide_eq_false g116) ?_
    refine WO.call rfl rfl Ty.hd15 rfl (llast_spec (lg := (⟨lo, false, false, M, M⟩ : Lg)) hS23) (fun v26 w25 pv26 => ?_)
    obtain ⟨hv, hS25⟩ := pv26
    clear hS23
    change _ = Value.int .i64 (M : Int) at hv
    subst hv
    refine WO.on rfl rfl (decide_eq_false g116) ?_
    refine WO.mv rfl rfl ?_
    refine WO.on rfl rfl (decide_eq_false g116) ?_
    refine WO.val (run_len rfl Tryd.underlying22 rfl) rfl rfl rfl ?_
    refine WO.on rfl rfl (decide_eq_false g116) ?_
    refine WO.val (run_gtr rfl rfl) rfl rfl rfl ?_
    refine WO.val (run_pickF rfl (decide_eq_false g116) rfl) rfl rfl rfl ?_
    refine WO.nil (NX.go ?_)
    refine WP.condP rfl (fun g122 => ?_) (fun g122 => ?_)
    ·
     exfalso; omega
    ·
     refine WP.skip (NX.go (WP.seq (WP.seq (WP.region rfl ?_))))
     refine WO.asg rfl rfl ?_
     refine WO.nil (NX.go (WP.block ?_))
     refine WP.loop (α := Nat) (fun x => match x with | q => [(10, Value.pointer (some ⟨g2, 0, none⟩)), (12, Value.slice ia rs.length ic), (17, Value.int .i64 ((q : Int) + 1))]) (fun x w => match x with | q => (q ≤ M) ∧ St B (lgA g2 gd (⟨lo, false, false, M, M⟩ : Lg) :: dkA gd D2 :: own a16 zs.length c17 3 1 (ri zs) :: lgA g gd lg :: (.pure True) :: (.pure True) :: (.pure True) :: own ia rs.length ic 9 1 (rs.map str) :: L) w) (fun x => match x with | q => M - q) 0 ⟨Nat.zero_le _, hS25⟩ (Sub.cons rfl (Sub.cons rfl (Sub.consE rfl (by congr 1) (Sub.nil _)))) ?_
     rintro q w27 ⟨hqM, hS27⟩
     clear hS25
     refine WP.seq (WP.seq (WP.region rfl ?_))
     refine WO.mv rfl rfl ?_
     refine WO.mv rfl rfl ?_
     refine WO.call rfl rfl Ty.hd15 rfl (llast_spec (lg := (⟨lo, false, false, M, M⟩ : Lg)) hS27) (fun v29 w28 pv29 => ?_)
     obtain ⟨hv, hS28⟩ := pv29
     clear hS27
     change _ = Value.int .i64 (M : Int) at hv
     subst hv
     refine WO.val (run_leq rfl rfl) rfl rfl rfl ?_
     refine WO.nil (NX.go ?_)
     refine WP.condP rfl (fun g126 => ?_) (fun g126 => ?_)
     ·
      refine WP.skip (NX.go (WP.seq (WP.block (WP.seq ?_))))
      obtain ⟨kq, hkq⟩ : ∃ kq, rs[q]? = some kq := ⟨_, List.getElem?_eq_getElem (by omega)⟩
      have hsia : ia.isSome = true := by obtain ⟨qq, hq, _⟩ := ((hS28.own_rd_i 7 rfl)).2.1 (by omega); rw [hq]; rfl
      refine WP.region rfl ?_
      refine WO.mv rfl rfl ?_
      refine WO.mv rfl rfl ?_
      refine WO.call rfl rfl Ty.hd16 rfl (lread_spec (lg := (⟨lo, false, false, M, M⟩ : Lg)) ((q : Int) + 1) hoL hoD (by omega) hoF hS28) (fun v31 w30 pv31 => ?_)
      obtain ⟨hv, hS30⟩ := pv31
      clear hS28
      rw [show readL ((⟨lo, false, false, M, M⟩ : Lg) : Lg).l ((q : Int) + 1) = (kq, 0) from hrd q kq (by omega) hkq] at hv
      change _ = Value.tuple #[str kq, Value.int .i64 0] at hv
      subst hv
      refine WO.mv rfl rfl ?_
      refine WO.val (run_extract rfl rfl) rfl rfl rfl ?_
      refine WO.val (run_extract rfl rfl) rfl rfl rfl ?_
      refine WO.asg rfl rfl ?_
      refine WO.asg rfl rfl ?_
      refine WO.nil (NX.go (WP.seq (WP.region rfl ?_)))
      refine WO.mv rfl rfl ?_
      refine WO.val (run_neq rfl rfl) rfl rfl rfl ?_
      refine WO.mv rfl rfl ?_
      refine WO.on rfl rfl (by decide) ?_
      refine WO.mv rfl rfl ?_
      refine WO.on rfl rfl (by decide) ?_
      refine WO.mv rfl rfl ?_
      refine WO.on rfl rfl (by decide) ?_
      refine WO.mv rfl rfl ?_
      refine WO.on rfl rfl (by decide) ?_
      refine WO.val (run_sub rfl rfl (show IntKind.i64.wrap ((q : Int) + 1 - 1) = (q : Int) from by rw [IntWalk.i64_in _ (by omega)]; omega)) rfl rfl rfl ?_
      refine WO.on rfl rfl (by decide) ?_
      refine WO.val (run_indexAddr (q := adr ia q) Tryd.underlying22 Ty.sz9 rfl rfl (by omega) (by omega) ((hS30.own_rd_i 7 rfl).2.1 (by omega)) (by simp)) rfl rfl rfl ?_
      refine WO.on rfl rfl (by decide) ?_
      refine WO.val (run_load Ty.ag9 rfl ((hS30.own_rd_i 7 rfl).cell (str_at hkq))) rfl rfl rfl ?_
      refine WO.on rfl rfl (by decide) ?_
      refine WO.val (run_neqS rfl rfl) rfl rfl rfl ?_
      refine WO.val (run_pickF rfl (by decide) rfl) rfl rfl rfl ?_
      refine WO.nil (NX.go ?_)
      refine WP.condF rfl (decide_eq_false (fun h => h rfl)) ?_
      refine WP.skip (NX.blk (NX.go (WP.region rfl ?_)))
      refine WO.mv rfl rfl ?_
      refine WO.val (run_add rfl rfl (IntWalk.i64_in _ (by omega))) rfl rfl rfl ?_
      refine WO.asg rfl rfl ?_
      refine WO.nil ?_
      exact NX.again (q + 1) ⟨by omega, hS30⟩ (by show M - (q + 1) < M - q; omega) (Sub.cons rfl (Sub.cons rfl (Sub.consE rfl (by congr 1) (Sub.nil _))))
     ·
      refine WP.exit (NX.thenExit (NX.thenExit ?_))
      refine NX.blkExit ?_
      refine NX.go (WP.seq (WP.region rfl ?_))
      refine WO.asg rfl rfl ?_
      refine WO.nil (NX.go (WP.ret ?_))
      refine NX.done (l := [.tmp 8]) rfl rfl ?_
      exact ⟨rfl, hS28.drop.drop.drop.drop.drop.drop.drop.drop⟩
  ·
   refine WP.block ?_
   refine WP.loop (α := Nat × Lg × Dk × List (List UInt8) × Option Addr × Nat) (fun x => match x with | ⟨i, lg, D, rs, ia, ic⟩ => [(0, Value.slice la l.length lc), (1, Value.slice ba bl.length bc), (3, Value.slice ka zs.length kc), (9, Value.pointer (some ⟨gd, 0, none⟩)), (10, Value.pointer (some ⟨g, 0, none⟩)), (12, Value.slice ia rs.length ic), (13, Value.int .i64 (i : Int))]) (fun x w => match x with | ⟨i, lg, D, rs, ia, ic⟩ => (i ≤ 60 ∧ i ≤ l.length ∧ LV lg D (i) (1014 * (i)) (1014 * (i)) rs ∧ lg.l.length ≤ i ∧ rs.length ≤ i) ∧ St B (lgA g gd lg :: dkA gd D :: (.pure True) :: (.pure True) :: (.pure True) :: own ia rs.length ic 9 1 (rs.map str) :: L) w) (fun x => match x with | ⟨i, lg, D, rs, ia, ic⟩ => 60 - i) (0, lg0 [], D0, [], none, 0) ⟨⟨Nat.zero_le _, Nat.zero_le _, hvF, Nat.le_refl _, Nat.le_refl _⟩, (hS8.own_nil 9 1).permT [1, 1, 1, 1, 1, 0] (L' := lgA g gd (lg0 []) :: dkA gd D0 :: (.pure True) :: (.pure True) :: (.pure True) :: own none 0 0 9 1 [] :: L) rfl⟩ (Sub.cons rfl (Sub.cons rfl (Sub.cons rfl (Sub.cons rfl (Sub.cons rfl (Sub.consE rfl (by first | rfl | first | rfl | (congr 1; omega) | (simp; done) | (simp; omega)) (Sub.consE rfl (by first | rfl | first | rfl | (congr 1; omega) | (simp; done) | (simp; omega)) (Sub.nil _)))))))) ?_
   rintro ⟨i, lg, D, rs, ia, ic⟩ w32 ⟨⟨hi, hil, hv0, hll, hrl⟩, hS32⟩
   clear hS8
   refine WP.seq (WP.seq (WP.region rfl ?_))
   refine WO.mv rfl rfl ?_
   refine WO.mv rfl rfl ?_
   refine WO.val (run_len rfl Tryd.underlying22 rfl) rfl rfl rfl ?_
   refine WO.val (run_lss rfl rfl) rfl rfl rfl ?_
   refine WO.mv rfl rfl ?_
   by_cases g46 : (i : Int) < ((l.length : Nat) : Int)
   ·
    refine WO.on rfl rfl (decide_eq_true g46) ?_
    refine WO.mv rfl rfl ?_
    refine WO.on rfl rfl (decide_eq_true g46) ?_
    refine WO.val (run_lss rfl rfl) rfl rfl rfl ?_
    refine WO.val (run_pickT rfl (decide_eq_true g46) rfl) rfl rfl rfl ?_
    refine WO.nil (NX.go ?_)
    refine WP.condP rfl (fun g49 => ?_) (fun g49 => ?_)
    ·
     refine WP.skip (NX.go (WP.seq (WP.block (WP.seq (WP.seq ?_)))))
     obtain ⟨kx, hkx⟩ : ∃ kx, l[i]? = some kx := ⟨_, List.getElem?_eq_getElem (by omega)⟩
     have hsla : la.isSome = true := by obtain ⟨qq, hq, _⟩ := (((fun h => St.rdB h hA) (hS32.focus 2 rfl))).2.1 (by omega); rw [hq]; rfl
     have hlst := hv0.la
     refine WP.region rfl ?_
     refine WO.mv rfl rfl ?_
     refine WO.mv rfl rfl ?_
     refine WO.val (run_indexAddr (q := adr la i) Tryd.underlying22 Ty.sz9 rfl rfl (by omega) (by omega) (((fun h => St.rdB h hA) (hS32.focus 2 rfl)).2.1 (by omega)) (by simp)) rfl rfl rfl ?_
     refine WO.val (run_load Ty.ag9 rfl (((fun h => St.rdB h hA) (hS32.focus 2 rfl)).cell (str_at hkx))) rfl rfl rfl ?_
     refine WO.val (run_lenS rfl Tryd.underlying9 rfl) rfl rfl rfl ?_
     refine WO.val (run_gtr rfl rfl) rfl rfl rfl ?_
     refine WO.nil (NX.go ?_)
     refine WP.condP rfl (fun g57 => ?_) (fun g57 => ?_)
     ·
      refine WP.seq (WP.region rfl ?_)
      refine WO.asg rfl rfl ?_
      refine WO.nil (NX.go (WP.ret (NX.thenRet (NX.blkRet (NX.thenRet (NX.thenRet (NX.blkRet (NX.thenRet ?_))))))))
      refine NX.done (l := [.tmp 8]) rfl rfl ?_
      exact ⟨rfl, hS32.drop.drop.drop.drop.drop.drop⟩
     ·
      refine WP.skip (NX.go (WP.seq (WP.region rfl ?_)))
      refine WO.mv rfl rfl ?_
      refine WO.mv rfl rfl ?_
      refine WO.mv rfl rfl ?_
      refine WO.val (run_indexAddr (q := adr la i) Tryd.underlying22 Ty.sz9 rfl rfl (by omega) (by omega) (((fun h => St.rdB h hA) (hS32.focus 2 rfl)).2.1 (by omega)) (by simp)) rfl rfl rfl ?_
      refine WO.val (run_load Ty.ag9 rfl (((fun h => St.rdB h hA) (hS32.focus 2 rfl)).cell (str_at hkx))) rfl rfl rfl ?_
      obtain ⟨lg1, D1, n1, e1, eqA, hl1, hca⟩ := hv0.app2 (s := kx) (by omega) (by omega) (by omega) (by omega)
      refine WO.call rfl rfl Ty.hd11 rfl (lappend_spec (lg := lg) (D := D) hv0.ok hv0.dk (by omega) (by omega) kx (by first | decide | omega) hS32) (fun v34 w33 pv34 => ?_)
      obtain ⟨hv, hS33⟩ := pv34
      clear hS32
      rw [eqA] at hv
      rw [eqA] at hS33
      change _ = Value.tuple #[Value.int .i64 (n1 : Int), Value.int .i64 e1] at hv
      subst hv
      replace hS33 : St B (lgA g gd lg1 :: dkA gd D1 :: (.pure True) :: (.pure True) :: (.pure True) :: own ia rs.length ic 9 1 (rs.map str) :: L) w33 := hS33
      refine WO.mv rfl rfl ?_
      refine WO.val (run_extract rfl rfl) rfl rfl rfl ?_
      refine WO.val (run_extract rfl rfl) rfl rfl rfl ?_
      refine WO.asg rfl rfl ?_
      refine WO.asg rfl rfl ?_
      refine WO.nil (NX.go (WP.seq (WP.seq (WP.region rfl ?_))))
      refine WO.mv rfl rfl ?_
      refine WO.val (run_eql rfl rfl) rfl rfl rfl ?_
      refine WO.nil (NX.go ?_)
      refine WP.meet (α := List (List UInt8) × Option Addr × Nat) (fun x => match x with | ⟨rq, aq, cq⟩ => [(0, Value.slice la l.length lc), (1, Value.slice ba bl.length bc), (3, Value.slice ka zs.length kc), (9, Value.pointer (some ⟨gd, 0, none⟩)), (10, Value.pointer (some ⟨g, 0, none⟩)), (12, Value.slice aq rq.length cq), (13, Value.int .i64 (i : Int))]) (fun x w => match x with | ⟨rq, aq, cq⟩ => (LV lg1 D1 (i + 1) (1014 * (i + 1)) (1014 * (i + 1)) rq ∧ rq.length ≤ i + 1) ∧ St B (lgA g gd lg1 :: dkA gd D1 :: (.pure True) :: (.pure True) :: (.pure True) :: own aq rq.length cq 9 1 (rq.map str) :: L) w) ?_ (fun K35 => ?_)
      ·
       rintro ⟨rq, aq, cq⟩ w36 ⟨⟨hvq, hrq⟩, hS36⟩
       clear hS33
       refine NX.go (WP.seq (WP.region rfl ?_))
       refine WO.mv rfl rfl ?_
       refine WO.mv rfl rfl ?_
       refine WO.val (run_len rfl Tryd.underlying23 rfl) rfl rfl rfl ?_
       refine WO.val (run_lss rfl rfl) rfl rfl rfl ?_
       refine WO.mv rfl rfl ?_
       by_cases g84 : (i : Int) < ((bl.length : Nat) : Int)
       ·
        refine WO.on rfl rfl (decide_eq_true g84) ?_
        refine WO.mv rfl rfl ?_
        refine WO.on rfl rfl (decide_eq_true g84) ?_
        refine WO.mv rfl rfl ?_
        refine WO.on rfl rfl (decide_eq_true g84) ?_
        obtain ⟨b1, hb1⟩ : ∃ b1, bl[i]? = some b1 := ⟨_, List.getElem?_eq_getElem (by omega)⟩
        have hsba : ba.isSome = true := by obtain ⟨qq, hq, _⟩ := (((fun h => St.rdB h hB) (hS36.focus 3 rfl))).2.1 (by omega); rw [hq]; rfl
        refine WO.val (run_indexAddr (q := adr ba i) Tryd.underlying23 Ty.sz4 rfl rfl (by omega) (by omega) (((fun h => St.rdB h hB) (hS36.focus 3 rfl)).2.1 (by omega)) (by simp)) rfl rfl rfl ?_
        refine WO.on rfl rfl (decide_eq_true g84) ?_
        refine WO.val (run_load Ty.ag4 rfl (((fun h => St.rdB h hB) (hS36.focus 3 rfl)).cell (by rw [List.getElem?_map, hb1]; rfl))) rfl rfl rfl ?_
        refine WO.val (run_pickT rfl (decide_eq_true g84) rfl) rfl rfl rfl ?_
        refine WO.nil (NX.go ?_)
        refine WP.meet (α := Lg × Dk) (fun x => match x with | ⟨lq, Dq⟩ => [(0, Value.slice la l.length lc), (1, Value.slice ba bl.length bc), (3, Value.slice ka zs.length kc), (9, Value.pointer (some ⟨gd, 0, none⟩)), (10, Value.pointer (some ⟨g, 0, none⟩)), (12, Value.slice aq rq.length cq), (13, Value.int .i64 (i : Int))]) (fun x w => match x with | ⟨lq, Dq⟩ => (LV lq Dq (i + 1) (1014 * (i + 1)) (1014 * (i + 1)) rq ∧ lq.l.length ≤ i + 1 ∧ rq.length ≤ i + 1) ∧ St B (lgA g gd lq :: dkA gd Dq :: (.pure True) :: (.pure True) :: (.pure True) :: own aq rq.length cq 9 1 (rq.map str) :: L) w) ?_ (fun K37 => ?_)
        ·
         rintro ⟨lq, Dq⟩ w38 ⟨⟨hvz, hlz, hrz⟩, hS38⟩
         clear hS36
         refine NX.blk (NX.go (WP.region rfl ?_))
         refine WO.mv rfl rfl ?_
         refine WO.val (run_add rfl rfl (IntWalk.i64_in _ (by omega))) rfl rfl rfl ?_
         refine WO.asg rfl rfl ?_
         refine WO.nil ?_
         exact NX.again (i + 1, lq, Dq, rq, aq, cq) ⟨⟨by omega, by omega, hvz, hlz, hrz⟩, hS38⟩ (by show 60 - (i + 1) < 60 - i; omega) (Sub.cons rfl (Sub.cons rfl (Sub.cons rfl (Sub.cons rfl (Sub.cons rfl (Sub.consE rfl (by first | rfl | (congr 1; omega) | (simp; done) | (simp; omega)) (Sub.consE rfl (by congr 1) (Sub.nil _))))))))
        ·
         refine WP.condB rfl (fun g89 => ?_) (fun g89 => ?_)
         ·
          refine WP.region rfl ?_
          refine WO.mv rfl rfl ?_
          obtain ⟨lg2, D2, e2, eqS, hv2, hla2, hln2⟩ := hvq.sync
          refine WO.call rfl rfl Ty.hd12 rfl (lsync_spec hvq.ok hvq.dk hS36) (fun v40 w39 pv40 => ?_)
          obtain ⟨hv, hS39⟩ := pv40
          clear hS36
          rw [eqS] at hv
          rw [eqS] at hS39
          change _ = Value.int .i64 e2 at hv
          subst hv
          replace hS39 : St B (lgA g gd lg2 :: dkA gd D2 :: (.pure True) :: (.pure True) :: (.pure True) :: own aq rq.length cq 9 1 (rq.map str) :: L) w39 := hS39
          refine WO.nil ?_
          exact K37 (lg2, D2) _ _ ⟨⟨hv2, by omega, hrq⟩, hS39⟩ (Sub.cons rfl (Sub.cons rfl (Sub.cons rfl (Sub.cons rfl (Sub.cons rfl (Sub.cons rfl (Sub.cons rfl (Sub.nil _))))))))
         ·
          refine WP.skip ?_
          exact K37 (lg1, D1) _ _ ⟨⟨hvq, by omega, hrq⟩, hS36⟩ (Sub.cons rfl (Sub.cons rfl (Sub.cons rfl (Sub.cons rfl (Sub.cons rfl (Sub.cons rfl (Sub.cons rfl (Sub.nil _))))))))
       ·
        refine WO.off rfl rfl (decide_eq_false g84) rfl ?_
        refine WO.off rfl rfl (decide_eq_false g84) rfl ?_
        refine WO.off rfl rfl (decide_eq_false g84) rfl ?_
        refine WO.off rfl rfl (decide_eq_false g84) rfl ?_
        refine WO.val (run_pickF rfl (decide_eq_false g84) rfl) rfl rfl rfl ?_
        refine WO.nil (NX.go ?_)
        refine WP.meet (α := Lg × Dk) (fun x => match x with | ⟨lq, Dq⟩ => [(0, Value.slice la l.length lc), (1, Value.slice ba bl.length bc), (3, Value.slice ka zs.length kc), (9, Value.pointer (some ⟨gd, 0, none⟩)), (10, Value.pointer (some ⟨g, 0, none⟩)), (12, Value.slice aq rq.length cq), (13, Value.int .i64 (i : Int))]) (fun x w => match x with | ⟨lq, Dq⟩ => (LV lq Dq (i + 1) (1014 * (i + 1)) (1014 * (i + 1)) rq ∧ lq.l.length ≤ i + 1 ∧ rq.length ≤ i + 1) ∧ St B (lgA g gd lq :: dkA gd Dq :: (.pure True) :: (.pure True) :: (.pure True) :: own aq rq.length cq 9 1 (rq.map str) :: L) w) ?_ (fun K41 => ?_)
        ·
         rintro ⟨lq, Dq⟩ w42 ⟨⟨hvz, hlz, hrz⟩, hS42⟩
         clear hS36
         refine NX.blk (NX.go (WP.region rfl ?_))
         refine WO.mv rfl rfl ?_
         refine WO.val (run_add rfl rfl (IntWalk.i64_in _ (by omega))) rfl rfl rfl ?_
         refine WO.asg rfl rfl ?_
         refine WO.nil ?_
         exact NX.again (i + 1, lq, Dq, rq, aq, cq) ⟨⟨by omega, by omega, hvz, hlz, hrz⟩, hS42⟩ (by show 60 - (i + 1) < 60 - i; omega) (Sub.cons rfl (Sub.cons rfl (Sub.cons rfl (Sub.cons rfl (Sub.cons rfl (Sub.consE rfl (by first | rfl | (congr 1; omega) | (simp; done) | (simp; omega)) (Sub.consE rfl (by congr 1) (Sub.nil _))))))))
        ·
         refine WP.condF rfl rfl ?_
         refine WP.skip ?_
         exact K41 (lg1, D1) _ _ ⟨⟨hvq, by omega, hrq⟩, hS36⟩ (Sub.cons rfl (Sub.cons rfl (Sub.cons rfl (Sub.cons rfl (Sub.cons rfl (Sub.cons rfl (Sub.cons rfl (Sub.nil _))))))))
      ·
       refine WP.condP rfl (fun g68 => ?_) (fun g68 => ?_)
       ·
        have hca2 : n1 = rs.length + 1 ∧ LV lg1 D1 (i + 1) (1014 * i + (kx.length + 14)) (1014 * i + (kx.length + 14)) (rs ++ [kx]) := by rcases hca with h0 | h0; exact h0.2; exact absurd g68 (by rw [h0.1]; decide)
        refine WP.seq (WP.region rfl ?_)
        refine WO.mv rfl rfl ?_
        refine WO.mv rfl rfl ?_
        refine WO.mv rfl rfl ?_
        refine WO.val (run_indexAddr (q := adr la i) Tryd.underlying22 Ty.sz9 rfl rfl (by omega) (by omega) (((fun h => St.rdB h hA) (hS33.focus 2 rfl)).2.1 (by omega)) (by simp)) rfl rfl rfl ?_
        refine WO.val (run_load Ty.ag9 rfl (((fun h => St.rdB h hA) (hS33.focus 2 rfl)).cell (str_at hkx))) rfl rfl rfl ?_
        refine WO.buildSlice (l := [str kx]) hS33 Tryd.underlying22 rfl (fun w => by kernel_rfl) rfl (fun g44 w43 lg44 hS43 => ?_)
        clear hS33
        refine WO.append (news := [str kx]) 6 rfl Tryd.underlying22 Tryd.underlying22 (fun _ h => by cases h) Ty.sz9 (by decide) Ty.by9 Ty.zr9 rfl rfl rfl rfl hS43 rfl ((hS43.cel_rd 0 rfl (o := 0) (m := 1) (k := 1) rfl (Nat.le_of_ble_eq_true rfl)).src) rfl (by omega) (by omega) (fun a46 c47 w45 hS45 => ?_)
        replace hS45 : St B (cel g44 [str kx] 9 :: lgA g gd lg1 :: dkA gd D1 :: (.pure True) :: (.pure True) :: (.pure True) :: own a46 (rs.length + 1) c47 9 1 ((rs.map str) ++ [str kx]) :: L) w45 := hS45
        clear hS43
        refine WO.asg rfl rfl ?_
        refine WO.nil (NX.go (WP.seq (WP.region rfl ?_)))
        refine WO.mv rfl rfl ?_
        refine WO.mv rfl rfl ?_
        refine WO.val (run_len rfl Tryd.underlying22 rfl) rfl rfl rfl ?_
        refine WO.val (run_neq rfl rfl) rfl rfl rfl ?_
        refine WO.nil (NX.go ?_)
        refine WP.condP rfl (fun g79 => ?_) (fun g79 => ?_)
        ·
         exfalso; have := hca2.1; omega
        ·
         refine WP.skip ?_
         exact K35 (rs ++ [kx], a46, c47) _ _ ⟨⟨hca2.2.mono (by omega) (by omega) (by omega), by rw [List.length_append, List.length_singleton]; omega⟩, by have z := hS45.drop; rw [show rs.map str ++ [str kx] = (rs ++ [kx]).map str by rw [List.map_append]; rfl, show rs.length + 1 = (rs ++ [kx]).length by rw [List.length_append]; rfl] at z; exact z⟩ (Sub.cons rfl (Sub.cons rfl (Sub.cons rfl (Sub.cons rfl (Sub.cons rfl (Sub.consE rfl (by rw [List.length_append]; rfl) (Sub.cons rfl (Sub.nil _))))))))
       ·
        have hca2 : LV lg1 D1 (i + 1) (1014 * i + (kx.length + 14)) (1014 * i + (kx.length + 14)) rs := by rcases hca with h0 | h0; exact absurd h0.1 g68; exact h0.2
        refine WP.skip ?_
        exact K35 (rs, ia, ic) _ _ ⟨⟨hca2.mono (by omega) (by omega) (by omega), by omega⟩, hS33⟩ (Sub.cons rfl (Sub.cons rfl (Sub.cons rfl (Sub.cons rfl (Sub.cons rfl (Sub.consE rfl (by first | rfl | first | rfl | (congr 1; omega) | (simp; done) | (simp; omega)) (Sub.cons rfl (Sub.nil _))))))))
    ·
     refine WP.exit (NX.thenExit (NX.thenExit ?_))
     refine NX.blkExit ?_
     exact K9 (i, lg, D, rs, ia, ic) _ _ ⟨⟨hi, hv0, hll, hrl⟩, hS32⟩ (Sub.cons rfl (Sub.cons rfl (Sub.cons rfl (Sub.cons rfl (Sub.nil _)))))
   ·
    refine WO.off rfl rfl (decide_eq_false g46) rfl ?_
    refine WO.off rfl rfl (decide_eq_false g46) rfl ?_
    refine WO.val (run_pickF rfl (decide_eq_false g46) rfl) rfl rfl rfl ?_
    refine WO.nil (NX.go ?_)
    refine WP.condF rfl rfl ?_
    refine WP.exit (NX.thenExit (NX.thenExit ?_))
    refine NX.blkExit ?_
    exact K9 (i, lg, D, rs, ia, ic) _ _ ⟨⟨hi, hv0, hll, hrl⟩, hS32⟩ (Sub.cons rfl (Sub.cons rfl (Sub.cons rfl (Sub.cons rfl (Sub.nil _)))))
 ·
  refine WP.condP rfl (fun g35 => ?_) (fun g35 => ?_)
  ·
   refine WP.region rfl ?_
   refine WO.mv rfl rfl ?_
   refine WO.mv rfl rfl ?_
   refine WO.val (run_convI Tryd.underlying33 (by kernel_rfl) rfl (IntKind.wrap_u64 _)) rfl rfl rfl ?_
   refine WO.val (run_rem rfl rfl (by omega) (IntWalk.rem_in _ _ (by omega))) rfl rfl rfl ?_
   obtain ⟨nf, hnf⟩ : ∃ nf : Nat, (nf : Int) = (fz % 18446744073709551616) % 200 := ⟨((fz % 18446744073709551616) % 200).toNat, by omega⟩
   refine WO.val (run_convI Tryd.underlying3 (by kernel_rfl) rfl (show IntKind.i64.wrap ((fz % 18446744073709551616) % 200) = (nf : Int) by rw [← hnf]; exact IntWalk.i64_in _ (by omega))) rfl rfl rfl ?_
   have hS48 := hS5.permT [1, 0, 0, 0, 0] (L' := dkA gd (newD 1048576) :: lgA g gd (lg0 []) :: (.pure True) :: (.pure True) :: (.pure True) :: L) rfl
   clear hS5
   refine WO.call rfl rfl Ty.hd10 rfl (dfuse_spec (nf : Int) hS48) (fun v50 w49 pv50 => ?_)
   obtain ⟨rfl, hS49⟩ := pv50
   clear hS48
   refine WO.nil ?_
   exact K7 (fuseD (newD 1048576) (nf : Int)) _ _ ⟨LV.new.fuse (by omega), (hS49.permT [1, 0, 0, 0, 0] (L' := lgA g gd (lg0 []) :: dkA gd (fuseD (newD 1048576) (nf : Int)) :: (.pure True) :: (.pure True) :: (.pure True) :: L) rfl)⟩ (Sub.cons rfl (Sub.cons rfl (Sub.cons rfl (Sub.cons rfl (Sub.cons rfl (Sub.cons rfl (Sub.nil _)))))))
  ·
   refine WP.skip ?_
   exact K7 (newD 1048576) _ _ ⟨LV.new, hS5⟩ (Sub.cons rfl (Sub.cons rfl (Sub.cons rfl (Sub.cons rfl (Sub.cons rfl (Sub.cons rfl (Sub.nil _)))))))
end Go.Proofs.YtiggkfaonnnjoaaDoor.SL
