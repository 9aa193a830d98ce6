/- A log that is synced and opened anew. -/
import Derived.Test.YtiggkfaonnnjoaaDoorWt
import Derived.Test.YtiggkfaonnnjoaaDoorWq
namespace Go.Proofs.YtiggkfaonnnjoaaDoor.SL
open Go.RowKit Go.Proofs.YtiggkfaonnnjoaaDoor
open Go.Proofs.YtiggkfaonnnjoaaDoorW.PrintLast (rtab opsOf)
set_option linter.unusedVariables false
set_option linter.unusedSimpArgs false
theorem walGoesOn_core {B w : World} {L : List HP} {la ba : Option Addr} {lc bc : Nat} {l : List (List UInt8)} {bl : List Bool} (hA : Rd B la l.length 1 (l.map str)) (hB : Rd B ba bl.length 1 (bl.map Value.bool)) (hS : St B L w) : Does Tryd.prog 4 [Value.slice la l.length lc, Value.slice ba bl.length bc] w (fun v w1 => v = .bool true ∧ St B L w1) := by
 replace hS := (hS.addPure (p := True) trivial).addPure (p := True) trivial
 refine enter (n := 122) Tryd.func4 rfl rfl [Value.slice la l.length lc, Value.slice ba bl.length bc] rfl ?_
 refine WP.seq (WP.region rfl ?_)
 refine WO.asg rfl rfl ?_
 refine WO.nil (NX.go (WP.seq (WP.seq (WP.region rfl ?_))))
 refine WO.call rfl rfl Ty.hd7 rfl (works05_spec hS) (fun v2 w1 pv2 => ?_)
 obtain ⟨rfl, hS1⟩ := pv2
 clear hS
 refine WO.val (run_not rfl rfl) rfl rfl rfl ?_
 refine WO.nil (NX.go ?_)
 refine WP.condF rfl (notB_t rfl) ?_
 refine WP.skip (NX.go (WP.seq (WP.region rfl ?_)))
 refine WO.call rfl rfl Ty.hd8 rfl (dnew_spec 1048576 hS1) (fun v4 w3 pv4 => ?_)
 obtain ⟨gd, rfl, hS3⟩ := pv4
 clear hS1
 have k0 : OkD (newD 1048576) 0 0 := OkD.new (by omega)
 refine WO.asg rfl rfl ?_
 refine WO.nil (NX.go (WP.seq (WP.region rfl ?_)))
 refine WO.mv rfl rfl ?_
 have hW0 : ∀ q ∈ namesD (newD 1048576), ¬ numW q = 0 ∧ numW q ≤ 99999999 := fun q hq => (by cases hq)
 refine WO.call rfl rfl Ty.hd9 rfl (lopen_spec 0 (by omega) k0 (by omega) (by omega) rfl (fun q hq => (hW0 q hq).1) (fun q hq => (hW0 q hq).2) (by rw [openL_none (base := 0) (D := newD 1048576) rfl]) hS3) (fun v6 w5 pv6 => ?_)
 obtain ⟨g, hv, hS5⟩ := pv6
 clear hS3
 rw [openL_none (base := 0) (D := newD 1048576) rfl] at hS5
 subst hv
 replace hS5 : St B (lgA g gd (lg0 []) :: dkA gd (newD 1048576) :: (.pure True) :: (.pure True) :: L) w5 := hS5
 refine WO.mv rfl rfl ?_
 refine WO.val (run_extract rfl rfl) rfl rfl rfl ?_
 refine WO.val (run_extract rfl rfl) rfl rfl rfl ?_
 refine WO.asg rfl rfl ?_
 refine WO.asg rfl rfl ?_
 refine WO.nil (NX.go (WP.seq (WP.seq (WP.region rfl ?_))))
 refine WO.mv rfl rfl ?_
 refine WO.val (run_neq rfl rfl) rfl rfl rfl ?_
 refine WO.mv rfl rfl ?_
 refine WO.on rfl rfl (by decide) ?_
 refine WO.mv rfl rfl ?_
 refine WO.on rfl rfl (by decide) ?_
 refine WO.val (run_eqlNilP Tryd.underlying28 rfl rfl) rfl rfl rfl ?_
 refine WO.val (run_pickF rfl (by decide) rfl) rfl rfl rfl ?_
 refine WO.nil (NX.go ?_)
 refine WP.condF rfl rfl ?_
 refine WP.skip (NX.go (WP.seq (WP.region rfl ?_)))
 refine WO.asg rfl rfl ?_
 refine WO.nil (NX.go (WP.seq (WP.seq (WP.region rfl ?_))))
 refine WO.asg rfl rfl ?_
 refine WO.nil (NX.go ?_)
 refine WP.meet (α := Nat × Lg × Dk × Nat) (fun x => match x with | ⟨i, lg, D, g⟩ => [(0, Value.slice la l.length lc), (5, Value.pointer (some ⟨gd, 0, none⟩)), (6, Value.pointer (some ⟨g, 0, none⟩)), (8, Value.int .i64 (i : Int))]) (fun x w => match x with | ⟨i, lg, D, g⟩ => (i ≤ 50 ∧ i ≤ l.length ∧ GW lg D i (1014 * i) (1014 * i) (l.take i) ∧ lg.l.length ≤ i) ∧ St B (lgA g gd lg :: dkA gd D :: (.pure True) :: (.pure True) :: L) w) ?_ (fun K7 => ?_)
 ·
  rintro ⟨i, lg, D, g⟩ w8 ⟨⟨hi, hil, hgw, hll⟩, hS8⟩
  clear hS5
  refine NX.go (WP.seq (WP.seq (WP.region rfl ?_)))
  refine WO.asg rfl rfl ?_
  refine WO.nil (NX.go (WP.block ?_))
  refine WP.loop (α := Nat) (fun x => match x with | q => [(0, Value.slice la l.length lc), (6, Value.pointer (some ⟨g, 0, none⟩)), (8, Value.int .i64 (i : Int)), (12, Value.int .i64 ((q : Int) + 1))]) (fun x w => match x with | q => (q ≤ i) ∧ St B (lgA g gd lg :: dkA gd D :: (.pure True) :: (.pure True) :: L) w) (fun x => match x with | q => i - q) 0 ⟨Nat.zero_le _, hS8⟩ (Sub.cons rfl (Sub.cons rfl (Sub.cons rfl (Sub.consE rfl (by congr 1) (Sub.nil _))))) ?_
  rintro q w9 ⟨hqi, hS9⟩
  clear hS8
  refine WP.seq (WP.seq (WP.region rfl ?_))
  refine WO.mv rfl rfl ?_
  refine WO.mv rfl rfl ?_
  refine WO.val (run_leq rfl rfl) rfl rfl rfl ?_
  refine WO.nil (NX.go ?_)
  refine WP.condP rfl (fun g102 => ?_) (fun g102 => ?_)
  ·
   refine WP.skip (NX.go (WP.seq (WP.block (WP.seq ?_))))
   obtain ⟨kq, hkq⟩ : ∃ kq, l[q]? = some kq := ⟨_, List.getElem?_eq_getElem (by omega)⟩
   have hsla : la.isSome = true := by obtain ⟨qq, hq, _⟩ := (((fun h => St.rdB h hA) (hS9.focus 2 rfl))).2.1 (by omega); rw [hq]; rfl
   have hkq2 : (l.take i)[q]? = some kq := by rw [List.getElem?_take, if_pos (by omega)]; exact hkq
   refine WP.region rfl ?_
   refine WO.mv rfl rfl ?_
   refine WO.mv rfl rfl ?_
   refine WO.call rfl rfl Ty.hd16 rfl (lread_spec (lg := lg) ((q : Int) + 1) hgw.w.ok hgw.w.dk (by omega) hgw.w.files hS9) (fun v11 w10 pv11 => ?_)
   obtain ⟨hv, hS10⟩ := pv11
   clear hS9
   rw [hgw.read (k := q) (r := kq) hkq2] at hv
   change _ = Value.tuple #[str kq, Value.int .i64 0] at hv
   subst hv
   refine WO.mv rfl rfl ?_
   refine WO.val (run_extract rfl rfl) rfl rfl rfl ?_
   refine WO.val (run_extract rfl rfl) rfl rfl rfl ?_
   refine WO.asg rfl rfl ?_
   refine WO.asg rfl rfl ?_
   refine WO.nil (NX.go (WP.seq (WP.region rfl ?_)))
   refine WO.mv rfl rfl ?_
   refine WO.val (run_neq rfl rfl) rfl rfl rfl ?_
   refine WO.mv rfl rfl ?_
   refine WO.on rfl rfl (by decide) ?_
   refine WO.mv rfl rfl ?_
   refine WO.on rfl rfl (by decide) ?_
   refine WO.mv rfl rfl ?_
   refine WO.on rfl rfl (by decide) ?_
   refine WO.mv rfl rfl ?_
   refine WO.on rfl rfl (by decide) ?_
   refine WO.val (run_sub rfl rfl (show IntKind.i64.wrap ((q : Int) + 1 - 1) = (q : Int) from by rw [IntWalk.i64_in _ (by omega)]; omega)) rfl rfl rfl ?_
   refine WO.on rfl rfl (by decide) ?_
   refine WO.val (run_indexAddr (q := adr la q) Tryd.underlying22 Ty.sz9 rfl rfl (by omega) (by omega) (((fun h => St.rdB h hA) (hS10.focus 2 rfl)).2.1 (by omega)) (by simp)) rfl rfl rfl ?_
   refine WO.on rfl rfl (by decide) ?_
   refine WO.val (run_load Ty.ag9 rfl (((fun h => St.rdB h hA) (hS10.focus 2 rfl)).cell (str_at hkq))) rfl rfl rfl ?_
   refine WO.on rfl rfl (by decide) ?_
   refine WO.val (run_neqS rfl rfl) rfl rfl rfl ?_
   refine WO.val (run_pickF rfl (by decide) rfl) rfl rfl rfl ?_
   refine WO.nil (NX.go ?_)
   refine WP.condF rfl (decide_eq_false (fun h => h rfl)) ?_
   refine WP.skip (NX.blk (NX.go (WP.region rfl ?_)))
   refine WO.mv rfl rfl ?_
   refine WO.val (run_add rfl rfl (IntWalk.i64_in _ (by omega))) rfl rfl rfl ?_
   refine WO.asg rfl rfl ?_
   refine WO.nil ?_
   exact NX.again (q + 1) ⟨by omega, hS10⟩ (by show i - (q + 1) < i - q; omega) (Sub.cons rfl (Sub.cons rfl (Sub.cons rfl (Sub.consE rfl (by congr 1) (Sub.nil _)))))
  ·
   refine WP.exit (NX.thenExit (NX.thenExit ?_))
   refine NX.blkExit ?_
   refine NX.go (WP.seq (WP.region rfl ?_))
   refine WO.asg rfl rfl ?_
   refine WO.nil (NX.go (WP.ret ?_))
   refine NX.done (l := [.tmp 4]) rfl rfl ?_
   exact ⟨rfl, hS9.drop.drop.drop.drop⟩
 ·
  refine WP.block ?_
  refine WP.loop (α := Nat × Lg × Dk × Nat) (fun x => match x with | ⟨i, lg, D, g⟩ => [(0, Value.slice la l.length lc), (1, Value.slice ba bl.length bc), (5, Value.pointer (some ⟨gd, 0, none⟩)), (6, Value.pointer (some ⟨g, 0, none⟩)), (8, Value.int .i64 (i : Int)), (9, Value.int .i64 (i : Int))]) (fun x w => match x with | ⟨i, lg, D, g⟩ => (i ≤ 50 ∧ i ≤ l.length ∧ GW lg D i (1014 * i) (1014 * i) (l.take i) ∧ lg.l.length ≤ i) ∧ St B (lgA g gd lg :: dkA gd D :: (.pure True) :: (.pure True) :: L) w) (fun x => match x with | ⟨i, lg, D, g⟩ => 50 - i) (0, lg0 [], (newD 1048576), g) ⟨⟨Nat.zero_le _, Nat.zero_le _, GW.new, Nat.le_refl _⟩, hS5⟩ (Sub.cons rfl (Sub.cons rfl (Sub.cons rfl (Sub.cons rfl (Sub.consE rfl (by first | rfl | first | rfl | (congr 1; omega) | (simp; done) | (simp; omega)) (Sub.consE rfl (by first | rfl | first | rfl | (congr 1; omega) | (simp; done) | (simp; omega)) (Sub.nil _))))))) ?_
  rintro ⟨i, lg, D, g⟩ w12 ⟨⟨hi, hil, hgw, hll⟩, hS12⟩
  clear hS5
  refine WP.seq (WP.seq (WP.region rfl ?_))
  refine WO.mv rfl rfl ?_
  refine WO.mv rfl rfl ?_
  refine WO.val (run_len rfl Tryd.underlying22 rfl) rfl rfl rfl ?_
  refine WO.val (run_lss rfl rfl) rfl rfl rfl ?_
  refine WO.mv rfl rfl ?_
  by_cases g33 : (i : Int) < ((l.length : Nat) : Int)
  ·
   refine WO.on rfl rfl (decide_eq_true g33) ?_
   refine WO.mv rfl rfl ?_
   refine WO.on rfl rfl (decide_eq_true g33) ?_
   refine WO.val (run_lss rfl rfl) rfl rfl rfl ?_
   refine WO.val (run_pickT rfl (decide_eq_true g33) rfl) rfl rfl rfl ?_
   refine WO.nil (NX.go ?_)
   refine WP.condP rfl (fun g36 => ?_) (fun g36 => ?_)
   ·
    refine WP.skip (NX.go (WP.seq (WP.block (WP.seq (WP.seq ?_)))))
    obtain ⟨kx, hkx⟩ : ∃ kx, l[i]? = some kx := ⟨_, List.getElem?_eq_getElem (by omega)⟩
    have hsla : la.isSome = true := by obtain ⟨qq, hq, _⟩ := (((fun h => St.rdB h hA) (hS12.focus 2 rfl))).2.1 (by omega); rw [hq]; rfl
    have hlt : (l.take i).length = i := by rw [List.length_take]; omega
    have hla : lg.last = i := by rw [hgw.la, hlt]
    have htk : l.take (i + 1) = l.take i ++ [kx] := by rw [List.take_add_one, hkx]; rfl
    refine WP.region rfl ?_
    refine WO.mv rfl rfl ?_
    refine WO.mv rfl rfl ?_
    refine WO.val (run_indexAddr (q := adr la i) Tryd.underlying22 Ty.sz9 rfl rfl (by omega) (by omega) (((fun h => St.rdB h hA) (hS12.focus 2 rfl)).2.1 (by omega)) (by simp)) rfl rfl rfl ?_
    refine WO.val (run_load Ty.ag9 rfl (((fun h => St.rdB h hA) (hS12.focus 2 rfl)).cell (str_at hkx))) rfl rfl rfl ?_
    refine WO.val (run_lenS rfl Tryd.underlying9 rfl) rfl rfl rfl ?_
    refine WO.val (run_gtr rfl rfl) rfl rfl rfl ?_
    refine WO.nil (NX.go ?_)
    refine WP.condP rfl (fun g44 => ?_) (fun g44 => ?_)
    ·
     refine WP.seq (WP.region rfl ?_)
     refine WO.asg rfl rfl ?_
     refine WO.nil (NX.go (WP.ret (NX.thenRet (NX.blkRet (NX.thenRet (NX.thenRet (NX.blkRet (NX.thenRet ?_))))))))
     refine NX.done (l := [.tmp 4]) rfl rfl ?_
     exact ⟨rfl, hS12.drop.drop.drop.drop⟩
    ·
     refine WP.skip (NX.go (WP.seq (WP.region rfl ?_)))
     refine WO.mv rfl rfl ?_
     refine WO.mv rfl rfl ?_
     refine WO.mv rfl rfl ?_
     refine WO.val (run_indexAddr (q := adr la i) Tryd.underlying22 Ty.sz9 rfl rfl (by omega) (by omega) (((fun h => St.rdB h hA) (hS12.focus 2 rfl)).2.1 (by omega)) (by simp)) rfl rfl rfl ?_
     refine WO.val (run_load Ty.ag9 rfl (((fun h => St.rdB h hA) (hS12.focus 2 rfl)).cell (str_at hkx))) rfl rfl rfl ?_
     obtain ⟨D1, eqA0, hg1⟩ := hgw.append (s := kx) (by omega) (by omega) (by omega) (by omega)
     have eqA : appendL lg D kx = ⟨appG lg kx, D1, i + 1, 0⟩ := by rw [eqA0, hla]
     refine WO.call rfl rfl Ty.hd11 rfl (lappend_spec (lg := lg) (D := D) hgw.w.ok hgw.w.dk (by omega) (by omega) kx (by first | decide | omega) hS12) (fun v14 w13 pv14 => ?_)
     obtain ⟨hv, hS13⟩ := pv14
     clear hS12
     rw [eqA] at hv
     rw [eqA] at hS13
     change _ = Value.tuple #[Value.int .i64 ((i : Int) + 1), Value.int .i64 0] at hv
     subst hv
     replace hS13 : St B (lgA g gd (appG lg kx) :: dkA gd D1 :: (.pure True) :: (.pure True) :: L) w13 := hS13
     refine WO.mv rfl rfl ?_
     refine WO.val (run_extract rfl rfl) rfl rfl rfl ?_
     refine WO.val (run_extract rfl rfl) rfl rfl rfl ?_
     refine WO.asg rfl rfl ?_
     refine WO.asg rfl rfl ?_
     refine WO.nil (NX.go (WP.seq (WP.region rfl ?_)))
     refine WO.mv rfl rfl ?_
     refine WO.val (run_add rfl rfl (IntWalk.i64_in _ (by omega))) rfl rfl rfl ?_
     refine WO.asg rfl rfl ?_
     refine WO.nil (NX.go (WP.seq (WP.seq (WP.region rfl ?_))))
     refine WO.mv rfl rfl ?_
     refine WO.val (run_neq rfl rfl) rfl rfl rfl ?_
     refine WO.mv rfl rfl ?_
     refine WO.on rfl rfl (by decide) ?_
     refine WO.mv rfl rfl ?_
     refine WO.on rfl rfl (by decide) ?_
     refine WO.mv rfl rfl ?_
     refine WO.on rfl rfl (by decide) ?_
     refine WO.val (run_neq rfl rfl) rfl rfl rfl ?_
     refine WO.val (run_pickF rfl (by decide) rfl) rfl rfl rfl ?_
     refine WO.nil (NX.go ?_)
     refine WP.condF rfl (decide_eq_false (fun h => h rfl)) ?_
     refine WP.skip (NX.go (WP.seq (WP.region rfl ?_)))
     refine WO.mv rfl rfl ?_
     refine WO.mv rfl rfl ?_
     refine WO.val (run_len rfl Tryd.underlying23 rfl) rfl rfl rfl ?_
     refine WO.val (run_lss rfl rfl) rfl rfl rfl ?_
     refine WO.mv rfl rfl ?_
     by_cases g67 : (i : Int) < ((bl.length : Nat) : Int)
     ·
      refine WO.on rfl rfl (decide_eq_true g67) ?_
      refine WO.mv rfl rfl ?_
      refine WO.on rfl rfl (decide_eq_true g67) ?_
      refine WO.mv rfl rfl ?_
      refine WO.on rfl rfl (decide_eq_true g67) ?_
      obtain ⟨b1, hb1⟩ : ∃ b1, bl[i]? = some b1 := ⟨_, List.getElem?_eq_getElem (by omega)⟩
      have hsba : ba.isSome = true := by obtain ⟨qq, hq, _⟩ := (((fun h => St.rdB h hB) (hS13.focus 3 rfl))).2.1 (by omega); rw [hq]; rfl
      refine WO.val (run_indexAddr (q := adr ba i) Tryd.underlying23 Ty.sz4 rfl rfl (by omega) (by omega) (((fun h => St.rdB h hB) (hS13.focus 3 rfl)).2.1 (by omega)) (by simp)) rfl rfl rfl ?_
      refine WO.on rfl rfl (decide_eq_true g67) ?_
      refine WO.val (run_load Ty.ag4 rfl (((fun h => St.rdB h hB) (hS13.focus 3 rfl)).cell (by rw [List.getElem?_map, hb1]; rfl))) rfl rfl rfl ?_
      refine WO.val (run_pickT rfl (decide_eq_true g67) rfl) rfl rfl rfl ?_
      refine WO.nil (NX.go ?_)
      refine WP.meet (α := Lg × Dk × Nat) (fun x => match x with | ⟨lq, Dq, gq⟩ => [(0, Value.slice la l.length lc), (1, Value.slice ba bl.length bc), (5, Value.pointer (some ⟨gd, 0, none⟩)), (6, Value.pointer (some ⟨gq, 0, none⟩)), (8, Value.int .i64 ((i : Int) + 1)), (9, Value.int .i64 (i : Int))]) (fun x w => match x with | ⟨lq, Dq, gq⟩ => (GW lq Dq (i + 1) (1014 * (i + 1)) (1014 * (i + 1)) (l.take (i + 1)) ∧ lq.l.length ≤ i + 1) ∧ St B (lgA gq gd lq :: dkA gd Dq :: (.pure True) :: (.pure True) :: L) w) ?_ (fun K15 => ?_)
      ·
       rintro ⟨lq, Dq, gq⟩ w16 ⟨⟨hgq, hlq⟩, hS16⟩
       clear hS13
       refine NX.blk (NX.go (WP.region rfl ?_))
       refine WO.mv rfl rfl ?_
       refine WO.val (run_add rfl rfl (IntWalk.i64_in _ (by omega))) rfl rfl rfl ?_
       refine WO.asg rfl rfl ?_
       refine WO.nil ?_
       exact NX.again (i + 1, lq, Dq, gq) ⟨⟨by omega, by omega, hgq, hlq⟩, hS16⟩ (by show 50 - (i + 1) < 50 - i; omega) (Sub.cons rfl (Sub.cons rfl (Sub.cons rfl (Sub.consE rfl (by first | rfl | (congr 1; omega) | (simp; done) | (simp; omega)) (Sub.consE rfl (by congr 1) (Sub.consE rfl (by congr 1) (Sub.nil _)))))))
      ·
       refine WP.condB rfl (fun g72 => ?_) (fun g72 => ?_)
       ·
        refine WP.seq (WP.seq (WP.region rfl ?_))
        refine WO.mv rfl rfl ?_
        obtain ⟨D2, eqS, hg2⟩ := hg1.sync
        refine WO.call rfl rfl Ty.hd12 rfl (lsync_spec (lg := appG lg kx) hg1.w.ok hg1.w.dk hS13) (fun v18 w17 pv18 => ?_)
        obtain ⟨hv, hS17⟩ := pv18
        clear hS13
        rw [eqS] at hv
        rw [eqS] at hS17
        change _ = Value.int .i64 0 at hv
        subst hv
        replace hS17 : St B (lgA g gd (syncedL (appG lg kx)) :: dkA gd D2 :: (.pure True) :: (.pure True) :: L) w17 := hS17
        have hst := syncedL_still (appG lg kx)
        have hro := hg2.reopen hst
        have hla2 : (syncedL (appG lg kx)).last = i + 1 := by rw [hg2.la, List.length_append, hlt]; rfl
        refine WO.val (run_neq rfl rfl) rfl rfl rfl ?_
        refine WO.nil (NX.go ?_)
        refine WP.condF rfl (by decide) ?_
        refine WP.skip (NX.go (WP.seq (WP.region rfl ?_)))
        refine WO.mv rfl rfl ?_
        replace hS17 := hS17.own_nil 3 1
        have hS19 := hS17.permT [2, 0, 0, 0, 0] (L' := dkA gd D2 :: own none 0 0 3 1 [] :: lgA g gd (syncedL (appG lg kx)) :: (.pure True) :: (.pure True) :: L) rfl
        clear hS17
        refine WO.call rfl rfl Ty.hd14 rfl (dcrash_spec (zs := []) hg2.w.dk.w hg2.w.dk.b (by omega) (by omega) (fun h => h.own_rd.1) (by decide) (by decide) hS19) (fun v21 w20 pv21 => ?_)
        obtain ⟨rfl, hS20⟩ := pv21
        clear hS19
        rw [hg2.crash hst []] at hS20
        refine WO.nil (NX.go (WP.seq (WP.region rfl ?_)))
        refine WO.mv rfl rfl ?_
        refine WO.call rfl rfl Ty.hd9 rfl (lopen_spec 0 (by omega) hg2.w.dk (by omega) (by omega) hg2.w.up.dead (fun q hq => (hro.2.2 q hq).1) (fun q hq => (hro.2.2 q hq).2) (by rw [hro.1]) hS20) (fun v23 w22 pv23 => ?_)
        obtain ⟨g2, hv, hS22⟩ := pv23
        clear hS20
        rw [hro.1] at hS22
        subst hv
        replace hS22 : St B (lgA g2 gd (⟨(syncedL (appG lg kx)).l, false, false, (syncedL (appG lg kx)).last, (syncedL (appG lg kx)).last⟩ : Lg) :: dkA gd D2 :: own none 0 0 3 1 [] :: lgA g gd (syncedL (appG lg kx)) :: (.pure True) :: (.pure True) :: L) w22 := hS22
        refine WO.mv rfl rfl ?_
        refine WO.val (run_extract rfl rfl) rfl rfl rfl ?_
        refine WO.val (run_extract rfl rfl) rfl rfl rfl ?_
        refine WO.asg rfl rfl ?_
        refine WO.asg rfl rfl ?_
        refine WO.nil (NX.go (WP.seq (WP.region rfl ?_)))
        refine WO.mv rfl rfl ?_
        refine WO.val (run_neq rfl rfl) rfl rfl rfl ?_
        refine WO.mv rfl rfl ?_
        refine WO.on rfl rfl (by decide) ?_
        refine WO.mv rfl rfl ?_
        refine WO.on rfl rfl (by decide) ?_
        refine WO.val (run_eqlNilP Tryd.underlying28 rfl rfl) rfl rfl rfl ?_
        refine WO.val (run_pickF rfl (by decide) rfl) rfl rfl rfl ?_
        refine WO.mv rfl rfl ?_
        refine WO.on rfl rfl rfl ?_
        refine WO.mv rfl rfl ?_
        refine WO.on rfl rfl rfl ?_
        refine WO.call rfl rfl Ty.hd15 rfl (llast_spec hS22) (fun v25 w24 pv25 => ?_)
        obtain ⟨hv, hS24⟩ := pv25
        clear hS22
        replace hv : _ = Value.int .i64 ((i : Int) + 1) := hv.trans (by show Value.int .i64 (((syncedL (appG lg kx)).last : Nat) : Int) = _; rw [hla2]; rfl)
        subst hv
        refine WO.on rfl rfl rfl ?_
        refine WO.mv rfl rfl ?_
        refine WO.on rfl rfl rfl ?_
        refine WO.val (run_neq rfl rfl) rfl rfl rfl ?_
        refine WO.val (run_pickF rfl rfl rfl) rfl rfl rfl ?_
        refine WO.mv rfl rfl ?_
        refine WO.on rfl rfl (decide_eq_false (fun h => h rfl)) ?_
        refine WO.mv rfl rfl ?_
        refine WO.on rfl rfl (decide_eq_false (fun h => h rfl)) ?_
        refine WO.call rfl rfl Ty.hd17 rfl (lfirst_spec (by show (syncedL (appG lg kx)).last ≤ _; omega) hS24) (fun v27 w26 pv27 => ?_)
        obtain ⟨hv, hS26⟩ := pv27
        clear hS24
        rw [hro.2.1.first] at hv
        change _ = Value.int .i64 1 at hv
        subst hv
        refine WO.on rfl rfl (decide_eq_false (fun h => h rfl)) ?_
        refine WO.val (run_neq rfl rfl) rfl rfl rfl ?_
        refine WO.val (run_pickF rfl (decide_eq_false (fun h => h rfl)) rfl) rfl rfl rfl ?_
        refine WO.nil (NX.go ?_)
        refine WP.condF rfl (by decide) ?_
        refine WP.skip ?_
        exact K15 ((⟨(syncedL (appG lg kx)).l, false, false, (syncedL (appG lg kx)).last, (syncedL (appG lg kx)).last⟩ : Lg), D2, g2) _ _ ⟨⟨by rw [htk]; exact hro.2.1.mono (by omega) (by omega) (by omega), by show (syncedL (appG lg kx)).l.length ≤ _; show ((appG lg kx).l.map clean).length ≤ _; rw [List.length_map]; have := (appG_last lg kx).2.1; omega⟩, (hS26.permT [2, 2, 0, 0, 0, 0] (L' := own none 0 0 3 1 [] :: lgA g gd (syncedL (appG lg kx)) :: lgA g2 gd (⟨(syncedL (appG lg kx)).l, false, false, (syncedL (appG lg kx)).last, (syncedL (appG lg kx)).last⟩ : Lg) :: dkA gd D2 :: (.pure True) :: (.pure True) :: L) rfl).drop.drop⟩ (Sub.cons rfl (Sub.cons rfl (Sub.cons rfl (Sub.consE rfl (by first | rfl | first | rfl | (congr 1; omega) | (simp; done) | (simp; omega)) (Sub.cons rfl (Sub.cons rfl (Sub.nil _)))))))
       ·
        refine WP.skip ?_
        exact K15 (appG lg kx, D1, g) _ _ ⟨⟨by rw [htk]; exact hg1.mono (by omega) (by omega) (by omega), by have := (appG_last lg kx).2.1; omega⟩, hS13⟩ (Sub.cons rfl (Sub.cons rfl (Sub.cons rfl (Sub.consE rfl (by first | rfl | first | rfl | (congr 1; omega) | (simp; done) | (simp; omega)) (Sub.cons rfl (Sub.cons rfl (Sub.nil _)))))))
     ·
      refine WO.off rfl rfl (decide_eq_false g67) rfl ?_
      refine WO.off rfl rfl (decide_eq_false g67) rfl ?_
      refine WO.off rfl rfl (decide_eq_false g67) rfl ?_
      refine WO.off rfl rfl (decide_eq_false g67) rfl ?_
      refine WO.val (run_pickF rfl (decide_eq_false g67) rfl) rfl rfl rfl ?_
      refine WO.nil (NX.go ?_)
      refine WP.meet (α := Lg × Dk × Nat) (fun x => match x with | ⟨lq, Dq, gq⟩ => [(0, Value.slice la l.length lc), (1, Value.slice ba bl.length bc), (5, Value.pointer (some ⟨gd, 0, none⟩)), (6, Value.pointer (some ⟨gq, 0, none⟩)), (8, Value.int .i64 ((i : Int) + 1)), (9, Value.int .i64 (i : Int))]) (fun x w => match x with | ⟨lq, Dq, gq⟩ => (GW lq Dq (i + 1) (1014 * (i + 1)) (1014 * (i + 1)) (l.take (i + 1)) ∧ lq.l.length ≤ i + 1) ∧ St B (lgA gq gd lq :: dkA gd Dq :: (.pure True) :: (.pure True) :: L) w) ?_ (fun K28 => ?_)
      ·
       rintro ⟨lq, Dq, gq⟩ w29 ⟨⟨hgq, hlq⟩, hS29⟩
       clear hS13
       refine NX.blk (NX.go (WP.region rfl ?_))
       refine WO.mv rfl rfl ?_
       refine WO.val (run_add rfl rfl (IntWalk.i64_in _ (by omega))) rfl rfl rfl ?_
       refine WO.asg rfl rfl ?_
       refine WO.nil ?_
       exact NX.again (i + 1, lq, Dq, gq) ⟨⟨by omega, by omega, hgq, hlq⟩, hS29⟩ (by show 50 - (i + 1) < 50 - i; omega) (Sub.cons rfl (Sub.cons rfl (Sub.cons rfl (Sub.consE rfl (by first | rfl | (congr 1; omega) | (simp; done) | (simp; omega)) (Sub.consE rfl (by congr 1) (Sub.consE rfl (by congr 1) (Sub.nil _)))))))
      ·
       refine WP.condF rfl rfl ?_
       refine WP.skip ?_
       exact K28 (appG lg kx, D1, g) _ _ ⟨⟨by rw [htk]; exact hg1.mono (by omega) (by omega) (by omega), by have := (appG_last lg kx).2.1; omega⟩, hS13⟩ (Sub.cons rfl (Sub.cons rfl (Sub.cons rfl (Sub.consE rfl (by first | rfl | first | rfl | (congr 1; omega) | (simp; done) | (simp; omega)) (Sub.cons rfl (Sub.cons rfl (Sub.nil _)))))))
   ·
    refine WP.exit (NX.thenExit (NX.thenExit ?_))
    refine NX.blkExit ?_
    exact K7 (i, lg, D, g) _ _ ⟨⟨hi, hil, hgw, hll⟩, hS12⟩ (Sub.cons rfl (Sub.cons rfl (Sub.cons rfl (Sub.cons rfl (Sub.nil _)))))
  ·
   refine WO.off rfl rfl (decide_eq_false g33) rfl ?_
   refine WO.off rfl rfl (decide_eq_false g33) rfl ?_
   refine WO.val (run_pickF rfl (decide_eq_false g33) rfl) rfl rfl rfl ?_
   refine WO.nil (NX.go ?_)
   refine WP.condF rfl rfl ?_
   refine WP.exit (NX.thenExit (NX.thenExit ?_))
   refine NX.blkExit ?_
   exact K7 (i, lg, D, g) _ _ ⟨⟨hi, hil, hgw, hll⟩, hS12⟩ (Sub.cons rfl (Sub.cons rfl (Sub.cons rfl (Sub.cons rfl (Sub.nil _)))))
end Go.Proofs.YtiggkfaonnnjoaaDoor.SL
