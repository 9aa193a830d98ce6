/- The law ShipDoes as a contract. -/
import Derived.Test.YthkiofmfegeknaaSx6
namespace Go.Proofs.Ythkiofmfegeknaa.Sx
open Go.RowKit
open Go.Proofs.Ythkiofmfegeknaa.Xb
open Go.Proofs.YthkiofmfegeknaaW.PrintLast (start_ take_ pure_ one_ norm_ goes_ done_ done_of any_of one_of take_ofW with_tabW rtab waitsOk opsOf i64_w i32_w)
set_option linter.unusedSimpArgs false
set_option linter.unusedVariables false
theorem rhello_at (g : Nat) (s s' : Bool × Int × Int) (k : Int) (w : World) (hb : Blk w g (shipR s) 41) (h : helloS k s = s') : Calls Try.prog 17 #[.pointer (some ⟨g, 0, none⟩), .int .i64 k] w (TurnR g w s') := h ▸ rhello_any g s k w hb
theorem rsent_at (g : Nat) (s s' : Bool × Int × Int) (fr k : Int) (w : World) (hb : Blk w g (shipR s) 41) (h : sentS fr k s = s') : Calls Try.prog 19 #[.pointer (some ⟨g, 0, none⟩), .int .i64 fr, .int .i64 k] w (TurnR g w s') := h ▸ rsent_any g s fr k w hb
theorem rack_at (g : Nat) (s s' : Bool × Int × Int) (k : Int) (w : World) (hb : Blk w g (shipR s) 41) (h3 : -9223372036854775808 ≤ s.2.1) (h : ackS k s = s') : Calls Try.prog 18 #[.pointer (some ⟨g, 0, none⟩), .int .i64 k] w (TurnR g w s') := h ▸ rack_any g s k w hb h3
theorem ragain_at (g : Nat) (s s' : Bool × Int × Int) (w : World) (hb : Blk w g (shipR s) 41) (h : againS s = s') : Calls Try.prog 20 #[.pointer (some ⟨g, 0, none⟩)] w (TurnR g w s') := h ▸ ragain_any g s w hb
theorem rplan_at {p : Int × Int × Bool} (g : Nat) (h : Bool) (a n fi la : Int) (w : World) (hb : Blk w g (shipR (h, a, n)) 41) (hp : planS fi la (h, a, n) = p) :
    Calls Try.prog 21 #[.pointer (some ⟨g, 0, none⟩), .int .i64 fi, .int .i64 la] w fun e w' => e = .returned (.tuple #[.int .i64 p.1, .int .i64 p.2.1, .bool p.2.2]) ∧ Below w.heap.size w w' := by
  subst hp
  refine (rplan_any g h a n fi la w hb).mono ?_
  rintro e w' ⟨rfl, m, rfl⟩
  exact ⟨rfl, below_drewN (Below.refl _ _) m⟩
theorem hello_pos {k : Int} {h h2 : Bool} {a n a2 n2 : Int} (e : helloS k (h, a, n) = (h2, a2, n2)) (ha : 0 ≤ a) : 0 ≤ a2 := by
  unfold helloS at e; split at e <;> simp only [Prod.mk.injEq] at e <;> omega
theorem ack_pos {k : Int} {h h2 : Bool} {a n a2 n2 : Int} (e : ackS k (h, a, n) = (h2, a2, n2)) (ha : 0 ≤ a) : 0 ≤ a2 := by
  unfold ackS at e; split at e <;> simp only [Prod.mk.injEq] at * <;> omega
theorem sent_pos {f k : Int} {h h2 : Bool} {a n a2 n2 : Int} (e : sentS f k (h, a, n) = (h2, a2, n2)) (ha : 0 ≤ a) : 0 ≤ a2 := by
  unfold sentS at e; split at e <;> simp only [Prod.mk.injEq] at e <;> omega
theorem again_pos {h h2 : Bool} {a n a2 n2 : Int} (e : againS (h, a, n) = (h2, a2, n2)) (ha : 0 ≤ a) : 0 ≤ a2 := by
  unfold againS at e; split at e <;> simp only [Prod.mk.injEq] at e <;> omega
def DoRel (gs gr q k : Nat) (h : Bool) (a n : Int) (w wr : World) : Prop := k ≤ 200 ∧ 0 ≤ a ∧ q + k = 201 ∧ Blk wr gs (ship h a n) 52 ∧ Blk wr gr (shipR (h, a, n)) 41 ∧ Below w.heap.size w wr
/-- A slice of acts that came in: each element's cells. -/
def Acts (w : World) (a : Option Addr) (len : Nat) : Prop := ∀ i, i < len → ∃ b off v0 v1 v2 v3 v4, a = some ⟨b, off, none⟩ ∧ w.cell? ⟨b, off + i * 5, none⟩ = some (.int .i64 v0) ∧ w.cell? ⟨b, off + i * 5 + 1, none⟩ = some (.int .i64 v1) ∧ w.cell? ⟨b, off + i * 5 + 2, none⟩ = some (.int .i64 v2) ∧ w.cell? ⟨b, off + i * 5 + 3, none⟩ = some (.int .i64 v3) ∧ w.cell? ⟨b, off + i * 5 + 4, none⟩ = some (.int .i64 v4)
def does23T : Bool × List (List Nat × List Nat) := (true, [([], []), ([], []), ([0, 1], [0, 1]), ([2], [2]), ([3], [3]), ([3], [3]), ([4, 5, 3], [3, 4, 5]), ([3, 6], [3, 6]), ([7, 3], [7]), ([8], [8]), ([8], [8]), ([9, 10, 8], [8, 9, 10]), ([8, 11], [8, 11]), ([12, 8], [12]), ([13], [13]), ([14, 13, 13], [13, 14]), ([13], [13]), ([16, 13], [13, 16]), ([17, 13], [13, 17]), ([18, 13], [13, 18]), ([15, 19, 13], [13, 15, 19]), ([13, 20], [13, 20]), ([21, 15], [21]), ([22], [22]), ([23, 22, 22], [22, 23]), ([22], [22]), ([25, 22], [22, 25]), ([26, 22], [22, 26]), ([27, 22], [22, 27]), ([24, 28, 22], [22, 24, 28]), ([22, 29], [22, 29])])
def does23B : List Nat := [0, 0, 3, 7, 15, 15, 63, 127, 255, 511, 511, 2047, 4095, 8191, 16383, 32767, 16383, 81919, 212991, 475135, 1048575, 2097151, 4194303, 8388607, 16777215, 8388607, 41943039, 109051903, 243269631, 536870911, 1073741823]
theorem does23tab : rtab .any (opsOf Try.f6 23) = does23T := by kernel_rfl
theorem does23bits : waitsOk does23T.2 does23B = true := by kernel_rfl
set_option maxHeartbeats 8000000 in
set_option maxRecDepth 100000 in
theorem does_core (aA : Option Addr) (len cap : Nat) (w : World) (RA : Asd (Acts w aA len)) :
    Calls Try.prog 6 #[.slice aA len cap] w fun e w' => e = .returned (.bool true) ∧ Below w.heap.size w w' := by
  go_enter Try.func6, Try.ntmps6
  have HB : Asd (Below w.heap.size w w) := ⟨Below.refl _ _⟩
  go_wp2_with fail
  refine (new_any _).mono ?_; rintro en w1 ⟨rfl, hk, hb⟩
  have k_s : Blk w1 (w.heap.size) #[.int .u32 (hB false), .int .i64 0, .int .i64 1] 52 := hk
  have Gs : w.heap.size ≤ w.heap.size := (by have := HB.out.size; omega)
  have h_ : Below w.heap.size w w1 := below_step (by repeat (first | exact HB.out | apply below_alloc | apply below_drewN | apply below_drew)) hb
  clear  HB hk hb; have HB := Asd.mk h_; clear h_; have Z : w.heap.size ≤ w1.heap.size := HB.out.size
  have Ks := Asd.mk k_s; have Ls := k_s.lt; have cs0 := k_s.cell 0 rfl; have fs0 := k_s.frozen 0; have cs1 := k_s.cell 1 rfl; have fs1 := k_s.frozen 1; have cs2 := k_s.cell 2 rfl; have fs2 := k_s.frozen 2; clear k_s
  go_wp2_with fail
  refine (rnew_any _).mono ?_; rintro en w2 ⟨rfl, hk, hb⟩
  have k_s : Blk w2 (w.heap.size) #[.int .u32 (hB false), .int .i64 0, .int .i64 1] 52 := (by first | exact Ks.out.below hb | exact (Ks.out.alloc _).below hb)
  have k_r : Blk w2 (w1.heap.size) #[.bool false, .int .i64 0, .int .i64 1] 41 := hk
  have Dsr : w.heap.size < w1.heap.size := (by have := Ls; omega)
  have Gr : w.heap.size ≤ w1.heap.size := (by have := HB.out.size; omega)
  have h_ : Below w.heap.size w w2 := below_step (by repeat (first | exact HB.out | apply below_alloc | apply below_drewN | apply below_drew)) hb
  clear Ks Ls cs0 fs0 cs1 fs1 cs2 fs2 HB Z hk hb; have HB := Asd.mk h_; clear h_; have Z : w.heap.size ≤ w2.heap.size := HB.out.size
  have Ks := Asd.mk k_s; have Ls := k_s.lt; have cs0 := k_s.cell 0 rfl; have fs0 := k_s.frozen 0; have cs1 := k_s.cell 1 rfl; have fs1 := k_s.frozen 1; have cs2 := k_s.cell 2 rfl; have fs2 := k_s.frozen 2; clear k_s
  have Kr := Asd.mk k_r; have Lr := k_r.lt; have cr0 := k_r.cell 0 rfl; have fr0 := k_r.frozen 0; have cr1 := k_r.cell 1 rfl; have fr1 := k_r.frozen 1; have cr2 := k_r.cell 2 rfl; have fr2 := k_r.frozen 2; clear k_r
  go_wp2_with fail
  go_loopg [5] 201 (fun q i wr => ∃ (k : Nat) (h : Bool) (a n : Int), i = .int .i64 (k : Int) ∧ DoRel w.heap.size w1.heap.size q k h a n w wr)
  case atStart => exact ⟨0, false, 0, 1, rfl, by omega, by omega, by omega, Ks.out, Kr.out, HB.out⟩
  case round =>
    obtain ⟨k, h, a, n, rfl, r1, r2, r3, r4, r5, r6⟩ := hrel
    have R3 := Asd.mk r3; clear r3
    clear Ks cs0 cs1 cs2 fs0 fs1 fs2 Ls Kr cr0 cr1 cr2 fr0 fr1 fr2 Lr HB Z
    have HB := Asd.mk r6; clear r6; have Z : w.heap.size ≤ wr.heap.size := HB.out.size; have k_s : Blk wr (w.heap.size) #[.int .u32 (hB h), .int .i64 a, .int .i64 n] 52 := r4; clear r4; have k_r : Blk wr (w1.heap.size) #[.bool h, .int .i64 a, .int .i64 n] 41 := r5; clear r5
    have Ks := Asd.mk k_s; have Ls := k_s.lt; have cs0 := k_s.cell 0 rfl; have fs0 := k_s.frozen 0; have cs1 := k_s.cell 1 rfl; have fs1 := k_s.frozen 1; have cs2 := k_s.cell 2 rfl; have fs2 := k_s.frozen 2; clear k_s
    have Kr := Asd.mk k_r; have Lr := k_r.lt; have cr0 := k_r.cell 0 rfl; have fr0 := k_r.frozen 0; have cr1 := k_r.cell 1 rfl; have fr1 := k_r.frozen 1; have cr2 := k_r.cell 2 rfl; have fr2 := k_r.frozen 2; clear k_r
    by_cases hl : k < len
    · by_cases hlt : k < 200
      · obtain ⟨bA, oA, v0, v1, v2, v3, v4, rfl, d0, d1, d2, d3, d4⟩ := RA.out k hl
        have g0 := keepcell HB.out d0; clear d0
        have g1 := keepcell HB.out d1; clear d1
        have g2 := keepcell HB.out d2; clear d2
        have g3 := keepcell HB.out d3; clear d3
        have g4 := keepcell HB.out d4; clear d4
        by_cases hk0 : v0 = 0
        · have hkk : (v0 == 0) = true := beq_iff_eq.2 hk0
          clear hk0
          go_wp2_with fail
          have k_s := Ks.out.alloc (.cells #[.int .i64 v0, .int .i64 v1, .int .i64 v2, .int .i64 v3, .int .i64 v4] 39 (0, 0))
          have k_r := Kr.out.alloc (.cells #[.int .i64 v0, .int .i64 v1, .int .i64 v2, .int .i64 v3, .int .i64 v4] 39 (0, 0))
          have k_o := Blk.new wr #[.int .i64 v0, .int .i64 v1, .int .i64 v2, .int .i64 v3, .int .i64 v4] 39
          have h_ := below_alloc HB.out (.cells #[.int .i64 v0, .int .i64 v1, .int .i64 v2, .int .i64 v3, .int .i64 v4] 39 (0, 0))
          revert k_s k_r k_o h_
          generalize (wr.alloc (.cells #[.int .i64 v0, .int .i64 v1, .int .i64 v2, .int .i64 v3, .int .i64 v4] 39 (0, 0))) = w3
          intro k_s k_r k_o h_
          have Dso : w.heap.size < wr.heap.size := (by have := Ls; omega)
          have Dro : w1.heap.size < wr.heap.size := (by have := Lr; omega)
          have Go : w.heap.size ≤ wr.heap.size := (by have := HB.out.size; omega)
          clear Ks Ls cs0 fs0 cs1 fs1 cs2 fs2 Kr Lr cr0 fr0 cr1 fr1 cr2 fr2
          clear HB Z; have HB := Asd.mk h_; clear h_; have Z : w.heap.size ≤ w3.heap.size := HB.out.size
          have Ks := Asd.mk k_s; have Ls := k_s.lt; have cs0 := k_s.cell 0 rfl; have fs0 := k_s.frozen 0; have cs1 := k_s.cell 1 rfl; have fs1 := k_s.frozen 1; have cs2 := k_s.cell 2 rfl; have fs2 := k_s.frozen 2; clear k_s
          have Kr := Asd.mk k_r; have Lr := k_r.lt; have cr0 := k_r.cell 0 rfl; have fr0 := k_r.frozen 0; have cr1 := k_r.cell 1 rfl; have fr1 := k_r.frozen 1; have cr2 := k_r.cell 2 rfl; have fr2 := k_r.frozen 2; clear k_r
          have Ko := Asd.mk k_o; have Lo := k_o.lt; have co0 := k_o.cell 0 rfl; have fo0 := k_o.frozen 0; have co1 := k_o.cell 1 rfl; have fo1 := k_o.frozen 1; have co2 := k_o.cell 2 rfl; have fo2 := k_o.frozen 2; have co3 := k_o.cell 3 rfl; have fo3 := k_o.frozen 3; have co4 := k_o.cell 4 rfl; have fo4 := k_o.frozen 4; clear k_o
          obtain ⟨h2, a2, n2, hS_⟩ : ∃ h2 a2 n2, helloS v1 (h, a, n) = (h2, a2, n2) := ⟨_, _, _, rfl⟩
          have a2p : 0 ≤ a2 := hello_pos hS_ r2
          have hS := Asd.mk hS_; clear hS_
          refine (hello_at w.heap.size (h, a, n) (h2, a2, n2) v1 _ Ks.out hS.out).mono ?_; rintro en w4 ⟨rfl, hk, hc⟩
          have k_s : Blk w4 (w.heap.size) #[.int .u32 (hB h2), .int .i64 a2, .int .i64 n2] 52 := hk
          have k_r : Blk w4 (w1.heap.size) #[.bool h, .int .i64 a, .int .i64 n] 41 := (by first | exact Kr.out.chg hc (by omega) | exact (Kr.out.alloc _).chg hc (by omega))
          have k_o : Blk w4 (wr.heap.size) #[.int .i64 v0, .int .i64 v1, .int .i64 v2, .int .i64 v3, .int .i64 v4] 39 := (by first | exact Ko.out.chg hc (by omega) | exact (Ko.out.alloc _).chg hc (by omega))
          have h_ : Below w.heap.size w w4 := below_chg (by repeat (first | exact HB.out | apply below_alloc | apply below_drewN | apply below_drew)) hc (by have := HB.out.size; omega)
          clear Ks Ls cs0 fs0 cs1 fs1 cs2 fs2 Kr Lr cr0 fr0 cr1 fr1 cr2 fr2 Ko Lo co0 fo0 co1 fo1 co2 fo2 co3 fo3 co4 fo4 HB Z hk hc; have HB := Asd.mk h_; clear h_; have Z : w.heap.size ≤ w4.heap.size := HB.out.size
          have Ks := Asd.mk k_s; have Ls := k_s.lt; have cs0 := k_s.cell 0 rfl; have fs0 := k_s.frozen 0; have cs1 := k_s.cell 1 rfl; have fs1 := k_s.frozen 1; have cs2 := k_s.cell 2 rfl; have fs2 := k_s.frozen 2; clear k_s
          have Kr := Asd.mk k_r; have Lr := k_r.lt; have cr0 := k_r.cell 0 rfl; have fr0 := k_r.frozen 0; have cr1 := k_r.cell 1 rfl; have fr1 := k_r.frozen 1; have cr2 := k_r.cell 2 rfl; have fr2 := k_r.frozen 2; clear k_r
          have Ko := Asd.mk k_o; have Lo := k_o.lt; have co0 := k_o.cell 0 rfl; have fo0 := k_o.frozen 0; have co1 := k_o.cell 1 rfl; have fo1 := k_o.frozen 1; have co2 := k_o.cell 2 rfl; have fo2 := k_o.frozen 2; have co3 := k_o.cell 3 rfl; have fo3 := k_o.frozen 3; have co4 := k_o.cell 4 rfl; have fo4 := k_o.frozen 4; clear k_o
          go_wp2_with fail
          refine (rhello_at w1.heap.size (h, a, n) (h2, a2, n2) v1 _ Kr.out hS.out).mono ?_; rintro en w5 ⟨rfl, hk, hc⟩
          have k_s : Blk w5 (w.heap.size) #[.int .u32 (hB h2), .int .i64 a2, .int .i64 n2] 52 := (by first | exact Ks.out.chg hc (by omega) | exact (Ks.out.alloc _).chg hc (by omega))
          have k_r : Blk w5 (w1.heap.size) #[.bool h2, .int .i64 a2, .int .i64 n2] 41 := hk
          have k_o : Blk w5 (wr.heap.size) #[.int .i64 v0, .int .i64 v1, .int .i64 v2, .int .i64 v3, .int .i64 v4] 39 := (by first | exact Ko.out.chg hc (by omega) | exact (Ko.out.alloc _).chg hc (by omega))
          have h_ : Below w.heap.size w w5 := below_chg (by repeat (first | exact HB.out | apply below_alloc | apply below_drewN | apply below_drew)) hc (by have := HB.out.size; omega)
          clear Ks Ls cs0 fs0 cs1 fs1 cs2 fs2 Kr Lr cr0 fr0 cr1 fr1 cr2 fr2 Ko Lo co0 fo0 co1 fo1 co2 fo2 co3 fo3 co4 fo4 HB Z hk hc; have HB := Asd.mk h_; clear h_; have Z : w.heap.size ≤ w5.heap.size := HB.out.size
          have Ks := Asd.mk k_s; have Ls := k_s.lt; have cs0 := k_s.cell 0 rfl; have fs0 := k_s.frozen 0; have cs1 := k_s.cell 1 rfl; have fs1 := k_s.frozen 1; have cs2 := k_s.cell 2 rfl; have fs2 := k_s.frozen 2; clear k_s
          have Kr := Asd.mk k_r; have Lr := k_r.lt; have cr0 := k_r.cell 0 rfl; have fr0 := k_r.frozen 0; have cr1 := k_r.cell 1 rfl; have fr1 := k_r.frozen 1; have cr2 := k_r.cell 2 rfl; have fr2 := k_r.frozen 2; clear k_r
          have Ko := Asd.mk k_o; have Lo := k_o.lt; have co0 := k_o.cell 0 rfl; have fo0 := k_o.frozen 0; have co1 := k_o.cell 1 rfl; have fo1 := k_o.frozen 1; have co2 := k_o.cell 2 rfl; have fo2 := k_o.frozen 2; have co3 := k_o.cell 3 rfl; have fo3 := k_o.frozen 3; have co4 := k_o.cell 4 rfl; have fo4 := k_o.frozen 4; clear k_o
          obtain ⟨x, y, z, hP_⟩ : ∃ x y z, planS v3 v4 (h2, a2, n2) = (x, y, z) := ⟨_, _, _, rfl⟩
          have hP := Asd.mk hP_; clear hP_
          go_wp2_with fail
          refine (plan_at (p := (x, y, z)) w.heap.size h2 a2 n2 v3 v4 _ Ks.out hP.out).mono ?_; rintro en w_ ⟨rfl, rfl⟩
          go_wp2_with fail
          refine (rplan_at (p := (x, y, z)) w1.heap.size h2 a2 n2 v3 v4 _ Kr.out hP.out).mono ?_; rintro en w6 ⟨rfl, hb6⟩
          have k_s : Blk w6 (w.heap.size) #[.int .u32 (hB h2), .int .i64 a2, .int .i64 n2] 52 := (by first | exact Ks.out.below hb6 | exact (Ks.out.alloc _).below hb6 | exact ((Ks.out.alloc _).alloc _).below hb6)
          have k_r : Blk w6 (w1.heap.size) #[.bool h2, .int .i64 a2, .int .i64 n2] 41 := (by first | exact Kr.out.below hb6 | exact (Kr.out.alloc _).below hb6 | exact ((Kr.out.alloc _).alloc _).below hb6)
          have k_o : Blk w6 (wr.heap.size) #[.int .i64 v0, .int .i64 v1, .int .i64 v2, .int .i64 v3, .int .i64 v4] 39 := (by first | exact Ko.out.below hb6 | exact (Ko.out.alloc _).below hb6 | exact ((Ko.out.alloc _).alloc _).below hb6)
          have h_ : Below w.heap.size w w6 := below_step (by repeat (first | exact HB.out | apply below_alloc | apply below_drewN | apply below_drew | refine below_set ?_ (by have := HB.out.size; omega))) hb6
          clear Ks Ls cs0 fs0 cs1 fs1 cs2 fs2 Kr Lr cr0 fr0 cr1 fr1 cr2 fr2 Ko Lo co0 fo0 co1 fo1 co2 fo2 co3 fo3 co4 fo4
          clear HB hb6 Z; have HB := Asd.mk h_; clear h_; have Z : w.heap.size ≤ w6.heap.size := HB.out.size
          have Ks := Asd.mk k_s; have Ls := k_s.lt; have cs0 := k_s.cell 0 rfl; have fs0 := k_s.frozen 0; have cs1 := k_s.cell 1 rfl; have fs1 := k_s.frozen 1; have cs2 := k_s.cell 2 rfl; have fs2 := k_s.frozen 2; clear k_s
          have Kr := Asd.mk k_r; have Lr := k_r.lt; have cr0 := k_r.cell 0 rfl; have fr0 := k_r.frozen 0; have cr1 := k_r.cell 1 rfl; have fr1 := k_r.frozen 1; have cr2 := k_r.cell 2 rfl; have fr2 := k_r.frozen 2; clear k_r
          have Ko := Asd.mk k_o; have Lo := k_o.lt; have co0 := k_o.cell 0 rfl; have fo0 := k_o.frozen 0; have co1 := k_o.cell 1 rfl; have fo1 := k_o.frozen 1; have co2 := k_o.cell 2 rfl; have fo2 := k_o.frozen 2; have co3 := k_o.cell 3 rfl; have fo3 := k_o.frozen 3; have co4 := k_o.cell 4 rfl; have fo4 := k_o.frozen 4; clear k_o
          go_wp2_with fail
          have k_s := Ks.out.drew
          have k_r := Kr.out.drew
          have k_o := Ko.out.drew
          have h_ := below_drew HB.out
          refine start_ (n := 31) (S := fun w' => w'.cell? ⟨w.heap.size, 0, none⟩ = some (.int .u32 (hB h2)) ∧ w'.cell? ⟨w.heap.size, 1, none⟩ = some (.int .i64 a2) ∧ w'.cell? ⟨w.heap.size, 2, none⟩ = some (.int .i64 n2) ∧ w'.cell? ⟨w1.heap.size, 0, none⟩ = some (.bool h2) ∧ w'.cell? ⟨w1.heap.size, 1, none⟩ = some (.int .i64 a2) ∧ w'.cell? ⟨w1.heap.size, 2, none⟩ = some (.int .i64 n2) ∧ w'.cell? ⟨wr.heap.size, 0, none⟩ = some (.int .i64 v0) ∧ w'.cell? ⟨wr.heap.size, 1, none⟩ = some (.int .i64 v1) ∧ w'.cell? ⟨wr.heap.size, 2, none⟩ = some (.int .i64 v2) ∧ w'.cell? ⟨wr.heap.size, 3, none⟩ = some (.int .i64 v3) ∧ w'.cell? ⟨wr.heap.size, 4, none⟩ = some (.int .i64 v4)) (ds := []) #[false, false, false, false, false, false, false, false, false, false, false, false, false, false, false, false, false, false, false, false, false, false, false, false, false, false, false, false, false, false, false] (by kernel_rfl) rfl rfl ⟨k_s.cell 0 rfl, k_s.cell 1 rfl, k_s.cell 2 rfl, k_r.cell 0 rfl, k_r.cell 1 rfl, k_r.cell 2 rfl, k_o.cell 0 rfl, k_o.cell 1 rfl, k_o.cell 2 rfl, k_o.cell 3 rfl, k_o.cell 4 rfl⟩ (fun hHeld => ?_); refine with_tabW does23tab does23bits (fun HT_ HW_ => ?_)
          clear HB Ks Kr Ko
          generalize w6.drew = w7 at k_s k_r k_o h_ hHeld ⊢
          have HB := Asd.mk h_; clear h_; have Ks := Asd.mk k_s; clear k_s; have Kr := Asd.mk k_r; clear k_r; have Ko := Asd.mk k_o; clear k_o
          clear Ls Lr Lo cs0 fs0 cs1 fs1 cs2 fs2 cr0 fr0 cr1 fr1 cr2 fr2 co0 fo0 co1 fo1 co2 fo2 co3 fo3 co4 fo4
          refine pure_ (i := 0) (N := some 93) (v := ?_) (a' := ?_) #[true, false, false, false, false, false, false, false, false, false, false, false, false, false, false, false, false, false, false, false, false, false, false, false, false, false, false, false, false, false, false] rfl rfl (any_of HT_.out (by kernel_rfl)) (fun _ _ _ h => h) (Or.inl ⟨by rfl, ?_⟩) ?_ ?_
          rotate_left
          · intro w'
            go_simp
            with_reducible rfl
          rotate_left
          · simp only [Act.put, List.setIfInBounds_toArray, List.set_cons_zero, List.set_cons_succ, i64_w, i32_w]
            rfl
          refine pure_ (i := 1) (N := some 94) (v := ?_) (a' := ?_) #[true, true, false, false, false, false, false, false, false, false, false, false, false, false, false, false, false, false, false, false, false, false, false, false, false, false, false, false, false, false, false] rfl rfl (any_of HT_.out (by kernel_rfl)) (fun _ _ _ h => h) (Or.inl ⟨by rfl, ?_⟩) ?_ ?_
          rotate_left
          · intro w'
            go_simp
            with_reducible rfl
          rotate_left
          · simp only [Act.put, List.setIfInBounds_toArray, List.set_cons_zero, List.set_cons_succ, i64_w, i32_w]
            rfl
          refine pure_ (i := 2) (N := some 95) (v := ?_) (a' := ?_) #[true, true, true, false, false, false, false, false, false, false, false, false, false, false, false, false, false, false, false, false, false, false, false, false, false, false, false, false, false, false, false] rfl rfl (any_of HT_.out (by kernel_rfl)) (fun _ _ _ h => h) (Or.inl ⟨by rfl, ?_⟩) ?_ ?_
          rotate_left
          · intro w'
            go_simp
            with_reducible rfl
          rotate_left
          · simp only [Act.put, List.setIfInBounds_toArray, List.set_cons_zero, List.set_cons_succ, i64_w, i32_w]
            rfl
          refine pure_ (i := 3) (N := some 96) (v := ?_) (a' := ?_) #[true, true, true, true, false, false, false, false, false, false, false, false, false, false, false, false, false, false, false, false, false, false, false, false, false, false, false, false, false, false, false] rfl rfl (any_of HT_.out (by kernel_rfl)) (fun _ _ _ h => h) (Or.inl ⟨by rfl, ?_⟩) ?_ ?_
          rotate_left
          · intro w'
            go_simp
            with_reducible rfl
          rotate_left
          · simp only [Act.put, List.setIfInBounds_toArray, List.set_cons_zero, List.set_cons_succ, i64_w, i32_w]
            rfl
          refine pure_ (i := 4) (N := some 97) (v := ?_) (a' := ?_) #[true, true, true, true, true, false, false, false, false, false, false, false, false, false, false, false, false, false, false, false, false, false, false, false, false, false, false, false, false, false, false] rfl rfl (any_of HT_.out (by kernel_rfl)) (fun _ _ _ h => h) (Or.inl ⟨by rfl, ?_⟩) ?_ ?_
          rotate_left
          · intro w'
            go_simp
            with_reducible rfl
          rotate_left
          · simp only [Act.put, List.setIfInBounds_toArray, List.set_cons_zero, List.set_cons_succ, i64_w, i32_w]
            rfl
          refine pure_ (i := 5) (N := some 98) (v := ?_) (a' := ?_) #[true, true, true, true, true, true, false, false, false, false, false, false, false, false, false, false, false, false, false, false, false, false, false, false, false, false, false, false, false, false, false] rfl rfl (any_of HT_.out (by kernel_rfl)) (fun _ _ _ h => h) (Or.inl ⟨by rfl, ?_⟩) ?_ ?_
          rotate_left
          · intro w'
            go_simp
            with_reducible rfl
          rotate_left
          · simp only [Act.put, List.setIfInBounds_toArray, List.set_cons_zero, List.set_cons_succ, i64_w, i32_w]
            rfl
          refine pure_ (i := 6) (N := some 99) (v := ?_) (a' := ?_) #[true, true, true, true, true, true, true, false, false, false, false, false, false, false, false, false, false, false, false, false, false, false, false, false, false, false, false, false, false, false, false] rfl rfl (any_of HT_.out (by kernel_rfl)) (fun _ _ _ h => h) (Or.inl ⟨by rfl, ?_⟩) ?_ ?_
          rotate_left
          · intro w'
            go_simp
            with_reducible rfl
          rotate_left
          · simp only [Act.put, List.setIfInBounds_toArray, List.set_cons_zero, List.set_cons_succ, i64_w, i32_w]
            rfl
          refine pure_ (i := 7) (N := some 100) (v := ?_) (a' := ?_) #[true, true, true, true, true, true, true, true, false, false, false, false, false, false, false, false, false, false, false, false, false, false, false, false, false, false, false, false, false, false, false] rfl rfl (any_of HT_.out (by kernel_rfl)) (fun _ _ _ h => h) (Or.inl ⟨by rfl, ?_⟩) ?_ ?_
          rotate_left
          · intro w'
            go_simp
            with_reducible rfl
          rotate_left
          · simp only [Act.put, List.setIfInBounds_toArray, List.set_cons_zero, List.set_cons_succ, i64_w, i32_w]
            rfl
          refine pure_ (i := 8) (N := some 101) (v := ?_) (a' := ?_) #[true, true, true, true, true, true, true, true, true, false, false, false, false, false, false, false, false, false, false, false, false, false, false, false, false, false, false, false, false, false, false] rfl rfl (any_of HT_.out (by kernel_rfl)) (fun _ _ _ h => h) (Or.inl ⟨by rfl, ?_⟩) ?_ ?_
          rotate_left
          · intro w'
            go_simp
            with_reducible rfl
          rotate_left
          · simp only [Act.put, List.setIfInBounds_toArray, List.set_cons_zero, List.set_cons_succ, i64_w, i32_w]
            rfl
          refine pure_ (i := 9) (N := some 102) (v := ?_) (a' := ?_) #[true, true, true, true, true, true, true, true, true, true, false, false, false, false, false, false, false, false, false, false, false, false, false, false, false, false, false, false, false, false, false] rfl rfl (any_of HT_.out (by kernel_rfl)) (fun _ _ _ h => h) (Or.inl ⟨by rfl, ?_⟩) ?_ ?_
          rotate_left
          · intro w'
            go_simp
            with_reducible rfl
          rotate_left
          · simp only [Act.put, List.setIfInBounds_toArray, List.set_cons_zero, List.set_cons_succ, i64_w, i32_w]
            rfl
          refine pure_ (i := 10) (N := some 103) (v := ?_) (a' := ?_) #[true, true, true, true, true, true, true, true, true, true, true, false, false, false, false, false, false, false, false, false, false, false, false, false, false, false, false, false, false, false, false] rfl rfl (any_of HT_.out (by kernel_rfl)) (fun _ _ _ h => h) (Or.inl ⟨by rfl, ?_⟩) ?_ ?_
          rotate_left
          · intro w'
            go_simp
            with_reducible rfl
          rotate_left
          · simp only [Act.put, List.setIfInBounds_toArray, List.set_cons_zero, List.set_cons_succ, i64_w, i32_w]
            rfl
          refine pure_ (i := 11) (N := some 104) (v := ?_) (a' := ?_) #[true, true, true, true, true, true, true, true, true, true, true, true, false, false, false, false, false, false, false, false, false, false, false, false, false, false, false, false, false, false, false] rfl rfl (any_of HT_.out (by kernel_rfl)) (fun _ _ _ h => h) (Or.inl ⟨by rfl, ?_⟩) ?_ ?_
          rotate_left
          · intro w'
            go_simp
            with_reducible rfl
          rotate_left
          · simp only [Act.put, List.setIfInBounds_toArray, List.set_cons_zero, List.set_cons_succ, i64_w, i32_w]
            rfl
          refine pure_ (i := 12) (N := some 105) (v := ?_) (a' := ?_) #[true, true, true, true, true, true, true, true, true, true, true, true, true, false, false, false, false, false, false, false, false, false, false, false, false, false, false, false, false, false, false] rfl rfl (any_of HT_.out (by kernel_rfl)) (fun _ _ _ h => h) (Or.inl ⟨by rfl, ?_⟩) ?_ ?_
          rotate_left
          · intro w'
            go_simp
            with_reducible rfl
          rotate_left
          · simp only [Act.put, List.setIfInBounds_toArray, List.set_cons_zero, List.set_cons_succ, i64_w, i32_w]
            rfl
          refine pure_ (i := 13) (N := some 106) (v := ?_) (a' := ?_) #[true, true, true, true, true, true, true, true, true, true, true, true, true, true, false, false, false, false, false, false, false, false, false, false, false, false, false, false, false, false, false] rfl rfl (any_of HT_.out (by kernel_rfl)) (fun _ _ _ h => h) (Or.inl ⟨by rfl, ?_⟩) ?_ ?_
          rotate_left
          · intro w'
            go_simp
            with_reducible rfl
          rotate_left
          · simp only [Act.put, List.setIfInBounds_toArray, List.set_cons_zero, List.set_cons_succ, i64_w, i32_w]
            rfl
          refine pure_ (i := 14) (N := some 107) (v := ?_) (a' := ?_) #[true, true, true, true, true, true, true, true, true, true, true, true, true, true, true, false, false, false, false, false, false, false, false, false, false, false, false, false, false, false, false] rfl rfl (any_of HT_.out (by kernel_rfl)) (fun _ _ _ h => h) (Or.inl ⟨by rfl, ?_⟩) ?_ ?_
          rotate_left
          · intro w'
            go_simp
            with_reducible rfl
          rotate_left
          · simp only [Act.put, List.setIfInBounds_toArray, List.set_cons_zero, List.set_cons_succ, i64_w, i32_w]
            rfl
          refine pure_ (i := 16) (N := some 109) (v := ?_) (a' := ?_) #[true, true, true, true, true, true, true, true, true, true, true, true, true, true, true, false, true, false, false, false, false, false, false, false, false, false, false, false, false, false, false] rfl rfl (any_of HT_.out (by kernel_rfl)) (fun _ _ _ h => h) (Or.inl ⟨by rfl, ?_⟩) ?_ ?_
          rotate_left
          · intro w'
            go_simp
            with_reducible rfl
          rotate_left
          · simp only [Act.put, List.setIfInBounds_toArray, List.set_cons_zero, List.set_cons_succ, i64_w, i32_w]
            rfl
          refine pure_ (i := 17) (N := some 110) (v := ?_) (a' := ?_) #[true, true, true, true, true, true, true, true, true, true, true, true, true, true, true, false, true, true, false, false, false, false, false, false, false, false, false, false, false, false, false] rfl rfl (any_of HT_.out (by kernel_rfl)) (fun _ _ _ h => h) (Or.inl ⟨by rfl, ?_⟩) ?_ ?_
          rotate_left
          · intro w'
            go_simp
            with_reducible rfl
          rotate_left
          · simp only [Act.put, List.setIfInBounds_toArray, List.set_cons_zero, List.set_cons_succ, i64_w, i32_w]
            rfl
          refine pure_ (i := 18) (N := some 111) (v := ?_) (a' := ?_) #[true, true, true, true, true, true, true, true, true, true, true, true, true, true, true, false, true, true, true, false, false, false, false, false, false, false, false, false, false, false, false] rfl rfl (any_of HT_.out (by kernel_rfl)) (fun _ _ _ h => h) (Or.inl ⟨by rfl, ?_⟩) ?_ ?_
          rotate_left
          · intro w'
            go_simp
            with_reducible rfl
          rotate_left
          · simp only [Act.put, List.setIfInBounds_toArray, List.set_cons_zero, List.set_cons_succ, i64_w, i32_w]
            rfl
          refine take_ (i := 19) (N := some 112) (v := ?_) (a' := ?_) #[true, true, true, true, true, true, true, true, true, true, true, true, true, true, true, false, true, true, true, true, false, false, false, false, false, false, false, false, false, false, false] rfl rfl (take_ofW HT_.out HW_.out (by kernel_rfl)) (fun _ _ _ h => h) (Or.inl ⟨by rfl, ?_⟩) hHeld ?_ ?_
          rotate_left
          · rintro w' ⟨s0, s1, s2, s3, s4, s5, s6, s7, s8, s9, s10⟩
            go_simp
            with_reducible rfl
          rotate_left
          · simp only [Act.put, List.setIfInBounds_toArray, List.set_cons_zero, List.set_cons_succ, i64_w, i32_w]
            rfl
          refine one_ (i := 15) (N := some 108) #[true, true, true, true, true, true, true, true, true, true, true, true, true, true, true, true, true, true, true, true, false, false, false, false, false, false, false, false, false, false, false] rfl rfl (one_of HT_.out (by kernel_rfl)) (by decide) (fun K hK => ?_)
          refine goes_ Try.func14 (by kernel_rfl) rfl #[.pointer (some ⟨w.heap.size, 0, none⟩)] (by rfl) rfl rfl (by (try simp only [List.map_toArray, List.map_cons, List.map_nil]); first | done | rfl | (simp only [List.length_drop, List.length_take]; rfl)) ?_
          with_reducible refine (acked_any w.heap.size h2 a2 n2 _ Ks.out).mono ?_
          rintro en w_ ⟨rfl, rfl⟩
          refine ⟨_, rfl, ?_⟩
          refine hK.out _ _ ⟨Ks.out.cell 0 rfl, Ks.out.cell 1 rfl, Ks.out.cell 2 rfl, Kr.out.cell 0 rfl, Kr.out.cell 1 rfl, Kr.out.cell 2 rfl, Ko.out.cell 0 rfl, Ko.out.cell 1 rfl, Ko.out.cell 2 rfl, Ko.out.cell 3 rfl, Ko.out.cell 4 rfl⟩ (fun hHeld => ?_)
          clear hK K
          refine norm_ (a' := ?_) ?_ ?_
          rotate_left
          · show Act.put _ (some 108) _ = _
            simp only [Act.put, List.setIfInBounds_toArray, List.set_cons_zero, List.set_cons_succ, i64_w, i32_w]
            rfl
          refine pure_ (i := 20) (N := some 113) (v := ?_) (a' := ?_) #[true, true, true, true, true, true, true, true, true, true, true, true, true, true, true, true, true, true, true, true, true, false, false, false, false, false, false, false, false, false, false] rfl rfl (any_of HT_.out (by kernel_rfl)) (fun _ _ _ h => h) (Or.inl ⟨by rfl, ?_⟩) ?_ ?_
          rotate_left
          · intro w'
            go_simp
            with_reducible rfl
          rotate_left
          · simp only [Act.put, List.setIfInBounds_toArray, List.set_cons_zero, List.set_cons_succ, i64_w, i32_w]
            rfl
          refine pure_ (i := 21) (N := some 114) (v := ?_) (a' := ?_) #[true, true, true, true, true, true, true, true, true, true, true, true, true, true, true, true, true, true, true, true, true, true, false, false, false, false, false, false, false, false, false] rfl rfl (any_of HT_.out (by kernel_rfl)) (fun _ _ _ h => h) (Or.inl ⟨by rfl, ?_⟩) ?_ ?_
          rotate_left
          · intro w'
            go_simp
            with_reducible rfl
          rotate_left
          · simp only [Act.put, List.setIfInBounds_toArray, List.set_cons_zero, List.set_cons_succ, i64_w, i32_w]
            rfl
          refine pure_ (i := 22) (N := some 115) (v := ?_) (a' := ?_) #[true, true, true, true, true, true, true, true, true, true, true, true, true, true, true, true, true, true, true, true, true, true, true, false, false, false, false, false, false, false, false] rfl rfl (any_of HT_.out (by kernel_rfl)) (fun _ _ _ h => h) (Or.inl ⟨by rfl, ?_⟩) ?_ ?_
          rotate_left
          · intro w'
            go_simp
            with_reducible rfl
          rotate_left
          · simp only [Act.put, List.setIfInBounds_toArray, List.set_cons_zero, List.set_cons_succ, i64_w, i32_w]
            rfl
          refine pure_ (i := 23) (N := some 116) (v := ?_) (a' := ?_) #[true, true, true, true, true, true, true, true, true, true, true, true, true, true, true, true, true, true, true, true, true, true, true, true, false, false, false, false, false, false, false] rfl rfl (any_of HT_.out (by kernel_rfl)) (fun _ _ _ h => h) (Or.inl ⟨by rfl, ?_⟩) ?_ ?_
          rotate_left
          · intro w'
            go_simp
            with_reducible rfl
          rotate_left
          · simp only [Act.put, List.setIfInBounds_toArray, List.set_cons_zero, List.set_cons_succ, i64_w, i32_w]
            rfl
          refine pure_ (i := 25) (N := some 118) (v := ?_) (a' := ?_) #[true, true, true, true, true, true, true, true, true, true, true, true, true, true, true, true, true, true, true, true, true, true, true, true, false, true, false, false, false, false, false] rfl rfl (any_of HT_.out (by kernel_rfl)) (fun _ _ _ h => h) (Or.inl ⟨by rfl, ?_⟩) ?_ ?_
          rotate_left
          · intro w'
            go_simp
            with_reducible rfl
          rotate_left
          · simp only [Act.put, List.setIfInBounds_toArray, List.set_cons_zero, List.set_cons_succ, i64_w, i32_w]
            rfl
          refine pure_ (i := 26) (N := some 119) (v := ?_) (a' := ?_) #[true, true, true, true, true, true, true, true, true, true, true, true, true, true, true, true, true, true, true, true, true, true, true, true, false, true, true, false, false, false, false] rfl rfl (any_of HT_.out (by kernel_rfl)) (fun _ _ _ h => h) (Or.inl ⟨by rfl, ?_⟩) ?_ ?_
          rotate_left
          · intro w'
            go_simp
            with_reducible rfl
          rotate_left
          · simp only [Act.put, List.setIfInBounds_toArray, List.set_cons_zero, List.set_cons_succ, i64_w, i32_w]
            rfl
          refine pure_ (i := 27) (N := some 120) (v := ?_) (a' := ?_) #[true, true, true, true, true, true, true, true, true, true, true, true, true, true, true, true, true, true, true, true, true, true, true, true, false, true, true, true, false, false, false] rfl rfl (any_of HT_.out (by kernel_rfl)) (fun _ _ _ h => h) (Or.inl ⟨by rfl, ?_⟩) ?_ ?_
          rotate_left
          · intro w'
            go_simp
            with_reducible rfl
          rotate_left
          · simp only [Act.put, List.setIfInBounds_toArray, List.set_cons_zero, List.set_cons_succ, i64_w, i32_w]
            rfl
          refine take_ (i := 28) (N := some 121) (v := ?_) (a' := ?_) #[true, true, true, true, true, true, true, true, true, true, true, true, true, true, true, true, true, true, true, true, true, true, true, true, false, true, true, true, true, false, false] rfl rfl (take_ofW HT_.out HW_.out (by kernel_rfl)) (fun _ _ _ h => h) (Or.inl ⟨by rfl, ?_⟩) hHeld ?_ ?_
          rotate_left
          · rintro w' ⟨s0, s1, s2, s3, s4, s5, s6, s7, s8, s9, s10⟩
            go_simp
            with_reducible rfl
          rotate_left
          · simp only [Act.put, List.setIfInBounds_toArray, List.set_cons_zero, List.set_cons_succ, i64_w, i32_w]
            rfl
          refine one_ (i := 24) (N := some 117) #[true, true, true, true, true, true, true, true, true, true, true, true, true, true, true, true, true, true, true, true, true, true, true, true, true, true, true, true, true, false, false] rfl rfl (one_of HT_.out (by kernel_rfl)) (by decide) (fun K hK => ?_)
          refine goes_ Try.func10 (by kernel_rfl) rfl #[.pointer (some ⟨w.heap.size, 0, none⟩)] (by rfl) rfl rfl (by (try simp only [List.map_toArray, List.map_cons, List.map_nil]); first | done | rfl | (simp only [List.length_drop, List.length_take]; rfl)) ?_
          with_reducible refine (heard_any w.heap.size h2 a2 n2 _ Ks.out).mono ?_
          rintro en w_ ⟨rfl, rfl⟩
          refine ⟨_, rfl, ?_⟩
          refine hK.out _ _ ⟨Ks.out.cell 0 rfl, Ks.out.cell 1 rfl, Ks.out.cell 2 rfl, Kr.out.cell 0 rfl, Kr.out.cell 1 rfl, Kr.out.cell 2 rfl, Ko.out.cell 0 rfl, Ko.out.cell 1 rfl, Ko.out.cell 2 rfl, Ko.out.cell 3 rfl, Ko.out.cell 4 rfl⟩ (fun hHeld => ?_)
          clear hK K
          refine norm_ (a' := ?_) ?_ ?_
          rotate_left
          · show Act.put _ (some 117) _ = _
            simp only [Act.put, List.setIfInBounds_toArray, List.set_cons_zero, List.set_cons_succ, i64_w, i32_w]
            rfl
          refine pure_ (i := 29) (N := some 122) (v := ?_) (a' := ?_) #[true, true, true, true, true, true, true, true, true, true, true, true, true, true, true, true, true, true, true, true, true, true, true, true, true, true, true, true, true, true, false] rfl rfl (any_of HT_.out (by kernel_rfl)) (fun _ _ _ h => h) (Or.inl ⟨by rfl, ?_⟩) ?_ ?_
          rotate_left
          · intro w'
            go_simp
            with_reducible rfl
          rotate_left
          · simp only [Act.put, List.setIfInBounds_toArray, List.set_cons_zero, List.set_cons_succ, i64_w, i32_w]
            rfl
          refine pure_ (i := 30) (N := some 123) (v := ?_) (a' := ?_) #[true, true, true, true, true, true, true, true, true, true, true, true, true, true, true, true, true, true, true, true, true, true, true, true, true, true, true, true, true, true, true] rfl rfl (any_of HT_.out (by kernel_rfl)) (fun _ _ _ h => h) (Or.inl ⟨by rfl, ?_⟩) ?_ ?_
          rotate_left
          · intro w'
            go_simp
            with_reducible rfl
          rotate_left
          · simp only [Act.put, List.setIfInBounds_toArray, List.set_cons_zero, List.set_cons_succ, i64_w, i32_w]
            rfl
          refine done_ (done_of HT_.out (by kernel_rfl)) ?_
          have Z : w.heap.size ≤ w7.heap.size := HB.out.size
          have Ls := Ks.out.lt; have cs0 := Ks.out.cell 0 rfl; have fs0 := Ks.out.frozen 0; have cs1 := Ks.out.cell 1 rfl; have fs1 := Ks.out.frozen 1; have cs2 := Ks.out.cell 2 rfl; have fs2 := Ks.out.frozen 2
          have Lr := Kr.out.lt; have cr0 := Kr.out.cell 0 rfl; have fr0 := Kr.out.frozen 0; have cr1 := Kr.out.cell 1 rfl; have fr1 := Kr.out.frozen 1; have cr2 := Kr.out.cell 2 rfl; have fr2 := Kr.out.frozen 2
          have Lo := Ko.out.lt; have co0 := Ko.out.cell 0 rfl; have fo0 := Ko.out.frozen 0; have co1 := Ko.out.cell 1 rfl; have fo1 := Ko.out.frozen 1; have co2 := Ko.out.cell 2 rfl; have fo2 := Ko.out.frozen 2; have co3 := Ko.out.cell 3 rfl; have fo3 := Ko.out.frozen 3; have co4 := Ko.out.cell 4 rfl; have fo4 := Ko.out.frozen 4
          go_wp2_with fail
          go_roundg (gk - 1)
          case measure => have := R3.out; omega
          case rel => exact ⟨k + 1, h2, a2, n2, by go_num, by omega, by omega, (by have := R3.out; omega), Ks.out, Kr.out, HB.out⟩
        · have hkk0 : (v0 == 0) = false := beq_eq_false_iff_ne.2 hk0
          clear hk0
          by_cases hk1 : v0 = 1
          · have hkk : (v0 == 1) = true := beq_iff_eq.2 hk1
            clear hk1
            go_wp2_with fail
            have k_s := Ks.out.alloc (.cells #[.int .i64 v0, .int .i64 v1, .int .i64 v2, .int .i64 v3, .int .i64 v4] 39 (0, 0))
            have k_r := Kr.out.alloc (.cells #[.int .i64 v0, .int .i64 v1, .int .i64 v2, .int .i64 v3, .int .i64 v4] 39 (0, 0))
            have k_o := Blk.new wr #[.int .i64 v0, .int .i64 v1, .int .i64 v2, .int .i64 v3, .int .i64 v4] 39
            have h_ := below_alloc HB.out (.cells #[.int .i64 v0, .int .i64 v1, .int .i64 v2, .int .i64 v3, .int .i64 v4] 39 (0, 0))
            revert k_s k_r k_o h_
            generalize (wr.alloc (.cells #[.int .i64 v0, .int .i64 v1, .int .i64 v2, .int .i64 v3, .int .i64 v4] 39 (0, 0))) = w3
            intro k_s k_r k_o h_
            have Dso : w.heap.size < wr.heap.size := (by have := Ls; omega)
            have Dro : w1.heap.size < wr.heap.size := (by have := Lr; omega)
            have Go : w.heap.size ≤ wr.heap.size := (by have := HB.out.size; omega)
            clear Ks Ls cs0 fs0 cs1 fs1 cs2 fs2 Kr Lr cr0 fr0 cr1 fr1 cr2 fr2
            clear HB Z; have HB := Asd.mk h_; clear h_; have Z : w.heap.size ≤ w3.heap.size := HB.out.size
            have Ks := Asd.mk k_s; have Ls := k_s.lt; have cs0 := k_s.cell 0 rfl; have fs0 := k_s.frozen 0; have cs1 := k_s.cell 1 rfl; have fs1 := k_s.frozen 1; have cs2 := k_s.cell 2 rfl; have fs2 := k_s.frozen 2; clear k_s
            have Kr := Asd.mk k_r; have Lr := k_r.lt; have cr0 := k_r.cell 0 rfl; have fr0 := k_r.frozen 0; have cr1 := k_r.cell 1 rfl; have fr1 := k_r.frozen 1; have cr2 := k_r.cell 2 rfl; have fr2 := k_r.frozen 2; clear k_r
            have Ko := Asd.mk k_o; have Lo := k_o.lt; have co0 := k_o.cell 0 rfl; have fo0 := k_o.frozen 0; have co1 := k_o.cell 1 rfl; have fo1 := k_o.frozen 1; have co2 := k_o.cell 2 rfl; have fo2 := k_o.frozen 2; have co3 := k_o.cell 3 rfl; have fo3 := k_o.frozen 3; have co4 := k_o.cell 4 rfl; have fo4 := k_o.frozen 4; clear k_o
            obtain ⟨h2, a2, n2, hS_⟩ : ∃ h2 a2 n2, ackS v1 (h, a, n) = (h2, a2, n2) := ⟨_, _, _, rfl⟩
            have a2p : 0 ≤ a2 := ack_pos hS_ r2
            have hS := Asd.mk hS_; clear hS_
            refine (ack_at w.heap.size (h, a, n) (h2, a2, n2) v1 _ Ks.out (show _ ≤ a by omega) hS.out).mono ?_; rintro en w4 ⟨rfl, hk, hc⟩
            have k_s : Blk w4 (w.heap.size) #[.int .u32 (hB h2), .int .i64 a2, .int .i64 n2] 52 := hk
            have k_r : Blk w4 (w1.heap.size) #[.bool h, .int .i64 a, .int .i64 n] 41 := (by first | exact Kr.out.chg hc (by omega) | exact (Kr.out.alloc _).chg hc (by omega))
            have k_o : Blk w4 (wr.heap.size) #[.int .i64 v0, .int .i64 v1, .int .i64 v2, .int .i64 v3, .int .i64 v4] 39 := (by first | exact Ko.out.chg hc (by omega) | exact (Ko.out.alloc _).chg hc (by omega))
            have h_ : Below w.heap.size w w4 := below_chg (by repeat (first | exact HB.out | apply below_alloc | apply below_drewN | apply below_drew)) hc (by have := HB.out.size; omega)
            clear Ks Ls cs0 fs0 cs1 fs1 cs2 fs2 Kr Lr cr0 fr0 cr1 fr1 cr2 fr2 Ko Lo co0 fo0 co1 fo1 co2 fo2 co3 fo3 co4 fo4 HB Z hk hc; have HB := Asd.mk h_; clear h_; have Z : w.heap.size ≤ w4.heap.size := HB.out.size
            have Ks := Asd.mk k_s; have Ls := k_s.lt; have cs0 := k_s.cell 0 rfl; have fs0 := k_s.frozen 0; have cs1 := k_s.cell 1 rfl; have fs1 := k_s.frozen 1; have cs2 := k_s.cell 2 rfl; have fs2 := k_s.frozen 2; clear k_s
            have Kr := Asd.mk k_r; have Lr := k_r.lt; have cr0 := k_r.cell 0 rfl; have fr0 := k_r.frozen 0; have cr1 := k_r.cell 1 rfl; have fr1 := k_r.frozen 1; have cr2 := k_r.cell 2 rfl; have fr2 := k_r.frozen 2; clear k_r
            have Ko := Asd.mk k_o; have Lo := k_o.lt; have co0 := k_o.cell 0 rfl; have fo0 := k_o.frozen 0; have co1 := k_o.cell 1 rfl; have fo1 := k_o.frozen 1; have co2 := k_o.cell 2 rfl; have fo2 := k_o.frozen 2; have co3 := k_o.cell 3 rfl; have fo3 := k_o.frozen 3; have co4 := k_o.cell 4 rfl; have fo4 := k_o.frozen 4; clear k_o
            go_wp2_with fail
            refine (rack_at w1.heap.size (h, a, n) (h2, a2, n2) v1 _ Kr.out (show _ ≤ a by omega) hS.out).mono ?_; rintro en w5 ⟨rfl, hk, hc⟩
            have k_s : Blk w5 (w.heap.size) #[.int .u32 (hB h2), .int .i64 a2, .int .i64 n2] 52 := (by first | exact Ks.out.chg hc (by omega) | exact (Ks.out.alloc _).chg hc (by omega))
            have k_r : Blk w5 (w1.heap.size) #[.bool h2, .int .i64 a2, .int .i64 n2] 41 := hk
            have k_o : Blk w5 (wr.heap.size) #[.int .i64 v0, .int .i64 v1, .int .i64 v2, .int .i64 v3, .int .i64 v4] 39 := (by first | exact Ko.out.chg hc (by omega) | exact (Ko.out.alloc _).chg hc (by omega))
            have h_ : Below w.heap.size w w5 := below_chg (by repeat (first | exact HB.out | apply below_alloc | apply below_drewN | apply below_drew)) hc (by have := HB.out.size; omega)
            clear Ks Ls cs0 fs0 cs1 fs1 cs2 fs2 Kr Lr cr0 fr0 cr1 fr1 cr2 fr2 Ko Lo co0 fo0 co1 fo1 co2 fo2 co3 fo3 co4 fo4 HB Z hk hc; have HB := Asd.mk h_; clear h_; have Z : w.heap.size ≤ w5.heap.size := HB.out.size
            have Ks := Asd.mk k_s; have Ls := k_s.lt; have cs0 := k_s.cell 0 rfl; have fs0 := k_s.frozen 0; have cs1 := k_s.cell 1 rfl; have fs1 := k_s.frozen 1; have cs2 := k_s.cell 2 rfl; have fs2 := k_s.frozen 2; clear k_s
            have Kr := Asd.mk k_r; have Lr := k_r.lt; have cr0 := k_r.cell 0 rfl; have fr0 := k_r.frozen 0; have cr1 := k_r.cell 1 rfl; have fr1 := k_r.frozen 1; have cr2 := k_r.cell 2 rfl; have fr2 := k_r.frozen 2; clear k_r
            have Ko := Asd.mk k_o; have Lo := k_o.lt; have co0 := k_o.cell 0 rfl; have fo0 := k_o.frozen 0; have co1 := k_o.cell 1 rfl; have fo1 := k_o.frozen 1; have co2 := k_o.cell 2 rfl; have fo2 := k_o.frozen 2; have co3 := k_o.cell 3 rfl; have fo3 := k_o.frozen 3; have co4 := k_o.cell 4 rfl; have fo4 := k_o.frozen 4; clear k_o
            obtain ⟨x, y, z, hP_⟩ : ∃ x y z, planS v3 v4 (h2, a2, n2) = (x, y, z) := ⟨_, _, _, rfl⟩
            have hP := Asd.mk hP_; clear hP_
            go_wp2_with fail
            refine (plan_at (p := (x, y, z)) w.heap.size h2 a2 n2 v3 v4 _ Ks.out hP.out).mono ?_; rintro en w_ ⟨rfl, rfl⟩
            go_wp2_with fail
            refine (rplan_at (p := (x, y, z)) w1.heap.size h2 a2 n2 v3 v4 _ Kr.out hP.out).mono ?_; rintro en w6 ⟨rfl, hb6⟩
            have k_s : Blk w6 (w.heap.size) #[.int .u32 (hB h2), .int .i64 a2, .int .i64 n2] 52 := (by first | exact Ks.out.below hb6 | exact (Ks.out.alloc _).below hb6 | exact ((Ks.out.alloc _).alloc _).below hb6)
            have k_r : Blk w6 (w1.heap.size) #[.bool h2, .int .i64 a2, .int .i64 n2] 41 := (by first | exact Kr.out.below hb6 | exact (Kr.out.alloc _).below hb6 | exact ((Kr.out.alloc _).alloc _).below hb6)
            have k_o : Blk w6 (wr.heap.size) #[.int .i64 v0, .int .i64 v1, .int .i64 v2, .int .i64 v3, .int .i64 v4] 39 := (by first | exact Ko.out.below hb6 | exact (Ko.out.alloc _).below hb6 | exact ((Ko.out.alloc _).alloc _).below hb6)
            have h_ : Below w.heap.size w w6 := below_step (by repeat (first | exact HB.out | apply below_alloc | apply below_drewN | apply below_drew | refine below_set ?_ (by have := HB.out.size; omega))) hb6
            clear Ks Ls cs0 fs0 cs1 fs1 cs2 fs2 Kr Lr cr0 fr0 cr1 fr1 cr2 fr2 Ko Lo co0 fo0 co1 fo1 co2 fo2 co3 fo3 co4 fo4
            clear HB hb6 Z; have HB := Asd.mk h_; clear h_; have Z : w.heap.size ≤ w6.heap.size := HB.out.size
            have Ks := Asd.mk k_s; have Ls := k_s.lt; have cs0 := k_s.cell 0 rfl; have fs0 := k_s.frozen 0; have cs1 := k_s.cell 1 rfl; have fs1 := k_s.frozen 1; have cs2 := k_s.cell 2 rfl; have fs2 := k_s.frozen 2; clear k_s
            have Kr := Asd.mk k_r; have Lr := k_r.lt; have cr0 := k_r.cell 0 rfl; have fr0 := k_r.frozen 0; have cr1 := k_r.cell 1 rfl; have fr1 := k_r.frozen 1; have cr2 := k_r.cell 2 rfl; have fr2 := k_r.frozen 2; clear k_r
            have Ko := Asd.mk k_o; have Lo := k_o.lt; have co0 := k_o.cell 0 rfl; have fo0 := k_o.frozen 0; have co1 := k_o.cell 1 rfl; have fo1 := k_o.frozen 1; have co2 := k_o.cell 2 rfl; have fo2 := k_o.frozen 2; have co3 := k_o.cell 3 rfl; have fo3 := k_o.frozen 3; have co4 := k_o.cell 4 rfl; have fo4 := k_o.frozen 4; clear k_o
            go_wp2_with fail
            have k_s := Ks.out.drew
            have k_r := Kr.out.drew
            have k_o := Ko.out.drew
            have h_ := below_drew HB.out
            refine start_ (n := 31) (S := fun w' => w'.cell? ⟨w.heap.size, 0, none⟩ = some (.int .u32 (hB h2)) ∧ w'.cell? ⟨w.heap.size, 1, none⟩ = some (.int .i64 a2) ∧ w'.cell? ⟨w.heap.size, 2, none⟩ = some (.int .i64 n2) ∧ w'.cell? ⟨w1.heap.size, 0, none⟩ = some (.bool h2) ∧ w'.cell? ⟨w1.heap.size, 1, none⟩ = some (.int .i64 a2) ∧ w'.cell? ⟨w1.heap.size, 2, none⟩ = some (.int .i64 n2) ∧ w'.cell? ⟨wr.heap.size, 0, none⟩ = some (.int .i64 v0) ∧ w'.cell? ⟨wr.heap.size, 1, none⟩ = some (.int .i64 v1) ∧ w'.cell? ⟨wr.heap.size, 2, none⟩ = some (.int .i64 v2) ∧ w'.cell? ⟨wr.heap.size, 3, none⟩ = some (.int .i64 v3) ∧ w'.cell? ⟨wr.heap.size, 4, none⟩ = some (.int .i64 v4)) (ds := []) #[false, false, false, false, false, false, false, false, false, false, false, false, false, false, false, false, false, false, false, false, false, false, false, false, false, false, false, false, false, false, false] (by kernel_rfl) rfl rfl ⟨k_s.cell 0 rfl, k_s.cell 1 rfl, k_s.cell 2 rfl, k_r.cell 0 rfl, k_r.cell 1 rfl, k_r.cell 2 rfl, k_o.cell 0 rfl, k_o.cell 1 rfl, k_o.cell 2 rfl, k_o.cell 3 rfl, k_o.cell 4 rfl⟩ (fun hHeld => ?_); refine with_tabW does23tab does23bits (fun HT_ HW_ => ?_)
            clear HB Ks Kr Ko
            generalize w6.drew = w7 at k_s k_r k_o h_ hHeld ⊢
            have HB := Asd.mk h_; clear h_; have Ks := Asd.mk k_s; clear k_s; have Kr := Asd.mk k_r; clear k_r; have Ko := Asd.mk k_o; clear k_o
            clear Ls Lr Lo cs0 fs0 cs1 fs1 cs2 fs2 cr0 fr0 cr1 fr1 cr2 fr2 co0 fo0 co1 fo1 co2 fo2 co3 fo3 co4 fo4
            refine pure_ (i := 0) (N := some 93) (v := ?_) (a' := ?_) #[true, false, false, false, false, false, false, false, false, false, false, false, false, false, false, false, false, false, false, false, false, false, false, false, false, false, false, false, false, false, false] rfl rfl (any_of HT_.out (by kernel_rfl)) (fun _ _ _ h => h) (Or.inl ⟨by rfl, ?_⟩) ?_ ?_
            rotate_left
            · intro w'
              go_simp
              with_reducible rfl
            rotate_left
            · simp only [Act.put, List.setIfInBounds_toArray, List.set_cons_zero, List.set_cons_succ, i64_w, i32_w]
              rfl
            refine pure_ (i := 1) (N := some 94) (v := ?_) (a' := ?_) #[true, true, false, false, false, false, false, false, false, false, false, false, false, false, false, false, false, false, false, false, false, false, false, false, false, false, false, false, false, false, false] rfl rfl (any_of HT_.out (by kernel_rfl)) (fun _ _ _ h => h) (Or.inl ⟨by rfl, ?_⟩) ?_ ?_
            rotate_left
            · intro w'
              go_simp
              with_reducible rfl
            rotate_left
            · simp only [Act.put, List.setIfInBounds_toArray, List.set_cons_zero, List.set_cons_succ, i64_w, i32_w]
              rfl
            refine pure_ (i := 2) (N := some 95) (v := ?_) (a' := ?_) #[true, true, true, false, false, false, false, false, false, false, false, false, false, false, false, false, false, false, false, false, false, false, false, false, false, false, false, false, false, false, false] rfl rfl (any_of HT_.out (by kernel_rfl)) (fun _ _ _ h => h) (Or.inl ⟨by rfl, ?_⟩) ?_ ?_
            rotate_left
            · intro w'
              go_simp
              with_reducible rfl
            rotate_left
            · simp only [Act.put, List.setIfInBounds_toArray, List.set_cons_zero, List.set_cons_succ, i64_w, i32_w]
              rfl
            refine pure_ (i := 3) (N := some 96) (v := ?_) (a' := ?_) #[true, true, true, true, false, false, false, false, false, false, false, false, false, false, false, false, false, false, false, false, false, false, false, false, false, false, false, false, false, false, false] rfl rfl (any_of HT_.out (by kernel_rfl)) (fun _ _ _ h => h) (Or.inl ⟨by rfl, ?_⟩) ?_ ?_
            rotate_left
            · intro w'
              go_simp
              with_reducible rfl
            rotate_left
            · simp only [Act.put, List.setIfInBounds_toArray, List.set_cons_zero, List.set_cons_succ, i64_w, i32_w]
              rfl
            refine pure_ (i := 4) (N := some 97) (v := ?_) (a' := ?_) #[true, true, true, true, true, false, false, false, false, false, false, false, false, false, false, false, false, false, false, false, false, false, false, false, false, false, false, false, false, false, false] rfl rfl (any_of HT_.out (by kernel_rfl)) (fun _ _ _ h => h) (Or.inl ⟨by rfl, ?_⟩) ?_ ?_
            rotate_left
            · intro w'
              go_simp
              with_reducible rfl
            rotate_left
            · simp only [Act.put, List.setIfInBounds_toArray, List.set_cons_zero, List.set_cons_succ, i64_w, i32_w]
              rfl
            refine pure_ (i := 5) (N := some 98) (v := ?_) (a' := ?_) #[true, true, true, true, true, true, false, false, false, false, false, false, false, false, false, false, false, false, false, false, false, false, false, false, false, false, false, false, false, false, false] rfl rfl (any_of HT_.out (by kernel_rfl)) (fun _ _ _ h => h) (Or.inl ⟨by rfl, ?_⟩) ?_ ?_
            rotate_left
            · intro w'
              go_simp
              with_reducible rfl
            rotate_left
            · simp only [Act.put, List.setIfInBounds_toArray, List.set_cons_zero, List.set_cons_succ, i64_w, i32_w]
              rfl
            refine pure_ (i := 6) (N := some 99) (v := ?_) (a' := ?_) #[true, true, true, true, true, true, true, false, false, false, false, false, false, false, false, false, false, false, false, false, false, false, false, false, false, false, false, false, false, false, false] rfl rfl (any_of HT_.out (by kernel_rfl)) (fun _ _ _ h => h) (Or.inl ⟨by rfl, ?_⟩) ?_ ?_
            rotate_left
            · intro w'
              go_simp
              with_reducible rfl
            rotate_left
            · simp only [Act.put, List.setIfInBounds_toArray, List.set_cons_zero, List.set_cons_succ, i64_w, i32_w]
              rfl
            refine pure_ (i := 7) (N := some 100) (v := ?_) (a' := ?_) #[true, true, true, true, true, true, true, true, false, false, false, false, false, false, false, false, false, false, false, false, false, false, false, false, false, false, false, false, false, false, false] rfl rfl (any_of HT_.out (by kernel_rfl)) (fun _ _ _ h => h) (Or.inl ⟨by rfl, ?_⟩) ?_ ?_
            rotate_left
            · intro w'
              go_simp
              with_reducible rfl
            rotate_left
            · simp only [Act.put, List.setIfInBounds_toArray, List.set_cons_zero, List.set_cons_succ, i64_w, i32_w]
              rfl
            refine pure_ (i := 8) (N := some 101) (v := ?_) (a' := ?_) #[true, true, true, true, true, true, true, true, true, false, false, false, false, false, false, false, false, false, false, false, false, false, false, false, false, false, false, false, false, false, false] rfl rfl (any_of HT_.out (by kernel_rfl)) (fun _ _ _ h => h) (Or.inl ⟨by rfl, ?_⟩) ?_ ?_
            rotate_left
            · intro w'
              go_simp
              with_reducible rfl
            rotate_left
            · simp only [Act.put, List.setIfInBounds_toArray, List.set_cons_zero, List.set_cons_succ, i64_w, i32_w]
              rfl
            refine pure_ (i := 9) (N := some 102) (v := ?_) (a' := ?_) #[true, true, true, true, true, true, true, true, true, true, false, false, false, false, false, false, false, false, false, false, false, false, false, false, false, false, false, false, false, false, false] rfl rfl (any_of HT_.out (by kernel_rfl)) (fun _ _ _ h => h) (Or.inl ⟨by rfl, ?_⟩) ?_ ?_
            rotate_left
            · intro w'
              go_simp
              with_reducible rfl
            rotate_left
            · simp only [Act.put, List.setIfInBounds_toArray, List.set_cons_zero, List.set_cons_succ, i64_w, i32_w]
              rfl
            refine pure_ (i := 10) (N := some 103) (v := ?_) (a' := ?_) #[true, true, true, true, true, true, true, true, true, true, true, false, false, false, false, false, false, false, false, false, false, false, false, false, false, false, false, false, false, false, false] rfl rfl (any_of HT_.out (by kernel_rfl)) (fun _ _ _ h => h) (Or.inl ⟨by rfl, ?_⟩) ?_ ?_
            rotate_left
            · intro w'
              go_simp
              with_reducible rfl
            rotate_left
            · simp only [Act.put, List.setIfInBounds_toArray, List.set_cons_zero, List.set_cons_succ, i64_w, i32_w]
              rfl
            refine pure_ (i := 11) (N := some 104) (v := ?_) (a' := ?_) #[true, true, true, true, true, true, true, true, true, true, true, true, false, false, false, false, false, false, false, false, false, false, false, false, false, false, false, false, false, false, false] rfl rfl (any_of HT_.out (by kernel_rfl)) (fun _ _ _ h => h) (Or.inl ⟨by rfl, ?_⟩) ?_ ?_
            rotate_left
            · intro w'
              go_simp
              with_reducible rfl
            rotate_left
            · simp only [Act.put, List.setIfInBounds_toArray, List.set_cons_zero, List.set_cons_succ, i64_w, i32_w]
              rfl
            refine pure_ (i := 12) (N := some 105) (v := ?_) (a' := ?_) #[true, true, true, true, true, true, true, true, true, true, true, true, true, false, false, false, false, false, false, false, false, false, false, false, false, false, false, false, false, false, false] rfl rfl (any_of HT_.out (by kernel_rfl)) (fun _ _ _ h => h) (Or.inl ⟨by rfl, ?_⟩) ?_ ?_
            rotate_left
            · intro w'
              go_simp
              with_reducible rfl
            rotate_left
            · simp only [Act.put, List.setIfInBounds_toArray, List.set_cons_zero, List.set_cons_succ, i64_w, i32_w]
              rfl
            refine pure_ (i := 13) (N := some 106) (v := ?_) (a' := ?_) #[true, true, true, true, true, true, true, true, true, true, true, true, true, true, false, false, false, false, false, false, false, false, false, false, false, false, false, false, false, false, false] rfl rfl (any_of HT_.out (by kernel_rfl)) (fun _ _ _ h => h) (Or.inl ⟨by rfl, ?_⟩) ?_ ?_
            rotate_left
            · intro w'
              go_simp
              with_reducible rfl
            rotate_left
            · simp only [Act.put, List.setIfInBounds_toArray, List.set_cons_zero, List.set_cons_succ, i64_w, i32_w]
              rfl
            refine pure_ (i := 14) (N := some 107) (v := ?_) (a' := ?_) #[true, true, true, true, true, true, true, true, true, true, true, true, true, true, true, false, false, false, false, false, false, false, false, false, false, false, false, false, false, false, false] rfl rfl (any_of HT_.out (by kernel_rfl)) (fun _ _ _ h => h) (Or.inl ⟨by rfl, ?_⟩) ?_ ?_
            rotate_left
            · intro w'
              go_simp
              with_reducible rfl
            rotate_left
            · simp only [Act.put, List.setIfInBounds_toArray, List.set_cons_zero, List.set_cons_succ, i64_w, i32_w]
              rfl
            refine pure_ (i := 16) (N := some 109) (v := ?_) (a' := ?_) #[true, true, true, true, true, true, true, true, true, true, true, true, true, true, true, false, true, false, false, false, false, false, false, false, false, false, false, false, false, false, false] rfl rfl (any_of HT_.out (by kernel_rfl)) (fun _ _ _ h => h) (Or.inl ⟨by rfl, ?_⟩) ?_ ?_
            rotate_left
            · intro w'
              go_simp
              with_reducible rfl
            rotate_left
            · simp only [Act.put, List.setIfInBounds_toArray, List.set_cons_zero, List.set_cons_succ, i64_w, i32_w]
              rfl
            refine pure_ (i := 17) (N := some 110) (v := ?_) (a' := ?_) #[true, true, true, true, true, true, true, true, true, true, true, true, true, true, true, false, true, true, false, false, false, false, false, false, false, false, false, false, false, false, false] rfl rfl (any_of HT_.out (by kernel_rfl)) (fun _ _ _ h => h) (Or.inl ⟨by rfl, ?_⟩) ?_ ?_
            rotate_left
            · intro w'
              go_simp
              with_reducible rfl
            rotate_left
            · simp only [Act.put, List.setIfInBounds_toArray, List.set_cons_zero, List.set_cons_succ, i64_w, i32_w]
              rfl
            refine pure_ (i := 18) (N := some 111) (v := ?_) (a' := ?_) #[true, true, true, true, true, true, true, true, true, true, true, true, true, true, true, false, true, true, true, false, false, false, false, false, false, false, false, false, false, false, false] rfl rfl (any_of HT_.out (by kernel_rfl)) (fun _ _ _ h => h) (Or.inl ⟨by rfl, ?_⟩) ?_ ?_
            rotate_left
            · intro w'
              go_simp
              with_reducible rfl
            rotate_left
            · simp only [Act.put, List.setIfInBounds_toArray, List.set_cons_zero, List.set_cons_succ, i64_w, i32_w]
              rfl
            refine take_ (i := 19) (N := some 112) (v := ?_) (a' := ?_) #[true, true, true, true, true, true, true, true, true, true, true, true, true, true, true, false, true, true, true, true, false, false, false, false, false, false, false, false, false, false, false] rfl rfl (take_ofW HT_.out HW_.out (by kernel_rfl)) (fun _ _ _ h => h) (Or.inl ⟨by rfl, ?_⟩) hHeld ?_ ?_
            rotate_left
            · rintro w' ⟨s0, s1, s2, s3, s4, s5, s6, s7, s8, s9, s10⟩
              go_simp
              with_reducible rfl
            rotate_left
            · simp only [Act.put, List.setIfInBounds_toArray, List.set_cons_zero, List.set_cons_succ, i64_w, i32_w]
              rfl
            refine one_ (i := 15) (N := some 108) #[true, true, true, true, true, true, true, true, true, true, true, true, true, true, true, true, true, true, true, true, false, false, false, false, false, false, false, false, false, false, false] rfl rfl (one_of HT_.out (by kernel_rfl)) (by decide) (fun K hK => ?_)
            refine goes_ Try.func14 (by kernel_rfl) rfl #[.pointer (some ⟨w.heap.size, 0, none⟩)] (by rfl) rfl rfl (by (try simp only [List.map_toArray, List.map_cons, List.map_nil]); first | done | rfl | (simp only [List.length_drop, List.length_take]; rfl)) ?_
            with_reducible refine (acked_any w.heap.size h2 a2 n2 _ Ks.out).mono ?_
            rintro en w_ ⟨rfl, rfl⟩
            refine ⟨_, rfl, ?_⟩
            refine hK.out _ _ ⟨Ks.out.cell 0 rfl, Ks.out.cell 1 rfl, Ks.out.cell 2 rfl, Kr.out.cell 0 rfl, Kr.out.cell 1 rfl, Kr.out.cell 2 rfl, Ko.out.cell 0 rfl, Ko.out.cell 1 rfl, Ko.out.cell 2 rfl, Ko.out.cell 3 rfl, Ko.out.cell 4 rfl⟩ (fun hHeld => ?_)
            clear hK K
            refine norm_ (a' := ?_) ?_ ?_
            rotate_left
            · show Act.put _ (some 108) _ = _
              simp only [Act.put, List.setIfInBounds_toArray, List.set_cons_zero, List.set_cons_succ, i64_w, i32_w]
              rfl
            refine pure_ (i := 20) (N := some 113) (v := ?_) (a' := ?_) #[true, true, true, true, true, true, true, true, true, true, true, true, true, true, true, true, true, true, true, true, true, false, false, false, false, false, false, false, false, false, false] rfl rfl (any_of HT_.out (by kernel_rfl)) (fun _ _ _ h => h) (Or.inl ⟨by rfl, ?_⟩) ?_ ?_
            rotate_left
            · intro w'
              go_simp
              with_reducible rfl
            rotate_left
            · simp only [Act.put, List.setIfInBounds_toArray, List.set_cons_zero, List.set_cons_succ, i64_w, i32_w]
              rfl
            refine pure_ (i := 21) (N := some 114) (v := ?_) (a' := ?_) #[true, true, true, true, true, true, true, true, true, true, true, true, true, true, true, true, true, true, true, true, true, true, false, false, false, false, false, false, false, false, false] rfl rfl (any_of HT_.out (by kernel_rfl)) (fun _ _ _ h => h) (Or.inl ⟨by rfl, ?_⟩) ?_ ?_
            rotate_left
            · intro w'
              go_simp
              with_reducible rfl
            rotate_left
            · simp only [Act.put, List.setIfInBounds_toArray, List.set_cons_zero, List.set_cons_succ, i64_w, i32_w]
              rfl
            refine pure_ (i := 22) (N := some 115) (v := ?_) (a' := ?_) #[true, true, true, true, true, true, true, true, true, true, true, true, true, true, true, true, true, true, true, true, true, true, true, false, false, false, false, false, false, false, false] rfl rfl (any_of HT_.out (by kernel_rfl)) (fun _ _ _ h => h) (Or.inl ⟨by rfl, ?_⟩) ?_ ?_
            rotate_left
            · intro w'
              go_simp
              with_reducible rfl
            rotate_left
            · simp only [Act.put, List.setIfInBounds_toArray, List.set_cons_zero, List.set_cons_succ, i64_w, i32_w]
              rfl
            refine pure_ (i := 23) (N := some 116) (v := ?_) (a' := ?_) #[true, true, true, true, true, true, true, true, true, true, true, true, true, true, true, true, true, true, true, true, true, true, true, true, false, false, false, false, false, false, false] rfl rfl (any_of HT_.out (by kernel_rfl)) (fun _ _ _ h => h) (Or.inl ⟨by rfl, ?_⟩) ?_ ?_
            rotate_left
            · intro w'
              go_simp
              with_reducible rfl
            rotate_left
            · simp only [Act.put, List.setIfInBounds_toArray, List.set_cons_zero, List.set_cons_succ, i64_w, i32_w]
              rfl
            refine pure_ (i := 25) (N := some 118) (v := ?_) (a' := ?_) #[true, true, true, true, true, true, true, true, true, true, true, true, true, true, true, true, true, true, true, true, true, true, true, true, false, true, false, false, false, false, false] rfl rfl (any_of HT_.out (by kernel_rfl)) (fun _ _ _ h => h) (Or.inl ⟨by rfl, ?_⟩) ?_ ?_
            rotate_left
            · intro w'
              go_simp
              with_reducible rfl
            rotate_left
            · simp only [Act.put, List.setIfInBounds_toArray, List.set_cons_zero, List.set_cons_succ, i64_w, i32_w]
              rfl
            refine pure_ (i := 26) (N := some 119) (v := ?_) (a' := ?_) #[true, true, true, true, true, true, true, true, true, true, true, true, true, true, true, true, true, true, true, true, true, true, true, true, false, true, true, false, false, false, false] rfl rfl (any_of HT_.out (by kernel_rfl)) (fun _ _ _ h => h) (Or.inl ⟨by rfl, ?_⟩) ?_ ?_
            rotate_left
            · intro w'
              go_simp
              with_reducible rfl
            rotate_left
            · simp only [Act.put, List.setIfInBounds_toArray, List.set_cons_zero, List.set_cons_succ, i64_w, i32_w]
              rfl
            refine pure_ (i := 27) (N := some 120) (v := ?_) (a' := ?_) #[true, true, true, true, true, true, true, true, true, true, true, true, true, true, true, true, true, true, true, true, true, true, true, true, false, true, true, true, false, false, false] rfl rfl (any_of HT_.out (by kernel_rfl)) (fun _ _ _ h => h) (Or.inl ⟨by rfl, ?_⟩) ?_ ?_
            rotate_left
            · intro w'
              go_simp
              with_reducible rfl
            rotate_left
            · simp only [Act.put, List.setIfInBounds_toArray, List.set_cons_zero, List.set_cons_succ, i64_w, i32_w]
              rfl
            refine take_ (i := 28) (N := some 121) (v := ?_) (a' := ?_) #[true, true, true, true, true, true, true, true, true, true, true, true, true, true, true, true, true, true, true, true, true, true, true, true, false, true, true, true, true, false, false] rfl rfl (take_ofW HT_.out HW_.out (by kernel_rfl)) (fun _ _ _ h => h) (Or.inl ⟨by rfl, ?_⟩) hHeld ?_ ?_
            rotate_left
            · rintro w' ⟨s0, s1, s2, s3, s4, s5, s6, s7, s8, s9, s10⟩
              go_simp
              with_reducible rfl
            rotate_left
            · simp only [Act.put, List.setIfInBounds_toArray, List.set_cons_zero, List.set_cons_succ, i64_w, i32_w]
              rfl
            refine one_ (i := 24) (N := some 117) #[true, true, true, true, true, true, true, true, true, true, true, true, true, true, true, true, true, true, true, true, true, true, true, true, true, true, true, true, true, false, false] rfl rfl (one_of HT_.out (by kernel_rfl)) (by decide) (fun K hK => ?_)
            refine goes_ Try.func10 (by kernel_rfl) rfl #[.pointer (some ⟨w.heap.size, 0, none⟩)] (by rfl) rfl rfl (by (try simp only [List.map_toArray, List.map_cons, List.map_nil]); first | done | rfl | (simp only [List.length_drop, List.length_take]; rfl)) ?_
            with_reducible refine (heard_any w.heap.size h2 a2 n2 _ Ks.out).mono ?_
            rintro en w_ ⟨rfl, rfl⟩
            refine ⟨_, rfl, ?_⟩
            refine hK.out _ _ ⟨Ks.out.cell 0 rfl, Ks.out.cell 1 rfl, Ks.out.cell 2 rfl, Kr.out.cell 0 rfl, Kr.out.cell 1 rfl, Kr.out.cell 2 rfl, Ko.out.cell 0 rfl, Ko.out.cell 1 rfl, Ko.out.cell 2 rfl, Ko.out.cell 3 rfl, Ko.out.cell 4 rfl⟩ (fun hHeld => ?_)
            clear hK K
            refine norm_ (a' := ?_) ?_ ?_
            rotate_left
            · show Act.put _ (some 117) _ = _
              simp only [Act.put, List.setIfInBounds_toArray, List.set_cons_zero, List.set_cons_succ, i64_w, i32_w]
              rfl
            refine pure_ (i := 29) (N := some 122) (v := ?_) (a' := ?_) #[true, true, true, true, true, true, true, true, true, true, true, true, true, true, true, true, true, true, true, true, true, true, true, true, true, true, true, true, true, true, false] rfl rfl (any_of HT_.out (by kernel_rfl)) (fun _ _ _ h => h) (Or.inl ⟨by rfl, ?_⟩) ?_ ?_
            rotate_left
            · intro w'
              go_simp
              with_reducible rfl
            rotate_left
            · simp only [Act.put, List.setIfInBounds_toArray, List.set_cons_zero, List.set_cons_succ, i64_w, i32_w]
              rfl
            refine pure_ (i := 30) (N := some 123) (v := ?_) (a' := ?_) #[true, true, true, true, true, true, true, true, true, true, true, true, true, true, true, true, true, true, true, true, true, true, true, true, true, true, true, true, true, true, true] rfl rfl (any_of HT_.out (by kernel_rfl)) (fun _ _ _ h => h) (Or.inl ⟨by rfl, ?_⟩) ?_ ?_
            rotate_left
            · intro w'
              go_simp
              with_reducible rfl
            rotate_left
            · simp only [Act.put, List.setIfInBounds_toArray, List.set_cons_zero, List.set_cons_succ, i64_w, i32_w]
              rfl
            refine done_ (done_of HT_.out (by kernel_rfl)) ?_
            have Z : w.heap.size ≤ w7.heap.size := HB.out.size
            have Ls := Ks.out.lt; have cs0 := Ks.out.cell 0 rfl; have fs0 := Ks.out.frozen 0; have cs1 := Ks.out.cell 1 rfl; have fs1 := Ks.out.frozen 1; have cs2 := Ks.out.cell 2 rfl; have fs2 := Ks.out.frozen 2
            have Lr := Kr.out.lt; have cr0 := Kr.out.cell 0 rfl; have fr0 := Kr.out.frozen 0; have cr1 := Kr.out.cell 1 rfl; have fr1 := Kr.out.frozen 1; have cr2 := Kr.out.cell 2 rfl; have fr2 := Kr.out.frozen 2
            have Lo := Ko.out.lt; have co0 := Ko.out.cell 0 rfl; have fo0 := Ko.out.frozen 0; have co1 := Ko.out.cell 1 rfl; have fo1 := Ko.out.frozen 1; have co2 := Ko.out.cell 2 rfl; have fo2 := Ko.out.frozen 2; have co3 := Ko.out.cell 3 rfl; have fo3 := Ko.out.frozen 3; have co4 := Ko.out.cell 4 rfl; have fo4 := Ko.out.frozen 4
            go_wp2_with fail
            go_roundg (gk - 1)
            case measure => have := R3.out; omega
            case rel => exact ⟨k + 1, h2, a2, n2, by go_num, by omega, by omega, (by have := R3.out; omega), Ks.out, Kr.out, HB.out⟩
          · have hkk1 : (v0 == 1) = false := beq_eq_false_iff_ne.2 hk1
            clear hk1
            by_cases hk2 : v0 = 2
            · have hkk : (v0 == 2) = true := beq_iff_eq.2 hk2
              clear hk2
              go_wp2_with fail
              have k_s := Ks.out.alloc (.cells #[.int .i64 v0, .int .i64 v1, .int .i64 v2, .int .i64 v3, .int .i64 v4] 39 (0, 0))
              have k_r := Kr.out.alloc (.cells #[.int .i64 v0, .int .i64 v1, .int .i64 v2, .int .i64 v3, .int .i64 v4] 39 (0, 0))
              have k_o := Blk.new wr #[.int .i64 v0, .int .i64 v1, .int .i64 v2, .int .i64 v3, .int .i64 v4] 39
              have h_ := below_alloc HB.out (.cells #[.int .i64 v0, .int .i64 v1, .int .i64 v2, .int .i64 v3, .int .i64 v4] 39 (0, 0))
              revert k_s k_r k_o h_
              generalize (wr.alloc (.cells #[.int .i64 v0, .int .i64 v1, .int .i64 v2, .int .i64 v3, .int .i64 v4] 39 (0, 0))) = w3
              intro k_s k_r k_o h_
              have Dso : w.heap.size < wr.heap.size := (by have := Ls; omega)
              have Dro : w1.heap.size < wr.heap.size := (by have := Lr; omega)
              have Go : w.heap.size ≤ wr.heap.size := (by have := HB.out.size; omega)
              clear Ks Ls cs0 fs0 cs1 fs1 cs2 fs2 Kr Lr cr0 fr0 cr1 fr1 cr2 fr2
              clear HB Z; have HB := Asd.mk h_; clear h_; have Z : w.heap.size ≤ w3.heap.size := HB.out.size
              have Ks := Asd.mk k_s; have Ls := k_s.lt; have cs0 := k_s.cell 0 rfl; have fs0 := k_s.frozen 0; have cs1 := k_s.cell 1 rfl; have fs1 := k_s.frozen 1; have cs2 := k_s.cell 2 rfl; have fs2 := k_s.frozen 2; clear k_s
              have Kr := Asd.mk k_r; have Lr := k_r.lt; have cr0 := k_r.cell 0 rfl; have fr0 := k_r.frozen 0; have cr1 := k_r.cell 1 rfl; have fr1 := k_r.frozen 1; have cr2 := k_r.cell 2 rfl; have fr2 := k_r.frozen 2; clear k_r
              have Ko := Asd.mk k_o; have Lo := k_o.lt; have co0 := k_o.cell 0 rfl; have fo0 := k_o.frozen 0; have co1 := k_o.cell 1 rfl; have fo1 := k_o.frozen 1; have co2 := k_o.cell 2 rfl; have fo2 := k_o.frozen 2; have co3 := k_o.cell 3 rfl; have fo3 := k_o.frozen 3; have co4 := k_o.cell 4 rfl; have fo4 := k_o.frozen 4; clear k_o
              obtain ⟨h2, a2, n2, hS_⟩ : ∃ h2 a2 n2, sentS v1 v2 (h, a, n) = (h2, a2, n2) := ⟨_, _, _, rfl⟩
              have a2p : 0 ≤ a2 := sent_pos hS_ r2
              have hS := Asd.mk hS_; clear hS_
              refine (sent_at w.heap.size (h, a, n) (h2, a2, n2) v1 v2 _ Ks.out hS.out).mono ?_; rintro en w4 ⟨rfl, hk, hc⟩
              have k_s : Blk w4 (w.heap.size) #[.int .u32 (hB h2), .int .i64 a2, .int .i64 n2] 52 := hk
              have k_r : Blk w4 (w1.heap.size) #[.bool h, .int .i64 a, .int .i64 n] 41 := (by first | exact Kr.out.chg hc (by omega) | exact (Kr.out.alloc _).chg hc (by omega))
              have k_o : Blk w4 (wr.heap.size) #[.int .i64 v0, .int .i64 v1, .int .i64 v2, .int .i64 v3, .int .i64 v4] 39 := (by first | exact Ko.out.chg hc (by omega) | exact (Ko.out.alloc _).chg hc (by omega))
              have h_ : Below w.heap.size w w4 := below_chg (by repeat (first | exact HB.out | apply below_alloc | apply below_drewN | apply below_drew)) hc (by have := HB.out.size; omega)
              clear Ks Ls cs0 fs0 cs1 fs1 cs2 fs2 Kr Lr cr0 fr0 cr1 fr1 cr2 fr2 Ko Lo co0 fo0 co1 fo1 co2 fo2 co3 fo3 co4 fo4 HB Z hk hc; have HB := Asd.mk h_; clear h_; have Z : w.heap.size ≤ w4.heap.size := HB.out.size
              have Ks := Asd.mk k_s; have Ls := k_s.lt; have cs0 := k_s.cell 0 rfl; have fs0 := k_s.frozen 0; have cs1 := k_s.cell 1 rfl; have fs1 := k_s.frozen 1; have cs2 := k_s.cell 2 rfl; have fs2 := k_s.frozen 2; clear k_s
              have Kr := Asd.mk k_r; have Lr := k_r.lt; have cr0 := k_r.cell 0 rfl; have fr0 := k_r.frozen 0; have cr1 := k_r.cell 1 rfl; have fr1 := k_r.frozen 1; have cr2 := k_r.cell 2 rfl; have fr2 := k_r.frozen 2; clear k_r
              have Ko := Asd.mk k_o; have Lo := k_o.lt; have co0 := k_o.cell 0 rfl; have fo0 := k_o.frozen 0; have co1 := k_o.cell 1 rfl; have fo1 := k_o.frozen 1; have co2 := k_o.cell 2 rfl; have fo2 := k_o.frozen 2; have co3 := k_o.cell 3 rfl; have fo3 := k_o.frozen 3; have co4 := k_o.cell 4 rfl; have fo4 := k_o.frozen 4; clear k_o
              go_wp2_with fail
              refine (rsent_at w1.heap.size (h, a, n) (h2, a2, n2) v1 v2 _ Kr.out hS.out).mono ?_; rintro en w5 ⟨rfl, hk, hc⟩
              have k_s : Blk w5 (w.heap.size) #[.int .u32 (hB h2), .int .i64 a2, .int .i64 n2] 52 := (by first | exact Ks.out.chg hc (by omega) | exact (Ks.out.alloc _).chg hc (by omega))
              have k_r : Blk w5 (w1.heap.size) #[.bool h2, .int .i64 a2, .int .i64 n2] 41 := hk
              have k_o : Blk w5 (wr.heap.size) #[.int .i64 v0, .int .i64 v1, .int .i64 v2, .int .i64 v3, .int .i64 v4] 39 := (by first | exact Ko.out.chg hc (by omega) | exact (Ko.out.alloc _).chg hc (by omega))
              have h_ : Below w.heap.size w w5 := below_chg (by repeat (first | exact HB.out | apply below_alloc | apply below_drewN | apply below_drew)) hc (by have := HB.out.size; omega)
              clear Ks Ls cs0 fs0 cs1 fs1 cs2 fs2 Kr Lr cr0 fr0 cr1 fr1 cr2 fr2 Ko Lo co0 fo0 co1 fo1 co2 fo2 co3 fo3 co4 fo4 HB Z hk hc; have HB := Asd.mk h_; clear h_; have Z : w.heap.size ≤ w5.heap.size := HB.out.size
              have Ks := Asd.mk k_s; have Ls := k_s.lt; have cs0 := k_s.cell 0 rfl; have fs0 := k_s.frozen 0; have cs1 := k_s.cell 1 rfl; have fs1 := k_s.frozen 1; have cs2 := k_s.cell 2 rfl; have fs2 := k_s.frozen 2; clear k_s
              have Kr := Asd.mk k_r; have Lr := k_r.lt; have cr0 := k_r.cell 0 rfl; have fr0 := k_r.frozen 0; have cr1 := k_r.cell 1 rfl; have fr1 := k_r.frozen 1; have cr2 := k_r.cell 2 rfl; have fr2 := k_r.frozen 2; clear k_r
              have Ko := Asd.mk k_o; have Lo := k_o.lt; have co0 := k_o.cell 0 rfl; have fo0 := k_o.frozen 0; have co1 := k_o.cell 1 rfl; have fo1 := k_o.frozen 1; have co2 := k_o.cell 2 rfl; have fo2 := k_o.frozen 2; have co3 := k_o.cell 3 rfl; have fo3 := k_o.frozen 3; have co4 := k_o.cell 4 rfl; have fo4 := k_o.frozen 4; clear k_o
              obtain ⟨x, y, z, hP_⟩ : ∃ x y z, planS v3 v4 (h2, a2, n2) = (x, y, z) := ⟨_, _, _, rfl⟩
              have hP := Asd.mk hP_; clear hP_
              go_wp2_with fail
              refine (plan_at (p := (x, y, z)) w.heap.size h2 a2 n2 v3 v4 _ Ks.out hP.out).mono ?_; rintro en w_ ⟨rfl, rfl⟩
              go_wp2_with fail
              refine (rplan_at (p := (x, y, z)) w1.heap.size h2 a2 n2 v3 v4 _ Kr.out hP.out).mono ?_; rintro en w6 ⟨rfl, hb6⟩
              have k_s : Blk w6 (w.heap.size) #[.int .u32 (hB h2), .int .i64 a2, .int .i64 n2] 52 := (by first | exact Ks.out.below hb6 | exact (Ks.out.alloc _).below hb6 | exact ((Ks.out.alloc _).alloc _).below hb6)
              have k_r : Blk w6 (w1.heap.size) #[.bool h2, .int .i64 a2, .int .i64 n2] 41 := (by first | exact Kr.out.below hb6 | exact (Kr.out.alloc _).below hb6 | exact ((Kr.out.alloc _).alloc _).below hb6)
              have k_o : Blk w6 (wr.heap.size) #[.int .i64 v0, .int .i64 v1, .int .i64 v2, .int .i64 v3, .int .i64 v4] 39 := (by first | exact Ko.out.below hb6 | exact (Ko.out.alloc _).below hb6 | exact ((Ko.out.alloc _).alloc _).below hb6)
              have h_ : Below w.heap.size w w6 := below_step (by repeat (first | exact HB.out | apply below_alloc | apply below_drewN | apply below_drew | refine below_set ?_ (by have := HB.out.size; omega))) hb6
              clear Ks Ls cs0 fs0 cs1 fs1 cs2 fs2 Kr Lr cr0 fr0 cr1 fr1 cr2 fr2 Ko Lo co0 fo0 co1 fo1 co2 fo2 co3 fo3 co4 fo4
              clear HB hb6 Z; have HB := Asd.mk h_; clear h_; have Z : w.heap.size ≤ w6.heap.size := HB.out.size
              have Ks := Asd.mk k_s; have Ls := k_s.lt; have cs0 := k_s.cell 0 rfl; have fs0 := k_s.frozen 0; have cs1 := k_s.cell 1 rfl; have fs1 := k_s.frozen 1; have cs2 := k_s.cell 2 rfl; have fs2 := k_s.frozen 2; clear k_s
              have Kr := Asd.mk k_r; have Lr := k_r.lt; have cr0 := k_r.cell 0 rfl; have fr0 := k_r.frozen 0; have cr1 := k_r.cell 1 rfl; have fr1 := k_r.frozen 1; have cr2 := k_r.cell 2 rfl; have fr2 := k_r.frozen 2; clear k_r
              have Ko := Asd.mk k_o; have Lo := k_o.lt; have co0 := k_o.cell 0 rfl; have fo0 := k_o.frozen 0; have co1 := k_o.cell 1 rfl; have fo1 := k_o.frozen 1; have co2 := k_o.cell 2 rfl; have fo2 := k_o.frozen 2; have co3 := k_o.cell 3 rfl; have fo3 := k_o.frozen 3; have co4 := k_o.cell 4 rfl; have fo4 := k_o.frozen 4; clear k_o
              go_wp2_with fail
              have k_s := Ks.out.drew
              have k_r := Kr.out.drew
              have k_o := Ko.out.drew
              have h_ := below_drew HB.out
              refine start_ (n := 31) (S := fun w' => w'.cell? ⟨w.heap.size, 0, none⟩ = some (.int .u32 (hB h2)) ∧ w'.cell? ⟨w.heap.size, 1, none⟩ = some (.int .i64 a2) ∧ w'.cell? ⟨w.heap.size, 2, none⟩ = some (.int .i64 n2) ∧ w'.cell? ⟨w1.heap.size, 0, none⟩ = some (.bool h2) ∧ w'.cell? ⟨w1.heap.size, 1, none⟩ = some (.int .i64 a2) ∧ w'.cell? ⟨w1.heap.size, 2, none⟩ = some (.int .i64 n2) ∧ w'.cell? ⟨wr.heap.size, 0, none⟩ = some (.int .i64 v0) ∧ w'.cell? ⟨wr.heap.size, 1, none⟩ = some (.int .i64 v1) ∧ w'.cell? ⟨wr.heap.size, 2, none⟩ = some (.int .i64 v2) ∧ w'.cell? ⟨wr.heap.size, 3, none⟩ = some (.int .i64 v3) ∧ w'.cell? ⟨wr.heap.size, 4, none⟩ = some (.int .i64 v4)) (ds := []) #[false, false, false, false, false, false, false, false, false, false, false, false, false, false, false, false, false, false, false, false, false, false, false, false, false, false, false, false, false, false, false] (by kernel_rfl) rfl rfl ⟨k_s.cell 0 rfl, k_s.cell 1 rfl, k_s.cell 2 rfl, k_r.cell 0 rfl, k_r.cell 1 rfl, k_r.cell 2 rfl, k_o.cell 0 rfl, k_o.cell 1 rfl, k_o.cell 2 rfl, k_o.cell 3 rfl, k_o.cell 4 rfl⟩ (fun hHeld => ?_); refine with_tabW does23tab does23bits (fun HT_ HW_ => ?_)
              clear HB Ks Kr Ko
              generalize w6.drew = w7 at k_s k_r k_o h_ hHeld ⊢
              have HB := Asd.mk h_; clear h_; have Ks := Asd.mk k_s; clear k_s; have Kr := Asd.mk k_r; clear k_r; have Ko := Asd.mk k_o; clear k_o
              clear Ls Lr Lo cs0 fs0 cs1 fs1 cs2 fs2 cr0 fr0 cr1 fr1 cr2 fr2 co0 fo0 co1 fo1 co2 fo2 co3 fo3 co4 fo4
              refine pure_ (i := 0) (N := some 93) (v := ?_) (a' := ?_) #[true, false, false, false, false, false, false, false, false, false, false, false, false, false, false, false, false, false, false, false, false, false, false, false, false, false, false, false, false, false, false] rfl rfl (any_of HT_.out (by kernel_rfl)) (fun _ _ _ h => h) (Or.inl ⟨by rfl, ?_⟩) ?_ ?_
              rotate_left
              · intro w'
                go_simp
                with_reducible rfl
              rotate_left
              · simp only [Act.put, List.setIfInBounds_toArray, List.set_cons_zero, List.set_cons_succ, i64_w, i32_w]
                rfl
              refine pure_ (i := 1) (N := some 94) (v := ?_) (a' := ?_) #[true, true, false, false, false, false, false, false, false, false, false, false, false, false, false, false, false, false, false, false, false, false, false, false, false, false, false, false, false, false, false] rfl rfl (any_of HT_.out (by kernel_rfl)) (fun _ _ _ h => h) (Or.inl ⟨by rfl, ?_⟩) ?_ ?_
              rotate_left
              · intro w'
                go_simp
                with_reducible rfl
              rotate_left
              · simp only [Act.put, List.setIfInBounds_toArray, List.set_cons_zero, List.set_cons_succ, i64_w, i32_w]
                rfl
              refine pure_ (i := 2) (N := some 95) (v := ?_) (a' := ?_) #[true, true, true, false, false, false, false, false, false, false, false, false, false, false, false, false, false, false, false, false, false, false, false, false, false, false, false, false, false, false, false] rfl rfl (any_of HT_.out (by kernel_rfl)) (fun _ _ _ h => h) (Or.inl ⟨by rfl, ?_⟩) ?_ ?_
              rotate_left
              · intro w'
                go_simp
                with_reducible rfl
              rotate_left
              · simp only [Act.put, List.setIfInBounds_toArray, List.set_cons_zero, List.set_cons_succ, i64_w, i32_w]
                rfl
              refine pure_ (i := 3) (N := some 96) (v := ?_) (a' := ?_) #[true, true, true, true, false, false, false, false, false, false, false, false, false, false, false, false, false, false, false, false, false, false, false, false, false, false, false, false, false, false, false] rfl rfl (any_of HT_.out (by kernel_rfl)) (fun _ _ _ h => h) (Or.inl ⟨by rfl, ?_⟩) ?_ ?_
              rotate_left
              · intro w'
                go_simp
                with_reducible rfl
              rotate_left
              · simp only [Act.put, List.setIfInBounds_toArray, List.set_cons_zero, List.set_cons_succ, i64_w, i32_w]
                rfl
              refine pure_ (i := 4) (N := some 97) (v := ?_) (a' := ?_) #[true, true, true, true, true, false, false, false, false, false, false, false, false, false, false, false, false, false, false, false, false, false, false, false, false, false, false, false, false, false, false] rfl rfl (any_of HT_.out (by kernel_rfl)) (fun _ _ _ h => h) (Or.inl ⟨by rfl, ?_⟩) ?_ ?_
              rotate_left
              · intro w'
                go_simp
                with_reducible rfl
              rotate_left
              · simp only [Act.put, List.setIfInBounds_toArray, List.set_cons_zero, List.set_cons_succ, i64_w, i32_w]
                rfl
              refine pure_ (i := 5) (N := some 98) (v := ?_) (a' := ?_) #[true, true, true, true, true, true, false, false, false, false, false, false, false, false, false, false, false, false, false, false, false, false, false, false, false, false, false, false, false, false, false] rfl rfl (any_of HT_.out (by kernel_rfl)) (fun _ _ _ h => h) (Or.inl ⟨by rfl, ?_⟩) ?_ ?_
              rotate_left
              · intro w'
                go_simp
                with_reducible rfl
              rotate_left
              · simp only [Act.put, List.setIfInBounds_toArray, List.set_cons_zero, List.set_cons_succ, i64_w, i32_w]
                rfl
              refine pure_ (i := 6) (N := some 99) (v := ?_) (a' := ?_) #[true, true, true, true, true, true, true, false, false, false, false, false, false, false, false, false, false, false, false, false, false, false, false, false, false, false, false, false, false, false, false] rfl rfl (any_of HT_.out (by kernel_rfl)) (fun _ _ _ h => h) (Or.inl ⟨by rfl, ?_⟩) ?_ ?_
              rotate_left
              · intro w'
                go_simp
                with_reducible rfl
              rotate_left
              · simp only [Act.put, List.setIfInBounds_toArray, List.set_cons_zero, List.set_cons_succ, i64_w, i32_w]
                rfl
              refine pure_ (i := 7) (N := some 100) (v := ?_) (a' := ?_) #[true, true, true, true, true, true, true, true, false, false, false, false, false, false, false, false, false, false, false, false, false, false, false, false, false, false, false, false, false, false, false] rfl rfl (any_of HT_.out (by kernel_rfl)) (fun _ _ _ h => h) (Or.inl ⟨by rfl, ?_⟩) ?_ ?_
              rotate_left
              · intro w'
                go_simp
                with_reducible rfl
              rotate_left
              · simp only [Act.put, List.setIfInBounds_toArray, List.set_cons_zero, List.set_cons_succ, i64_w, i32_w]
                rfl
              refine pure_ (i := 8) (N := some 101) (v := ?_) (a' := ?_) #[true, true, true, true, true, true, true, true, true, false, false, false, false, false, false, false, false, false, false, false, false, false, false, false, false, false, false, false, false, false, false] rfl rfl (any_of HT_.out (by kernel_rfl)) (fun _ _ _ h => h) (Or.inl ⟨by rfl, ?_⟩) ?_ ?_
              rotate_left
              · intro w'
                go_simp
                with_reducible rfl
              rotate_left
              · simp only [Act.put, List.setIfInBounds_toArray, List.set_cons_zero, List.set_cons_succ, i64_w, i32_w]
                rfl
              refine pure_ (i := 9) (N := some 102) (v := ?_) (a' := ?_) #[true, true, true, true, true, true, true, true, true, true, false, false, false, false, false, false, false, false, false, false, false, false, false, false, false, false, false, false, false, false, false] rfl rfl (any_of HT_.out (by kernel_rfl)) (fun _ _ _ h => h) (Or.inl ⟨by rfl, ?_⟩) ?_ ?_
              rotate_left
              · intro w'
                go_simp
                with_reducible rfl
              rotate_left
              · simp only [Act.put, List.setIfInBounds_toArray, List.set_cons_zero, List.set_cons_succ, i64_w, i32_w]
                rfl
              refine pure_ (i := 10) (N := some 103) (v := ?_) (a' := ?_) #[true, true, true, true, true, true, true, true, true, true, true, false, false, false, false, false, false, false, false, false, false, false, false, false, false, false, false, false, false, false, false] rfl rfl (any_of HT_.out (by kernel_rfl)) (fun _ _ _ h => h) (Or.inl ⟨by rfl, ?_⟩) ?_ ?_
              rotate_left
              · intro w'
                go_simp
                with_reducible rfl
              rotate_left
              · simp only [Act.put, List.setIfInBounds_toArray, List.set_cons_zero, List.set_cons_succ, i64_w, i32_w]
                rfl
              refine pure_ (i := 11) (N := some 104) (v := ?_) (a' := ?_) #[true, true, true, true, true, true, true, true, true, true, true, true, false, false, false, false, false, false, false, false, false, false, false, false, false, false, false, false, false, false, false] rfl rfl (any_of HT_.out (by kernel_rfl)) (fun _ _ _ h => h) (Or.inl ⟨by rfl, ?_⟩) ?_ ?_
              rotate_left
              · intro w'
                go_simp
                with_reducible rfl
              rotate_left
              · simp only [Act.put, List.setIfInBounds_toArray, List.set_cons_zero, List.set_cons_succ, i64_w, i32_w]
                rfl
              refine pure_ (i := 12) (N := some 105) (v := ?_) (a' := ?_) #[true, true, true, true, true, true, true, true, true, true, true, true, true, false, false, false, false, false, false, false, false, false, false, false, false, false, false, false, false, false, false] rfl rfl (any_of HT_.out (by kernel_rfl)) (fun _ _ _ h => h) (Or.inl ⟨by rfl, ?_⟩) ?_ ?_
              rotate_left
              · intro w'
                go_simp
                with_reducible rfl
              rotate_left
              · simp only [Act.put, List.setIfInBounds_toArray, List.set_cons_zero, List.set_cons_succ, i64_w, i32_w]
                rfl
              refine pure_ (i := 13) (N := some 106) (v := ?_) (a' := ?_) #[true, true, true, true, true, true, true, true, true, true, true, true, true, true, false, false, false, false, false, false, false, false, false, false, false, false, false, false, false, false, false] rfl rfl (any_of HT_.out (by kernel_rfl)) (fun _ _ _ h => h) (Or.inl ⟨by rfl, ?_⟩) ?_ ?_
              rotate_left
              · intro w'
                go_simp
                with_reducible rfl
              rotate_left
              · simp only [Act.put, List.setIfInBounds_toArray, List.set_cons_zero, List.set_cons_succ, i64_w, i32_w]
                rfl
              refine pure_ (i := 14) (N := some 107) (v := ?_) (a' := ?_) #[true, true, true, true, true, true, true, true, true, true, true, true, true, true, true, false, false, false, false, false, false, false, false, false, false, false, false, false, false, false, false] rfl rfl (any_of HT_.out (by kernel_rfl)) (fun _ _ _ h => h) (Or.inl ⟨by rfl, ?_⟩) ?_ ?_
              rotate_left
              · intro w'
                go_simp
                with_reducible rfl
              rotate_left
              · simp only [Act.put, List.setIfInBounds_toArray, List.set_cons_zero, List.set_cons_succ, i64_w, i32_w]
                rfl
              refine pure_ (i := 16) (N := some 109) (v := ?_) (a' := ?_) #[true, true, true, true, true, true, true, true, true, true, true, true, true, true, true, false, true, false, false, false, false, false, false, false, false, false, false, false, false, false, false] rfl rfl (any_of HT_.out (by kernel_rfl)) (fun _ _ _ h => h) (Or.inl ⟨by rfl, ?_⟩) ?_ ?_
              rotate_left
              · intro w'
                go_simp
                with_reducible rfl
              rotate_left
              · simp only [Act.put, List.setIfInBounds_toArray, List.set_cons_zero, List.set_cons_succ, i64_w, i32_w]
                rfl
              refine pure_ (i := 17) (N := some 110) (v := ?_) (a' := ?_) #[true, true, true, true, true, true, true, true, true, true, true, true, true, true, true, false, true, true, false, false, false, false, false, false, false, false, false, false, false, false, false] rfl rfl (any_of HT_.out (by kernel_rfl)) (fun _ _ _ h => h) (Or.inl ⟨by rfl, ?_⟩) ?_ ?_
              rotate_left
              · intro w'
                go_simp
                with_reducible rfl
              rotate_left
              · simp only [Act.put, List.setIfInBounds_toArray, List.set_cons_zero, List.set_cons_succ, i64_w, i32_w]
                rfl
              refine pure_ (i := 18) (N := some 111) (v := ?_) (a' := ?_) #[true, true, true, true, true, true, true, true, true, true, true, true, true, true, true, false, true, true, true, false, false, false, false, false, false, false, false, false, false, false, false] rfl rfl (any_of HT_.out (by kernel_rfl)) (fun _ _ _ h => h) (Or.inl ⟨by rfl, ?_⟩) ?_ ?_
              rotate_left
              · intro w'
                go_simp
                with_reducible rfl
              rotate_left
              · simp only [Act.put, List.setIfInBounds_toArray, List.set_cons_zero, List.set_cons_succ, i64_w, i32_w]
                rfl
              refine take_ (i := 19) (N := some 112) (v := ?_) (a' := ?_) #[true, true, true, true, true, true, true, true, true, true, true, true, true, true, true, false, true, true, true, true, false, false, false, false, false, false, false, false, false, false, false] rfl rfl (take_ofW HT_.out HW_.out (by kernel_rfl)) (fun _ _ _ h => h) (Or.inl ⟨by rfl, ?_⟩) hHeld ?_ ?_
              rotate_left
              · rintro w' ⟨s0, s1, s2, s3, s4, s5, s6, s7, s8, s9, s10⟩
                go_simp
                with_reducible rfl
              rotate_left
              · simp only [Act.put, List.setIfInBounds_toArray, List.set_cons_zero, List.set_cons_succ, i64_w, i32_w]
                rfl
              refine one_ (i := 15) (N := some 108) #[true, true, true, true, true, true, true, true, true, true, true, true, true, true, true, true, true, true, true, true, false, false, false, false, false, false, false, false, false, false, false] rfl rfl (one_of HT_.out (by kernel_rfl)) (by decide) (fun K hK => ?_)
              refine goes_ Try.func14 (by kernel_rfl) rfl #[.pointer (some ⟨w.heap.size, 0, none⟩)] (by rfl) rfl rfl (by (try simp only [List.map_toArray, List.map_cons, List.map_nil]); first | done | rfl | (simp only [List.length_drop, List.length_take]; rfl)) ?_
              with_reducible refine (acked_any w.heap.size h2 a2 n2 _ Ks.out).mono ?_
              rintro en w_ ⟨rfl, rfl⟩
              refine ⟨_, rfl, ?_⟩
              refine hK.out _ _ ⟨Ks.out.cell 0 rfl, Ks.out.cell 1 rfl, Ks.out.cell 2 rfl, Kr.out.cell 0 rfl, Kr.out.cell 1 rfl, Kr.out.cell 2 rfl, Ko.out.cell 0 rfl, Ko.out.cell 1 rfl, Ko.out.cell 2 rfl, Ko.out.cell 3 rfl, Ko.out.cell 4 rfl⟩ (fun hHeld => ?_)
              clear hK K
              refine norm_ (a' := ?_) ?_ ?_
              rotate_left
              · show Act.put _ (some 108) _ = _
                simp only [Act.put, List.setIfInBounds_toArray, List.set_cons_zero, List.set_cons_succ, i64_w, i32_w]
                rfl
              refine pure_ (i := 20) (N := some 113) (v := ?_) (a' := ?_) #[true, true, true, true, true, true, true, true, true, true, true, true, true, true, true, true, true, true, true, true, true, false, false, false, false, false, false, false, false, false, false] rfl rfl (any_of HT_.out (by kernel_rfl)) (fun _ _ _ h => h) (Or.inl ⟨by rfl, ?_⟩) ?_ ?_
              rotate_left
              · intro w'
                go_simp
                with_reducible rfl
              rotate_left
              · simp only [Act.put, List.setIfInBounds_toArray, List.set_cons_zero, List.set_cons_succ, i64_w, i32_w]
                rfl
              refine pure_ (i := 21) (N := some 114) (v := ?_) (a' := ?_) #[true, true, true, true, true, true, true, true, true, true, true, true, true, true, true, true, true, true, true, true, true, true, false, false, false, false, false, false, false, false, false] rfl rfl (any_of HT_.out (by kernel_rfl)) (fun _ _ _ h => h) (Or.inl ⟨by rfl, ?_⟩) ?_ ?_
              rotate_left
              · intro w'
                go_simp
                with_reducible rfl
              rotate_left
              · simp only [Act.put, List.setIfInBounds_toArray, List.set_cons_zero, List.set_cons_succ, i64_w, i32_w]
                rfl
              refine pure_ (i := 22) (N := some 115) (v := ?_) (a' := ?_) #[true, true, true, true, true, true, true, true, true, true, true, true, true, true, true, true, true, true, true, true, true, true, true, false, false, false, false, false, false, false, false] rfl rfl (any_of HT_.out (by kernel_rfl)) (fun _ _ _ h => h) (Or.inl ⟨by rfl, ?_⟩) ?_ ?_
              rotate_left
              · intro w'
                go_simp
                with_reducible rfl
              rotate_left
              · simp only [Act.put, List.setIfInBounds_toArray, List.set_cons_zero, List.set_cons_succ, i64_w, i32_w]
                rfl
              refine pure_ (i := 23) (N := some 116) (v := ?_) (a' := ?_) #[true, true, true, true, true, true, true, true, true, true, true, true, true, true, true, true, true, true, true, true, true, true, true, true, false, false, false, false, false, false, false] rfl rfl (any_of HT_.out (by kernel_rfl)) (fun _ _ _ h => h) (Or.inl ⟨by rfl, ?_⟩) ?_ ?_
              rotate_left
              · intro w'
                go_simp
                with_reducible rfl
              rotate_left
              · simp only [Act.put, List.setIfInBounds_toArray, List.set_cons_zero, List.set_cons_succ, i64_w, i32_w]
                rfl
              refine pure_ (i := 25) (N := some 118) (v := ?_) (a' := ?_) #[true, true, true, true, true, true, true, true, true, true, true, true, true, true, true, true, true, true, true, true, true, true, true, true, false, true, false, false, false, false, false] rfl rfl (any_of HT_.out (by kernel_rfl)) (fun _ _ _ h => h) (Or.inl ⟨by rfl, ?_⟩) ?_ ?_
              rotate_left
              · intro w'
                go_simp
                with_reducible rfl
              rotate_left
              · simp only [Act.put, List.setIfInBounds_toArray, List.set_cons_zero, List.set_cons_succ, i64_w, i32_w]
                rfl
              refine pure_ (i := 26) (N := some 119) (v := ?_) (a' := ?_) #[true, true, true, true, true, true, true, true, true, true, true, true, true, true, true, true, true, true, true, true, true, true, true, true, false, true, true, false, false, false, false] rfl rfl (any_of HT_.out (by kernel_rfl)) (fun _ _ _ h => h) (Or.inl ⟨by rfl, ?_⟩) ?_ ?_
              rotate_left
              · intro w'
                go_simp
                with_reducible rfl
              rotate_left
              · simp only [Act.put, List.setIfInBounds_toArray, List.set_cons_zero, List.set_cons_succ, i64_w, i32_w]
                rfl
              refine pure_ (i := 27) (N := some 120) (v := ?_) (a' := ?_) #[true, true, true, true, true, true, true, true, true, true, true, true, true, true, true, true, true, true, true, true, true, true, true, true, false, true, true, true, false, false, false] rfl rfl (any_of HT_.out (by kernel_rfl)) (fun _ _ _ h => h) (Or.inl ⟨by rfl, ?_⟩) ?_ ?_
              rotate_left
              · intro w'
                go_simp
                with_reducible rfl
              rotate_left
              · simp only [Act.put, List.setIfInBounds_toArray, List.set_cons_zero, List.set_cons_succ, i64_w, i32_w]
                rfl
              refine take_ (i := 28) (N := some 121) (v := ?_) (a' := ?_) #[true, true, true, true, true, true, true, true, true, true, true, true, true, true, true, true, true, true, true, true, true, true, true, true, false, true, true, true, true, false, false] rfl rfl (take_ofW HT_.out HW_.out (by kernel_rfl)) (fun _ _ _ h => h) (Or.inl ⟨by rfl, ?_⟩) hHeld ?_ ?_
              rotate_left
              · rintro w' ⟨s0, s1, s2, s3, s4, s5, s6, s7, s8, s9, s10⟩
                go_simp
                with_reducible rfl
              rotate_left
              · simp only [Act.put, List.setIfInBounds_toArray, List.set_cons_zero, List.set_cons_succ, i64_w, i32_w]
                rfl
              refine one_ (i := 24) (N := some 117) #[true, true, true, true, true, true, true, true, true, true, true, true, true, true, true, true, true, true, true, true, true, true, true, true, true, true, true, true, true, false, false] rfl rfl (one_of HT_.out (by kernel_rfl)) (by decide) (fun K hK => ?_)
              refine goes_ Try.func10 (by kernel_rfl) rfl #[.pointer (some ⟨w.heap.size, 0, none⟩)] (by rfl) rfl rfl (by (try simp only [List.map_toArray, List.map_cons, List.map_nil]); first | done | rfl | (simp only [List.length_drop, List.length_take]; rfl)) ?_
              with_reducible refine (heard_any w.heap.size h2 a2 n2 _ Ks.out).mono ?_
              rintro en w_ ⟨rfl, rfl⟩
              refine ⟨_, rfl, ?_⟩
              refine hK.out _ _ ⟨Ks.out.cell 0 rfl, Ks.out.cell 1 rfl, Ks.out.cell 2 rfl, Kr.out.cell 0 rfl, Kr.out.cell 1 rfl, Kr.out.cell 2 rfl, Ko.out.cell 0 rfl, Ko.out.cell 1 rfl, Ko.out.cell 2 rfl, Ko.out.cell 3 rfl, Ko.out.cell 4 rfl⟩ (fun hHeld => ?_)
              clear hK K
              refine norm_ (a' := ?_) ?_ ?_
              rotate_left
              · show Act.put _ (some 117) _ = _
                simp only [Act.put, List.setIfInBounds_toArray, List.set_cons_zero, List.set_cons_succ, i64_w, i32_w]
                rfl
              refine pure_ (i := 29) (N := some 122) (v := ?_) (a' := ?_) #[true, true, true, true, true, true, true, true, true, true, true, true, true, true, true, true, true, true, true, true, true, true, true, true, true, true, true, true, true, true, false] rfl rfl (any_of HT_.out (by kernel_rfl)) (fun _ _ _ h => h) (Or.inl ⟨by rfl, ?_⟩) ?_ ?_
              rotate_left
              · intro w'
                go_simp
                with_reducible rfl
              rotate_left
              · simp only [Act.put, List.setIfInBounds_toArray, List.set_cons_zero, List.set_cons_succ, i64_w, i32_w]
                rfl
              refine pure_ (i := 30) (N := some 123) (v := ?_) (a' := ?_) #[true, true, true, true, true, true, true, true, true, true, true, true, true, true, true, true, true, true, true, true, true, true, true, true, true, true, true, true, true, true, true] rfl rfl (any_of HT_.out (by kernel_rfl)) (fun _ _ _ h => h) (Or.inl ⟨by rfl, ?_⟩) ?_ ?_
              rotate_left
              · intro w'
                go_simp
                with_reducible rfl
              rotate_left
              · simp only [Act.put, List.setIfInBounds_toArray, List.set_cons_zero, List.set_cons_succ, i64_w, i32_w]
                rfl
              refine done_ (done_of HT_.out (by kernel_rfl)) ?_
              have Z : w.heap.size ≤ w7.heap.size := HB.out.size
              have Ls := Ks.out.lt; have cs0 := Ks.out.cell 0 rfl; have fs0 := Ks.out.frozen 0; have cs1 := Ks.out.cell 1 rfl; have fs1 := Ks.out.frozen 1; have cs2 := Ks.out.cell 2 rfl; have fs2 := Ks.out.frozen 2
              have Lr := Kr.out.lt; have cr0 := Kr.out.cell 0 rfl; have fr0 := Kr.out.frozen 0; have cr1 := Kr.out.cell 1 rfl; have fr1 := Kr.out.frozen 1; have cr2 := Kr.out.cell 2 rfl; have fr2 := Kr.out.frozen 2
              have Lo := Ko.out.lt; have co0 := Ko.out.cell 0 rfl; have fo0 := Ko.out.frozen 0; have co1 := Ko.out.cell 1 rfl; have fo1 := Ko.out.frozen 1; have co2 := Ko.out.cell 2 rfl; have fo2 := Ko.out.frozen 2; have co3 := Ko.out.cell 3 rfl; have fo3 := Ko.out.frozen 3; have co4 := Ko.out.cell 4 rfl; have fo4 := Ko.out.frozen 4
              go_wp2_with fail
              go_roundg (gk - 1)
              case measure => have := R3.out; omega
              case rel => exact ⟨k + 1, h2, a2, n2, by go_num, by omega, by omega, (by have := R3.out; omega), Ks.out, Kr.out, HB.out⟩
            · have hkk2 : (v0 == 2) = false := beq_eq_false_iff_ne.2 hk2
              clear hk2
              by_cases hk3 : v0 = 3
              · have hkk : (v0 == 3) = true := beq_iff_eq.2 hk3
                clear hk3
                go_wp2_with fail
                have k_s := Ks.out.alloc (.cells #[.int .i64 v0, .int .i64 v1, .int .i64 v2, .int .i64 v3, .int .i64 v4] 39 (0, 0))
                have k_r := Kr.out.alloc (.cells #[.int .i64 v0, .int .i64 v1, .int .i64 v2, .int .i64 v3, .int .i64 v4] 39 (0, 0))
                have k_o := Blk.new wr #[.int .i64 v0, .int .i64 v1, .int .i64 v2, .int .i64 v3, .int .i64 v4] 39
                have h_ := below_alloc HB.out (.cells #[.int .i64 v0, .int .i64 v1, .int .i64 v2, .int .i64 v3, .int .i64 v4] 39 (0, 0))
                revert k_s k_r k_o h_
                generalize (wr.alloc (.cells #[.int .i64 v0, .int .i64 v1, .int .i64 v2, .int .i64 v3, .int .i64 v4] 39 (0, 0))) = w3
                intro k_s k_r k_o h_
                have Dso : w.heap.size < wr.heap.size := (by have := Ls; omega)
                have Dro : w1.heap.size < wr.heap.size := (by have := Lr; omega)
                have Go : w.heap.size ≤ wr.heap.size := (by have := HB.out.size; omega)
                clear Ks Ls cs0 fs0 cs1 fs1 cs2 fs2 Kr Lr cr0 fr0 cr1 fr1 cr2 fr2
                clear HB Z; have HB := Asd.mk h_; clear h_; have Z : w.heap.size ≤ w3.heap.size := HB.out.size
                have Ks := Asd.mk k_s; have Ls := k_s.lt; have cs0 := k_s.cell 0 rfl; have fs0 := k_s.frozen 0; have cs1 := k_s.cell 1 rfl; have fs1 := k_s.frozen 1; have cs2 := k_s.cell 2 rfl; have fs2 := k_s.frozen 2; clear k_s
                have Kr := Asd.mk k_r; have Lr := k_r.lt; have cr0 := k_r.cell 0 rfl; have fr0 := k_r.frozen 0; have cr1 := k_r.cell 1 rfl; have fr1 := k_r.frozen 1; have cr2 := k_r.cell 2 rfl; have fr2 := k_r.frozen 2; clear k_r
                have Ko := Asd.mk k_o; have Lo := k_o.lt; have co0 := k_o.cell 0 rfl; have fo0 := k_o.frozen 0; have co1 := k_o.cell 1 rfl; have fo1 := k_o.frozen 1; have co2 := k_o.cell 2 rfl; have fo2 := k_o.frozen 2; have co3 := k_o.cell 3 rfl; have fo3 := k_o.frozen 3; have co4 := k_o.cell 4 rfl; have fo4 := k_o.frozen 4; clear k_o
                obtain ⟨h2, a2, n2, hS_⟩ : ∃ h2 a2 n2, againS (h, a, n) = (h2, a2, n2) := ⟨_, _, _, rfl⟩
                have a2p : 0 ≤ a2 := again_pos hS_ r2
                have hS := Asd.mk hS_; clear hS_
                refine (again_at w.heap.size (h, a, n) (h2, a2, n2) _ Ks.out hS.out).mono ?_; rintro en w4 ⟨rfl, hk, hc⟩
                have k_s : Blk w4 (w.heap.size) #[.int .u32 (hB h2), .int .i64 a2, .int .i64 n2] 52 := hk
                have k_r : Blk w4 (w1.heap.size) #[.bool h, .int .i64 a, .int .i64 n] 41 := (by first | exact Kr.out.chg hc (by omega) | exact (Kr.out.alloc _).chg hc (by omega))
                have k_o : Blk w4 (wr.heap.size) #[.int .i64 v0, .int .i64 v1, .int .i64 v2, .int .i64 v3, .int .i64 v4] 39 := (by first | exact Ko.out.chg hc (by omega) | exact (Ko.out.alloc _).chg hc (by omega))
                have h_ : Below w.heap.size w w4 := below_chg (by repeat (first | exact HB.out | apply below_alloc | apply below_drewN | apply below_drew)) hc (by have := HB.out.size; omega)
                clear Ks Ls cs0 fs0 cs1 fs1 cs2 fs2 Kr Lr cr0 fr0 cr1 fr1 cr2 fr2 Ko Lo co0 fo0 co1 fo1 co2 fo2 co3 fo3 co4 fo4 HB Z hk hc; have HB := Asd.mk h_; clear h_; have Z : w.heap.size ≤ w4.heap.size := HB.out.size
                have Ks := Asd.mk k_s; have Ls := k_s.lt; have cs0 := k_s.cell 0 rfl; have fs0 := k_s.frozen 0; have cs1 := k_s.cell 1 rfl; have fs1 := k_s.frozen 1; have cs2 := k_s.cell 2 rfl; have fs2 := k_s.frozen 2; clear k_s
                have Kr := Asd.mk k_r; have Lr := k_r.lt; have cr0 := k_r.cell 0 rfl; have fr0 := k_r.frozen 0; have cr1 := k_r.cell 1 rfl; have fr1 := k_r.frozen 1; have cr2 := k_r.cell 2 rfl; have fr2 := k_r.frozen 2; clear k_r
                have Ko := Asd.mk k_o; have Lo := k_o.lt; have co0 := k_o.cell 0 rfl; have fo0 := k_o.frozen 0; have co1 := k_o.cell 1 rfl; have fo1 := k_o.frozen 1; have co2 := k_o.cell 2 rfl; have fo2 := k_o.frozen 2; have co3 := k_o.cell 3 rfl; have fo3 := k_o.frozen 3; have co4 := k_o.cell 4 rfl; have fo4 := k_o.frozen 4; clear k_o
                go_wp2_with fail
                refine (ragain_at w1.heap.size (h, a, n) (h2, a2, n2) _ Kr.out hS.out).mono ?_; rintro en w5 ⟨rfl, hk, hc⟩
                have k_s : Blk w5 (w.heap.size) #[.int .u32 (hB h2), .int .i64 a2, .int .i64 n2] 52 := (by first | exact Ks.out.chg hc (by omega) | exact (Ks.out.alloc _).chg hc (by omega))
                have k_r : Blk w5 (w1.heap.size) #[.bool h2, .int .i64 a2, .int .i64 n2] 41 := hk
                have k_o : Blk w5 (wr.heap.size) #[.int .i64 v0, .int .i64 v1, .int .i64 v2, .int .i64 v3, .int .i64 v4] 39 := (by first | exact Ko.out.chg hc (by omega) | exact (Ko.out.alloc _).chg hc (by omega))
                have h_ : Below w.heap.size w w5 := below_chg (by repeat (first | exact HB.out | apply below_alloc | apply below_drewN | apply below_drew)) hc (by have := HB.out.size; omega)
                clear Ks Ls cs0 fs0 cs1 fs1 cs2 fs2 Kr Lr cr0 fr0 cr1 fr1 cr2 fr2 Ko Lo co0 fo0 co1 fo1 co2 fo2 co3 fo3 co4 fo4 HB Z hk hc; have HB := Asd.mk h_; clear h_; have Z : w.heap.size ≤ w5.heap.size := HB.out.size
                have Ks := Asd.mk k_s; have Ls := k_s.lt; have cs0 := k_s.cell 0 rfl; have fs0 := k_s.frozen 0; have cs1 := k_s.cell 1 rfl; have fs1 := k_s.frozen 1; have cs2 := k_s.cell 2 rfl; have fs2 := k_s.frozen 2; clear k_s
                have Kr := Asd.mk k_r; have Lr := k_r.lt; have cr0 := k_r.cell 0 rfl; have fr0 := k_r.frozen 0; have cr1 := k_r.cell 1 rfl; have fr1 := k_r.frozen 1; have cr2 := k_r.cell 2 rfl; have fr2 := k_r.frozen 2; clear k_r
                have Ko := Asd.mk k_o; have Lo := k_o.lt; have co0 := k_o.cell 0 rfl; have fo0 := k_o.frozen 0; have co1 := k_o.cell 1 rfl; have fo1 := k_o.frozen 1; have co2 := k_o.cell 2 rfl; have fo2 := k_o.frozen 2; have co3 := k_o.cell 3 rfl; have fo3 := k_o.frozen 3; have co4 := k_o.cell 4 rfl; have fo4 := k_o.frozen 4; clear k_o
                obtain ⟨x, y, z, hP_⟩ : ∃ x y z, planS v3 v4 (h2, a2, n2) = (x, y, z) := ⟨_, _, _, rfl⟩
                have hP := Asd.mk hP_; clear hP_
                go_wp2_with fail
                refine (plan_at (p := (x, y, z)) w.heap.size h2 a2 n2 v3 v4 _ Ks.out hP.out).mono ?_; rintro en w_ ⟨rfl, rfl⟩
                go_wp2_with fail
                refine (rplan_at (p := (x, y, z)) w1.heap.size h2 a2 n2 v3 v4 _ Kr.out hP.out).mono ?_; rintro en w6 ⟨rfl, hb6⟩
                have k_s : Blk w6 (w.heap.size) #[.int .u32 (hB h2), .int .i64 a2, .int .i64 n2] 52 := (by first | exact Ks.out.below hb6 | exact (Ks.out.alloc _).below hb6 | exact ((Ks.out.alloc _).alloc _).below hb6)
                have k_r : Blk w6 (w1.heap.size) #[.bool h2, .int .i64 a2, .int .i64 n2] 41 := (by first | exact Kr.out.below hb6 | exact (Kr.out.alloc _).below hb6 | exact ((Kr.out.alloc _).alloc _).below hb6)
                have k_o : Blk w6 (wr.heap.size) #[.int .i64 v0, .int .i64 v1, .int .i64 v2, .int .i64 v3, .int .i64 v4] 39 := (by first | exact Ko.out.below hb6 | exact (Ko.out.alloc _).below hb6 | exact ((Ko.out.alloc _).alloc _).below hb6)
                have h_ : Below w.heap.size w w6 := below_step (by repeat (first | exact HB.out | apply below_alloc | apply below_drewN | apply below_drew | refine below_set ?_ (by have := HB.out.size; omega))) hb6
                clear Ks Ls cs0 fs0 cs1 fs1 cs2 fs2 Kr Lr cr0 fr0 cr1 fr1 cr2 fr2 Ko Lo co0 fo0 co1 fo1 co2 fo2 co3 fo3 co4 fo4
                clear HB hb6 Z; have HB := Asd.mk h_; clear h_; have Z : w.heap.size ≤ w6.heap.size := HB.out.size
                have Ks := Asd.mk k_s; have Ls := k_s.lt; have cs0 := k_s.cell 0 rfl; have fs0 := k_s.frozen 0; have cs1 := k_s.cell 1 rfl; have fs1 := k_s.frozen 1; have cs2 := k_s.cell 2 rfl; have fs2 := k_s.frozen 2; clear k_s
                have Kr := Asd.mk k_r; have Lr := k_r.lt; have cr0 := k_r.cell 0 rfl; have fr0 := k_r.frozen 0; have cr1 := k_r.cell 1 rfl; have fr1 := k_r.frozen 1; have cr2 := k_r.cell 2 rfl; have fr2 := k_r.frozen 2; clear k_r
                have Ko := Asd.mk k_o; have Lo := k_o.lt; have co0 := k_o.cell 0 rfl; have fo0 := k_o.frozen 0; have co1 := k_o.cell 1 rfl; have fo1 := k_o.frozen 1; have co2 := k_o.cell 2 rfl; have fo2 := k_o.frozen 2; have co3 := k_o.cell 3 rfl; have fo3 := k_o.frozen 3; have co4 := k_o.cell 4 rfl; have fo4 := k_o.frozen 4; clear k_o
                go_wp2_with fail
                have k_s := Ks.out.drew
                have k_r := Kr.out.drew
                have k_o := Ko.out.drew
                have h_ := below_drew HB.out
                refine start_ (n := 31) (S := fun w' => w'.cell? ⟨w.heap.size, 0, none⟩ = some (.int .u32 (hB h2)) ∧ w'.cell? ⟨w.heap.size, 1, none⟩ = some (.int .i64 a2) ∧ w'.cell? ⟨w.heap.size, 2, none⟩ = some (.int .i64 n2) ∧ w'.cell? ⟨w1.heap.size, 0, none⟩ = some (.bool h2) ∧ w'.cell? ⟨w1.heap.size, 1, none⟩ = some (.int .i64 a2) ∧ w'.cell? ⟨w1.heap.size, 2, none⟩ = some (.int .i64 n2) ∧ w'.cell? ⟨wr.heap.size, 0, none⟩ = some (.int .i64 v0) ∧ w'.cell? ⟨wr.heap.size, 1, none⟩ = some (.int .i64 v1) ∧ w'.cell? ⟨wr.heap.size, 2, none⟩ = some (.int .i64 v2) ∧ w'.cell? ⟨wr.heap.size, 3, none⟩ = some (.int .i64 v3) ∧ w'.cell? ⟨wr.heap.size, 4, none⟩ = some (.int .i64 v4)) (ds := []) #[false, false, false, false, false, false, false, false, false, false, false, false, false, false, false, false, false, false, false, false, false, false, false, false, false, false, false, false, false, false, false] (by kernel_rfl) rfl rfl ⟨k_s.cell 0 rfl, k_s.cell 1 rfl, k_s.cell 2 rfl, k_r.cell 0 rfl, k_r.cell 1 rfl, k_r.cell 2 rfl, k_o.cell 0 rfl, k_o.cell 1 rfl, k_o.cell 2 rfl, k_o.cell 3 rfl, k_o.cell 4 rfl⟩ (fun hHeld => ?_); refine with_tabW does23tab does23bits (fun HT_ HW_ => ?_)
                clear HB Ks Kr Ko
                generalize w6.drew = w7 at k_s k_r k_o h_ hHeld ⊢
                have HB := Asd.mk h_; clear h_; have Ks := Asd.mk k_s; clear k_s; have Kr := Asd.mk k_r; clear k_r; have Ko := Asd.mk k_o; clear k_o
                clear Ls Lr Lo cs0 fs0 cs1 fs1 cs2 fs2 cr0 fr0 cr1 fr1 cr2 fr2 co0 fo0 co1 fo1 co2 fo2 co3 fo3 co4 fo4
                refine pure_ (i := 0) (N := some 93) (v := ?_) (a' := ?_) #[true, false, false, false, false, false, false, false, false, false, false, false, false, false, false, false, false, false, false, false, false, false, false, false, false, false, false, false, false, false, false] rfl rfl (any_of HT_.out (by kernel_rfl)) (fun _ _ _ h => h) (Or.inl ⟨by rfl, ?_⟩) ?_ ?_
                rotate_left
                · intro w'
                  go_simp
                  with_reducible rfl
                rotate_left
                · simp only [Act.put, List.setIfInBounds_toArray, List.set_cons_zero, List.set_cons_succ, i64_w, i32_w]
                  rfl
                refine pure_ (i := 1) (N := some 94) (v := ?_) (a' := ?_) #[true, true, false, false, false, false, false, false, false, false, false, false, false, false, false, false, false, false, false, false, false, false, false, false, false, false, false, false, false, false, false] rfl rfl (any_of HT_.out (by kernel_rfl)) (fun _ _ _ h => h) (Or.inl ⟨by rfl, ?_⟩) ?_ ?_
                rotate_left
                · intro w'
                  go_simp
                  with_reducible rfl
                rotate_left
                · simp only [Act.put, List.setIfInBounds_toArray, List.set_cons_zero, List.set_cons_succ, i64_w, i32_w]
                  rfl
                refine pure_ (i := 2) (N := some 95) (v := ?_) (a' := ?_) #[true, true, true, false, false, false, false, false, false, false, false, false, false, false, false, false, false, false, false, false, false, false, false, false, false, false, false, false, false, false, false] rfl rfl (any_of HT_.out (by kernel_rfl)) (fun _ _ _ h => h) (Or.inl ⟨by rfl, ?_⟩) ?_ ?_
                rotate_left
                · intro w'
                  go_simp
                  with_reducible rfl
                rotate_left
                · simp only [Act.put, List.setIfInBounds_toArray, List.set_cons_zero, List.set_cons_succ, i64_w, i32_w]
                  rfl
                refine pure_ (i := 3) (N := some 96) (v := ?_) (a' := ?_) #[true, true, true, true, false, false, false, false, false, false, false, false, false, false, false, false, false, false, false, false, false, false, false, false, false, false, false, false, false, false, false] rfl rfl (any_of HT_.out (by kernel_rfl)) (fun _ _ _ h => h) (Or.inl ⟨by rfl, ?_⟩) ?_ ?_
                rotate_left
                · intro w'
                  go_simp
                  with_reducible rfl
                rotate_left
                · simp only [Act.put, List.setIfInBounds_toArray, List.set_cons_zero, List.set_cons_succ, i64_w, i32_w]
                  rfl
                refine pure_ (i := 4) (N := some 97) (v := ?_) (a' := ?_) #[true, true, true, true, true, false, false, false, false, false, false, false, false, false, false, false, false, false, false, false, false, false, false, false, false, false, false, false, false, false, false] rfl rfl (any_of HT_.out (by kernel_rfl)) (fun _ _ _ h => h) (Or.inl ⟨by rfl, ?_⟩) ?_ ?_
                rotate_left
                · intro w'
                  go_simp
                  with_reducible rfl
                rotate_left
                · simp only [Act.put, List.setIfInBounds_toArray, List.set_cons_zero, List.set_cons_succ, i64_w, i32_w]
                  rfl
                refine pure_ (i := 5) (N := some 98) (v := ?_) (a' := ?_) #[true, true, true, true, true, true, false, false, false, false, false, false, false, false, false, false, false, false, false, false, false, false, false, false, false, false, false, false, false, false, false] rfl rfl (any_of HT_.out (by kernel_rfl)) (fun _ _ _ h => h) (Or.inl ⟨by rfl, ?_⟩) ?_ ?_
                rotate_left
                · intro w'
                  go_simp
                  with_reducible rfl
                rotate_left
                · simp only [Act.put, List.setIfInBounds_toArray, List.set_cons_zero, List.set_cons_succ, i64_w, i32_w]
                  rfl
                refine pure_ (i := 6) (N := some 99) (v := ?_) (a' := ?_) #[true, true, true, true, true, true, true, false, false, false, false, false, false, false, false, false, false, false, false, false, false, false, false, false, false, false, false, false, false, false, false] rfl rfl (any_of HT_.out (by kernel_rfl)) (fun _ _ _ h => h) (Or.inl ⟨by rfl, ?_⟩) ?_ ?_
                rotate_left
                · intro w'
                  go_simp
                  with_reducible rfl
                rotate_left
                · simp only [Act.put, List.setIfInBounds_toArray, List.set_cons_zero, List.set_cons_succ, i64_w, i32_w]
                  rfl
                refine pure_ (i := 7) (N := some 100) (v := ?_) (a' := ?_) #[true, true, true, true, true, true, true, true, false, false, false, false, false, false, false, false, false, false, false, false, false, false, false, false, false, false, false, false, false, false, false] rfl rfl (any_of HT_.out (by kernel_rfl)) (fun _ _ _ h => h) (Or.inl ⟨by rfl, ?_⟩) ?_ ?_
                rotate_left
                · intro w'
                  go_simp
                  with_reducible rfl
                rotate_left
                · simp only [Act.put, List.setIfInBounds_toArray, List.set_cons_zero, List.set_cons_succ, i64_w, i32_w]
                  rfl
                refine pure_ (i := 8) (N := some 101) (v := ?_) (a' := ?_) #[true, true, true, true, true, true, true, true, true, false, false, false, false, false, false, false, false, false, false, false, false, false, false, false, false, false, false, false, false, false, false] rfl rfl (any_of HT_.out (by kernel_rfl)) (fun _ _ _ h => h) (Or.inl ⟨by rfl, ?_⟩) ?_ ?_
                rotate_left
                · intro w'
                  go_simp
                  with_reducible rfl
                rotate_left
                · simp only [Act.put, List.setIfInBounds_toArray, List.set_cons_zero, List.set_cons_succ, i64_w, i32_w]
                  rfl
                refine pure_ (i := 9) (N := some 102) (v := ?_) (a' := ?_) #[true, true, true, true, true, true, true, true, true, true, false, false, false, false, false, false, false, false, false, false, false, false, false, false, false, false, false, false, false, false, false] rfl rfl (any_of HT_.out (by kernel_rfl)) (fun _ _ _ h => h) (Or.inl ⟨by rfl, ?_⟩) ?_ ?_
                rotate_left
                · intro w'
                  go_simp
                  with_reducible rfl
                rotate_left
                · simp only [Act.put, List.setIfInBounds_toArray, List.set_cons_zero, List.set_cons_succ, i64_w, i32_w]
                  rfl
                refine pure_ (i := 10) (N := some 103) (v := ?_) (a' := ?_) #[true, true, true, true, true, true, true, true, true, true, true, false, false, false, false, false, false, false, false, false, false, false, false, false, false, false, false, false, false, false, false] rfl rfl (any_of HT_.out (by kernel_rfl)) (fun _ _ _ h => h) (Or.inl ⟨by rfl, ?_⟩) ?_ ?_
                rotate_left
                · intro w'
                  go_simp
                  with_reducible rfl
                rotate_left
                · simp only [Act.put, List.setIfInBounds_toArray, List.set_cons_zero, List.set_cons_succ, i64_w, i32_w]
                  rfl
                refine pure_ (i := 11) (N := some 104) (v := ?_) (a' := ?_) #[true, true, true, true, true, true, true, true, true, true, true, true, false, false, false, false, false, false, false, false, false, false, false, false, false, false, false, false, false, false, false] rfl rfl (any_of HT_.out (by kernel_rfl)) (fun _ _ _ h => h) (Or.inl ⟨by rfl, ?_⟩) ?_ ?_
                rotate_left
                · intro w'
                  go_simp
                  with_reducible rfl
                rotate_left
                · simp only [Act.put, List.setIfInBounds_toArray, List.set_cons_zero, List.set_cons_succ, i64_w, i32_w]
                  rfl
                refine pure_ (i := 12) (N := some 105) (v := ?_) (a' := ?_) #[true, true, true, true, true, true, true, true, true, true, true, true, true, false, false, false, false, false, false, false, false, false, false, false, false, false, false, false, false, false, false] rfl rfl (any_of HT_.out (by kernel_rfl)) (fun _ _ _ h => h) (Or.inl ⟨by rfl, ?_⟩) ?_ ?_
                rotate_left
                · intro w'
                  go_simp
                  with_reducible rfl
                rotate_left
                · simp only [Act.put, List.setIfInBounds_toArray, List.set_cons_zero, List.set_cons_succ, i64_w, i32_w]
                  rfl
                refine pure_ (i := 13) (N := some 106) (v := ?_) (a' := ?_) #[true, true, true, true, true, true, true, true, true, true, true, true, true, true, false, false, false, false, false, false, false, false, false, false, false, false, false, false, false, false, false] rfl rfl (any_of HT_.out (by kernel_rfl)) (fun _ _ _ h => h) (Or.inl ⟨by rfl, ?_⟩) ?_ ?_
                rotate_left
                · intro w'
                  go_simp
                  with_reducible rfl
                rotate_left
                · simp only [Act.put, List.setIfInBounds_toArray, List.set_cons_zero, List.set_cons_succ, i64_w, i32_w]
                  rfl
                refine pure_ (i := 14) (N := some 107) (v := ?_) (a' := ?_) #[true, true, true, true, true, true, true, true, true, true, true, true, true, true, true, false, false, false, false, false, false, false, false, false, false, false, false, false, false, false, false] rfl rfl (any_of HT_.out (by kernel_rfl)) (fun _ _ _ h => h) (Or.inl ⟨by rfl, ?_⟩) ?_ ?_
                rotate_left
                · intro w'
                  go_simp
                  with_reducible rfl
                rotate_left
                · simp only [Act.put, List.setIfInBounds_toArray, List.set_cons_zero, List.set_cons_succ, i64_w, i32_w]
                  rfl
                refine pure_ (i := 16) (N := some 109) (v := ?_) (a' := ?_) #[true, true, true, true, true, true, true, true, true, true, true, true, true, true, true, false, true, false, false, false, false, false, false, false, false, false, false, false, false, false, false] rfl rfl (any_of HT_.out (by kernel_rfl)) (fun _ _ _ h => h) (Or.inl ⟨by rfl, ?_⟩) ?_ ?_
                rotate_left
                · intro w'
                  go_simp
                  with_reducible rfl
                rotate_left
                · simp only [Act.put, List.setIfInBounds_toArray, List.set_cons_zero, List.set_cons_succ, i64_w, i32_w]
                  rfl
                refine pure_ (i := 17) (N := some 110) (v := ?_) (a' := ?_) #[true, true, true, true, true, true, true, true, true, true, true, true, true, true, true, false, true, true, false, false, false, false, false, false, false, false, false, false, false, false, false] rfl rfl (any_of HT_.out (by kernel_rfl)) (fun _ _ _ h => h) (Or.inl ⟨by rfl, ?_⟩) ?_ ?_
                rotate_left
                · intro w'
                  go_simp
                  with_reducible rfl
                rotate_left
                · simp only [Act.put, List.setIfInBounds_toArray, List.set_cons_zero, List.set_cons_succ, i64_w, i32_w]
                  rfl
                refine pure_ (i := 18) (N := some 111) (v := ?_) (a' := ?_) #[true, true, true, true, true, true, true, true, true, true, true, true, true, true, true, false, true, true, true, false, false, false, false, false, false, false, false, false, false, false, false] rfl rfl (any_of HT_.out (by kernel_rfl)) (fun _ _ _ h => h) (Or.inl ⟨by rfl, ?_⟩) ?_ ?_
                rotate_left
                · intro w'
                  go_simp
                  with_reducible rfl
                rotate_left
                · simp only [Act.put, List.setIfInBounds_toArray, List.set_cons_zero, List.set_cons_succ, i64_w, i32_w]
                  rfl
                refine take_ (i := 19) (N := some 112) (v := ?_) (a' := ?_) #[true, true, true, true, true, true, true, true, true, true, true, true, true, true, true, false, true, true, true, true, false, false, false, false, false, false, false, false, false, false, false] rfl rfl (take_ofW HT_.out HW_.out (by kernel_rfl)) (fun _ _ _ h => h) (Or.inl ⟨by rfl, ?_⟩) hHeld ?_ ?_
                rotate_left
                · rintro w' ⟨s0, s1, s2, s3, s4, s5, s6, s7, s8, s9, s10⟩
                  go_simp
                  with_reducible rfl
                rotate_left
                · simp only [Act.put, List.setIfInBounds_toArray, List.set_cons_zero, List.set_cons_succ, i64_w, i32_w]
                  rfl
                refine one_ (i := 15) (N := some 108) #[true, true, true, true, true, true, true, true, true, true, true, true, true, true, true, true, true, true, true, true, false, false, false, false, false, false, false, false, false, false, false] rfl rfl (one_of HT_.out (by kernel_rfl)) (by decide) (fun K hK => ?_)
                refine goes_ Try.func14 (by kernel_rfl) rfl #[.pointer (some ⟨w.heap.size, 0, none⟩)] (by rfl) rfl rfl (by (try simp only [List.map_toArray, List.map_cons, List.map_nil]); first | done | rfl | (simp only [List.length_drop, List.length_take]; rfl)) ?_
                with_reducible refine (acked_any w.heap.size h2 a2 n2 _ Ks.out).mono ?_
                rintro en w_ ⟨rfl, rfl⟩
                refine ⟨_, rfl, ?_⟩
                refine hK.out _ _ ⟨Ks.out.cell 0 rfl, Ks.out.cell 1 rfl, Ks.out.cell 2 rfl, Kr.out.cell 0 rfl, Kr.out.cell 1 rfl, Kr.out.cell 2 rfl, Ko.out.cell 0 rfl, Ko.out.cell 1 rfl, Ko.out.cell 2 rfl, Ko.out.cell 3 rfl, Ko.out.cell 4 rfl⟩ (fun hHeld => ?_)
                clear hK K
                refine norm_ (a' := ?_) ?_ ?_
                rotate_left
                · show Act.put _ (some 108) _ = _
                  simp only [Act.put, List.setIfInBounds_toArray, List.set_cons_zero, List.set_cons_succ, i64_w, i32_w]
                  rfl
                refine pure_ (i := 20) (N := some 113) (v := ?_) (a' := ?_) #[true, true, true, true, true, true, true, true, true, true, true, true, true, true, true, true, true, true, true, true, true, false, false, false, false, false, false, false, false, false, false] rfl rfl (any_of HT_.out (by kernel_rfl)) (fun _ _ _ h => h) (Or.inl ⟨by rfl, ?_⟩) ?_ ?_
                rotate_left
                · intro w'
                  go_simp
                  with_reducible rfl
                rotate_left
                · simp only [Act.put, List.setIfInBounds_toArray, List.set_cons_zero, List.set_cons_succ, i64_w, i32_w]
                  rfl
                refine pure_ (i := 21) (N := some 114) (v := ?_) (a' := ?_) #[true, true, true, true, true, true, true, true, true, true, true, true, true, true, true, true, true, true, true, true, true, true, false, false, false, false, false, false, false, false, false] rfl rfl (any_of HT_.out (by kernel_rfl)) (fun _ _ _ h => h) (Or.inl ⟨by rfl, ?_⟩) ?_ ?_
                rotate_left
                · intro w'
                  go_simp
                  with_reducible rfl
                rotate_left
                · simp only [Act.put, List.setIfInBounds_toArray, List.set_cons_zero, List.set_cons_succ, i64_w, i32_w]
                  rfl
                refine pure_ (i := 22) (N := some 115) (v := ?_) (a' := ?_) #[true, true, true, true, true, true, true, true, true, true, true, true, true, true, true, true, true, true, true, true, true, true, true, false, false, false, false, false, false, false, false] rfl rfl (any_of HT_.out (by kernel_rfl)) (fun _ _ _ h => h) (Or.inl ⟨by rfl, ?_⟩) ?_ ?_
                rotate_left
                · intro w'
                  go_simp
                  with_reducible rfl
                rotate_left
                · simp only [Act.put, List.setIfInBounds_toArray, List.set_cons_zero, List.set_cons_succ, i64_w, i32_w]
                  rfl
                refine pure_ (i := 23) (N := some 116) (v := ?_) (a' := ?_) #[true, true, true, true, true, true, true, true, true, true, true, true, true, true, true, true, true, true, true, true, true, true, true, true, false, false, false, false, false, false, false] rfl rfl (any_of HT_.out (by kernel_rfl)) (fun _ _ _ h => h) (Or.inl ⟨by rfl, ?_⟩) ?_ ?_
                rotate_left
                · intro w'
                  go_simp
                  with_reducible rfl
                rotate_left
                · simp only [Act.put, List.setIfInBounds_toArray, List.set_cons_zero, List.set_cons_succ, i64_w, i32_w]
                  rfl
                refine pure_ (i := 25) (N := some 118) (v := ?_) (a' := ?_) #[true, true, true, true, true, true, true, true, true, true, true, true, true, true, true, true, true, true, true, true, true, true, true, true, false, true, false, false, false, false, false] rfl rfl (any_of HT_.out (by kernel_rfl)) (fun _ _ _ h => h) (Or.inl ⟨by rfl, ?_⟩) ?_ ?_
                rotate_left
                · intro w'
                  go_simp
                  with_reducible rfl
                rotate_left
                · simp only [Act.put, List.setIfInBounds_toArray, List.set_cons_zero, List.set_cons_succ, i64_w, i32_w]
                  rfl
                refine pure_ (i := 26) (N := some 119) (v := ?_) (a' := ?_) #[true, true, true, true, true, true, true, true, true, true, true, true, true, true, true, true, true, true, true, true, true, true, true, true, false, true, true, false, false, false, false] rfl rfl (any_of HT_.out (by kernel_rfl)) (fun _ _ _ h => h) (Or.inl ⟨by rfl, ?_⟩) ?_ ?_
                rotate_left
                · intro w'
                  go_simp
                  with_reducible rfl
                rotate_left
                · simp only [Act.put, List.setIfInBounds_toArray, List.set_cons_zero, List.set_cons_succ, i64_w, i32_w]
                  rfl
                refine pure_ (i := 27) (N := some 120) (v := ?_) (a' := ?_) #[true, true, true, true, true, true, true, true, true, true, true, true, true, true, true, true, true, true, true, true, true, true, true, true, false, true, true, true, false, false, false] rfl rfl (any_of HT_.out (by kernel_rfl)) (fun _ _ _ h => h) (Or.inl ⟨by rfl, ?_⟩) ?_ ?_
                rotate_left
                · intro w'
                  go_simp
                  with_reducible rfl
                rotate_left
                · simp only [Act.put, List.setIfInBounds_toArray, List.set_cons_zero, List.set_cons_succ, i64_w, i32_w]
                  rfl
                refine take_ (i := 28) (N := some 121) (v := ?_) (a' := ?_) #[true, true, true, true, true, true, true, true, true, true, true, true, true, true, true, true, true, true, true, true, true, true, true, true, false, true, true, true, true, false, false] rfl rfl (take_ofW HT_.out HW_.out (by kernel_rfl)) (fun _ _ _ h => h) (Or.inl ⟨by rfl, ?_⟩) hHeld ?_ ?_
                rotate_left
                · rintro w' ⟨s0, s1, s2, s3, s4, s5, s6, s7, s8, s9, s10⟩
                  go_simp
                  with_reducible rfl
                rotate_left
                · simp only [Act.put, List.setIfInBounds_toArray, List.set_cons_zero, List.set_cons_succ, i64_w, i32_w]
                  rfl
                refine one_ (i := 24) (N := some 117) #[true, true, true, true, true, true, true, true, true, true, true, true, true, true, true, true, true, true, true, true, true, true, true, true, true, true, true, true, true, false, false] rfl rfl (one_of HT_.out (by kernel_rfl)) (by decide) (fun K hK => ?_)
                refine goes_ Try.func10 (by kernel_rfl) rfl #[.pointer (some ⟨w.heap.size, 0, none⟩)] (by rfl) rfl rfl (by (try simp only [List.map_toArray, List.map_cons, List.map_nil]); first | done | rfl | (simp only [List.length_drop, List.length_take]; rfl)) ?_
                with_reducible refine (heard_any w.heap.size h2 a2 n2 _ Ks.out).mono ?_
                rintro en w_ ⟨rfl, rfl⟩
                refine ⟨_, rfl, ?_⟩
                refine hK.out _ _ ⟨Ks.out.cell 0 rfl, Ks.out.cell 1 rfl, Ks.out.cell 2 rfl, Kr.out.cell 0 rfl, Kr.out.cell 1 rfl, Kr.out.cell 2 rfl, Ko.out.cell 0 rfl, Ko.out.cell 1 rfl, Ko.out.cell 2 rfl, Ko.out.cell 3 rfl, Ko.out.cell 4 rfl⟩ (fun hHeld => ?_)
                clear hK K
                refine norm_ (a' := ?_) ?_ ?_
                rotate_left
                · show Act.put _ (some 117) _ = _
                  simp only [Act.put, List.setIfInBounds_toArray, List.set_cons_zero, List.set_cons_succ, i64_w, i32_w]
                  rfl
                refine pure_ (i := 29) (N := some 122) (v := ?_) (a' := ?_) #[true, true, true, true, true, true, true, true, true, true, true, true, true, true, true, true, true, true, true, true, true, true, true, true, true, true, true, true, true, true, false] rfl rfl (any_of HT_.out (by kernel_rfl)) (fun _ _ _ h => h) (Or.inl ⟨by rfl, ?_⟩) ?_ ?_
                rotate_left
                · intro w'
                  go_simp
                  with_reducible rfl
                rotate_left
                · simp only [Act.put, List.setIfInBounds_toArray, List.set_cons_zero, List.set_cons_succ, i64_w, i32_w]
                  rfl
                refine pure_ (i := 30) (N := some 123) (v := ?_) (a' := ?_) #[true, true, true, true, true, true, true, true, true, true, true, true, true, true, true, true, true, true, true, true, true, true, true, true, true, true, true, true, true, true, true] rfl rfl (any_of HT_.out (by kernel_rfl)) (fun _ _ _ h => h) (Or.inl ⟨by rfl, ?_⟩) ?_ ?_
                rotate_left
                · intro w'
                  go_simp
                  with_reducible rfl
                rotate_left
                · simp only [Act.put, List.setIfInBounds_toArray, List.set_cons_zero, List.set_cons_succ, i64_w, i32_w]
                  rfl
                refine done_ (done_of HT_.out (by kernel_rfl)) ?_
                have Z : w.heap.size ≤ w7.heap.size := HB.out.size
                have Ls := Ks.out.lt; have cs0 := Ks.out.cell 0 rfl; have fs0 := Ks.out.frozen 0; have cs1 := Ks.out.cell 1 rfl; have fs1 := Ks.out.frozen 1; have cs2 := Ks.out.cell 2 rfl; have fs2 := Ks.out.frozen 2
                have Lr := Kr.out.lt; have cr0 := Kr.out.cell 0 rfl; have fr0 := Kr.out.frozen 0; have cr1 := Kr.out.cell 1 rfl; have fr1 := Kr.out.frozen 1; have cr2 := Kr.out.cell 2 rfl; have fr2 := Kr.out.frozen 2
                have Lo := Ko.out.lt; have co0 := Ko.out.cell 0 rfl; have fo0 := Ko.out.frozen 0; have co1 := Ko.out.cell 1 rfl; have fo1 := Ko.out.frozen 1; have co2 := Ko.out.cell 2 rfl; have fo2 := Ko.out.frozen 2; have co3 := Ko.out.cell 3 rfl; have fo3 := Ko.out.frozen 3; have co4 := Ko.out.cell 4 rfl; have fo4 := Ko.out.frozen 4
                go_wp2_with fail
                go_roundg (gk - 1)
                case measure => have := R3.out; omega
                case rel => exact ⟨k + 1, h2, a2, n2, by go_num, by omega, by omega, (by have := R3.out; omega), Ks.out, Kr.out, HB.out⟩
              · have hkk3 : (v0 == 3) = false := beq_eq_false_iff_ne.2 hk3
                clear hk3
                go_wp2_with fail
                have k_s := Ks.out.alloc (.cells #[.int .i64 v0, .int .i64 v1, .int .i64 v2, .int .i64 v3, .int .i64 v4] 39 (0, 0))
                have k_r := Kr.out.alloc (.cells #[.int .i64 v0, .int .i64 v1, .int .i64 v2, .int .i64 v3, .int .i64 v4] 39 (0, 0))
                have k_o := Blk.new wr #[.int .i64 v0, .int .i64 v1, .int .i64 v2, .int .i64 v3, .int .i64 v4] 39
                have h_ := below_alloc HB.out (.cells #[.int .i64 v0, .int .i64 v1, .int .i64 v2, .int .i64 v3, .int .i64 v4] 39 (0, 0))
                revert k_s k_r k_o h_
                generalize (wr.alloc (.cells #[.int .i64 v0, .int .i64 v1, .int .i64 v2, .int .i64 v3, .int .i64 v4] 39 (0, 0))) = w3
                intro k_s k_r k_o h_
                have Dso : w.heap.size < wr.heap.size := (by have := Ls; omega)
                have Dro : w1.heap.size < wr.heap.size := (by have := Lr; omega)
                have Go : w.heap.size ≤ wr.heap.size := (by have := HB.out.size; omega)
                clear Ks Ls cs0 fs0 cs1 fs1 cs2 fs2 Kr Lr cr0 fr0 cr1 fr1 cr2 fr2
                clear HB Z; have HB := Asd.mk h_; clear h_; have Z : w.heap.size ≤ w3.heap.size := HB.out.size
                have Ks := Asd.mk k_s; have Ls := k_s.lt; have cs0 := k_s.cell 0 rfl; have fs0 := k_s.frozen 0; have cs1 := k_s.cell 1 rfl; have fs1 := k_s.frozen 1; have cs2 := k_s.cell 2 rfl; have fs2 := k_s.frozen 2; clear k_s
                have Kr := Asd.mk k_r; have Lr := k_r.lt; have cr0 := k_r.cell 0 rfl; have fr0 := k_r.frozen 0; have cr1 := k_r.cell 1 rfl; have fr1 := k_r.frozen 1; have cr2 := k_r.cell 2 rfl; have fr2 := k_r.frozen 2; clear k_r
                have Ko := Asd.mk k_o; have Lo := k_o.lt; have co0 := k_o.cell 0 rfl; have fo0 := k_o.frozen 0; have co1 := k_o.cell 1 rfl; have fo1 := k_o.frozen 1; have co2 := k_o.cell 2 rfl; have fo2 := k_o.frozen 2; have co3 := k_o.cell 3 rfl; have fo3 := k_o.frozen 3; have co4 := k_o.cell 4 rfl; have fo4 := k_o.frozen 4; clear k_o
                obtain ⟨x, y, z, hP_⟩ : ∃ x y z, planS v3 v4 (h, a, n) = (x, y, z) := ⟨_, _, _, rfl⟩
                have hP := Asd.mk hP_; clear hP_
                refine (plan_at (p := (x, y, z)) w.heap.size h a n v3 v4 _ Ks.out hP.out).mono ?_; rintro en w_ ⟨rfl, rfl⟩
                go_wp2_with fail
                refine (rplan_at (p := (x, y, z)) w1.heap.size h a n v3 v4 _ Kr.out hP.out).mono ?_; rintro en w4 ⟨rfl, hb4⟩
                have k_s : Blk w4 (w.heap.size) #[.int .u32 (hB h), .int .i64 a, .int .i64 n] 52 := (by first | exact Ks.out.below hb4 | exact (Ks.out.alloc _).below hb4 | exact ((Ks.out.alloc _).alloc _).below hb4)
                have k_r : Blk w4 (w1.heap.size) #[.bool h, .int .i64 a, .int .i64 n] 41 := (by first | exact Kr.out.below hb4 | exact (Kr.out.alloc _).below hb4 | exact ((Kr.out.alloc _).alloc _).below hb4)
                have k_o : Blk w4 (wr.heap.size) #[.int .i64 v0, .int .i64 v1, .int .i64 v2, .int .i64 v3, .int .i64 v4] 39 := (by first | exact Ko.out.below hb4 | exact (Ko.out.alloc _).below hb4 | exact ((Ko.out.alloc _).alloc _).below hb4)
                have h_ : Below w.heap.size w w4 := below_step (by repeat (first | exact HB.out | apply below_alloc | apply below_drewN | apply below_drew | refine below_set ?_ (by have := HB.out.size; omega))) hb4
                clear Ks Ls cs0 fs0 cs1 fs1 cs2 fs2 Kr Lr cr0 fr0 cr1 fr1 cr2 fr2 Ko Lo co0 fo0 co1 fo1 co2 fo2 co3 fo3 co4 fo4
                clear HB hb4 Z; have HB := Asd.mk h_; clear h_; have Z : w.heap.size ≤ w4.heap.size := HB.out.size
                have Ks := Asd.mk k_s; have Ls := k_s.lt; have cs0 := k_s.cell 0 rfl; have fs0 := k_s.frozen 0; have cs1 := k_s.cell 1 rfl; have fs1 := k_s.frozen 1; have cs2 := k_s.cell 2 rfl; have fs2 := k_s.frozen 2; clear k_s
                have Kr := Asd.mk k_r; have Lr := k_r.lt; have cr0 := k_r.cell 0 rfl; have fr0 := k_r.frozen 0; have cr1 := k_r.cell 1 rfl; have fr1 := k_r.frozen 1; have cr2 := k_r.cell 2 rfl; have fr2 := k_r.frozen 2; clear k_r
                have Ko := Asd.mk k_o; have Lo := k_o.lt; have co0 := k_o.cell 0 rfl; have fo0 := k_o.frozen 0; have co1 := k_o.cell 1 rfl; have fo1 := k_o.frozen 1; have co2 := k_o.cell 2 rfl; have fo2 := k_o.frozen 2; have co3 := k_o.cell 3 rfl; have fo3 := k_o.frozen 3; have co4 := k_o.cell 4 rfl; have fo4 := k_o.frozen 4; clear k_o
                go_wp2_with fail
                have k_s := Ks.out.drew
                have k_r := Kr.out.drew
                have k_o := Ko.out.drew
                have h_ := below_drew HB.out
                refine start_ (n := 31) (S := fun w' => w'.cell? ⟨w.heap.size, 0, none⟩ = some (.int .u32 (hB h)) ∧ w'.cell? ⟨w.heap.size, 1, none⟩ = some (.int .i64 a) ∧ w'.cell? ⟨w.heap.size, 2, none⟩ = some (.int .i64 n) ∧ w'.cell? ⟨w1.heap.size, 0, none⟩ = some (.bool h) ∧ w'.cell? ⟨w1.heap.size, 1, none⟩ = some (.int .i64 a) ∧ w'.cell? ⟨w1.heap.size, 2, none⟩ = some (.int .i64 n) ∧ w'.cell? ⟨wr.heap.size, 0, none⟩ = some (.int .i64 v0) ∧ w'.cell? ⟨wr.heap.size, 1, none⟩ = some (.int .i64 v1) ∧ w'.cell? ⟨wr.heap.size, 2, none⟩ = some (.int .i64 v2) ∧ w'.cell? ⟨wr.heap.size, 3, none⟩ = some (.int .i64 v3) ∧ w'.cell? ⟨wr.heap.size, 4, none⟩ = some (.int .i64 v4)) (ds := []) #[false, false, false, false, false, false, false, false, false, false, false, false, false, false, false, false, false, false, false, false, false, false, false, false, false, false, false, false, false, false, false] (by kernel_rfl) rfl rfl ⟨k_s.cell 0 rfl, k_s.cell 1 rfl, k_s.cell 2 rfl, k_r.cell 0 rfl, k_r.cell 1 rfl, k_r.cell 2 rfl, k_o.cell 0 rfl, k_o.cell 1 rfl, k_o.cell 2 rfl, k_o.cell 3 rfl, k_o.cell 4 rfl⟩ (fun hHeld => ?_); refine with_tabW does23tab does23bits (fun HT_ HW_ => ?_)
                clear HB Ks Kr Ko
                generalize w4.drew = w5 at k_s k_r k_o h_ hHeld ⊢
                have HB := Asd.mk h_; clear h_; have Ks := Asd.mk k_s; clear k_s; have Kr := Asd.mk k_r; clear k_r; have Ko := Asd.mk k_o; clear k_o
                clear Ls Lr Lo cs0 fs0 cs1 fs1 cs2 fs2 cr0 fr0 cr1 fr1 cr2 fr2 co0 fo0 co1 fo1 co2 fo2 co3 fo3 co4 fo4
                refine pure_ (i := 0) (N := some 93) (v := ?_) (a' := ?_) #[true, false, false, false, false, false, false, false, false, false, false, false, false, false, false, false, false, false, false, false, false, false, false, false, false, false, false, false, false, false, false] rfl rfl (any_of HT_.out (by kernel_rfl)) (fun _ _ _ h => h) (Or.inl ⟨by rfl, ?_⟩) ?_ ?_
                rotate_left
                · intro w'
                  go_simp
                  with_reducible rfl
                rotate_left
                · simp only [Act.put, List.setIfInBounds_toArray, List.set_cons_zero, List.set_cons_succ, i64_w, i32_w]
                  rfl
                refine pure_ (i := 1) (N := some 94) (v := ?_) (a' := ?_) #[true, true, false, false, false, false, false, false, false, false, false, false, false, false, false, false, false, false, false, false, false, false, false, false, false, false, false, false, false, false, false] rfl rfl (any_of HT_.out (by kernel_rfl)) (fun _ _ _ h => h) (Or.inl ⟨by rfl, ?_⟩) ?_ ?_
                rotate_left
                · intro w'
                  go_simp
                  with_reducible rfl
                rotate_left
                · simp only [Act.put, List.setIfInBounds_toArray, List.set_cons_zero, List.set_cons_succ, i64_w, i32_w]
                  rfl
                refine pure_ (i := 2) (N := some 95) (v := ?_) (a' := ?_) #[true, true, true, false, false, false, false, false, false, false, false, false, false, false, false, false, false, false, false, false, false, false, false, false, false, false, false, false, false, false, false] rfl rfl (any_of HT_.out (by kernel_rfl)) (fun _ _ _ h => h) (Or.inl ⟨by rfl, ?_⟩) ?_ ?_
                rotate_left
                · intro w'
                  go_simp
                  with_reducible rfl
                rotate_left
                · simp only [Act.put, List.setIfInBounds_toArray, List.set_cons_zero, List.set_cons_succ, i64_w, i32_w]
                  rfl
                refine pure_ (i := 3) (N := some 96) (v := ?_) (a' := ?_) #[true, true, true, true, false, false, false, false, false, false, false, false, false, false, false, false, false, false, false, false, false, false, false, false, false, false, false, false, false, false, false] rfl rfl (any_of HT_.out (by kernel_rfl)) (fun _ _ _ h => h) (Or.inl ⟨by rfl, ?_⟩) ?_ ?_
                rotate_left
                · intro w'
                  go_simp
                  with_reducible rfl
                rotate_left
                · simp only [Act.put, List.setIfInBounds_toArray, List.set_cons_zero, List.set_cons_succ, i64_w, i32_w]
                  rfl
                refine pure_ (i := 4) (N := some 97) (v := ?_) (a' := ?_) #[true, true, true, true, true, false, false, false, false, false, false, false, false, false, false, false, false, false, false, false, false, false, false, false, false, false, false, false, false, false, false] rfl rfl (any_of HT_.out (by kernel_rfl)) (fun _ _ _ h => h) (Or.inl ⟨by rfl, ?_⟩) ?_ ?_
                rotate_left
                · intro w'
                  go_simp
                  with_reducible rfl
                rotate_left
                · simp only [Act.put, List.setIfInBounds_toArray, List.set_cons_zero, List.set_cons_succ, i64_w, i32_w]
                  rfl
                refine pure_ (i := 5) (N := some 98) (v := ?_) (a' := ?_) #[true, true, true, true, true, true, false, false, false, false, false, false, false, false, false, false, false, false, false, false, false, false, false, false, false, false, false, false, false, false, false] rfl rfl (any_of HT_.out (by kernel_rfl)) (fun _ _ _ h => h) (Or.inl ⟨by rfl, ?_⟩) ?_ ?_
                rotate_left
                · intro w'
                  go_simp
                  with_reducible rfl
                rotate_left
                · simp only [Act.put, List.setIfInBounds_toArray, List.set_cons_zero, List.set_cons_succ, i64_w, i32_w]
                  rfl
                refine pure_ (i := 6) (N := some 99) (v := ?_) (a' := ?_) #[true, true, true, true, true, true, true, false, false, false, false, false, false, false, false, false, false, false, false, false, false, false, false, false, false, false, false, false, false, false, false] rfl rfl (any_of HT_.out (by kernel_rfl)) (fun _ _ _ h => h) (Or.inl ⟨by rfl, ?_⟩) ?_ ?_
                rotate_left
                · intro w'
                  go_simp
                  with_reducible rfl
                rotate_left
                · simp only [Act.put, List.setIfInBounds_toArray, List.set_cons_zero, List.set_cons_succ, i64_w, i32_w]
                  rfl
                refine pure_ (i := 7) (N := some 100) (v := ?_) (a' := ?_) #[true, true, true, true, true, true, true, true, false, false, false, false, false, false, false, false, false, false, false, false, false, false, false, false, false, false, false, false, false, false, false] rfl rfl (any_of HT_.out (by kernel_rfl)) (fun _ _ _ h => h) (Or.inl ⟨by rfl, ?_⟩) ?_ ?_
                rotate_left
                · intro w'
                  go_simp
                  with_reducible rfl
                rotate_left
                · simp only [Act.put, List.setIfInBounds_toArray, List.set_cons_zero, List.set_cons_succ, i64_w, i32_w]
                  rfl
                refine pure_ (i := 8) (N := some 101) (v := ?_) (a' := ?_) #[true, true, true, true, true, true, true, true, true, false, false, false, false, false, false, false, false, false, false, false, false, false, false, false, false, false, false, false, false, false, false] rfl rfl (any_of HT_.out (by kernel_rfl)) (fun _ _ _ h => h) (Or.inl ⟨by rfl, ?_⟩) ?_ ?_
                rotate_left
                · intro w'
                  go_simp
                  with_reducible rfl
                rotate_left
                · simp only [Act.put, List.setIfInBounds_toArray, List.set_cons_zero, List.set_cons_succ, i64_w, i32_w]
                  rfl
                refine pure_ (i := 9) (N := some 102) (v := ?_) (a' := ?_) #[true, true, true, true, true, true, true, true, true, true, false, false, false, false, false, false, false, false, false, false, false, false, false, false, false, false, false, false, false, false, false] rfl rfl (any_of HT_.out (by kernel_rfl)) (fun _ _ _ h => h) (Or.inl ⟨by rfl, ?_⟩) ?_ ?_
                rotate_left
                · intro w'
                  go_simp
                  with_reducible rfl
                rotate_left
                · simp only [Act.put, List.setIfInBounds_toArray, List.set_cons_zero, List.set_cons_succ, i64_w, i32_w]
                  rfl
                refine pure_ (i := 10) (N := some 103) (v := ?_) (a' := ?_) #[true, true, true, true, true, true, true, true, true, true, true, false, false, false, false, false, false, false, false, false, false, false, false, false, false, false, false, false, false, false, false] rfl rfl (any_of HT_.out (by kernel_rfl)) (fun _ _ _ h => h) (Or.inl ⟨by rfl, ?_⟩) ?_ ?_
                rotate_left
                · intro w'
                  go_simp
                  with_reducible rfl
                rotate_left
                · simp only [Act.put, List.setIfInBounds_toArray, List.set_cons_zero, List.set_cons_succ, i64_w, i32_w]
                  rfl
                refine pure_ (i := 11) (N := some 104) (v := ?_) (a' := ?_) #[true, true, true, true, true, true, true, true, true, true, true, true, false, false, false, false, false, false, false, false, false, false, false, false, false, false, false, false, false, false, false] rfl rfl (any_of HT_.out (by kernel_rfl)) (fun _ _ _ h => h) (Or.inl ⟨by rfl, ?_⟩) ?_ ?_
                rotate_left
                · intro w'
                  go_simp
                  with_reducible rfl
                rotate_left
                · simp only [Act.put, List.setIfInBounds_toArray, List.set_cons_zero, List.set_cons_succ, i64_w, i32_w]
                  rfl
                refine pure_ (i := 12) (N := some 105) (v := ?_) (a' := ?_) #[true, true, true, true, true, true, true, true, true, true, true, true, true, false, false, false, false, false, false, false, false, false, false, false, false, false, false, false, false, false, false] rfl rfl (any_of HT_.out (by kernel_rfl)) (fun _ _ _ h => h) (Or.inl ⟨by rfl, ?_⟩) ?_ ?_
                rotate_left
                · intro w'
                  go_simp
                  with_reducible rfl
                rotate_left
                · simp only [Act.put, List.setIfInBounds_toArray, List.set_cons_zero, List.set_cons_succ, i64_w, i32_w]
                  rfl
                refine pure_ (i := 13) (N := some 106) (v := ?_) (a' := ?_) #[true, true, true, true, true, true, true, true, true, true, true, true, true, true, false, false, false, false, false, false, false, false, false, false, false, false, false, false, false, false, false] rfl rfl (any_of HT_.out (by kernel_rfl)) (fun _ _ _ h => h) (Or.inl ⟨by rfl, ?_⟩) ?_ ?_
                rotate_left
                · intro w'
                  go_simp
                  with_reducible rfl
                rotate_left
                · simp only [Act.put, List.setIfInBounds_toArray, List.set_cons_zero, List.set_cons_succ, i64_w, i32_w]
                  rfl
                refine pure_ (i := 14) (N := some 107) (v := ?_) (a' := ?_) #[true, true, true, true, true, true, true, true, true, true, true, true, true, true, true, false, false, false, false, false, false, false, false, false, false, false, false, false, false, false, false] rfl rfl (any_of HT_.out (by kernel_rfl)) (fun _ _ _ h => h) (Or.inl ⟨by rfl, ?_⟩) ?_ ?_
                rotate_left
                · intro w'
                  go_simp
                  with_reducible rfl
                rotate_left
                · simp only [Act.put, List.setIfInBounds_toArray, List.set_cons_zero, List.set_cons_succ, i64_w, i32_w]
                  rfl
                refine pure_ (i := 16) (N := some 109) (v := ?_) (a' := ?_) #[true, true, true, true, true, true, true, true, true, true, true, true, true, true, true, false, true, false, false, false, false, false, false, false, false, false, false, false, false, false, false] rfl rfl (any_of HT_.out (by kernel_rfl)) (fun _ _ _ h => h) (Or.inl ⟨by rfl, ?_⟩) ?_ ?_
                rotate_left
                · intro w'
                  go_simp
                  with_reducible rfl
                rotate_left
                · simp only [Act.put, List.setIfInBounds_toArray, List.set_cons_zero, List.set_cons_succ, i64_w, i32_w]
                  rfl
                refine pure_ (i := 17) (N := some 110) (v := ?_) (a' := ?_) #[true, true, true, true, true, true, true, true, true, true, true, true, true, true, true, false, true, true, false, false, false, false, false, false, false, false, false, false, false, false, false] rfl rfl (any_of HT_.out (by kernel_rfl)) (fun _ _ _ h => h) (Or.inl ⟨by rfl, ?_⟩) ?_ ?_
                rotate_left
                · intro w'
                  go_simp
                  with_reducible rfl
                rotate_left
                · simp only [Act.put, List.setIfInBounds_toArray, List.set_cons_zero, List.set_cons_succ, i64_w, i32_w]
                  rfl
                refine pure_ (i := 18) (N := some 111) (v := ?_) (a' := ?_) #[true, true, true, true, true, true, true, true, true, true, true, true, true, true, true, false, true, true, true, false, false, false, false, false, false, false, false, false, false, false, false] rfl rfl (any_of HT_.out (by kernel_rfl)) (fun _ _ _ h => h) (Or.inl ⟨by rfl, ?_⟩) ?_ ?_
                rotate_left
                · intro w'
                  go_simp
                  with_reducible rfl
                rotate_left
                · simp only [Act.put, List.setIfInBounds_toArray, List.set_cons_zero, List.set_cons_succ, i64_w, i32_w]
                  rfl
                refine take_ (i := 19) (N := some 112) (v := ?_) (a' := ?_) #[true, true, true, true, true, true, true, true, true, true, true, true, true, true, true, false, true, true, true, true, false, false, false, false, false, false, false, false, false, false, false] rfl rfl (take_ofW HT_.out HW_.out (by kernel_rfl)) (fun _ _ _ h => h) (Or.inl ⟨by rfl, ?_⟩) hHeld ?_ ?_
                rotate_left
                · rintro w' ⟨s0, s1, s2, s3, s4, s5, s6, s7, s8, s9, s10⟩
                  go_simp
                  with_reducible rfl
                rotate_left
                · simp only [Act.put, List.setIfInBounds_toArray, List.set_cons_zero, List.set_cons_succ, i64_w, i32_w]
                  rfl
                refine one_ (i := 15) (N := some 108) #[true, true, true, true, true, true, true, true, true, true, true, true, true, true, true, true, true, true, true, true, false, false, false, false, false, false, false, false, false, false, false] rfl rfl (one_of HT_.out (by kernel_rfl)) (by decide) (fun K hK => ?_)
                refine goes_ Try.func14 (by kernel_rfl) rfl #[.pointer (some ⟨w.heap.size, 0, none⟩)] (by rfl) rfl rfl (by (try simp only [List.map_toArray, List.map_cons, List.map_nil]); first | done | rfl | (simp only [List.length_drop, List.length_take]; rfl)) ?_
                with_reducible refine (acked_any w.heap.size h a n _ Ks.out).mono ?_
                rintro en w_ ⟨rfl, rfl⟩
                refine ⟨_, rfl, ?_⟩
                refine hK.out _ _ ⟨Ks.out.cell 0 rfl, Ks.out.cell 1 rfl, Ks.out.cell 2 rfl, Kr.out.cell 0 rfl, Kr.out.cell 1 rfl, Kr.out.cell 2 rfl, Ko.out.cell 0 rfl, Ko.out.cell 1 rfl, Ko.out.cell 2 rfl, Ko.out.cell 3 rfl, Ko.out.cell 4 rfl⟩ (fun hHeld => ?_)
                clear hK K
                refine norm_ (a' := ?_) ?_ ?_
                rotate_left
                · show Act.put _ (some 108) _ = _
                  simp only [Act.put, List.setIfInBounds_toArray, List.set_cons_zero, List.set_cons_succ, i64_w, i32_w]
                  rfl
                refine pure_ (i := 20) (N := some 113) (v := ?_) (a' := ?_) #[true, true, true, true, true, true, true, true, true, true, true, true, true, true, true, true, true, true, true, true, true, false, false, false, false, false, false, false, false, false, false] rfl rfl (any_of HT_.out (by kernel_rfl)) (fun _ _ _ h => h) (Or.inl ⟨by rfl, ?_⟩) ?_ ?_
                rotate_left
                · intro w'
                  go_simp
                  with_reducible rfl
                rotate_left
                · simp only [Act.put, List.setIfInBounds_toArray, List.set_cons_zero, List.set_cons_succ, i64_w, i32_w]
                  rfl
                refine pure_ (i := 21) (N := some 114) (v := ?_) (a' := ?_) #[true, true, true, true, true, true, true, true, true, true, true, true, true, true, true, true, true, true, true, true, true, true, false, false, false, false, false, false, false, false, false] rfl rfl (any_of HT_.out (by kernel_rfl)) (fun _ _ _ h => h) (Or.inl ⟨by rfl, ?_⟩) ?_ ?_
                rotate_left
                · intro w'
                  go_simp
                  with_reducible rfl
                rotate_left
                · simp only [Act.put, List.setIfInBounds_toArray, List.set_cons_zero, List.set_cons_succ, i64_w, i32_w]
                  rfl
                refine pure_ (i := 22) (N := some 115) (v := ?_) (a' := ?_) #[true, true, true, true, true, true, true, true, true, true, true, true, true, true, true, true, true, true, true, true, true, true, true, false, false, false, false, false, false, false, false] rfl rfl (any_of HT_.out (by kernel_rfl)) (fun _ _ _ h => h) (Or.inl ⟨by rfl, ?_⟩) ?_ ?_
                rotate_left
                · intro w'
                  go_simp
                  with_reducible rfl
                rotate_left
                · simp only [Act.put, List.setIfInBounds_toArray, List.set_cons_zero, List.set_cons_succ, i64_w, i32_w]
                  rfl
                refine pure_ (i := 23) (N := some 116) (v := ?_) (a' := ?_) #[true, true, true, true, true, true, true, true, true, true, true, true, true, true, true, true, true, true, true, true, true, true, true, true, false, false, false, false, false, false, false] rfl rfl (any_of HT_.out (by kernel_rfl)) (fun _ _ _ h => h) (Or.inl ⟨by rfl, ?_⟩) ?_ ?_
                rotate_left
                · intro w'
                  go_simp
                  with_reducible rfl
                rotate_left
                · simp only [Act.put, List.setIfInBounds_toArray, List.set_cons_zero, List.set_cons_succ, i64_w, i32_w]
                  rfl
                refine pure_ (i := 25) (N := some 118) (v := ?_) (a' := ?_) #[true, true, true, true, true, true, true, true, true, true, true, true, true, true, true, true, true, true, true, true, true, true, true, true, false, true, false, false, false, false, false] rfl rfl (any_of HT_.out (by kernel_rfl)) (fun _ _ _ h => h) (Or.inl ⟨by rfl, ?_⟩) ?_ ?_
                rotate_left
                · intro w'
                  go_simp
                  with_reducible rfl
                rotate_left
                · simp only [Act.put, List.setIfInBounds_toArray, List.set_cons_zero, List.set_cons_succ, i64_w, i32_w]
                  rfl
                refine pure_ (i := 26) (N := some 119) (v := ?_) (a' := ?_) #[true, true, true, true, true, true, true, true, true, true, true, true, true, true, true, true, true, true, true, true, true, true, true, true, false, true, true, false, false, false, false] rfl rfl (any_of HT_.out (by kernel_rfl)) (fun _ _ _ h => h) (Or.inl ⟨by rfl, ?_⟩) ?_ ?_
                rotate_left
                · intro w'
                  go_simp
                  with_reducible rfl
                rotate_left
                · simp only [Act.put, List.setIfInBounds_toArray, List.set_cons_zero, List.set_cons_succ, i64_w, i32_w]
                  rfl
                refine pure_ (i := 27) (N := some 120) (v := ?_) (a' := ?_) #[true, true, true, true, true, true, true, true, true, true, true, true, true, true, true, true, true, true, true, true, true, true, true, true, false, true, true, true, false, false, false] rfl rfl (any_of HT_.out (by kernel_rfl)) (fun _ _ _ h => h) (Or.inl ⟨by rfl, ?_⟩) ?_ ?_
                rotate_left
                · intro w'
                  go_simp
                  with_reducible rfl
                rotate_left
                · simp only [Act.put, List.setIfInBounds_toArray, List.set_cons_zero, List.set_cons_succ, i64_w, i32_w]
                  rfl
                refine take_ (i := 28) (N := some 121) (v := ?_) (a' := ?_) #[true, true, true, true, true, true, true, true, true, true, true, true, true, true, true, true, true, true, true, true, true, true, true, true, false, true, true, true, true, false, false] rfl rfl (take_ofW HT_.out HW_.out (by kernel_rfl)) (fun _ _ _ h => h) (Or.inl ⟨by rfl, ?_⟩) hHeld ?_ ?_
                rotate_left
                · rintro w' ⟨s0, s1, s2, s3, s4, s5, s6, s7, s8, s9, s10⟩
                  go_simp
                  with_reducible rfl
                rotate_left
                · simp only [Act.put, List.setIfInBounds_toArray, List.set_cons_zero, List.set_cons_succ, i64_w, i32_w]
                  rfl
                refine one_ (i := 24) (N := some 117) #[true, true, true, true, true, true, true, true, true, true, true, true, true, true, true, true, true, true, true, true, true, true, true, true, true, true, true, true, true, false, false] rfl rfl (one_of HT_.out (by kernel_rfl)) (by decide) (fun K hK => ?_)
                refine goes_ Try.func10 (by kernel_rfl) rfl #[.pointer (some ⟨w.heap.size, 0, none⟩)] (by rfl) rfl rfl (by (try simp only [List.map_toArray, List.map_cons, List.map_nil]); first | done | rfl | (simp only [List.length_drop, List.length_take]; rfl)) ?_
                with_reducible refine (heard_any w.heap.size h a n _ Ks.out).mono ?_
                rintro en w_ ⟨rfl, rfl⟩
                refine ⟨_, rfl, ?_⟩
                refine hK.out _ _ ⟨Ks.out.cell 0 rfl, Ks.out.cell 1 rfl, Ks.out.cell 2 rfl, Kr.out.cell 0 rfl, Kr.out.cell 1 rfl, Kr.out.cell 2 rfl, Ko.out.cell 0 rfl, Ko.out.cell 1 rfl, Ko.out.cell 2 rfl, Ko.out.cell 3 rfl, Ko.out.cell 4 rfl⟩ (fun hHeld => ?_)
                clear hK K
                refine norm_ (a' := ?_) ?_ ?_
                rotate_left
                · show Act.put _ (some 117) _ = _
                  simp only [Act.put, List.setIfInBounds_toArray, List.set_cons_zero, List.set_cons_succ, i64_w, i32_w]
                  rfl
                refine pure_ (i := 29) (N := some 122) (v := ?_) (a' := ?_) #[true, true, true, true, true, true, true, true, true, true, true, true, true, true, true, true, true, true, true, true, true, true, true, true, true, true, true, true, true, true, false] rfl rfl (any_of HT_.out (by kernel_rfl)) (fun _ _ _ h => h) (Or.inl ⟨by rfl, ?_⟩) ?_ ?_
                rotate_left
                · intro w'
                  go_simp
                  with_reducible rfl
                rotate_left
                · simp only [Act.put, List.setIfInBounds_toArray, List.set_cons_zero, List.set_cons_succ, i64_w, i32_w]
                  rfl
                refine pure_ (i := 30) (N := some 123) (v := ?_) (a' := ?_) #[true, true, true, true, true, true, true, true, true, true, true, true, true, true, true, true, true, true, true, true, true, true, true, true, true, true, true, true, true, true, true] rfl rfl (any_of HT_.out (by kernel_rfl)) (fun _ _ _ h => h) (Or.inl ⟨by rfl, ?_⟩) ?_ ?_
                rotate_left
                · intro w'
                  go_simp
                  with_reducible rfl
                rotate_left
                · simp only [Act.put, List.setIfInBounds_toArray, List.set_cons_zero, List.set_cons_succ, i64_w, i32_w]
                  rfl
                refine done_ (done_of HT_.out (by kernel_rfl)) ?_
                have Z : w.heap.size ≤ w5.heap.size := HB.out.size
                have Ls := Ks.out.lt; have cs0 := Ks.out.cell 0 rfl; have fs0 := Ks.out.frozen 0; have cs1 := Ks.out.cell 1 rfl; have fs1 := Ks.out.frozen 1; have cs2 := Ks.out.cell 2 rfl; have fs2 := Ks.out.frozen 2
                have Lr := Kr.out.lt; have cr0 := Kr.out.cell 0 rfl; have fr0 := Kr.out.frozen 0; have cr1 := Kr.out.cell 1 rfl; have fr1 := Kr.out.frozen 1; have cr2 := Kr.out.cell 2 rfl; have fr2 := Kr.out.frozen 2
                have Lo := Ko.out.lt; have co0 := Ko.out.cell 0 rfl; have fo0 := Ko.out.frozen 0; have co1 := Ko.out.cell 1 rfl; have fo1 := Ko.out.frozen 1; have co2 := Ko.out.cell 2 rfl; have fo2 := Ko.out.frozen 2; have co3 := Ko.out.cell 3 rfl; have fo3 := Ko.out.frozen 3; have co4 := Ko.out.cell 4 rfl; have fo4 := Ko.out.frozen 4
                go_wp2_with fail
                go_roundg (gk - 1)
                case measure => have := R3.out; omega
                case rel => exact ⟨k + 1, h, a, n, by go_num, by omega, by omega, (by have := R3.out; omega), Ks.out, Kr.out, HB.out⟩
      · go_wp2
        go_ret
        exact ⟨rfl, HB.out⟩
    · go_wp2
      go_ret
      exact ⟨rfl, HB.out⟩
end Go.Proofs.Ythkiofmfegeknaa.Sx
