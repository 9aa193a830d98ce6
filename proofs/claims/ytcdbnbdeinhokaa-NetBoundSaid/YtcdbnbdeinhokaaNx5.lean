/- Contracts of net: spoil. -/
import Derived.Test.YtcdbnbdeinhokaaNx4
import Derived.Laws.CopyOwn
import Derived.Deep.QuietTactic
import Derived.BigQuiet
namespace Go.Proofs.Ytcdbnbdeinhokaa.Nx
open Go.RowKit
open Go.Proofs.Ytcdbnbdeinhokaa.Xb Go.Proofs.Ytcdbnbdeinhokaa.Nb
set_option linter.unusedSimpArgs false
set_option linter.unusedVariables false
theorem info5 : (Try.prog.info? 5).map (fun i => (i.zero, i.size, i.bytes)) = some (some (.int .u8 0), 1, 1) := by kernel_rfl
set_option maxHeartbeats 2000000 in
theorem spoil_core {base : Nat} {w : World} {g gr n cap : Nat} {gone : Int} {cur : Array Value} {t0 b : Int} {gb sl c1 : Nat} {xs : List Int} (hb : Blk w g #[.slice (some ⟨gr, 0, none⟩) n cap, .int .i64 gone] 49) (hr : Blk w gr cur 51) (hne : g ≠ gr) (hbg : base ≤ g) (hbr : base ≤ gr) (hn : n ≤ 64) (hc : n ≤ cap)
    (i : Nat) (hi : i < n) (o0 : cur[i * 3]? = some (.int .i64 t0)) (o1 : cur[i * 3 + 1]? = some (.slice (some ⟨gb, 0, none⟩) sl c1)) (o2 : cur[i * 3 + 2]? = some (.bool false))
    (hx : xs.length = sl) (hxs : ∀ (j : Nat) (v : Int), xs[j]? = some v → w.cell? ⟨gb, j, none⟩ = some (.int .u8 v)) (k : Nat) (hk : k < sl) (hs : sl ≤ 4096) (hb0 : ¬ b = 0) (xk : Int) (hxk : xs[k]? = some xk) :
    Calls Try.prog 14 #[.pointer (some ⟨g, 0, none⟩), .int .i64 (i : Int), .int .i64 (k : Int), .int .u8 b] w fun e w' => e = .returned (.int .i64 0) ∧ ∃ go, Blk w' g #[.slice (some ⟨gr, 0, none⟩) n cap, .int .i64 gone] 49 ∧ Blk w' gr ((cur.setIfInBounds (i * 3 + 1) (.slice (some ⟨go, 0, none⟩) sl sl)).setIfInBounds (i * 3 + 2) (.bool true)) 51 ∧ Blk w' go ((xs.map fun v => Value.int .u8 v).set k (.int .u8 (bits .xor .u8 xk b))).toArray 5 ∧ NChg base w w' := by
  have f := find_some (i := i) hb hn hc hi
  have F := Asd.mk f; clear f
  have c1' := hr.cell (i * 3 + 1) o1; have c2' := hr.cell (i * 3 + 2) o2
  have bb : (b == 0) = false := beq_eq_false_iff_ne.2 hb0
  have j1 : (k : Int) < (sl : Int) := by omega
  have j2 : ¬ (k : Int) < 0 := by omega
  have hmk : ∀ W : World, (Instr.makeSlice 28 (.int .i64 (sl : Int)) (.int .i64 (sl : Int))).run Try.prog W = .ok (.slice (some ⟨W.heap.size, 0, none⟩) sl sl) (W.alloc (.cells (Array.replicate sl (Value.int .u8 0)) 5 (0, 0))) := fun W => by
    obtain ⟨i0, q1, q2, q3, q4⟩ := info_parts info5
    have h := run_makeSlice (P := Try.prog) (w := W) 28 5 i0 (.int .u8 0) Try.underlying28 q1 q2 .i64 .i64 (sl : Int) (sl : Int) (by omega) (Int.le_refl _) (by rw [q3]; simp; omega) (by rw [q4]; omega) (by omega)
    rw [h, q3]
    simp only [Int.toNat_natCast]
    congr 2
    refine congrArg (fun c => Obj.cells c 5 (0, 0)) ?_
    apply Array.ext
    · simp [madeCells]
    · intro i h1 h2
      simp [madeCells, Value.cells, Nat.mod_one]
  have Lr := hr.lt; have Ln := hb.lt
  have hcp : ∃ W2, (Builtin.copy_ #[28, 28] 3 #[.slice (some ⟨w.heap.size, 0, none⟩) sl sl, .slice (some ⟨gb, 0, none⟩) sl c1]).run Try.prog (w.alloc (.cells (Array.replicate sl (Value.int .u8 0)) 5 (0, 0))) = .ok (.int .i64 (sl : Int)) W2 ∧ Blk W2 w.heap.size (xs.map fun v => Value.int .u8 v).toArray 5 ∧ Below w.heap.size w W2 := by
    have hnew := Blk.new w (Array.replicate sl (Value.int .u8 0)) 5
    have h := run_copy_row (P := Try.prog) (w.alloc (.cells (Array.replicate sl (Value.int .u8 0)) 5 (0, 0))) 28 28 3 5 w.heap.size 0 sl sl ⟨gb, 0, none⟩ sl c1 (Array.replicate sl (Value.int .u8 0)) 5 (xs.map fun v => Value.int .u8 v) Try.underlying28 (by kernel_rfl) hnew (by simp [hx]) (fun j v hv => by
      rw [List.getElem?_map] at hv
      obtain ⟨u, hu, rfl⟩ := Option.map_eq_some_iff.1 hv
      rw [Go.WideShapes.add_plain, Nat.zero_add]
      exact ((below_alloc (Below.refl _ _) _).cell (World.block_lt_of_cell? w _ (hxs j u hu))).trans (hxs j u hu)) (by simp [hx]) (by simp [Value.oneCell'])
    refine ⟨_, h.trans (by simp [goInt, hx]; rfl), setRow_heap _ _ _ _ _ _ hnew |>.trans (by simp [hx]), below_setRow (below_alloc (Below.refl _ _) _) (Nat.le_refl _) _⟩
  obtain ⟨W2, hcp, hkO, hbO⟩ := hcp
  have k_r := hr.below hbO; have k_n := hb.below hbO
  have d0 := hkO.cell k (v := .int .u8 xk) (by simp [hxk]); have e0 := hkO.frozen k
  have d1 := k_r.cell (i * 3 + 1) o1; have e1 := k_r.frozen (i * 3 + 1); have d2 := k_r.cell (i * 3 + 2) o2; have e2 := k_r.frozen (i * 3 + 2)
  have KN := Asd.mk k_n; have KR := Asd.mk k_r; have KO := Asd.mk hkO; have HBO := Asd.mk hbO; clear k_n k_r hkO hbO
  have Ne1 : ¬ gr = w.heap.size := by omega
  have Ne2 : ¬ w.heap.size = gr := by omega
  have HB := Asd.mk hb; have HR := Asd.mk hr; have HX := Asd.mk hxs; clear hb hr hxs
  go_enter Try.func14, Try.ntmps14
  go_wp2_with fail
  refine F.out.mono ?_; rintro en w_ ⟨rfl, rfl⟩; clear F
  go_wp2_with fail
  go_wp2
  go_ret
  refine ⟨rfl, w.heap.size, ?_, ?_, ?_, ?_⟩
  · exact ((KN.out.far (by omega) _).far hne _).far hne _
  · exact ((KR.out.far Ne1 _).put (i * 3 + 1) _ rfl).put (i * 3 + 2) _ rfl
  · exact ((KO.out.put k (.int .u8 (bits .xor .u8 xk b)) (by simp)).far Ne2 _).far Ne2 _
  · exact ((NChg.of_below (below_set HBO.out (Nat.le_refl _))).trans (NChg.set (KR.out.far Ne1 _) (.inr rfl) hbr (i * 3 + 1) _)).trans (NChg.set ((KR.out.far Ne1 _).put (i * 3 + 1) _ rfl) (.inr rfl) hbr (i * 3 + 2) _)
end Go.Proofs.Ytcdbnbdeinhokaa.Nx
