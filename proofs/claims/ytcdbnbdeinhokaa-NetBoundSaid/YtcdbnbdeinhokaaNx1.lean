/- Contracts of net: new, length, what lies at a place. -/
import Derived.Test.YtcdbnbdeinhokaaProg
import Derived.Test.YtcdbnbdeinhokaaNb
import Derived.Test.YtcdbnbdeinhokaaWTab
import Derived.Deep.QuietTactic
import Derived.BigQuiet
namespace Go.Proofs.Ytcdbnbdeinhokaa.Nx
open Go.RowKit
open Go.Proofs.Ytcdbnbdeinhokaa.Xb Go.Proofs.Ytcdbnbdeinhokaa.Nb
open Go.Proofs.YtcdbnbdeinhokaaW.PrintLast (start_ take_ pure_ one_ last_ norm_ goes_ done_ done_of any_of one_of take_ofW with_tabW rtab waitsOk opsOf i64_w i32_w)
set_option linter.unusedSimpArgs false
set_option linter.unusedVariables false
def Net (base : Nat) (w : World) (g : Nat) (L : List PV) (gone : Int) : Prop := ∃ v, NetOk base w g v L gone
set_option maxHeartbeats 400000 in
theorem new_any (w : World) : Calls Try.prog 8 #[] w fun e w' => e = .returned (.pointer (some ⟨w.heap.size, 0, none⟩)) ∧ Blk w' w.heap.size #[.slice none 0 0, .int .i64 0] 49 ∧ Below w.heap.size w w' := by
  go_enter Try.func8, Try.ntmps8
  go_wp2
  go_ret
  exact ⟨rfl, Blk.new _ _ _, below_alloc (Below.refl _ _) _⟩
theorem net_new {base : Nat} {w : World} {g : Nat} (h : Blk w g #[.slice none 0 0, .int .i64 0] 49) (hb : base ≤ g) : Net base w g [] 0 := ⟨_, h, hb, World.ownsRow_nil _ _ _ _, fun p hp => by cases hp⟩
/-- The slice's form. -/
theorem netOk_len {base : Nat} {w : World} {g : Nat} {v : Value} {L : List PV} {gone : Int} (h : NetOk base w g v L gone) : ∃ A c, v = .slice A L.length c := by
  rcases h.form with ⟨rfl, rfl⟩ | ⟨gr, cap, cur, rfl, _⟩
  · exact ⟨_, _, rfl⟩
  · exact ⟨_, _, rfl⟩
set_option maxHeartbeats 400000 in
theorem len_any {base : Nat} {w : World} {g : Nat} {L : List PV} {gone : Int} (h : Net base w g L gone) (hl : L.length ≤ 64) :
    Calls Try.prog 11 #[.pointer (some ⟨g, 0, none⟩)] w fun e w' => e = .returned (.int .i64 L.length) ∧ w = w' := by
  obtain ⟨v, h⟩ := h
  obtain ⟨A, c, rfl⟩ := netOk_len h
  have c0 := h.blk.cell 0 rfl
  clear h
  go_enter Try.func11, Try.ntmps11
  go_wp2
  go_ret
  exact ⟨rfl, rfl⟩
set_option maxHeartbeats 400000 in
theorem gone_any {base : Nat} {w : World} {g : Nat} {L : List PV} {gone : Int} (h : Net base w g L gone) :
    Calls Try.prog 12 #[.pointer (some ⟨g, 0, none⟩)] w fun e w' => e = .returned (.int .i64 gone) ∧ w = w' := by
  obtain ⟨v, h⟩ := h
  have c0 := h.blk.cell 1 rfl
  clear h
  go_enter Try.func12, Try.ntmps12
  go_wp2
  go_ret
  exact ⟨rfl, rfl⟩
set_option maxHeartbeats 400000 in
theorem find_none {base : Nat} {w : World} {g : Nat} {L : List PV} {gone : Int} (h : Net base w g L gone) (hl : L.length ≤ 64) (i : Int) (hi : i < 0 ∨ (L.length : Int) ≤ i) :
    Calls Try.prog 21 #[.pointer (some ⟨g, 0, none⟩), .int .i64 i] w fun e w' => e = .returned (.pointer none) ∧ w = w' := by
  obtain ⟨v, h⟩ := h
  obtain ⟨A, c, rfl⟩ := netOk_len h
  have c0 := h.blk.cell 0 rfl
  clear h
  rcases hi with hi | hi
  all_goals
    go_enter Try.func21, Try.ntmps21
    go_wp2
    go_ret
    exact ⟨rfl, rfl⟩
set_option maxHeartbeats 400000 in
theorem find_some {w : World} {g gr n cap : Nat} {gone : Int} (hb : Blk w g #[.slice (some ⟨gr, 0, none⟩) n cap, .int .i64 gone] 49) (hl : n ≤ 64) (hc : n ≤ cap) (i : Nat) (hi : i < n) :
    Calls Try.prog 21 #[.pointer (some ⟨g, 0, none⟩), .int .i64 (i : Int)] w fun e w' => e = .returned (.pointer (some ⟨gr, i * 3, none⟩)) ∧ w = w' := by
  have c0 := hb.cell 0 rfl
  clear hb
  go_enter Try.func21, Try.ntmps21
  go_wp2
  go_ret
  exact ⟨rfl, rfl⟩
theorem strOf_bytes (s : ByteArray) : strOfNums (s.data.toList.map fun b => (b.toNat : Int)) = s := by
  unfold strOfNums
  congr 1
  rw [List.map_map]
  have : ((fun n : Int => UInt8.ofNat n.toNat) ∘ fun b : UInt8 => (b.toNat : Int)) = id := by funext b; simp
  rw [this]; simp
/-- A parcel's cells, and its bytes as a text. -/
theorem parcel_at {base : Nat} {w : World} {g : Nat} {v : Value} {L : List PV} {gone : Int} (h : NetOk base w g v L gone) {i : Nat} {p : PV} (hp : L[i]? = some p) :
    ∃ gr cap, v = .slice (some ⟨gr, 0, none⟩) L.length cap ∧ L.length ≤ cap ∧ base ≤ gr ∧ (∃ cur, Blk w gr cur 51) ∧
      w.cell? ⟨gr, i * 3, none⟩ = some (.int .i64 p.to) ∧ w.cell? ⟨gr, i * 3 + 1, none⟩ = some p.bv ∧ w.cell? ⟨gr, i * 3 + 2, none⟩ = some (.bool p.sp) := by
  have hi : i < L.length := (List.getElem?_eq_some_iff.1 hp).1
  rcases h.form with ⟨rfl, _⟩ | ⟨gr, cap, cur, rfl, hg, hb, hl, hm, hs, ht⟩
  · simp at hi
  · refine ⟨gr, cap, rfl, hl, hg, ⟨cur, hb⟩, ?_⟩
    have c : ∀ j, j < 3 → w.cell? ⟨gr, i * 3 + j, none⟩ = (cellsP p)[j]? := fun j hj => by
      rw [h.row.cellAt (i * 3 + j) (by omega), cellsL_get hp j hj]
    exact ⟨c 0 (by omega), c 1 (by omega), c 2 (by omega)⟩
theorem bytes_text {w : World} {v : Value} {s : ByteArray} (h : ByteV w v s) : (convert 28 9 v).run Try.prog w = .ok (.string s) w := by
  obtain ⟨gb, cap, cs, fr, rfl, hh, hc⟩ := h
  have := run_convert_bytes_arg (P := Try.prog) w 28 5 Try.underlying28 Try.underlying5 gb 0 s.size cap (s.data.toList.map fun b => (b.toNat : Int)) (by rw [List.length_map, Array.length_toList]; rfl) (fun i hi => by
    rw [Nat.zero_add, cell_of_row w gb i cs 5 fr hh]; exact hc i hi) 9 Try.underlying9
  rw [this, strOf_bytes]
def AtNone (e : Ending) : Prop := e = .returned (.tuple #[.int .i64 0, .string ByteArray.empty, .int .i64 2])
def AtSome (p : PV) (e : Ending) : Prop := e = .returned (.tuple #[.int .i64 p.to, .string p.s, .int .i64 0])
set_option maxHeartbeats 400000 in
theorem at_none {base : Nat} {w : World} {g : Nat} {L : List PV} {gone : Int} (h : Net base w g L gone) (hl : L.length ≤ 64) (i : Int) (hi : i < 0 ∨ (L.length : Int) ≤ i) :
    Calls Try.prog 15 #[.pointer (some ⟨g, 0, none⟩), .int .i64 i] w fun e w' => AtNone e ∧ w = w' := by
  have H := Asd.mk h; clear h
  have HI := Asd.mk hi; clear hi
  go_enter Try.func15, Try.ntmps15
  go_wp2_with fail
  refine (find_none H.out hl i HI.out).mono ?_; rintro e w1 ⟨rfl, rfl⟩
  go_wp2
  go_ret3
  exact ⟨rfl, rfl⟩
set_option maxHeartbeats 400000 in
theorem at_some {base : Nat} {w : World} {g : Nat} {L : List PV} {gone : Int} (h : Net base w g L gone) (hl : L.length ≤ 64) (i : Nat) (p : PV) (hp : L[i]? = some p) :
    Calls Try.prog 15 #[.pointer (some ⟨g, 0, none⟩), .int .i64 (i : Int)] w fun e w' => AtSome p e ∧ Below w.heap.size w w' := by
  obtain ⟨v, h⟩ := h
  have hi : i < L.length := (List.getElem?_eq_some_iff.1 hp).1
  obtain ⟨gr, cap, rfl, hc, _, _, c0, c1, c2⟩ := parcel_at h hp
  have hby : ByteV w p.bv p.s := h.bytes p (List.mem_of_getElem? hp)
  have hb := h.blk
  have HB := Asd.mk hb; clear hb h hp
  have hcv : ∀ n, (convert 28 9 p.bv).run Try.prog (w.drewN n) = .ok (.string p.s) (w.drewN n) := fun n => bytes_text (w := w.drewN n) (by obtain ⟨gb, cp, cs, fr, e, hh, hq⟩ := hby; exact ⟨gb, cp, cs, fr, e, hh, hq⟩)
  clear hby
  go_enter Try.func15, Try.ntmps15
  go_wp2_with fail
  refine (find_some HB.out hl hc i hi).mono ?_; rintro e w1 ⟨rfl, rfl⟩
  go_wp2_with fail
  go_quiet (fail)
  go_wp2
  go_ret3
  exact ⟨rfl, below_drewN (Below.refl _ _) _⟩
end Go.Proofs.Ytcdbnbdeinhokaa.Nx
