/- Contracts of ship: atomics, and the methods of Ship. -/
import Derived.Test.YthkiofmfegeknaaProg
import Derived.Test.YthkiofmfegeknaaXb
import Derived.Test.YthkiofmfegeknaaWTab
import Derived.Laws.LoneSync
import Derived.Laws.Pointers
import Derived.RegionCalls
namespace Go.Proofs.Ythkiofmfegeknaa.Sx
open Go.RowKit
open Go.Proofs.Ythkiofmfegeknaa.Xb
open Go.Proofs.YthkiofmfegeknaaW.PrintLast (start_ take_ pure_ one_ norm_ goes_ done_ done_of any_of one_of take_ofW with_tabW rtab waitsOk opsOf i64_w i32_w)
set_option linter.unusedSimpArgs false
set_option linter.unusedVariables false
theorem load64 (g i : Nat) (x : Int) (w : World) (hc : w.cell? ⟨g, i, none⟩ = some (.int .i64 x)) :
    Calls Try.prog 23 #[.pointer (some ⟨g, i, none⟩)] w fun e w' => e = .returned (.int .i64 x) ∧ w = w' := by
  have hl := run_call_load (P := Try.prog) Try.func29 (by kernel_rfl) (by kernel_rfl) (by kernel_rfl) .i64 (by kernel_rfl) hc
  go_enter Try.func23, Try.ntmps23
  go_wp2
  go_ret
  exact ⟨rfl, rfl⟩
theorem store64 (g i : Nat) (x y : Int) (w : World) (hc : w.cell? ⟨g, i, none⟩ = some (.int .i64 x)) (hz : w.frozen? ⟨g, i, none⟩ = false) :
    Calls Try.prog 22 #[.pointer (some ⟨g, i, none⟩), .int .i64 y] w fun e w' => e = .returned (.tuple #[]) ∧ w.setCell ⟨g, i, none⟩ (.int .i64 y) = w' := by
  have hl := run_call_store (P := Try.prog) Try.func28 (by kernel_rfl) (by kernel_rfl) (by kernel_rfl) (by kernel_rfl) (k := .i64) (y := y) hc hz
  go_enter Try.func22, Try.ntmps22
  go_wp2
  go_end0
  exact ⟨rfl, rfl⟩
theorem cas_hit (g i : Nat) (x y : Int) (w : World) (hc : w.cell? ⟨g, i, none⟩ = some (.int .i64 x)) (hz : w.frozen? ⟨g, i, none⟩ = false) :
    Calls Try.prog 26 #[.pointer (some ⟨g, i, none⟩), .int .i64 x, .int .i64 y] w fun e w' => e = .returned (.bool true) ∧ w.setCell ⟨g, i, none⟩ (.int .i64 y) = w' := by
  have hl := run_call_cas_hit (P := Try.prog) Try.func33 (by kernel_rfl) (by kernel_rfl) (by kernel_rfl) .i64 (by kernel_rfl) (y := y) hc hz
  go_enter Try.func26, Try.ntmps26
  go_wp2
  go_ret
  exact ⟨rfl, rfl⟩
theorem cas_miss (g i : Nat) (x o y : Int) (w : World) (hc : w.cell? ⟨g, i, none⟩ = some (.int .i64 x)) (hz : w.frozen? ⟨g, i, none⟩ = false) (hne : ¬ x = o) :
    Calls Try.prog 26 #[.pointer (some ⟨g, i, none⟩), .int .i64 o, .int .i64 y] w fun e w' => e = .returned (.bool false) ∧ w = w' := by
  have hl := run_call_cas_miss (P := Try.prog) Try.func33 (by kernel_rfl) (by kernel_rfl) (by kernel_rfl) .i64 (by kernel_rfl) (o := o) (y := y) hc hz hne
  go_enter Try.func26, Try.ntmps26
  go_wp2
  go_ret
  exact ⟨rfl, rfl⟩
theorem loadB (g i : Nat) (x : Int) (w : World) (hc : w.cell? ⟨g, i, none⟩ = some (.int .u32 x)) :
    Calls Try.prog 24 #[.pointer (some ⟨g, i, none⟩)] w fun e w' => e = .returned (.bool (x != 0)) ∧ w = w' := by
  have hl := run_call_load (P := Try.prog) Try.func30 (by kernel_rfl) (by kernel_rfl) (by kernel_rfl) .u32 (by kernel_rfl) hc
  go_enter Try.func24, Try.ntmps24
  go_wp2
  go_ret
  exact ⟨rfl, rfl⟩
theorem b32_true (w : World) : Calls Try.prog 32 #[.bool true] w fun e w' => e = .returned (.int .u32 1) ∧ w = w' := by
  go_enter Try.func32, Try.ntmps32
  go_wp2
  go_ret
  exact ⟨rfl, rfl⟩
theorem storeB (g i : Nat) (x : Int) (w : World) (hc : w.cell? ⟨g, i, none⟩ = some (.int .u32 x)) (hz : w.frozen? ⟨g, i, none⟩ = false) :
    Calls Try.prog 25 #[.pointer (some ⟨g, i, none⟩), .bool true] w fun e w' => e = .returned (.tuple #[]) ∧ w.drew.setCell ⟨g, i, none⟩ (.int .u32 1) = w' := by
  have hc' : w.drew.cell? ⟨g, i, none⟩ = some (.int .u32 x) := hc
  have hz' : w.drew.frozen? ⟨g, i, none⟩ = false := hz
  have hl := run_call_store (P := Try.prog) Try.func31 (by kernel_rfl) (by kernel_rfl) (by kernel_rfl) (by kernel_rfl) (k := .u32) (y := 1) hc' hz'
  go_enter Try.func25, Try.ntmps25
  go_region_calls
  all_goals (go_end0; exact ⟨rfl, rfl⟩)

/-- What a Ship holds. -/
def hB (h : Bool) : Int := if h then 1 else 0
abbrev ship (h : Bool) (a n : Int) : Array Value := #[.int .u32 (hB h), .int .i64 a, .int .i64 n]
theorem new_any (w : World) : Calls Try.prog 8 #[] w fun e w' => e = .returned (.pointer (some ⟨w.heap.size, 0, none⟩)) ∧ Blk w' w.heap.size (ship false 0 1) 52 ∧ Below w.heap.size w w' := by
  go_enter Try.func8, Try.ntmps8
  go_wp2_with fail
  refine (store64 _ _ 0 _ _ (by go_simp) (by go_simp)).mono ?_; rintro e w1 ⟨rfl, rfl⟩
  go_wp2
  go_ret
  refine ⟨rfl, ?_, ?_⟩
  · exact Blk.new w _ 52
  · exact below_alloc (Below.refl _ _) _
theorem heard_any (g : Nat) (h : Bool) (a n : Int) (w : World) (hb : Blk w g (ship h a n) 52) : Calls Try.prog 10 #[.pointer (some ⟨g, 0, none⟩)] w fun e w' => e = .returned (.bool h) ∧ w = w' := by
  have c0 := hb.cell 0 rfl
  have hh : Hid ((hB h != 0) = h) := Lib.hid (by cases h <;> rfl)
  go_enter Try.func10, Try.ntmps10
  go_wp2_with fail
  refine (loadB _ _ _ _ c0).mono ?_; rintro e w1 ⟨rfl, rfl⟩
  go_wp2
  go_ret
  exact ⟨ret_bool hh.out, rfl⟩
theorem acked_any (g : Nat) (h : Bool) (a n : Int) (w : World) (hb : Blk w g (ship h a n) 52) : Calls Try.prog 14 #[.pointer (some ⟨g, 0, none⟩)] w fun e w' => e = .returned (.int .i64 a) ∧ w = w' := by
  have c1 := hb.cell 1 rfl
  go_enter Try.func14, Try.ntmps14
  go_wp2_with fail
  refine (load64 _ _ _ _ c1).mono ?_; rintro e w1 ⟨rfl, rfl⟩
  go_wp2
  go_ret
  exact ⟨rfl, rfl⟩

def most : Int := 99999999
def helloS (k : Int) (s : Bool × Int × Int) : Bool × Int × Int := if k < 0 ∨ k > 99999999 then s else (true, k, wrap64 (k + 1))
def ackS (k : Int) (s : Bool × Int × Int) : Bool × Int × Int := if s.1 = true ∧ s.2.1 < k ∧ k ≤ 99999999 then (true, k, if s.2.2 < wrap64 (k + 1) then wrap64 (k + 1) else s.2.2) else s
def sentS (fr k : Int) (s : Bool × Int × Int) : Bool × Int × Int := if 1 ≤ k ∧ k ≤ 4 ∧ s.2.2 = fr then (s.1, s.2.1, wrap64 (fr + k)) else s
def againS (s : Bool × Int × Int) : Bool × Int × Int := if s.1 = true then (true, s.2.1, wrap64 (s.2.1 + 1)) else s
abbrev shipS (s : Bool × Int × Int) : Array Value := ship s.1 s.2.1 s.2.2
/-- What a call that turns the Ship's block alone comes to. -/
def Turn (g : Nat) (w : World) (s : Bool × Int × Int) (e : Ending) (w' : World) : Prop := e = .returned (.tuple #[]) ∧ Blk w' g (shipS s) 52 ∧ Chg g w w'

end Go.Proofs.Ythkiofmfegeknaa.Sx
