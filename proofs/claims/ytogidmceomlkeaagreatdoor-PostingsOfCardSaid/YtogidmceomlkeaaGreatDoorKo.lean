/- sync.Once. -/
import Derived.Test.YtogidmceomlkeaaGreatDoorKk
import Derived.Tactics2
import Derived.Defers
import Derived.Laws.Pointers
import Derived.Laws.LoneSync
import Derived.RegionTactic
import Derived.RegionCalls
namespace Go.Proofs.YtogidmceomlkeaaGreatDoor.SL
open Go.RowKit Go.Proofs.YtogidmceomlkeaaGreatDoor
open Go.Proofs.YtogidmceomlkeaaGreatDoorW.PrintLast (rtab opsOf)
set_option linter.unusedVariables false
set_option linter.unusedSimpArgs false

theorem once_disable (w : World) : (callFunc 70 #[]).run Tryz.prog w = .ok (.value (.tuple #[])) w := run_call_mark0 Tryz.func70 (by kernel_rfl) (by kernel_rfl) (by kernel_rfl) .disable (by kernel_rfl) w
theorem once_enable (w : World) : (callFunc 72 #[]).run Tryz.prog w = .ok (.value (.tuple #[])) w := run_call_mark0 Tryz.func72 (by kernel_rfl) (by kernel_rfl) (by kernel_rfl) .enable (by kernel_rfl) w
theorem once_acquire (a : Addr) (w : World) : (callFunc 73 #[.pointer (some a)]).run Tryz.prog w = .ok (.value (.tuple #[])) w := run_call_marked Tryz.func73 (by kernel_rfl) (by kernel_rfl) (by kernel_rfl) .acquire (by kernel_rfl) a w
theorem once_release (a : Addr) (w : World) : (callFunc 75 #[.pointer (some a)]).run Tryz.prog w = .ok (.value (.tuple #[])) w := run_call_marked Tryz.func75 (by kernel_rfl) (by kernel_rfl) (by kernel_rfl) .releaseMerge (by kernel_rfl) a w
theorem store_deferred (a : Addr) (x : Value) (u : FrameMode) (w : World) (hc : w.cell? a = some x) (hz : w.frozen? a = false) :
    CallsD Tryz.prog 46 #[.pointer (some a), .bool true] u w fun e u' w' => u' = u ∧ (e = .returned (.tuple #[]) ∧ w' = w.drew.setCell a (.int .u32 1)) := by
  have hc' : w.drew.cell? a = some x := by go_simp
  have hz' : w.drew.frozen? a = false := by go_simp
  have hst := run_call_store (P := Tryz.prog) Tryz.func55 (by kernel_rfl) (by kernel_rfl) (by kernel_rfl) (by kernel_rfl) (k := .u32) (y := 1) hc' hz'
  go_enter_d Tryz.func46, Tryz.ntmps46
  go_wp2
  go_region_calls
  all_goals (go_end0; exact ⟨rfl, rfl⟩)
set_option maxRecDepth 100000 in
theorem unlock_deferred (a : Addr) (u : FrameMode) (w : World) (hc : w.cell? a = some (.int .i32 1)) (hz : w.frozen? a = false) :
    CallsD Tryz.prog 45 #[.pointer (some a)] u w fun e u' w' => u' = u ∧ (e = .returned (.tuple #[]) ∧ w' = w.setCell a (.int .i32 0)) := by
  have hd := once_disable
  have he := once_enable
  have hr := once_release
  have hadd := run_call_add (P := Tryz.prog) Tryz.func76 (by kernel_rfl) (by kernel_rfl) (by kernel_rfl) .i32 (by kernel_rfl) (y := -1) (s := 0) hc hz (by simp [go_sem]; rfl)
  have hcv := run_convert_to_unsafe (P := Tryz.prog) (src := 95) (dst := 99) Tryz.underlying95 Tryz.underlying99 (by kernel_rfl) hc
  go_enter_d Tryz.func45, Tryz.ntmps45
  go_wp2
  go_end0
  go_wp2
  go_end0
  exact ⟨rfl, rfl⟩
set_option maxRecDepth 100000 in
theorem lock_free (a : Addr) (w : World) (hc : w.cell? a = some (.int .i32 0)) (hz : w.frozen? a = false) :
    Calls Tryz.prog 44 #[.pointer (some a)] w fun e w' => e = .returned (.tuple #[]) ∧ w' = w.setCell a (.int .i32 1) := by
  have hd := once_disable
  have he := once_enable
  have ha := once_acquire
  have hcas := run_call_cas_hit (P := Tryz.prog) Tryz.func71 (by kernel_rfl) (by kernel_rfl) (by kernel_rfl) .i32 (by kernel_rfl) (y := 1) hc hz
  have hc' : (w.setCell a (.int .i32 1)).cell? a = some (.int .i32 1) := World.cell?_setCell_same w a _ hc
  have hcv := run_convert_to_unsafe (P := Tryz.prog) (src := 95) (dst := 99) Tryz.underlying95 Tryz.underlying99 (by kernel_rfl) hc'
  go_enter Tryz.func44, Tryz.ntmps44
  go_wp2
  first | go_end0 | (simp only [Exit.inBlock, Exit.then]; refine bodyPost_ret (results_none rfl _ _ _) rfl ?_) | refine bodyPost_ret (results_none rfl _ _ _) rfl ?_
  go_wp2
  go_end0
  exact ⟨rfl, rfl⟩
theorem cel_free {B w : World} {L : List HP} {g : Nat} {l : List Value} {t : TypeId} (h : St B (cel g l t :: L) w) {j : Nat} (hj : j < l.length) : w.frozen? ⟨g, j, none⟩ = false := by
  obtain ⟨fr, hf, h1⟩ := h.cel_open
  have hb := h1.at
  have := hf j hj
  simpa [World.frozen?, hb] using this
set_option maxRecDepth 100000 in
set_option maxHeartbeats 1600000 in
/-- The slow road: the function that is called keeps the word and the lock as they were. -/
theorem slow_spec {B w : World} {L : List HP} {g o : Nat} {l : List Value} {t : TypeId} {us : Array Value} {Φ : List Value → List HP → Prop} (ho : o + 1 < l.length) (h0 : l[o]? = some (.int .u32 0)) (h1 : l[o + 1]? = some (.int .i32 0))
    (hf : ∀ w', St B (cel g (l.set (o + 1) (.int .i32 1)) t :: L) w' → Calls Tryz.prog 23 us w' fun e w1 => e = .returned (.tuple #[]) ∧ ∃ l2 L2, Φ l2 L2 ∧ l2[o]? = some (.int .u32 0) ∧ l2[o + 1]? = some (.int .i32 1) ∧ St B (cel g l2 t :: L2) w1) (hS : St B (cel g l t :: L) w) :
    Calls Tryz.prog 32 #[.pointer (some ⟨g, o, none⟩), .func (.func 23) us #[]] w fun e w' => e = .returned (.tuple #[]) ∧ ∃ l2 L2, Φ l2 L2 ∧ St B (cel g ((l2.set o (.int .u32 1)).set (o + 1) (.int .i32 0)) t :: L2) w' := by
  have c1 : w.cell? ⟨g, o + 1, none⟩ = some (.int .i32 0) := (hS.cel_at 0 rfl _).trans h1
  have f1 : w.frozen? ⟨g, o + 1, none⟩ = false := cel_free hS ho
  have hS1 := hS.store1 (v := .int .i32 1) ho
  have c0' : (w.setCell ⟨g, o + 1, none⟩ (.int .i32 1)).cell? ⟨g, o, none⟩ = some (.int .u32 0) := by rw [hS1.cel_at 0 rfl, List.getElem?_set_ne (by omega), h0]
  have hl := run_call_load (P := Tryz.prog) Tryz.func43 (by kernel_rfl) (by kernel_rfl) (by kernel_rfl) .u32 (by kernel_rfl) (w := w.setCell ⟨g, o + 1, none⟩ (.int .i32 1)) (a := ⟨g, o, none⟩) (x := 0) c0'
  have hnot : ∀ (x : Bool) (w : World), (Op.unary .not (.bool x)).run Tryz.prog w = .ok (.bool (!x)) w := fun _ _ => rfl
  have hfill := hf _ hS1
  go_enter_defers Tryz.func32, Tryz.ntmps32
  go_wp2_with (go_at_call 44; refine (lock_free ⟨g, o + 1, none⟩ _ c1 f1).mono ?_; rintro e w' ⟨rfl, rfl⟩)
  go_wp2_with (first | (go_at_call 23; refine hfill.mono ?_; rintro e w' ⟨rfl, l2, L2, hΦ, k0, k1, hS2⟩) | (go_at_call 31; go_in))
  have lo2 : o < l2.length := (List.getElem?_eq_some_iff.1 k0).1
  have lo3 : o + 1 < l2.length := (List.getElem?_eq_some_iff.1 k1).1
  refine leaves_cons (f := 46) (args := #[.pointer (some ⟨g, o, none⟩), .bool true]) (by simp) (by simp [go_sem]) ?_
  refine (store_deferred ⟨g, o, none⟩ (.int .u32 0) .returning _ ((hS2.cel_at 0 rfl _).trans k0) (cel_free hS2 lo2)).mono ?_
  rintro e u' w'' ⟨rfl, rfl, rfl⟩
  have hS3 := hS2.drew.store1 (v := .int .u32 1) lo2
  refine leaves_cons (f := 45) (args := #[.pointer (some ⟨g, o + 1, none⟩)]) (by simp [settle]) (by simp [go_sem]) ?_
  refine (unlock_deferred ⟨g, o + 1, none⟩ _ _ (by rw [hS3.cel_at 0 rfl, List.getElem?_set_ne (by omega), k1]) (cel_free hS3 (by simpa using lo3))).mono ?_
  rintro e u' w'' ⟨rfl, rfl, rfl⟩
  have hS4 := hS3.store1 (v := .int .i32 0) (o := o + 1) (by simpa using lo3)
  exact ⟨_, results_none rfl _ _ _, rfl, l2, L2, hΦ, hS4⟩
set_option maxRecDepth 100000 in
set_option maxHeartbeats 1600000 in
theorem do_first {B w : World} {L : List HP} {g o : Nat} {l : List Value} {t : TypeId} {us : List Value} {Φ : List Value → List HP → Prop} (ho : o + 1 < l.length) (h0 : l[o]? = some (.int .u32 0)) (h1 : l[o + 1]? = some (.int .i32 0))
    (hf : ∀ w', St B (cel g (l.set (o + 1) (.int .i32 1)) t :: L) w' → Does Tryz.prog 23 us w' fun v w1 => v = .tuple #[] ∧ ∃ l2 L2, Φ l2 L2 ∧ l2[o]? = some (.int .u32 0) ∧ l2[o + 1]? = some (.int .i32 1) ∧ St B (cel g l2 t :: L2) w1) (hS : St B (cel g l t :: L) w) :
    Does Tryz.prog 22 [.pointer (some ⟨g, o, none⟩), .func (.func 23) us.toArray #[]] w fun v w' => v = .tuple #[] ∧ ∃ l2 L2, Φ l2 L2 ∧ St B (cel g ((l2.set o (.int .u32 1)).set (o + 1) (.int .i32 0)) t :: L2) w' := by
  have hslow := slow_spec (us := us.toArray) (Φ := Φ) ho h0 h1 (fun w' h => Calls.mono (hf w' h) fun e w1 ⟨v, he, hv, r⟩ => ⟨by rw [he, hv], r⟩) hS
  have hl := run_call_load (P := Tryz.prog) Tryz.func43 (by kernel_rfl) (by kernel_rfl) (by kernel_rfl) .u32 (by kernel_rfl) (w := w) (a := ⟨g, o, none⟩) (x := 0) ((hS.cel_at 0 rfl _).trans h0)
  have hnot : ∀ (x : Bool) (w : World), (Op.unary .not (.bool x)).run Tryz.prog w = .ok (.bool (!x)) w := fun _ _ => rfl
  show Calls _ _ #[_, _] _ _
  go_enter Tryz.func22, Tryz.ntmps22
  go_wp2_with (first | (go_at_call 32; refine hslow.mono ?_; rintro e w' ⟨rfl, hr⟩) | (go_at_call 31; go_in))
  go_end0
  exact ⟨_, rfl, rfl, hr⟩
theorem do_done {B w : World} {L : List HP} {g o : Nat} {l : List Value} {t : TypeId} {fv : Value} (h0 : l[o]? = some (.int .u32 1)) (hS : St B (cel g l t :: L) w) :
    Does Tryz.prog 22 [.pointer (some ⟨g, o, none⟩), fv] w fun v w' => v = .tuple #[] ∧ St B (cel g l t :: L) w' := by
  have hl := run_call_load (P := Tryz.prog) Tryz.func43 (by kernel_rfl) (by kernel_rfl) (by kernel_rfl) .u32 (by kernel_rfl) (w := w) (a := ⟨g, o, none⟩) (x := 1) ((hS.cel_at 0 rfl _).trans h0)
  have hnot : ∀ (x : Bool) (w : World), (Op.unary .not (.bool x)).run Tryz.prog w = .ok (.bool (!x)) w := fun _ _ => rfl
  show Calls _ _ #[_, _] _ _
  go_enter Tryz.func22, Tryz.ntmps22
  go_wp2
  go_end0
  exact ⟨_, rfl, rfl, hS⟩
end Go.Proofs.YtogidmceomlkeaaGreatDoor.SL
