/- Errors that are thrown and caught. -/
import Derived.Test.YtidoidoelgfnaaaGreatDoorSl12
import Derived.Test.YtidoidoelgfnaaaGreatDoorTy
namespace Go.Proofs.YtidoidoelgfnaaaGreatDoor.SL
open Go.RowKit Go.Proofs.YtidoidoelgfnaaaGreatDoor
open Go.Proofs.YtidoidoelgfnaaaGreatDoorW.PrintLast (rtab opsOf)
set_option linter.unusedVariables false
set_option linter.unusedSimpArgs false
theorem check_ok {B w : World} {L : List HP} {ok : Bool} (hok : ok = true) (n : Int) (hS : St B L w) : Does Tryz.prog 111 [Value.bool ok, Value.int .i64 n] w (fun v w1 => v = .tuple #[] ∧ St B L w1) := by
 refine enter (n := 8) Tryz.func111 rfl rfl [Value.bool ok, Value.int .i64 n] rfl ?_
 refine WP.seq (WP.region rfl ?_)
 refine WO.mv rfl rfl ?_
 refine WO.V (run_not rfl rfl) ?_
 refine WO.nil (NX.go ?_)
 refine WP.condF rfl (notB_t hok) ?_
 refine WP.skip ?_
 refine NX.ended (l := []) rfl rfl ?_
 exact ⟨rfl, hS⟩
theorem check_no {B w : World} {L : List HP} {ok : Bool} (hok : ok = false) (n : Int) (hS : St B L w) : DoesX Tryz.prog 111 [Value.bool ok, Value.int .i64 n] w (fun _ _ => False) (fun ch w1 => ch = [{ v := .iface 28 (.int .i64 n), recovered := false }] ∧ St B L w1) := by
 refine enter (n := 8) Tryz.func111 rfl rfl [Value.bool ok, Value.int .i64 n] rfl ?_
 refine WP.seq (WP.region rfl ?_)
 refine WO.mv rfl rfl ?_
 refine WO.V (run_not rfl rfl) ?_
 refine WO.nil (NX.go ?_)
 refine WP.condT rfl (notB_f hok) ?_
 refine WP.region rfl ?_
 refine WO.mv rfl rfl ?_
 refine WO.V (run_makeIface ⟨_, Tryz.underlying28, fun _ h => by cases h⟩ rfl) ?_
 refine WO.panic rfl ?_
 refine NX.thrown ?_
 exact ⟨rfl, hS⟩
theorem caught_ret {B w : World} {L : List HP} {g : Nat} {v0 : Value} (hS : St B (cel g [v0] 28 :: L) w) : DoesD Tryz.prog 110 [Value.pointer (some ⟨g, 0, none⟩)] .returning w (fun u w1 => u = .returning ∧ St B (cel g [v0] 28 :: L) w1) := by
 refine DoesD.recR (n := 14) Tryz.func110 rfl rfl [Value.pointer (some ⟨g, 0, none⟩)] rfl rfl ?_
 refine WP.block (WP.seq (WP.region rfl ?_))
 refine WO.V (run_eqlNilI (b := true) ⟨_, Tryz.underlying20⟩ rfl (.inl ⟨rfl, rfl⟩)) ?_
 refine WO.nil (NX.go ?_)
 refine WP.condT rfl rfl ?_
 refine WP.region rfl ?_
 refine WO.asg rfl rfl ?_
 refine WO.nil (NX.blk ?_)
 refine NX.ended (l := []) rfl rfl ?_
 exact hS
theorem caught_err {B w : World} {L : List HP} {g : Nat} {v0 : Value} (n : Int) (hS : St B (cel g [v0] 28 :: L) w) : DoesD Tryz.prog 110 [Value.pointer (some ⟨g, 0, none⟩)] (.panicking [{ v := .iface 28 (.int .i64 n), recovered := false }]) w (fun u w1 => u = .panicking [{ v := .iface 28 (.int .i64 n), recovered := true }] ∧ St B (cel g [Value.int .i64 n] 28 :: L) w1) := by
 refine DoesD.recP (n := 14) Tryz.func110 rfl rfl [Value.pointer (some ⟨g, 0, none⟩)] rfl rfl ?_
 refine WP.block (WP.seq (WP.region rfl ?_))
 refine WO.V (run_eqlNilI (b := false) ⟨_, Tryz.underlying20⟩ rfl (.inr ⟨⟨_, _, rfl⟩, rfl⟩)) ?_
 refine WO.nil (NX.go ?_)
 refine WP.condF rfl rfl ?_
 refine WP.seq (WP.region rfl ?_)
 refine WO.V (run_typeAssertOk Tryz.underlying28 (fun _ h => by cases h) rfl) ?_
 refine WO.V (run_extract rfl rfl) ?_
 refine WO.V (run_extract rfl rfl) ?_
 refine WO.nil (NX.go ?_)
 refine WP.condT rfl rfl ?_
 refine WP.seq (WP.region rfl ?_)
 refine WO.asg rfl rfl ?_
 refine WO.nil (NX.go (WP.region rfl ?_))
 refine WO.mv rfl rfl ?_
 refine WO.mv rfl rfl ?_
 refine WO.V (run_nilCheck rfl) ?_
 refine WO.store (l' := [Value.int .i64 n]) 0 hS rfl Ty.sz28 rfl rfl rfl rfl rfl (Nat.le_of_ble_eq_true rfl) rfl (fun w1 (hS1 : St B (cel g [Value.int .i64 n] 28 :: L) w1) => ?_)
 clear hS
 refine WO.nil (NX.blk ?_)
 refine NX.ended (l := []) rfl rfl ?_
 exact hS1
end Go.Proofs.YtidoidoelgfnaaaGreatDoor.SL
