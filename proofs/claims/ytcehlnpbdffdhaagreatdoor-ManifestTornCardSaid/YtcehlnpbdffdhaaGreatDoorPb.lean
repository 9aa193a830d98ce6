/- A manifest is published: the steps. -/
import Derived.Test.YtcehlnpbdffdhaaGreatDoorDk4
import Derived.Test.YtcehlnpbdffdhaaGreatDoorKx5
namespace Go.Proofs.YtcehlnpbdffdhaaGreatDoor.SL
open Go.RowKit Go.Proofs.YtcehlnpbdffdhaaGreatDoor
open Go.Proofs.YtcehlnpbdffdhaaGreatDoorW.PrintLast (rtab opsOf)
set_option linter.unusedVariables false
set_option linter.unusedSimpArgs false

def stepsP (s : List UInt8) : List (Dk → Dk × Int) := [fun D => appendD D [110] s, fun D => syncD D [110], fun D => renameD D [110] [109], syncNamesD]
def stepsR (s : List UInt8) : List (Dk → Dk × Int) := (fun D => removeD D [110]) :: stepsP s
def runD : List (Dk → Dk × Int) → Dk → Dk × Int
  | [], D => (D, 0)
  | f :: l, D => if (f D).2 = 0 then runD l (f D).1 else f D
def publishD (D : Dk) (m : Man) : Dk × Int := if ¬ (encM m).2 = 0 then (D, (encM m).2) else if (readD D [110]).2 = 0 then runD (stepsR (encM m).1) D else runD (stepsP (encM m).1) D
theorem runD_step {fs : List (Dk → Dk × Int)} {i : Nat} {f : Dk → Dk × Int} {D : Dk} (h : fs[i]? = some f) : runD (fs.drop i) D = if (f D).2 = 0 then runD (fs.drop (i + 1)) (f D).1 else f D := by
  obtain ⟨hi, he⟩ := List.getElem?_eq_some_iff.1 h
  rw [List.drop_eq_getElem_cons hi, he]; rfl
theorem pub1_spec {B w : World} {L : List HP} {g g2 g5 : Nat} {D : Dk} {n t : Nat} {s : List UInt8} (hs : s.length ≤ 140737488355328) (hk : OkD D n t) (hn : n ≤ 1000000000) (ht : t ≤ 1099511627776) (hS : St B (dkA g D :: cel g2 [Value.pointer (some ⟨g, 0, none⟩)] 39 :: cel g5 [str s] 9 :: L) w) : Does Tryz.prog 45 [Value.pointer (some ⟨g2, 0, none⟩), Value.pointer (some ⟨g5, 0, none⟩)] w (fun v w1 => v = .int .i64 (appendD D [110] s).2 ∧ St B (dkA g ((appendD D [110] s).1) :: cel g2 [Value.pointer (some ⟨g, 0, none⟩)] 39 :: cel g5 [str s] 9 :: L) w1) := by
 refine enter (n := 6) Tryz.func45 rfl rfl [Value.pointer (some ⟨g2, 0, none⟩), Value.pointer (some ⟨g5, 0, none⟩)] rfl ?_
 refine WP.seq ?_
 refine WP.region rfl ?_
 refine WO.val (run_assign rfl) rfl rfl rfl ?_
 refine WO.nil ?_
 refine NX.go ?_
 refine WP.seq ?_
 refine WP.region rfl ?_
 refine WO.val (run_load Ty.ag39 rfl ((hS.cel_at 1 rfl 0).trans rfl)) rfl rfl rfl ?_
 refine WO.val (run_load Ty.ag9 rfl ((hS.cel_at 2 rfl 0).trans rfl)) rfl rfl rfl ?_
 refine WO.call rfl rfl Ty.hd23 rfl (dappend_spec hk.w hk.b hn ht [110] s (by decide) hs hS) (fun v2 w1 pv2 => ?_)
 obtain ⟨rfl, hS1⟩ := pv2
 clear hS
 refine WO.val (run_assign rfl) rfl rfl rfl ?_
 refine WO.nil ?_
 refine NX.go ?_
 refine WP.ret ?_
 refine NX.done (l := [.tmp 2]) rfl rfl ?_
 exact ⟨rfl, hS1⟩
theorem pub2_spec {B w : World} {L : List HP} {g g2 g5 : Nat} {D : Dk} {n t : Nat}  (hk : OkD D n t) (hn : n ≤ 1000000000) (ht : t ≤ 1099511627776) (hS : St B (dkA g D :: cel g2 [Value.pointer (some ⟨g, 0, none⟩)] 39 :: L) w) : Does Tryz.prog 46 [Value.pointer (some ⟨g2, 0, none⟩)] w (fun v w1 => v = .int .i64 (syncD D [110]).2 ∧ St B (dkA g ((syncD D [110]).1) :: cel g2 [Value.pointer (some ⟨g, 0, none⟩)] 39 :: L) w1) := by
 refine enter (n := 4) Tryz.func46 rfl rfl [Value.pointer (some ⟨g2, 0, none⟩)] rfl ?_
 refine WP.seq ?_
 refine WP.region rfl ?_
 refine WO.val (run_assign rfl) rfl rfl rfl ?_
 refine WO.nil ?_
 refine NX.go ?_
 refine WP.seq ?_
 refine WP.region rfl ?_
 refine WO.val (run_load Ty.ag39 rfl ((hS.cel_at 1 rfl 0).trans rfl)) rfl rfl rfl ?_
 refine WO.call rfl rfl Ty.hd47 rfl (dsync_spec hk.w [110] hS) (fun v2 w1 pv2 => ?_)
 obtain ⟨rfl, hS1⟩ := pv2
 clear hS
 refine WO.val (run_assign rfl) rfl rfl rfl ?_
 refine WO.nil ?_
 refine NX.go ?_
 refine WP.ret ?_
 refine NX.done (l := [.tmp 1]) rfl rfl ?_
 exact ⟨rfl, hS1⟩
theorem pub3_spec {B w : World} {L : List HP} {g g2 g5 : Nat} {D : Dk} {n t : Nat}  (hk : OkD D n t) (hn : n ≤ 1000000000) (ht : t ≤ 1099511627776) (hS : St B (dkA g D :: cel g2 [Value.pointer (some ⟨g, 0, none⟩)] 39 :: L) w) : Does Tryz.prog 48 [Value.pointer (some ⟨g2, 0, none⟩)] w (fun v w1 => v = .int .i64 (renameD D [110] [109]).2 ∧ St B (dkA g ((renameD D [110] [109]).1) :: cel g2 [Value.pointer (some ⟨g, 0, none⟩)] 39 :: L) w1) := by
 refine enter (n := 4) Tryz.func48 rfl rfl [Value.pointer (some ⟨g2, 0, none⟩)] rfl ?_
 refine WP.seq ?_
 refine WP.region rfl ?_
 refine WO.val (run_assign rfl) rfl rfl rfl ?_
 refine WO.nil ?_
 refine NX.go ?_
 refine WP.seq ?_
 refine WP.region rfl ?_
 refine WO.val (run_load Ty.ag39 rfl ((hS.cel_at 1 rfl 0).trans rfl)) rfl rfl rfl ?_
 refine WO.call rfl rfl Ty.hd49 rfl (drename_spec hk.w hk.b hn [110] [109] (by decide) hS) (fun v2 w1 pv2 => ?_)
 obtain ⟨rfl, hS1⟩ := pv2
 clear hS
 refine WO.val (run_assign rfl) rfl rfl rfl ?_
 refine WO.nil ?_
 refine NX.go ?_
 refine WP.ret ?_
 refine NX.done (l := [.tmp 1]) rfl rfl ?_
 exact ⟨rfl, hS1⟩
theorem pub4_spec {B w : World} {L : List HP} {g g2 g5 : Nat} {D : Dk} {n t : Nat}  (hk : OkD D n t) (hn : n ≤ 1000000000) (ht : t ≤ 1099511627776) (hS : St B (dkA g D :: cel g2 [Value.pointer (some ⟨g, 0, none⟩)] 39 :: L) w) : Does Tryz.prog 52 [Value.pointer (some ⟨g2, 0, none⟩)] w (fun v w1 => v = .int .i64 (removeD D [110]).2 ∧ St B (dkA g ((removeD D [110]).1) :: cel g2 [Value.pointer (some ⟨g, 0, none⟩)] 39 :: L) w1) := by
 refine enter (n := 4) Tryz.func52 rfl rfl [Value.pointer (some ⟨g2, 0, none⟩)] rfl ?_
 refine WP.seq ?_
 refine WP.region rfl ?_
 refine WO.val (run_assign rfl) rfl rfl rfl ?_
 refine WO.nil ?_
 refine NX.go ?_
 refine WP.seq ?_
 refine WP.region rfl ?_
 refine WO.val (run_load Ty.ag39 rfl ((hS.cel_at 1 rfl 0).trans rfl)) rfl rfl rfl ?_
 refine WO.call rfl rfl Ty.hd53 rfl (dremove_spec hk.w hk.b hn [110] hS) (fun v2 w1 pv2 => ?_)
 obtain ⟨rfl, hS1⟩ := pv2
 clear hS
 refine WO.val (run_assign rfl) rfl rfl rfl ?_
 refine WO.nil ?_
 refine NX.go ?_
 refine WP.ret ?_
 refine NX.done (l := [.tmp 1]) rfl rfl ?_
 exact ⟨rfl, hS1⟩

def valsP (g g2 g5 : Nat) : List Value := [Value.func (.func 45) #[] #[.pointer (some ⟨g2, 0, none⟩), .pointer (some ⟨g5, 0, none⟩)], Value.func (.func 46) #[] #[.pointer (some ⟨g2, 0, none⟩)], Value.func (.func 48) #[] #[.pointer (some ⟨g2, 0, none⟩)], Value.func (.func 50) #[.pointer (some ⟨g, 0, none⟩)] #[]]
def valsR (g g2 g5 : Nat) : List Value := Value.func (.func 52) #[] #[.pointer (some ⟨g2, 0, none⟩)] :: valsP g g2 g5
def CallOk (B : World) (L : List HP) (g g2 g5 n t : Nat) (s : List UInt8) (D : Dk) (w : World) (fv : Value) (f : Dk → Dk × Int) : Prop :=
  ∃ (F : Nat) (us cs : List Value), fv = .func (.func F) us.toArray cs.toArray ∧ Has Tryz.prog F ∧ Does Tryz.prog F (us ++ [] ++ cs) w (fun v w1 => v = .int .i64 (f D).2 ∧ St B (dkA g ((f D).1) :: cel g2 [Value.pointer (some ⟨g, 0, none⟩)] 39 :: cel g5 [str s] 9 :: L) w1) ∧ OkD (f D).1 (n + 1) (t + 100000)
theorem CallOk.two {B w : World} {L : List HP} {g g2 g5 n t F : Nat} {s : List UInt8} {D : Dk} {f : Dk → Dk × Int} {us cs : List Value} (hF : Has Tryz.prog F) (ho : OkD (f D).1 (n + 1) (t + 100000))
    (h : Does Tryz.prog F (us ++ [] ++ cs) w (fun v w1 => v = .int .i64 (f D).2 ∧ St B (dkA g ((f D).1) :: cel g2 [Value.pointer (some ⟨g, 0, none⟩)] 39 :: cel g5 [str s] 9 :: L) w1)) : CallOk B L g g2 g5 n t s D w (.func (.func F) us.toArray cs.toArray) f := ⟨F, us, cs, rfl, hF, h, ho⟩
theorem callP {B w : World} {L : List HP} {g g2 g5 n t i : Nat} {s : List UInt8} {D : Dk} {fv : Value} (hk : OkD D n t) (hn : n ≤ 1000000) (ht : t ≤ 1000000000) (hs : s.length ≤ 100000) (hi : (valsP g g2 g5)[i]? = some fv) (hS : St B (dkA g D :: cel g2 [Value.pointer (some ⟨g, 0, none⟩)] 39 :: cel g5 [str s] 9 :: L) w) :
    ∃ f, (stepsP s)[i]? = some f ∧ CallOk B L g g2 g5 n t s D w fv f := by
  match i with
  | 0 => cases hi; exact ⟨_, rfl, CallOk.two (us := []) (cs := [_, _]) Ty.hd45 (hk.append.mono (Nat.le_refl _) (by omega)) (pub1_spec (by omega) hk (by omega) (by omega) hS)⟩
  | 1 => cases hi; exact ⟨_, rfl, CallOk.two (us := []) (cs := [_]) Ty.hd46 (hk.sync.mono (by omega) (by omega)) (pub2_spec (g5 := g5) hk (by omega) (by omega) hS)⟩
  | 2 => cases hi; exact ⟨_, rfl, CallOk.two (us := []) (cs := [_]) Ty.hd48 (hk.rename.mono (by omega) (by omega)) (pub3_spec (g5 := g5) hk (by omega) (by omega) hS)⟩
  | 3 => cases hi; exact ⟨_, rfl, CallOk.two (us := [_]) (cs := []) Ty.hd50 (hk.syncNames.mono (by omega) (by omega)) (dsyncNames_spec hk.w hS)⟩
  | i + 4 => cases hi
theorem callR {B w : World} {L : List HP} {g g2 g5 n t i : Nat} {s : List UInt8} {D : Dk} {fv : Value} (hk : OkD D n t) (hn : n ≤ 1000000) (ht : t ≤ 1000000000) (hs : s.length ≤ 100000) (hi : (valsR g g2 g5)[i]? = some fv) (hS : St B (dkA g D :: cel g2 [Value.pointer (some ⟨g, 0, none⟩)] 39 :: cel g5 [str s] 9 :: L) w) :
    ∃ f, (stepsR s)[i]? = some f ∧ CallOk B L g g2 g5 n t s D w fv f := by
  match i with
  | 0 => cases hi; exact ⟨_, rfl, CallOk.two (us := []) (cs := [_]) Ty.hd52 (hk.remove.mono (by omega) (by omega)) (pub4_spec (g5 := g5) hk (by omega) (by omega) hS)⟩
  | i + 1 => exact callP hk hn ht hs (i := i) hi hS
end Go.Proofs.YtcehlnpbdffdhaaGreatDoor.SL
