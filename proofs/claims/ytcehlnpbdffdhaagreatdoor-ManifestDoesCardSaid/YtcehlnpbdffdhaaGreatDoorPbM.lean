import Derived.Test.YtcehlnpbdffdhaaGreatDoorDk2M
import Derived.Test.YtcehlnpbdffdhaaGreatDoorKxM
/- A manifest is published: the steps. -/
namespace Go.Proofs.YtcehlnpbdffdhaaGreatDoor.SL
open Go.RowKit Go.Proofs.YtcehlnpbdffdhaaGreatDoor
open Go.Proofs.YtcehlnpbdffdhaaGreatDoorW.PrintLast (rtab opsOf)
set_option linter.unusedVariables false
set_option linter.unusedSimpArgs false

def stepsP (s : List UInt8) : List (Dk → Dk × Int) := [fun D => appendD D [110] s, fun D => syncD D [110], fun D => renameD D [110] [109], syncNamesD]
def stepsR (s : List UInt8) : List (Dk → Dk × Int) := (fun D => removeD D [110]) :: stepsP s
def runD : List (Dk → Dk × Int) → Dk → Dk × Int
  | [], D => (D, 0)
  | f :: l, D => if (f D).2 = 0 then runD l (f D).1 else f D
def publishD (D : Dk) (m : Man) : Dk × Int := if ¬ (encM m).2 = 0 then (D, (encM m).2) else if (readD D [110]).2 = 0 then runD (stepsR (encM m).1) D else runD (stepsP (encM m).1) D
theorem runD_step {fs : List (Dk → Dk × Int)} {i : Nat} {f : Dk → Dk × Int} {D : Dk} (h : fs[i]? = some f) : runD (fs.drop i) D = if (f D).2 = 0 then runD (fs.drop (i + 1)) (f D).1 else f D := by
  obtain ⟨hi, he⟩ := List.getElem?_eq_some_iff.1 h
  rw [List.drop_eq_getElem_cons hi, he]; rfl
theorem pub1_spec {B w : World} {L : List HP} {g g2 g5 : Nat} {D : Dk} {n t : Nat} {s : List UInt8} (hs : s.length ≤ 140737488355328) (hk : OkD D n t) (hn : n ≤ 1000000000) (ht : t ≤ 1099511627776) (hS : St B (dkA g D :: cel g2 [Value.pointer (some ⟨g, 0, none⟩)] 39 :: cel g5 [str s] 9 :: L) w) : Does Tryz.prog 45 [Value.pointer (some ⟨g2, 0, none⟩), Value.pointer (some ⟨g5, 0, none⟩)] w (fun v w1 => v = .int .i64 (appendD D [110] s).2 ∧ St B (dkA g ((appendD D [110] s).1) :: cel g2 [Value.pointer (some ⟨g, 0, none⟩)] 39 :: cel g5 [str s] 9 :: L) w1) := by
 refine enter (n := 6) Tryz.func45 rfl rfl [Value.pointer (some ⟨g2, 0, none⟩), Value.pointer (some ⟨g5, 0, none⟩)] rfl ?_
 refine WP.seq (WP.region rfl ?_)
 refine WO.asg rfl rfl ?_
 refine WO.nil (NX.go (WP.seq (WP.region rfl ?_)))
 refine WO.val (run_load Ty.ag39 rfl ((hS.cel_at 1 rfl 0).trans rfl)) rfl rfl rfl ?_
 refine WO.val (run_load Ty.ag9 rfl ((hS.cel_at 2 rfl 0).trans rfl)) rfl rfl rfl ?_
 refine WO.call rfl rfl Ty.hd23 rfl (dappend_spec hk.w hk.b hn ht [110] s (by decide) hs hS) (fun v2 w1 pv2 => ?_)
 obtain ⟨rfl, hS1⟩ := pv2
 clear hS
 refine WO.asg rfl rfl ?_
 refine WO.nil (NX.go (WP.ret ?_))
 refine NX.done (l := [.tmp 2]) rfl rfl ?_
 exact ⟨rfl, hS1⟩
theorem pub2_spec {B w : World} {L : List HP} {g g2 g5 : Nat} {D : Dk} {n t : Nat}  (hk : OkD D n t) (hn : n ≤ 1000000000) (ht : t ≤ 1099511627776) (hS : St B (dkA g D :: cel g2 [Value.pointer (some ⟨g, 0, none⟩)] 39 :: L) w) : Does Tryz.prog 46 [Value.pointer (some ⟨g2, 0, none⟩)] w (fun v w1 => v = .int .i64 (syncD D [110]).2 ∧ St B (dkA g ((syncD D [110]).1) :: cel g2 [Value.pointer (some ⟨g, 0, none⟩)] 39 :: L) w1) := by
 refine enter (n := 4) Tryz.func46 rfl rfl [Value.pointer (some ⟨g2, 0, none⟩)] rfl ?_
 refine WP.seq (WP.region rfl ?_)
 refine WO.asg rfl rfl ?_
 refine WO.nil (NX.go (WP.seq (WP.region rfl ?_)))
 refine WO.val (run_load Ty.ag39 rfl ((hS.cel_at 1 rfl 0).trans rfl)) rfl rfl rfl ?_
 refine WO.call rfl rfl Ty.hd47 rfl (dsync_spec hk.w [110] hS) (fun v2 w1 pv2 => ?_)
 obtain ⟨rfl, hS1⟩ := pv2
 clear hS
 refine WO.asg rfl rfl ?_
 refine WO.nil (NX.go (WP.ret ?_))
 refine NX.done (l := [.tmp 1]) rfl rfl ?_
 exact ⟨rfl, hS1⟩
theorem pub3_spec {B w : World} {L : List HP} {g g2 g5 : Nat} {D : Dk} {n t : Nat}  (hk : OkD D n t) (hn : n ≤ 1000000000) (ht : t ≤ 1099511627776) (hS : St B (dkA g D :: cel g2 [Value.pointer (some ⟨g, 0, none⟩)] 39 :: L) w) : Does Tryz.prog 48 [Value.pointer (some ⟨g2, 0, none⟩)] w (fun v w1 => v = .int .i64 (renameD D [110] [109]).2 ∧ St B (dkA g ((renameD D [110] [109]).1) :: cel g2 [Value.pointer (some ⟨g, 0, none⟩)] 39 :: L) w1) := by
 refine enter (n := 4) Tryz.func48 rfl rfl [Value.pointer (some ⟨g2, 0, none⟩)] rfl ?_
 refine WP.seq (WP.region rfl ?_)
 refine WO.asg rfl rfl ?_
 refine WO.nil (NX.go (WP.seq (WP.region rfl ?_)))
 refine WO.val (run_load Ty.ag39 rfl ((hS.cel_at 1 rfl 0).trans rfl)) rfl rfl rfl ?_
 refine WO.call rfl rfl Ty.hd49 rfl (drename_spec hk.w hk.b hn [110] [109] (by decide) hS) (fun v2 w1 pv2 => ?_)
 obtain ⟨rfl, hS1⟩ := pv2
 clear hS
 refine WO.asg rfl rfl ?_
 refine WO.nil (NX.go (WP.ret ?_))
 refine NX.done (l := [.tmp 1]) rfl rfl ?_
 exact ⟨rfl, hS1⟩
theorem pub4_spec {B w : World} {L : List HP} {g g2 g5 : Nat} {D : Dk} {n t : Nat}  (hk : OkD D n t) (hn : n ≤ 1000000000) (ht : t ≤ 1099511627776) (hS : St B (dkA g D :: cel g2 [Value.pointer (some ⟨g, 0, none⟩)] 39 :: L) w) : Does Tryz.prog 52 [Value.pointer (some ⟨g2, 0, none⟩)] w (fun v w1 => v = .int .i64 (removeD D [110]).2 ∧ St B (dkA g ((removeD D [110]).1) :: cel g2 [Value.pointer (some ⟨g, 0, none⟩)] 39 :: L) w1) := by
 refine enter (n := 4) Tryz.func52 rfl rfl [Value.pointer (some ⟨g2, 0, none⟩)] rfl ?_
 refine WP.seq (WP.region rfl ?_)
 refine WO.asg rfl rfl ?_
 refine WO.nil (NX.go (WP.seq (WP.region rfl ?_)))
 refine WO.val (run_load Ty.ag39 rfl ((hS.cel_at 1 rfl 0).trans rfl)) rfl rfl rfl ?_
 refine WO.call rfl rfl Ty.hd53 rfl (dremove_spec hk.w hk.b hn [110] hS) (fun v2 w1 pv2 => ?_)
 obtain ⟨rfl, hS1⟩ := pv2
 clear hS
 refine WO.asg rfl rfl ?_
 refine WO.nil (NX.go (WP.ret ?_))
 refine NX.done (l := [.tmp 1]) rfl rfl ?_
 exact ⟨rfl, hS1⟩

def valsP (g g2 g5 : Nat) : List Value := [Value.func (.func 45) #[] #[.pointer (some ⟨g2, 0, none⟩), .pointer (some ⟨g5, 0, none⟩)], Value.func (.func 46) #[] #[.pointer (some ⟨g2, 0, none⟩)], Value.func (.func 48) #[] #[.pointer (some ⟨g2, 0, none⟩)], Value.func (.func 50) #[.pointer (some ⟨g, 0, none⟩)] #[]]
def valsR (g g2 g5 : Nat) : List Value := Value.func (.func 52) #[] #[.pointer (some ⟨g2, 0, none⟩)] :: valsP g g2 g5
def CallOk (B : World) (L : List HP) (g g2 g5 n t : Nat) (s : List UInt8) (D : Dk) (w : World) (fv : Value) (f : Dk → Dk × Int) : Prop :=
  ∃ (F : Nat) (us cs : List Value), fv = .func (.func F) us.toArray cs.toArray ∧ Has Tryz.prog F ∧ Does Tryz.prog F (us ++ [] ++ cs) w (fun v w1 => v = .int .i64 (f D).2 ∧ St B (dkA g ((f D).1) :: cel g2 [Value.pointer (some ⟨g, 0, none⟩)] 39 :: cel g5 [str s] 9 :: L) w1) ∧ OkD (f D).1 (n + 1) (t + 100000)
theorem CallOk.two {B w : World} {L : List HP} {g g2 g5 n t F : Nat} {s : List UInt8} {D : Dk} {f : Dk → Dk × Int} {us cs : List Value} (hF : Has Tryz.prog F) (ho : OkD (f D).1 (n + 1) (t + 100000))
    (h : Does Tryz.prog F (us ++ [] ++ cs) w (fun v w1 => v = .int .i64 (f D).2 ∧ St B (dkA g ((f D).1) :: cel g2 [Value.pointer (some ⟨g, 0, none⟩)] 39 :: cel g5 [str s] 9 :: L) w1)) : CallOk B L g g2 g5 n t s D w (.func (.func F) us.toArray cs.toArray) f := ⟨F, us, cs, rfl, hF, h, ho⟩
theorem callP {B w : World} {L : List HP} {g g2 g5 n t i : Nat} {s : List UInt8} {D : Dk} {fv : Value} (hk : OkD D n t) (hn : n ≤ 1000000) (ht : t ≤ 1000000000) (hs : s.length ≤ 100000) (hi : (valsP g g2 g5)[i]? = some fv) (hS : St B (dkA g D :: cel g2 [Value.pointer (some ⟨g, 0, none⟩)] 39 :: cel g5 [str s] 9 :: L) w) :
    ∃ f, (stepsP s)[i]? = some f ∧ CallOk B L g g2 g5 n t s D w fv f := by
  match i with
  | 0 => cases hi; exact ⟨_, rfl, CallOk.two (us := []) (cs := [_, _]) Ty.hd45 (hk.append.mono (Nat.le_refl _) (by omega)) (pub1_spec (by omega) hk (by omega) (by omega) hS)⟩
  | 1 => cases hi; exact ⟨_, rfl, CallOk.two (us := []) (cs := [_]) Ty.hd46 (hk.sync.mono (by omega) (by omega)) (pub2_spec (g5 := g5) hk (by omega) (by omega) hS)⟩
  | 2 => cases hi; exact ⟨_, rfl, CallOk.two (us := []) (cs := [_]) Ty.hd48 (hk.rename.mono (by omega) (by omega)) (pub3_spec (g5 := g5) hk (by omega) (by omega) hS)⟩
  | 3 => cases hi; exact ⟨_, rfl, CallOk.two (us := [_]) (cs := []) Ty.hd50 (hk.syncNames.mono (by omega) (by omega)) (dsyncNames_spec hk.w hS)⟩
  | i + 4 => cases hi
theorem callR {B w : World} {L : List HP} {g g2 g5 n t i : Nat} {s : List UInt8} {D : Dk} {fv : Value} (hk : OkD D n t) (hn : n ≤ 1000000) (ht : t ≤ 1000000000) (hs : s.length ≤ 100000) (hi : (valsR g g2 g5)[i]? = some fv) (hS : St B (dkA g D :: cel g2 [Value.pointer (some ⟨g, 0, none⟩)] 39 :: cel g5 [str s] 9 :: L) w) :
    ∃ f, (stepsR s)[i]? = some f ∧ CallOk B L g g2 g5 n t s D w fv f := by
  match i with
  | 0 => cases hi; exact ⟨_, rfl, CallOk.two (us := []) (cs := [_]) Ty.hd52 (hk.remove.mono (by omega) (by omega)) (pub4_spec (g5 := g5) hk (by omega) (by omega) hS)⟩
  | i + 1 => exact callP hk hn ht hs (i := i) hi hS
end Go.Proofs.YtcehlnpbdffdhaaGreatDoor.SL

/- A manifest is published. -/
namespace Go.Proofs.YtcehlnpbdffdhaaGreatDoor.SL
open Go.RowKit Go.Proofs.YtcehlnpbdffdhaaGreatDoor
open Go.Proofs.YtcehlnpbdffdhaaGreatDoorW.PrintLast (rtab opsOf)
set_option linter.unusedVariables false
set_option linter.unusedSimpArgs false
theorem publish_spec {B w : World} {L : List HP} {X : HP} {a : Option Addr} {cap : Nat} {m : Man} {g n t : Nat} {D : Dk} (hX : ∀ {L : List HP} {w : World}, St B (X :: L) w → Rd w a m.bl.length 1 (m.bl.map str)) (hr : RngM m) (hk : OkD D n t) (hn : n ≤ 100000) (ht : t ≤ 100000000) (hel : (encM m).1.length ≤ 100000) (hS : St B (dkA g D :: X :: L) w) : Does Tryz.prog 17 [Value.pointer (some ⟨g, 0, none⟩), Value.agg #[Value.int .i64 m.e, Value.int .i64 m.b, Value.int .i64 m.p, Value.int .i64 m.k, Value.int .i64 m.c, Value.slice a m.bl.length cap]] w (fun v w1 => v = .int .i64 (publishD D m).2 ∧ St B (dkA g (publishD D m).1 :: X :: L) w1) := by
 refine enter (n := 50) Tryz.func17 rfl rfl [Value.pointer (some ⟨g, 0, none⟩), Value.agg #[Value.int .i64 m.e, Value.int .i64 m.b, Value.int .i64 m.p, Value.int .i64 m.k, Value.int .i64 m.c, Value.slice a m.bl.length cap]] rfl ?_
 refine WP.seq (WP.region rfl ?_)
 refine WO.box (l := [Value.pointer (some ⟨g, 0, none⟩)]) hS rfl rfl rfl (fun g2 w1 lg2 hS1 => ?_)
 clear hS
 refine WO.box (l := [Value.int .i64 m.e, Value.int .i64 m.b, Value.int .i64 m.p, Value.int .i64 m.k, Value.int .i64 m.c, Value.slice a m.bl.length cap]) hS1 rfl rfl rfl (fun g4 w3 lg4 hS3 => ?_)
 clear hS1
 refine WO.asg rfl rfl ?_
 refine WO.nil (NX.go (WP.seq (WP.region rfl ?_)))
 refine WO.val (run_loadAgg (vs := [Value.int .i64 m.e, Value.int .i64 m.b, Value.int .i64 m.p, Value.int .i64 m.k, Value.int .i64 m.c, Value.slice a m.bl.length cap]) Ty.ag30 Ty.sz30 rfl rfl (cell_all (hS3.cel_at 0 rfl) 0 rfl)) rfl rfl rfl ?_
 have hS5 := hS3.permT [3, 0, 0, 0] (L' := X :: cel g4 [Value.int .i64 m.e, Value.int .i64 m.b, Value.int .i64 m.p, Value.int .i64 m.k, Value.int .i64 m.c, Value.slice a m.bl.length cap] 30 :: cel g2 [Value.pointer (some ⟨g, 0, none⟩)] 39 :: dkA g D :: L) rfl
 clear hS3
 refine WO.call rfl rfl Ty.hd10 rfl (encM_spec (m := m) hX hr hS5) (fun v7 w6 pv7 => ?_)
 obtain ⟨rfl, hS6⟩ := pv7
 clear hS5
 refine WO.mv rfl rfl ?_
 refine WO.val (run_extract rfl rfl) rfl rfl rfl ?_
 refine WO.val (run_extract rfl rfl) rfl rfl rfl ?_
 refine WO.alloc (l := [str []]) hS6 Ty.zr9 rfl rfl (fun g9 w8 lg9 hS8 => ?_)
 clear hS6
 refine WO.store (l' := [str ((encM m).1)]) 0 hS8 rfl Ty.sz9 rfl rfl rfl rfl rfl (Nat.le_of_ble_eq_true rfl) rfl (fun w10 (hS10 : St B (cel g9 [str ((encM m).1)] 9 :: X :: cel g4 [Value.int .i64 m.e, Value.int .i64 m.b, Value.int .i64 m.p, Value.int .i64 m.k, Value.int .i64 m.c, Value.slice a m.bl.length cap] 30 :: cel g2 [Value.pointer (some ⟨g, 0, none⟩)] 39 :: dkA g D :: L) w10) => ?_)
 clear hS8
 refine WO.asg rfl rfl ?_
 refine WO.nil (NX.go (WP.seq (WP.seq (WP.region rfl ?_))))
 refine WO.mv rfl rfl ?_
 refine WO.val (run_neq rfl rfl) rfl rfl rfl ?_
 refine WO.nil (NX.go ?_)
 refine WP.condP rfl (fun g19 => ?_) (fun g19 => ?_)
 ·
  refine WP.seq (WP.region rfl ?_)
  refine WO.mv rfl rfl ?_
  refine WO.asg rfl rfl ?_
  refine WO.nil (NX.go (WP.ret (NX.thenRet ?_)))
  refine NX.done (l := [.tmp 4]) rfl rfl ?_
  have e0 : publishD D m = (D, (encM m).2) := by unfold publishD; rw [if_pos g19]
  rw [e0]
  exact ⟨rfl, (hS10.permT [0, 1, 1, 1, 0] (L' := cel g9 [str ((encM m).1)] 9 :: cel g4 [Value.int .i64 m.e, Value.int .i64 m.b, Value.int .i64 m.p, Value.int .i64 m.k, Value.int .i64 m.c, Value.slice a m.bl.length cap] 30 :: cel g2 [Value.pointer (some ⟨g, 0, none⟩)] 39 :: dkA g D :: X :: L) rfl).drop.drop.drop⟩
 ·
  refine WP.skip (NX.go (WP.seq (WP.region rfl ?_)))
  refine WO.val (run_makeFunc rfl rfl) rfl rfl rfl ?_
  refine WO.val (run_makeFunc rfl rfl) rfl rfl rfl ?_
  refine WO.val (run_makeFunc rfl rfl) rfl rfl rfl ?_
  refine WO.val (run_load Ty.ag39 rfl ((hS10.cel_at 3 rfl 0).trans rfl)) rfl rfl rfl ?_
  refine WO.val (run_makeFunc rfl rfl) rfl rfl rfl ?_
  refine WO.buildSlice (l := [Value.func (.func 45) #[] #[Value.pointer (some ⟨g2, 0, none⟩), Value.pointer (some ⟨g9, 0, none⟩)], Value.func (.func 46) #[] #[Value.pointer (some ⟨g2, 0, none⟩)], Value.func (.func 48) #[] #[Value.pointer (some ⟨g2, 0, none⟩)], Value.func (.func 50) #[Value.pointer (some ⟨g, 0, none⟩)] #[]]) hS10 Tryz.underlying86 rfl (fun w => by kernel_rfl) rfl (fun g12 w11 lg12 hS11 => ?_)
  clear hS10
  have hS11 := hS11.own_of_cel (m := 4) (k := 1) rfl
  replace hS11 : St B (own (some ⟨g12, 0, none⟩) 4 4 84 1 (valsP g g2 g9) :: cel g9 [str ((encM m).1)] 9 :: X :: cel g4 [Value.int .i64 m.e, Value.int .i64 m.b, Value.int .i64 m.p, Value.int .i64 m.k, Value.int .i64 m.c, Value.slice a m.bl.length cap] 30 :: cel g2 [Value.pointer (some ⟨g, 0, none⟩)] 39 :: dkA g D :: L) w11 := hS11
  refine WO.asg rfl rfl ?_
  refine WO.nil (NX.go (WP.seq (WP.seq (WP.region rfl ?_))))
  refine WO.val (run_load Ty.ag39 rfl ((hS11.cel_at 4 rfl 0).trans rfl)) rfl rfl rfl ?_
  have hS13 := hS11.permT [5, 0, 0, 0, 0, 0] (L' := dkA g D :: own (some ⟨g12, 0, none⟩) 4 4 84 1 (valsP g g2 g9) :: cel g9 [str ((encM m).1)] 9 :: X :: cel g4 [Value.int .i64 m.e, Value.int .i64 m.b, Value.int .i64 m.p, Value.int .i64 m.k, Value.int .i64 m.c, Value.slice a m.bl.length cap] 30 :: cel g2 [Value.pointer (some ⟨g, 0, none⟩)] 39 :: L) rfl
  clear hS11
  refine WO.call rfl rfl Ty.hd51 rfl (dread_spec hk.w [110] hS13) (fun v15 w14 pv15 => ?_)
  obtain ⟨rfl, hS14⟩ := pv15
  clear hS13
  refine WO.mv rfl rfl ?_
  refine WO.val (run_extract rfl rfl) rfl rfl rfl ?_
  refine WO.val (run_extract rfl rfl) rfl rfl rfl ?_
  refine WO.asg rfl rfl ?_
  refine WO.asg rfl rfl ?_
  refine WO.nil (NX.go (WP.seq (WP.region rfl ?_)))
  refine WO.mv rfl rfl ?_
  refine WO.val (run_eql rfl rfl) rfl rfl rfl ?_
  refine WO.nil (NX.go ?_)
  refine WP.condP rfl (fun g33 => ?_) (fun g33 => ?_)
  ·
   refine WP.region rfl ?_
   refine WO.val (run_makeFunc rfl rfl) rfl rfl rfl ?_
   refine WO.buildSlice (l := [Value.func (.func 52) #[] #[Value.pointer (some ⟨g2, 0, none⟩)]]) hS14 Tryz.underlying86 rfl (fun w => by kernel_rfl) rfl (fun g17 w16 lg17 hS16 => ?_)
   clear hS14
   have hS16 := hS16.own_of_cel (m := 1) (k := 1) rfl
   refine WO.mv rfl rfl ?_
   refine WO.append (news := (valsP g g2 g9)) 0 rfl Tryz.underlying86 Tryz.underlying86 (fun _ h => by cases h) Ty.sz84 (by decide) Ty.by84 Ty.zr84 rfl rfl rfl rfl hS16 rfl ((hS16.own_rd_i 2 rfl).src) rfl (by omega) (by omega) (fun a19 c20 w18 hS18 => ?_)
   replace hS18 : St B (own a19 5 c20 84 1 (valsR g g2 g9) :: dkA g D :: own (some ⟨g12, 0, none⟩) 4 4 84 1 (valsP g g2 g9) :: cel g9 [str ((encM m).1)] 9 :: X :: cel g4 [Value.int .i64 m.e, Value.int .i64 m.b, Value.int .i64 m.p, Value.int .i64 m.k, Value.int .i64 m.c, Value.slice a m.bl.length cap] 30 :: cel g2 [Value.pointer (some ⟨g, 0, none⟩)] 39 :: L) w18 := hS18
   refine WO.as (d := 37) (v := Value.slice a19 5 c20) rfl rfl ?_
   clear hS16
   refine WO.asg rfl rfl ?_
   refine WO.nil (NX.go (WP.seq (WP.seq (WP.region rfl ?_))))
   refine WO.mv rfl rfl ?_
   refine WO.val (run_len rfl Tryz.underlying86 rfl) rfl rfl rfl ?_
   refine WO.mv rfl rfl ?_
   refine WO.nil (NX.go (WP.block ?_))
   refine WP.loop (α := Nat × Dk × Nat × Nat) (fun x => match x with | ⟨i, Dq, nq, tq⟩ => [(38, Value.slice a19 5 c20), (39, Value.int .i64 (5 : Int)), (40, Value.int .i64 (i : Int))]) (fun x w => match x with | ⟨i, Dq, nq, tq⟩ => (i ≤ 5 ∧ OkD Dq nq tq ∧ nq ≤ n + i ∧ tq ≤ t + 100000 * i ∧ publishD D m = runD ((stepsR (encM m).1).drop i) Dq) ∧ St B (own a19 5 c20 84 1 (valsR g g2 g9) :: dkA g Dq :: own (some ⟨g12, 0, none⟩) 4 4 84 1 (valsP g g2 g9) :: cel g9 [str ((encM m).1)] 9 :: X :: cel g4 [Value.int .i64 m.e, Value.int .i64 m.b, Value.int .i64 m.p, Value.int .i64 m.k, Value.int .i64 m.c, Value.slice a m.bl.length cap] 30 :: cel g2 [Value.pointer (some ⟨g, 0, none⟩)] 39 :: L) w) (fun x => match x with | ⟨i, Dq, nq, tq⟩ => 5 - i) (0, D, n, t) ⟨⟨Nat.zero_le _, hk, Nat.le_refl _, Nat.le_refl _, by unfold publishD; rw [if_neg g19, if_pos g33]; rfl⟩, hS18⟩ (Sub.cons rfl (Sub.cons rfl (Sub.consE rfl (by first | rfl | first | rfl | (congr 1; omega) | (simp; done) | (simp; omega)) (Sub.nil _)))) ?_
   rintro ⟨i, Dq, nq, tq⟩ w21 ⟨⟨hi, hkq, hnq, htq, hp⟩, hS21⟩
   clear hS18
   refine WP.seq (WP.region rfl ?_)
   refine WO.val (run_lss rfl rfl) rfl rfl rfl ?_
   refine WO.nil (NX.go (WP.seq ?_))
   refine WP.condP rfl (fun g41 => ?_) (fun g41 => ?_)
   ·
    refine WP.skip (NX.go (WP.seq (WP.block (WP.seq ?_))))
    obtain ⟨fv, hv0⟩ : ∃ fv, (valsR g g2 g9)[i]? = some fv := ⟨_, List.getElem?_eq_getElem (by show i < 5; omega)⟩
    refine WP.region rfl ?_
    refine WO.val (run_indexAddr (q := adr a19 i) Tryz.underlying86 Ty.sz84 rfl rfl (by omega) (by omega) ((hS21.own_rd_i 0 rfl).2.1 (by omega)) (by simp)) rfl rfl rfl ?_
    refine WO.val (run_load Ty.ag84 rfl ((hS21.own_rd_i 0 rfl).cell hv0)) rfl rfl rfl ?_
    refine WO.asg rfl rfl ?_
    refine WO.nil (NX.go (WP.seq (WP.region rfl ?_)))
    refine WO.mv rfl rfl ?_
    obtain ⟨f, hf, F, us, cs, hfv, hF, hD, hok⟩ := callR hkq (by omega) (by omega) hel hv0 (hS21.permT [1, 5, 2, 0, 0, 0, 0] (L' := dkA g Dq :: cel g2 [Value.pointer (some ⟨g, 0, none⟩)] 39 :: cel g9 [str ((encM m).1)] 9 :: own a19 5 c20 84 1 (valsR g g2 g9) :: own (some ⟨g12, 0, none⟩) 4 4 84 1 (valsP g g2 g9) :: X :: cel g4 [Value.int .i64 m.e, Value.int .i64 m.b, Value.int .i64 m.p, Value.int .i64 m.k, Value.int .i64 m.c, Value.slice a m.bl.length cap] 30 :: L) rfl)
    subst hfv
    refine WO.callV (us := us) (cs := cs) rfl rfl hF rfl hD (fun v23 w22 pv23 => ?_)
    obtain ⟨rfl, hS22⟩ := pv23
    clear hS21
    refine WO.asg rfl rfl ?_
    refine WO.nil (NX.go (WP.seq (WP.region rfl ?_)))
    refine WO.mv rfl rfl ?_
    refine WO.val (run_neq rfl rfl) rfl rfl rfl ?_
    refine WO.nil (NX.go ?_)
    refine WP.condP rfl (fun g47 => ?_) (fun g47 => ?_)
    ·
     refine WP.seq (WP.region rfl ?_)
     refine WO.mv rfl rfl ?_
     refine WO.asg rfl rfl ?_
     refine WO.nil (NX.go (WP.ret (NX.blkRet (NX.thenRet (NX.thenRet (NX.blkRet (NX.thenRet ?_)))))))
     refine NX.done (l := [.tmp 4]) rfl rfl ?_
     have e0 : publishD D m = f Dq := by rw [hp, runD_step hf, if_neg g47]
     rw [e0]
     exact ⟨rfl, (hS22.permT [1, 1, 1, 1, 2, 0, 0] (L' := cel g2 [Value.pointer (some ⟨g, 0, none⟩)] 39 :: cel g9 [str ((encM m).1)] 9 :: own a19 5 c20 84 1 (valsR g g2 g9) :: own (some ⟨g12, 0, none⟩) 4 4 84 1 (valsP g g2 g9) :: cel g4 [Value.int .i64 m.e, Value.int .i64 m.b, Value.int .i64 m.p, Value.int .i64 m.k, Value.int .i64 m.c, Value.slice a m.bl.length cap] 30 :: dkA g ((f Dq).1) :: X :: L) rfl).drop.drop.drop.drop.drop⟩
    ·
     refine WP.skip (NX.blk (NX.go (WP.region rfl ?_)))
     refine WO.val (run_add rfl rfl (IntWalk.i64_in _ (by omega))) rfl rfl rfl ?_
     refine WO.mv rfl rfl ?_
     refine WO.nil ?_
     exact NX.again (i + 1, (f Dq).1, nq + 1, tq + 100000) ⟨⟨by omega, hok, by omega, by omega, by rw [hp, runD_step hf, if_pos (Decidable.of_not_not g47)]⟩, (hS22.permT [3, 0, 2, 1, 1, 1, 0] (L' := own a19 5 c20 84 1 (valsR g g2 g9) :: dkA g ((f Dq).1) :: own (some ⟨g12, 0, none⟩) 4 4 84 1 (valsP g g2 g9) :: cel g9 [str ((encM m).1)] 9 :: X :: cel g4 [Value.int .i64 m.e, Value.int .i64 m.b, Value.int .i64 m.p, Value.int .i64 m.k, Value.int .i64 m.c, Value.slice a m.bl.length cap] 30 :: cel g2 [Value.pointer (some ⟨g, 0, none⟩)] 39 :: L) rfl)⟩ (by show 5 - (i + 1) < 5 - i; omega) (Sub.cons rfl (Sub.cons rfl (Sub.consE rfl (by congr 1) (Sub.nil _))))
   ·
    refine WP.exit (NX.thenExit (NX.thenExit ?_))
    refine NX.blkExit ?_
    refine NX.go (WP.seq (WP.region rfl ?_))
    refine WO.asg rfl rfl ?_
    refine WO.nil (NX.go (WP.ret ?_))
    refine NX.done (l := [.tmp 4]) rfl rfl ?_
    have hin : i = 5 := by omega
    subst hin
    have e0 : publishD D m = (Dq, 0) := by rw [hp]; rfl
    rw [e0]
    exact ⟨rfl, (hS21.permT [0, 1, 1, 2, 2, 0, 0] (L' := own a19 5 c20 84 1 (valsR g g2 g9) :: own (some ⟨g12, 0, none⟩) 4 4 84 1 (valsP g g2 g9) :: cel g9 [str ((encM m).1)] 9 :: cel g4 [Value.int .i64 m.e, Value.int .i64 m.b, Value.int .i64 m.p, Value.int .i64 m.k, Value.int .i64 m.c, Value.slice a m.bl.length cap] 30 :: cel g2 [Value.pointer (some ⟨g, 0, none⟩)] 39 :: dkA g Dq :: X :: L) rfl).drop.drop.drop.drop.drop⟩
  ·
   refine WP.skip (NX.go (WP.seq (WP.seq (WP.region rfl ?_))))
   refine WO.mv rfl rfl ?_
   refine WO.val (run_len rfl Tryz.underlying86 rfl) rfl rfl rfl ?_
   refine WO.mv rfl rfl ?_
   refine WO.nil (NX.go (WP.block ?_))
   refine WP.loop (α := Nat × Dk × Nat × Nat) (fun x => match x with | ⟨i, Dq, nq, tq⟩ => [(38, Value.slice (some ⟨g12, 0, none⟩) 4 4), (39, Value.int .i64 (4 : Int)), (40, Value.int .i64 (i : Int))]) (fun x w => match x with | ⟨i, Dq, nq, tq⟩ => (i ≤ 4 ∧ OkD Dq nq tq ∧ nq ≤ n + i ∧ tq ≤ t + 100000 * i ∧ publishD D m = runD ((stepsP (encM m).1).drop i) Dq) ∧ St B (dkA g Dq :: own (some ⟨g12, 0, none⟩) 4 4 84 1 (valsP g g2 g9) :: cel g9 [str ((encM m).1)] 9 :: X :: cel g4 [Value.int .i64 m.e, Value.int .i64 m.b, Value.int .i64 m.p, Value.int .i64 m.k, Value.int .i64 m.c, Value.slice a m.bl.length cap] 30 :: cel g2 [Value.pointer (some ⟨g, 0, none⟩)] 39 :: L) w) (fun x => match x with | ⟨i, Dq, nq, tq⟩ => 4 - i) (0, D, n, t) ⟨⟨Nat.zero_le _, hk, Nat.le_refl _, Nat.le_refl _, by unfold publishD; rw [if_neg g19, if_neg g33]; rfl⟩, hS14⟩ (Sub.cons rfl (Sub.cons rfl (Sub.consE rfl (by first | rfl | first | rfl | (congr 1; omega) | (simp; done) | (simp; omega)) (Sub.nil _)))) ?_
   rintro ⟨i, Dq, nq, tq⟩ w24 ⟨⟨hi, hkq, hnq, htq, hp⟩, hS24⟩
   clear hS14
   refine WP.seq (WP.region rfl ?_)
   refine WO.val (run_lss rfl rfl) rfl rfl rfl ?_
   refine WO.nil (NX.go (WP.seq ?_))
   refine WP.condP rfl (fun g41 => ?_) (fun g41 => ?_)
   ·
    refine WP.skip (NX.go (WP.seq (WP.block (WP.seq ?_))))
    obtain ⟨fv, hv0⟩ : ∃ fv, (valsP g g2 g9)[i]? = some fv := ⟨_, List.getElem?_eq_getElem (by show i < 4; omega)⟩
    refine WP.region rfl ?_
    refine WO.val (run_indexAddr (q := adr (some ⟨g12, 0, none⟩) i) Tryz.underlying86 Ty.sz84 rfl rfl (by omega) (by omega) ((hS24.own_rd_i 1 rfl).2.1 (by omega)) (by simp)) rfl rfl rfl ?_
    refine WO.val (run_load Ty.ag84 rfl ((hS24.own_rd_i 1 rfl).cell hv0)) rfl rfl rfl ?_
    refine WO.asg rfl rfl ?_
    refine WO.nil (NX.go (WP.seq (WP.region rfl ?_)))
    refine WO.mv rfl rfl ?_
    obtain ⟨f, hf, F, us, cs, hfv, hF, hD, hok⟩ := callP hkq (by omega) (by omega) hel hv0 (hS24.permT [0, 4, 1, 0, 0, 0] (L' := dkA g Dq :: cel g2 [Value.pointer (some ⟨g, 0, none⟩)] 39 :: cel g9 [str ((encM m).1)] 9 :: own (some ⟨g12, 0, none⟩) 4 4 84 1 (valsP g g2 g9) :: X :: cel g4 [Value.int .i64 m.e, Value.int .i64 m.b, Value.int .i64 m.p, Value.int .i64 m.k, Value.int .i64 m.c, Value.slice a m.bl.length cap] 30 :: L) rfl)
    subst hfv
    refine WO.callV (us := us) (cs := cs) rfl rfl hF rfl hD (fun v26 w25 pv26 => ?_)
    obtain ⟨rfl, hS25⟩ := pv26
    clear hS24
    refine WO.asg rfl rfl ?_
    refine WO.nil (NX.go (WP.seq (WP.region rfl ?_)))
    refine WO.mv rfl rfl ?_
    refine WO.val (run_neq rfl rfl) rfl rfl rfl ?_
    refine WO.nil (NX.go ?_)
    refine WP.condP rfl (fun g47 => ?_) (fun g47 => ?_)
    ·
     refine WP.seq (WP.region rfl ?_)
     refine WO.mv rfl rfl ?_
     refine WO.asg rfl rfl ?_
     refine WO.nil (NX.go (WP.ret (NX.blkRet (NX.thenRet (NX.thenRet (NX.blkRet (NX.thenRet ?_)))))))
     refine NX.done (l := [.tmp 4]) rfl rfl ?_
     have e0 : publishD D m = f Dq := by rw [hp, runD_step hf, if_neg g47]
     rw [e0]
     exact ⟨rfl, (hS25.permT [1, 1, 1, 2, 0, 0] (L' := cel g2 [Value.pointer (some ⟨g, 0, none⟩)] 39 :: cel g9 [str ((encM m).1)] 9 :: own (some ⟨g12, 0, none⟩) 4 4 84 1 (valsP g g2 g9) :: cel g4 [Value.int .i64 m.e, Value.int .i64 m.b, Value.int .i64 m.p, Value.int .i64 m.k, Value.int .i64 m.c, Value.slice a m.bl.length cap] 30 :: dkA g ((f Dq).1) :: X :: L) rfl).drop.drop.drop.drop⟩
    ·
     refine WP.skip (NX.blk (NX.go (WP.region rfl ?_)))
     refine WO.val (run_add rfl rfl (IntWalk.i64_in _ (by omega))) rfl rfl rfl ?_
     refine WO.mv rfl rfl ?_
     refine WO.nil ?_
     exact NX.again (i + 1, (f Dq).1, nq + 1, tq + 100000) ⟨⟨by omega, hok, by omega, by omega, by rw [hp, runD_step hf, if_pos (Decidable.of_not_not g47)]⟩, (hS25.permT [0, 2, 1, 1, 1, 0] (L' := dkA g ((f Dq).1) :: own (some ⟨g12, 0, none⟩) 4 4 84 1 (valsP g g2 g9) :: cel g9 [str ((encM m).1)] 9 :: X :: cel g4 [Value.int .i64 m.e, Value.int .i64 m.b, Value.int .i64 m.p, Value.int .i64 m.k, Value.int .i64 m.c, Value.slice a m.bl.length cap] 30 :: cel g2 [Value.pointer (some ⟨g, 0, none⟩)] 39 :: L) rfl)⟩ (by show 4 - (i + 1) < 4 - i; omega) (Sub.cons rfl (Sub.cons rfl (Sub.consE rfl (by congr 1) (Sub.nil _))))
   ·
    refine WP.exit (NX.thenExit (NX.thenExit ?_))
    refine NX.blkExit ?_
    refine NX.go (WP.seq (WP.region rfl ?_))
    refine WO.asg rfl rfl ?_
    refine WO.nil (NX.go (WP.ret ?_))
    refine NX.done (l := [.tmp 4]) rfl rfl ?_
    have hin : i = 4 := by omega
    subst hin
    have e0 : publishD D m = (Dq, 0) := by rw [hp]; rfl
    rw [e0]
    exact ⟨rfl, (hS24.permT [1, 1, 2, 2, 0, 0] (L' := own (some ⟨g12, 0, none⟩) 4 4 84 1 (valsP g g2 g9) :: cel g9 [str ((encM m).1)] 9 :: cel g4 [Value.int .i64 m.e, Value.int .i64 m.b, Value.int .i64 m.p, Value.int .i64 m.k, Value.int .i64 m.c, Value.slice a m.bl.length cap] 30 :: cel g2 [Value.pointer (some ⟨g, 0, none⟩)] 39 :: dkA g Dq :: X :: L) rfl).drop.drop.drop.drop⟩
end Go.Proofs.YtcehlnpbdffdhaaGreatDoor.SL

/- A manifest is loaded. -/
namespace Go.Proofs.YtcehlnpbdffdhaaGreatDoor.SL
open Go.RowKit Go.Proofs.YtcehlnpbdffdhaaGreatDoor
open Go.Proofs.YtcehlnpbdffdhaaGreatDoorW.PrintLast (rtab opsOf)
set_option linter.unusedVariables false
set_option linter.unusedSimpArgs false

def loadD (D : Dk) : Man × Int := if (readD D [109]).2 = 0 then decM (readD D [109]).1 else if (readD D [109]).2 = 12 then (noneM, 0) else (zeroM, (readD D [109]).2)
theorem readD_len {D : Dk} {n t : Nat} {k : List UInt8} (h : OkD D n t) : (readD D k).1.length ≤ t := by
  unfold readD
  split
  · exact Nat.zero_le _
  · split
    · exact Nat.zero_le _
    · rename_i i hi
      exact h.b.t _ (fileAt_mem (findN_lt h.w.good.f hi).1)
theorem runD_ok {c : Nat} : ∀ {fs : List (Dk → Dk × Int)} {D : Dk} {n t : Nat}, (∀ f ∈ fs, ∀ {D : Dk} {n t : Nat}, OkD D n t → OkD (f D).1 (n + 1) (t + c)) → OkD D n t → OkD (runD fs D).1 (n + fs.length) (t + fs.length * c)
  | [], D, n, t, _, h => h.mono (Nat.le_add_right _ _) (Nat.le_add_right _ _)
  | f :: l, D, n, t, hf, h => by
    have h1 := hf f (List.mem_cons_self ..) h
    have h2 := runD_ok (fs := l) (fun g hg => hf g (List.mem_cons_of_mem _ hg)) h1
    unfold runD
    rw [List.length_cons, Nat.add_mul, Nat.one_mul]
    split
    · exact h2.mono (by omega) (by omega)
    · exact h1.mono (by omega) (by omega)
theorem steps_ok {s : List UInt8} : ∀ f ∈ stepsR s, ∀ {D : Dk} {n t : Nat}, OkD D n t → OkD (f D).1 (n + 1) (t + s.length) := by
  intro f hf D n t h
  rcases List.mem_cons.1 hf with rfl | hf
  · exact h.remove.mono (by omega) (by omega)
  rcases List.mem_cons.1 hf with rfl | hf
  · exact h.append
  rcases List.mem_cons.1 hf with rfl | hf
  · exact h.sync.mono (by omega) (by omega)
  rcases List.mem_cons.1 hf with rfl | hf
  · exact h.rename.mono (by omega) (by omega)
  rcases List.mem_cons.1 hf with rfl | hf
  · exact h.syncNames.mono (by omega) (by omega)
  · cases hf
theorem OkD.publish {D : Dk} {n t c : Nat} {m : Man} (h : OkD D n t) (hc : (encM m).1.length ≤ c) : OkD (publishD D m).1 (n + 5) (t + 5 * c) := by
  have hm : ∀ {E : Dk}, OkD E (n + 5) (t + 5 * (encM m).1.length) → OkD E (n + 5) (t + 5 * c) := fun h => h.mono (Nat.le_refl _) (by omega)
  unfold publishD
  split
  · exact h.mono (by omega) (by omega)
  · split
    · exact hm (runD_ok (steps_ok (s := (encM m).1)) h)
    · have h2 := runD_ok (fs := stepsP (encM m).1) (fun f hf => steps_ok (s := (encM m).1) f (List.mem_cons_of_mem _ hf)) h
      have e : (stepsP (encM m).1).length = 4 := rfl
      rw [e] at h2
      exact h2.mono (by omega) (by omega)
theorem noneM_rng2 : RngM noneM := ⟨by decide, by decide, by decide, by decide, by decide, by decide, by intro t h; cases h⟩
theorem load_spec {B w : World} {L : List HP} {g n t : Nat} {D : Dk} (hk : OkD D n t) (ht : t ≤ 100000000) (hS : St B (dkA g D :: L) w) : Does Tryz.prog 20 [Value.pointer (some ⟨g, 0, none⟩)] w (fun v w1 => ∃ (a : Option Addr) (cap : Nat), v = .tuple #[manV (loadD D).1 a cap, .int .i64 (loadD D).2] ∧ RngM (loadD D).1 ∧ St B (own a (loadD D).1.bl.length cap 9 1 ((loadD D).1.bl.map str) :: dkA g D :: L) w1) := by
 refine enter (n := 23) Tryz.func20 rfl rfl [Value.pointer (some ⟨g, 0, none⟩)] rfl ?_
 refine WP.seq (WP.region rfl ?_)
 refine WO.alloc (l := [Value.int .i64 0, Value.int .i64 0, Value.int .i64 0, Value.int .i64 0, Value.int .i64 0, Value.slice none 0 0]) hS Ty.zr30 rfl rfl (fun g2 w1 lg2 hS1 => ?_)
 clear hS
 refine WO.asg rfl rfl ?_
 refine WO.nil (NX.go (WP.seq (WP.region rfl ?_)))
 refine WO.mv rfl rfl ?_
 have hS3 := hS1.permT [1, 0] (L' := dkA g D :: cel g2 [Value.int .i64 0, Value.int .i64 0, Value.int .i64 0, Value.int .i64 0, Value.int .i64 0, Value.slice none 0 0] 30 :: L) rfl
 clear hS1
 refine WO.call rfl rfl Ty.hd51 rfl (dread_spec hk.w [109] hS3) (fun v5 w4 pv5 => ?_)
 obtain ⟨rfl, hS4⟩ := pv5
 clear hS3
 refine WO.mv rfl rfl ?_
 refine WO.val (run_extract rfl rfl) rfl rfl rfl ?_
 refine WO.val (run_extract rfl rfl) rfl rfl rfl ?_
 refine WO.asg rfl rfl ?_
 refine WO.asg rfl rfl ?_
 refine WO.nil (NX.go (WP.seq (WP.seq (WP.region rfl ?_))))
 refine WO.mv rfl rfl ?_
 refine WO.nil (NX.go (WP.block (WP.seq (WP.region rfl ?_))))
 refine WO.val (run_eql rfl rfl) rfl rfl rfl ?_
 refine WO.asg rfl rfl ?_
 refine WO.nil (NX.go ?_)
 refine WP.condP rfl (fun g12 => ?_) (fun g12 => ?_)
 ·
  refine WP.seq (WP.region rfl ?_)
  refine WO.mv rfl rfl ?_
  refine WO.call rfl rfl Ty.hd12 rfl (decM_spec (readD D [109]).1 (by have := readD_len (k := [109]) hk; omega) hS4) (fun v7 w6 pv7 => ?_)
  obtain ⟨da, dc, rfl, hrd, hS6⟩ := pv7
  clear hS4
  refine WO.val (run_extract rfl rfl) rfl rfl rfl ?_
  refine WO.val (run_extract rfl rfl) rfl rfl rfl ?_
  refine WO.store (l' := [Value.int .i64 ((decM (readD D [109]).1).1.e), Value.int .i64 ((decM (readD D [109]).1).1.b), Value.int .i64 ((decM (readD D [109]).1).1.p), Value.int .i64 ((decM (readD D [109]).1).1.k), Value.int .i64 ((decM (readD D [109]).1).1.c), Value.slice da ((decM (readD D [109]).1).1.bl.length) dc]) 2 hS6 rfl Ty.sz30 rfl rfl rfl rfl rfl (Nat.le_of_ble_eq_true rfl) rfl (fun w8 (hS8 : St B (own da ((decM (readD D [109]).1).1.bl.length) dc 9 1 ((decM (readD D [109]).1).1.bl.map str) :: dkA g D :: cel g2 [Value.int .i64 ((decM (readD D [109]).1).1.e), Value.int .i64 ((decM (readD D [109]).1).1.b), Value.int .i64 ((decM (readD D [109]).1).1.p), Value.int .i64 ((decM (readD D [109]).1).1.k), Value.int .i64 ((decM (readD D [109]).1).1.c), Value.slice da ((decM (readD D [109]).1).1.bl.length) dc] 30 :: L) w8) => ?_)
  clear hS6
  refine WO.asg rfl rfl ?_
  refine WO.nil (NX.go (WP.ret (NX.blkRet (NX.thenRet ?_))))
  refine NX.doneC (l := [.cell 2 30, .tmp 3]) rfl (.cons (.cell rfl (loadVar_agg (vs := [Value.int .i64 ((decM (readD D [109]).1).1.e), Value.int .i64 ((decM (readD D [109]).1).1.b), Value.int .i64 ((decM (readD D [109]).1).1.p), Value.int .i64 ((decM (readD D [109]).1).1.k), Value.int .i64 ((decM (readD D [109]).1).1.c), Value.slice da ((decM (readD D [109]).1).1.bl.length) dc]) Ty.ag30 Ty.sz30 rfl (cell_all (hS8.cel_at 2 rfl) 0 rfl))) (.cons (.tmp rfl) .nil)) ?_
  have e0 : loadD D = (decM (readD D [109]).1) := by unfold loadD; rw [if_pos g12]
  rw [e0]
  exact ⟨da, dc, rfl, hrd, (hS8.permT [2, 0, 0] (L' := cel g2 [Value.int .i64 ((decM (readD D [109]).1).1.e), Value.int .i64 ((decM (readD D [109]).1).1.b), Value.int .i64 ((decM (readD D [109]).1).1.p), Value.int .i64 ((decM (readD D [109]).1).1.k), Value.int .i64 ((decM (readD D [109]).1).1.c), Value.slice da ((decM (readD D [109]).1).1.bl.length) dc] 30 :: own da ((decM (readD D [109]).1).1.bl.length) dc 9 1 ((decM (readD D [109]).1).1.bl.map str) :: dkA g D :: L) rfl).drop⟩
 ·
  refine WP.seq (WP.region rfl ?_)
  refine WO.val (run_eql rfl rfl) rfl rfl rfl ?_
  refine WO.asg rfl rfl ?_
  refine WO.nil (NX.go ?_)
  refine WP.condP rfl (fun g18 => ?_) (fun g18 => ?_)
  ·
   refine WP.seq (WP.region rfl ?_)
   refine WO.call rfl rfl Ty.hd58 rfl (none_spec hS4) (fun v10 w9 pv10 => ?_)
   obtain ⟨rfl, hS9⟩ := pv10
   clear hS4
   refine WO.store (l' := [Value.int .i64 noneM.e, Value.int .i64 noneM.b, Value.int .i64 noneM.p, Value.int .i64 noneM.k, Value.int .i64 noneM.c, Value.slice none noneM.bl.length 0]) 1 hS9 rfl Ty.sz30 rfl rfl rfl rfl rfl (Nat.le_of_ble_eq_true rfl) rfl (fun w11 (hS11 : St B (dkA g D :: cel g2 [Value.int .i64 noneM.e, Value.int .i64 noneM.b, Value.int .i64 noneM.p, Value.int .i64 noneM.k, Value.int .i64 noneM.c, Value.slice none noneM.bl.length 0] 30 :: L) w11) => ?_)
   clear hS9
   refine WO.asg rfl rfl ?_
   refine WO.nil (NX.go (WP.ret (NX.blkRet (NX.thenRet ?_))))
   refine NX.doneC (l := [.cell 2 30, .tmp 3]) rfl (.cons (.cell rfl (loadVar_agg (vs := [Value.int .i64 noneM.e, Value.int .i64 noneM.b, Value.int .i64 noneM.p, Value.int .i64 noneM.k, Value.int .i64 noneM.c, Value.slice none noneM.bl.length 0]) Ty.ag30 Ty.sz30 rfl (cell_all (hS11.cel_at 1 rfl) 0 rfl))) (.cons (.tmp rfl) .nil)) ?_
   have e0 : loadD D = (noneM, 0) := by unfold loadD; rw [if_neg g12, if_pos g18]
   rw [e0]
   exact ⟨none, 0, rfl, noneM_rng2, ((hS11.permT [1, 0] (L' := cel g2 [Value.int .i64 noneM.e, Value.int .i64 noneM.b, Value.int .i64 noneM.p, Value.int .i64 noneM.k, Value.int .i64 noneM.c, Value.slice none noneM.bl.length 0] 30 :: dkA g D :: L) rfl).drop).own_nil 9 1⟩
  ·
   refine WP.skip (NX.blk (NX.go (WP.seq (WP.region rfl ?_))))
   refine WO.val (run_build (v := Value.agg #[Value.int .i64 0, Value.int .i64 0, Value.int .i64 0, Value.int .i64 0, Value.int .i64 0, Value.slice none 0 0]) rfl (fun w => by kernel_rfl)) rfl rfl rfl ?_
   refine WO.mv rfl rfl ?_
   refine WO.store (l' := [Value.int .i64 0, Value.int .i64 0, Value.int .i64 0, Value.int .i64 0, Value.int .i64 0, Value.slice none 0 0]) 1 hS4 rfl Ty.sz30 rfl rfl rfl rfl rfl (Nat.le_of_ble_eq_true rfl) rfl (fun w12 (hS12 : St B (dkA g D :: cel g2 [Value.int .i64 0, Value.int .i64 0, Value.int .i64 0, Value.int .i64 0, Value.int .i64 0, Value.slice none 0 0] 30 :: L) w12) => ?_)
   clear hS4
   refine WO.asg rfl rfl ?_
   refine WO.nil (NX.go (WP.ret ?_))
   refine NX.doneC (l := [.cell 2 30, .tmp 3]) rfl (.cons (.cell rfl (loadVar_agg (vs := [Value.int .i64 0, Value.int .i64 0, Value.int .i64 0, Value.int .i64 0, Value.int .i64 0, Value.slice none 0 0]) Ty.ag30 Ty.sz30 rfl (cell_all (hS12.cel_at 1 rfl) 0 rfl))) (.cons (.tmp rfl) .nil)) ?_
   have e0 : loadD D = (zeroM, (readD D [109]).2) := by unfold loadD; rw [if_neg g12, if_neg g18]
   rw [e0]
   exact ⟨none, 0, rfl, zeroM_rng, ((hS12.permT [1, 0] (L' := cel g2 [Value.int .i64 0, Value.int .i64 0, Value.int .i64 0, Value.int .i64 0, Value.int .i64 0, Value.slice none 0 0] 30 :: dkA g D :: L) rfl).drop).own_nil 9 1⟩
end Go.Proofs.YtcehlnpbdffdhaaGreatDoor.SL
