/- Numbers of two lists, picked. -/
import Derived.Test.YtogidmceomlkeaaGreatDoorKp3
namespace Go.Proofs.YtogidmceomlkeaaGreatDoor.SL
open Go.RowKit Go.Proofs.YtogidmceomlkeaaGreatDoor
open Go.Proofs.YtogidmceomlkeaaGreatDoorW.PrintLast (rtab opsOf)
set_option linter.unusedVariables false
set_option linter.unusedSimpArgs false

def fAnd (i a : Bool) : Bool := i && a
def fOr (_ _ : Bool) : Bool := true
def fLess (_ a : Bool) : Bool := !a
def inB : List Int → List Int → Bool
  | [], _ => false
  | _ :: _, [] => true
  | x :: _, y :: _ => decide (x ≤ y)
def tl (p : Bool) (l : List Int) : List Int := if p then l.tail else l
def hd1 (p : Bool) (l : List Int) (n : Int) : Int := if p then l.headD 0 else n
def apd (c : Bool) (o : List Int) (n : Int) : List Int := o ++ (if c then [n] else [])
def pkF (F : Bool → Bool → Bool) : Nat → List Int → List Int → List Int
  | 0, _, _ => []
  | m + 1, xs, ys => if xs = [] ∧ ys = [] then [] else (if F (inB xs ys) (inB ys xs) then [hd1 (inB ys xs) ys (hd1 (inB xs ys) xs 0)] else []) ++ pkF F m (tl (inB xs ys) xs) (tl (inB ys xs) ys)
def pickF (F : Bool → Bool → Bool) (l m : List Int) : List Int := pkF F ((rising l).length + (rising m).length) (rising l) (rising m)
theorem inB_f {xs ys : List Int} (h : ¬ (0 : Int) < (xs.length : Int)) : false = inB xs ys := by
  cases xs with
  | nil => rfl
  | cons x xs => simp at h <;> omega
theorem inB_t {xs ys : List Int} (h : (0 : Int) < (xs.length : Int)) (h2 : (ys.length : Int) = 0) : true = inB xs ys := by
  cases xs with
  | nil => simp at h
  | cons x xs => cases ys with
    | nil => rfl
    | cons y ys => simp at h2 <;> omega
theorem inB_d {xs ys : List Int} {x y : Int} (hx : xs[0]? = some x) (hy : ys[0]? = some y) : decide (x ≤ y) = inB xs ys := by
  cases xs with
  | nil => simp at hx
  | cons x' xs => cases ys with
    | nil => simp at hy
    | cons y' ys => simp at hx hy; subst hx; subst hy; rfl
theorem inB_pos {xs ys : List Int} (h : inB xs ys = true) : 0 < xs.length := by
  cases xs with
  | nil => cases h
  | cons x xs => simp
theorem inB_or {xs ys : List Int} (h : 0 < xs.length ∨ 0 < ys.length) : inB xs ys = true ∨ inB ys xs = true := by
  cases xs with
  | nil => cases ys with
    | nil => simp at h
    | cons y ys => exact .inr rfl
  | cons x xs => cases ys with
    | nil => exact .inl rfl
    | cons y ys => simp only [inB, decide_eq_true_eq]; omega
theorem tl_len {p : Bool} {l : List Int} : (tl p l).length = if p then l.length - 1 else l.length := by unfold tl; split <;> simp
theorem tl_t {p : Bool} {l : List Int} (h : p = true) : tl p l = l.drop 1 := by rw [h]; simp [tl]
theorem tl_f {p : Bool} {l : List Int} (h : p = false) : tl p l = l := by rw [h]; rfl
theorem hd1_t {p : Bool} {l : List Int} {n x : Int} (h : p = true) (hx : l[0]? = some x) : hd1 p l n = x := by
  rw [h]; cases l with
  | nil => simp at hx
  | cons y l => simp at hx; subst hx; rfl
theorem hd1_f {p : Bool} {l : List Int} {n : Int} (h : p = false) : hd1 p l n = n := by rw [h]; rfl
theorem pk_len {p q : Bool} {xs ys : List Int} {k : Nat} (hp : p = inB xs ys) (hq : q = inB ys xs) (h : 0 < xs.length ∨ 0 < ys.length) (hk : xs.length + ys.length ≤ k + 1) : (tl p xs).length + (tl q ys).length ≤ k := by
  rw [tl_len, tl_len]
  rcases inB_or h with e | e
  · rw [← hp] at e; have := inB_pos (hp ▸ e : inB xs ys = true); rw [if_pos e]; split <;> omega
  · rw [← hq] at e; have := inB_pos (hq ▸ e : inB ys xs = true); rw [if_pos e]; split <;> omega
theorem pk_step {F : Bool → Bool → Bool} {p q : Bool} {xs ys o R : List Int} {k : Nat} (hp : p = inB xs ys) (hq : q = inB ys xs) (h : 0 < xs.length ∨ 0 < ys.length) (hR : o ++ pkF F (k + 1) xs ys = R) : apd (F p q) o (hd1 q ys (hd1 p xs 0)) ++ pkF F k (tl p xs) (tl q ys) = R := by
  rw [← hR]
  have hne : ¬ (xs = [] ∧ ys = []) := by rintro ⟨rfl, rfl⟩; simp at h
  simp only [pkF, if_neg hne, apd, hp, hq, List.append_assoc]
theorem pk_end {F : Bool → Bool → Bool} {xs ys o R : List Int} {m : Nat} (h : ¬ (0 < xs.length ∨ 0 < ys.length)) (hR : o ++ pkF F m xs ys = R) : o = R := by
  have hx : xs = [] := List.length_eq_zero_iff.1 (by omega)
  have hy : ys = [] := List.length_eq_zero_iff.1 (by omega)
  subst hx; subst hy
  rw [← hR]; cases m with
  | zero => simp [pkF]
  | succ m => simp [pkF]
theorem apd_len (c : Bool) (o : List Int) (n : Int) : (apd c o n).length ≤ o.length + 1 := by unfold apd; split <;> simp
theorem pk_c1 {xs ys : List Int} (h : (0 : Int) < (xs.length : Int)) : true = true ↔ 0 < xs.length ∨ 0 < ys.length := by constructor <;> intro _ <;> first | rfl | (left; omega)
theorem pk_c2 {xs ys : List Int} (h : ¬ (0 : Int) < (xs.length : Int)) : decide ((0 : Int) < (ys.length : Int)) = true ↔ 0 < xs.length ∨ 0 < ys.length := by
  rw [decide_eq_true_iff]; omega
theorem ro_len {B w : World} {L : List HP} {a : Option Addr} {n n' t k : Nat} {l l' : List Value} (h : St B (ro a n t k l :: L) w) (e : n = n') (e2 : l = l') : St B (ro a n' t k l' :: L) w := by subst e; subst e2; exact h
theorem fAnd_spec {B w : World} {L : List HP} (p q : Bool) (hS : St B L w) : Does Tryz.prog 16 [Value.bool p, Value.bool q] w (fun v w1 => v = .bool (fAnd p q) ∧ St B L w1) := by
 refine enter (n := 9) Tryz.func16 rfl rfl [Value.bool p, Value.bool q] rfl ?_
 refine WP.seq ?_
 refine WP.region rfl ?_
 refine WO.val (run_assign rfl) rfl rfl rfl ?_
 refine WO.nil ?_
 refine NX.go ?_
 refine WP.seq ?_
 refine WP.region rfl ?_
 refine WO.val (run_move rfl) rfl rfl rfl ?_
 refine WO.val (run_move rfl) rfl rfl rfl ?_
 rcases Bool.eq_false_or_eq_true p with g6 | g6
 ·
  refine WO.on rfl rfl g6 ?_
  refine WO.val (run_move rfl) rfl rfl rfl ?_
  refine WO.val (run_pickT rfl g6 rfl) rfl rfl rfl ?_
  refine WO.val (run_assign rfl) rfl rfl rfl ?_
  refine WO.nil ?_
  refine NX.go ?_
  refine WP.ret ?_
  refine NX.done (l := [.tmp 4]) rfl rfl ?_
  exact ⟨by show Value.bool _ = Value.bool (fAnd p q); rw [g6]; rfl, hS⟩
 ·
  refine WO.off rfl rfl g6 rfl ?_
  refine WO.val (run_pickF rfl g6 rfl) rfl rfl rfl ?_
  refine WO.val (run_assign rfl) rfl rfl rfl ?_
  refine WO.nil ?_
  refine NX.go ?_
  refine WP.ret ?_
  refine NX.done (l := [.tmp 4]) rfl rfl ?_
  exact ⟨by show Value.bool _ = Value.bool (fAnd p q); rw [g6]; rfl, hS⟩
theorem pickAnd_spec_t10 : rtab .any (opsOf Tryz.f15 10) = (true, [([], []), ([0], [0]), ([1], [1]), ([], []), ([3], [3]), ([2, 0, 1, 2], [2]), ([4, 5, 0, 1, 2, 3, 4, 5], [0, 3, 4])]) := by kernel_rfl
theorem pickAnd_spec_t8 : rtab .any (opsOf Tryz.f15 8) = (true, [([], []), ([0], [0]), ([1], [1]), ([], []), ([3], [3]), ([2, 0, 1, 2], [2]), ([4, 5, 0, 1, 2, 3, 4, 5], [0, 3, 4])]) := by kernel_rfl
theorem pickAnd_spec_t5 : rtab .any (opsOf Tryz.f15 5) = (true, [([], []), ([0], [0]), ([1], [1]), ([2], [2]), ([3], [3]), ([4, 3], [3, 4]), ([5, 3], [3, 5]), ([6, 3, 3], [3, 6]), ([7], [7]), ([8, 7], [7, 8]), ([9, 7], [7, 9]), ([7], [7]), ([11, 7], [7, 11]), ([12, 7], [7, 12]), ([10, 13, 7], [7, 10, 13]), ([7, 14, 3], [3, 7, 14]), ([3, 15], [3, 15]), ([16, 7, 0, 1, 2, 3, 4, 5, 6, 7, 8, 9, 10, 11, 12, 13, 14, 15, 16], [16])]) := by kernel_rfl
theorem pickAnd_spec_t4 : rtab .any (opsOf Tryz.f15 4) = (true, [([], []), ([0], [0]), ([1], [1]), ([2], [2]), ([3], [3]), ([4, 3], [3, 4]), ([5, 3], [3, 5]), ([6, 3, 3], [3, 6]), ([7], [7]), ([8, 7], [7, 8]), ([9, 7], [7, 9]), ([7], [7]), ([11, 7], [7, 11]), ([12, 7], [7, 12]), ([10, 13, 7], [7, 10, 13]), ([7, 14, 3], [3, 7, 14]), ([3, 15], [3, 15]), ([16, 7, 0, 1, 2, 3, 4, 5, 6, 7, 8, 9, 10, 11, 12, 13, 14, 15, 16], [16])]) := by kernel_rfl
theorem pickAnd_spec {B w : World} {L : List HP} {X Y : HP} {a b : Option Addr} {cap cap2 : Nat} {l m : List Int} (hX : ∀ {L : List HP} {w : World}, St B (X :: L) w → Rd w a l.length 1 (ri l)) (hY : ∀ {L : List HP} {w : World}, St B (Y :: L) w → Rd w b m.length 1 (ri m)) (hb : l.length ≤ 400000) (hb2 : m.length ≤ 400000) (hS : St B (X :: Y :: L) w) : Does Tryz.prog 15 [Value.slice a l.length cap, Value.slice b m.length cap2, Value.func (.func 16) #[] #[]] w (fun v w1 => ∃ a1 c1, v = .slice a1 (pickF fAnd l m).length c1 ∧ St B (own a1 (pickF fAnd l m).length c1 3 1 (ri (pickF fAnd l m)) :: X :: Y :: L) w1) := by
 refine enter (n := 78) Tryz.func15 rfl rfl [Value.slice a l.length cap, Value.slice b m.length cap2, Value.func (.func 16) #[] #[]] rfl ?_
 refine WP.seq ?_
 refine WP.region rfl ?_
 refine WO.val (run_assign rfl) rfl rfl rfl ?_
 refine WO.nil ?_
 refine NX.go ?_
 refine WP.seq ?_
 refine WP.region rfl ?_
 refine WO.val (run_move rfl) rfl rfl rfl ?_
 refine WO.call rfl rfl Ty.hd25 rfl (rising_spec hX (by omega) hS) (fun v2 w1 pv2 => ?_)
 obtain ⟨a0, ca0, rfl, hS1⟩ := pv2
 clear hS
 refine WO.val (run_move rfl) rfl rfl rfl ?_
 have hS3 := hS1.permT [2, 0, 0] (L' := Y :: own a0 ((rising l).length) ca0 3 1 (ri (rising l)) :: X :: L) rfl
 clear hS1
 refine WO.call rfl rfl Ty.hd25 rfl (rising_spec hY (by omega) hS3) (fun v5 w4 pv5 => ?_)
 obtain ⟨b0, cb0, rfl, hS4⟩ := pv5
 clear hS3
 refine WO.val (run_assign rfl) rfl rfl rfl ?_
 refine WO.val (run_assign rfl) rfl rfl rfl ?_
 refine WO.nil ?_
 refine NX.go ?_
 refine WP.seq ?_
 refine WP.region rfl ?_
 refine WO.val (run_assign rfl) rfl rfl rfl ?_
 refine WO.nil ?_
 refine NX.go ?_
 refine WP.seq ?_
 refine WP.block ?_
 have hca0 := hS4.own_le_i 2 rfl
 have hcb0 := hS4.own_le_i 0 rfl
 have hq := ((hS4.permT [2, 0, 1, 0] (L' := own a0 ((rising l).length) ca0 3 1 (ri (rising l)) :: own b0 ((rising m).length) cb0 3 1 (ri (rising m)) :: X :: Y :: L) rfl)).own_seal.permT [1, 0] (L' := own b0 ((rising m).length) cb0 3 1 (ri (rising m)) :: ro a0 ((rising l).length) 3 1 (ri (rising l)) :: X :: Y :: L) rfl
 have hq2 := (hq.own_seal.own_nil 3 1).permT [2, 1, 0] (L' := ro a0 ((rising l).length) 3 1 (ri (rising l)) :: ro b0 ((rising m).length) 3 1 (ri (rising m)) :: own none 0 0 3 1 [] :: X :: Y :: L) rfl
 have hr1 := rising_len l
 have hr2 := rising_len m
 refine WP.loop (α := Nat × List Int × List Int × List Int × (Option Addr × Nat × Option Addr × Nat) × Option Addr × Nat) (fun x => match x with | ⟨mu, xs, ys, o, ⟨pa, ca, pb, cb⟩, ao, co⟩ => [(0, Value.slice pa xs.length ca), (1, Value.slice pb ys.length cb), (2, Value.func (.func 16) #[] #[]), (7, Value.slice ao o.length co)]) (fun x w => match x with | ⟨mu, xs, ys, o, ⟨pa, ca, pb, cb⟩, ao, co⟩ => (xs.length ≤ ca ∧ ys.length ≤ cb ∧ xs.length + ys.length ≤ mu ∧ o.length + mu ≤ 800000 ∧ o ++ pkF fAnd mu xs ys = pickF fAnd l m) ∧ St B (ro pa xs.length 3 1 (ri xs) :: ro pb ys.length 3 1 (ri ys) :: own ao o.length co 3 1 (ri o) :: X :: Y :: L) w) (fun x => match x with | ⟨mu, xs, ys, o, ⟨pa, ca, pb, cb⟩, ao, co⟩ => mu) ((rising l).length + (rising m).length, rising l, rising m, [], (a0, ca0, b0, cb0), none, 0) ⟨⟨hca0, hcb0, Nat.le_refl _, by simp; omega, rfl⟩, hq2⟩ (Sub.consE rfl (by first | rfl | first | rfl | (congr 1; omega) | (simp; done) | (simp; omega)) (Sub.consE rfl (by first | rfl | first | rfl | (congr 1; omega) | (simp; done) | (simp; omega)) (Sub.cons rfl (Sub.consE rfl (by first | rfl | first | rfl | (congr 1; omega) | (simp; done) | (simp; omega)) (Sub.nil _))))) ?_
 rintro ⟨mu, xs, ys, o, ⟨pa, ca, pb, cb⟩, ao, co⟩ w6 ⟨⟨hca, hcb, hmu, hom, hR⟩, hS6⟩
 clear hS4
 refine WP.seq ?_
 refine WP.seq ?_
 refine WP.meet (α := Bool) (fun x => match x with | c => [(0, Value.slice pa xs.length ca), (1, Value.slice pb ys.length cb), (2, Value.func (.func 16) #[] #[]), (7, Value.slice ao o.length co), (22, Value.bool c)]) (fun x w => match x with | c => (c = true ↔ 0 < xs.length ∨ 0 < ys.length) ∧ St B (ro pa xs.length 3 1 (ri xs) :: ro pb ys.length 3 1 (ri ys) :: own ao o.length co 3 1 (ri o) :: X :: Y :: L) w) ?_ (fun K7 => ?_)
 ·
  rintro c w8 ⟨hcc, hS8⟩
  clear hS6
  refine NX.go ?_
  refine WP.condB rfl (fun g22 => ?_) (fun g22 => ?_)
  ·
   have hc := hcc.1 g22
   obtain ⟨k, rfl⟩ : ∃ k, mu = k + 1 := ⟨mu - 1, by omega⟩
   refine WP.skip ?_
   refine NX.go ?_
   refine WP.block ?_
   refine WP.seq ?_
   refine WP.meet (α := Bool) (fun x => match x with | p => [(0, Value.slice pa xs.length ca), (1, Value.slice pb ys.length cb), (2, Value.func (.func 16) #[] #[]), (7, Value.slice ao o.length co), (8, Value.bool p)]) (fun x w => match x with | p => (p = inB xs ys) ∧ St B (ro pa xs.length 3 1 (ri xs) :: ro pb ys.length 3 1 (ri ys) :: own ao o.length co 3 1 (ri o) :: X :: Y :: L) w) ?_ (fun K9 => ?_)
   ·
    rintro p w10 ⟨hp, hS10⟩
    clear hS8
    refine NX.go ?_
    refine WP.seq ?_
    refine WP.meet (α := Bool) (fun x => match x with | q => [(0, Value.slice pa xs.length ca), (1, Value.slice pb ys.length cb), (2, Value.func (.func 16) #[] #[]), (7, Value.slice ao o.length co), (8, Value.bool p), (9, Value.bool q)]) (fun x w => match x with | q => (q = inB ys xs) ∧ St B (ro pa xs.length 3 1 (ri xs) :: ro pb ys.length 3 1 (ri ys) :: own ao o.length co 3 1 (ri o) :: X :: Y :: L) w) ?_ (fun K11 => ?_)
    ·
     rintro q w12 ⟨hq, hS12⟩
     clear hS10
     refine NX.go ?_
     refine WP.seq ?_
     refine WP.region rfl ?_
     refine WO.val (run_assign rfl) rfl rfl rfl ?_
     refine WO.nil ?_
     refine NX.go ?_
     refine WP.seq ?_
     refine WP.seq ?_
     refine WP.region rfl ?_
     refine WO.val (run_move rfl) rfl rfl rfl ?_
     refine WO.nil ?_
     refine NX.go ?_
     refine WP.meet (α := Option Addr × Nat) (fun x => match x with | ⟨pa1, ca1⟩ => [(0, Value.slice pa1 ((tl p xs).length) ca1), (1, Value.slice pb ys.length cb), (2, Value.func (.func 16) #[] #[]), (7, Value.slice ao o.length co), (8, Value.bool p), (9, Value.bool q), (10, Value.int .i64 (hd1 p xs 0))]) (fun x w => match x with | ⟨pa1, ca1⟩ => ((tl p xs).length ≤ ca1) ∧ St B (ro pa1 ((tl p xs).length) 3 1 (ri (tl p xs)) :: ro pb ys.length 3 1 (ri ys) :: own ao o.length co 3 1 (ri o) :: X :: Y :: L) w) ?_ (fun K13 => ?_)
     ·
      rintro ⟨pa1, ca1⟩ w14 ⟨hca1, hS14⟩
      clear hS12
      refine NX.go ?_
      refine WP.seq ?_
      refine WP.seq ?_
      refine WP.region rfl ?_
      refine WO.val (run_move rfl) rfl rfl rfl ?_
      refine WO.nil ?_
      refine NX.go ?_
      refine WP.meet (α := Option Addr × Nat) (fun x => match x with | ⟨pb1, cb1⟩ => [(0, Value.slice pa1 ((tl p xs).length) ca1), (1, Value.slice pb1 ((tl q ys).length) cb1), (2, Value.func (.func 16) #[] #[]), (7, Value.slice ao o.length co), (8, Value.bool p), (9, Value.bool q), (10, Value.int .i64 (hd1 q ys (hd1 p xs 0)))]) (fun x w => match x with | ⟨pb1, cb1⟩ => ((tl q ys).length ≤ cb1) ∧ St B (ro pa1 ((tl p xs).length) 3 1 (ri (tl p xs)) :: ro pb1 ((tl q ys).length) 3 1 (ri (tl q ys)) :: own ao o.length co 3 1 (ri o) :: X :: Y :: L) w) ?_ (fun K15 => ?_)
      ·
       rintro ⟨pb1, cb1⟩ w16 ⟨hcb1, hS16⟩
       clear hS14
       refine NX.go ?_
       refine WP.seq ?_
       refine WP.region rfl ?_
       refine WO.val (run_move rfl) rfl rfl rfl ?_
       refine WO.val (run_move rfl) rfl rfl rfl ?_
       refine WO.val (run_move rfl) rfl rfl rfl ?_
       refine WO.call rfl rfl Ty.hd16 rfl (fAnd_spec p q hS16) (fun v18 w17 pv18 => ?_)
       obtain ⟨rfl, hS17⟩ := pv18
       clear hS16
       refine WO.nil ?_
       refine NX.go ?_
       refine WP.meet (α := Option Addr × Nat) (fun x => match x with | ⟨ao1, co1⟩ => [(0, Value.slice pa1 ((tl p xs).length) ca1), (1, Value.slice pb1 ((tl q ys).length) cb1), (2, Value.func (.func 16) #[] #[]), (7, Value.slice ao1 ((apd (fAnd p q) o (hd1 q ys (hd1 p xs 0))).length) co1)]) (fun x w => match x with | ⟨ao1, co1⟩ => St B (ro pa1 ((tl p xs).length) 3 1 (ri (tl p xs)) :: ro pb1 ((tl q ys).length) 3 1 (ri (tl q ys)) :: own ao1 ((apd (fAnd p q) o (hd1 q ys (hd1 p xs 0))).length) co1 3 1 (ri (apd (fAnd p q) o (hd1 q ys (hd1 p xs 0)))) :: X :: Y :: L) w) ?_ (fun K19 => ?_)
       ·
        rintro ⟨ao1, co1⟩ w20 hS20
        clear hS17
        refine NX.blk ?_
        exact NX.again (k, tl p xs, tl q ys, apd (fAnd p q) o (hd1 q ys (hd1 p xs 0)), (pa1, ca1, pb1, cb1), ao1, co1) ⟨⟨hca1, hcb1, pk_len hp hq hc hmu, by have := apd_len (fAnd p q) o (hd1 q ys (hd1 p xs 0)); omega, pk_step hp hq hc hR⟩, hS20⟩ (Nat.lt_succ_self k) (Sub.consE rfl rfl (Sub.consE rfl rfl (Sub.cons rfl (Sub.consE rfl rfl (Sub.nil _)))))
       ·
        refine WP.condB rfl (fun g72 => ?_) (fun g72 => ?_)
        ·
         refine WP.region rfl ?_
         refine WO.val (run_move rfl) rfl rfl rfl ?_
         refine WO.val (run_move rfl) rfl rfl rfl ?_
         refine WO.buildSlice (l := [Value.int .i64 (hd1 q ys (hd1 p xs 0))]) hS17 Tryz.underlying22 rfl (fun w => by kernel_rfl) rfl (fun g22 w21 lg22 hS21 => ?_)
         clear hS17
         have hS21 := hS21.own_of_cel (m := 1) (k := 1) rfl
         refine WO.append (news := [Value.int .i64 (hd1 q ys (hd1 p xs 0))]) 3 rfl Tryz.underlying22 Tryz.underlying22 (fun _ h => by cases h) Ty.sz3 (by decide) Ty.by3 Ty.zr3 rfl rfl rfl rfl hS21 rfl ((hS21.own_rd_i 0 rfl).src) rfl (by omega) (by omega) (fun a24 c25 w23 hS23 => ?_)
         replace hS23 : St B (own (some ⟨g22, 0, none⟩) 1 1 3 1 [Value.int .i64 (hd1 q ys (hd1 p xs 0))] :: ro pa1 ((tl p xs).length) 3 1 (ri (tl p xs)) :: ro pb1 ((tl q ys).length) 3 1 (ri (tl q ys)) :: own a24 (o.length + 1) c25 3 1 ((ri o) ++ [Value.int .i64 (hd1 q ys (hd1 p xs 0))]) :: X :: Y :: L) w23 := hS23
         clear hS21
         refine WO.val (run_assign rfl) rfl rfl rfl ?_
         refine WO.nil ?_
         have e1 : apd (fAnd p q) o (hd1 q ys (hd1 p xs 0)) = o ++ [(hd1 q ys (hd1 p xs 0))] := by unfold apd; rw [g72]; rfl
         exact K19 (a24, c25) _ _ (by have hk := (hS23.drop).permT [2, 0, 0] rfl; exact (own_len hk (show _ = (apd (fAnd p q) o (hd1 q ys (hd1 p xs 0))).length by rw [e1]; simp) (show _ = ri (apd (fAnd p q) o (hd1 q ys (hd1 p xs 0))) by rw [e1]; simp [ri])).permT [1, 1, 0] rfl) (Sub.cons rfl (Sub.cons rfl (Sub.cons rfl (Sub.consE rfl (by rw [e1]; simp) (Sub.nil _)))))
        ·
         refine WP.skip ?_
         have e1 : apd (fAnd p q) o (hd1 q ys (hd1 p xs 0)) = o := by unfold apd; rw [g72]; exact List.append_nil o
         exact K19 (ao, co) _ _ (by have hk := hS17; rw [e1]; exact hk) (Sub.cons rfl (Sub.cons rfl (Sub.cons rfl (Sub.consE rfl (by rw [e1]) (Sub.nil _)))))
      ·
       refine WP.condB rfl (fun g63 => ?_) (fun g63 => ?_)
       ·
        have hyp := inB_pos (hq ▸ g63 : inB ys xs = true)
        refine WD.start (fun w => Rd w pa1 ((tl p xs).length) 1 (ri (tl p xs)) ∧ Rd w pb ys.length 1 (ri ys) ∧ Rd w ao o.length 1 (ri o) ∧ Rd w a l.length 1 (ri l) ∧ Rd w b m.length 1 (ri m)) [] #[false, false, false, false, false, false, false] Ty.mo rfl (by kernel_rfl) hS14 (fun _ h => ⟨(h.ro_rd_i 0 rfl), (h.ro_rd_i 1 rfl), (h.own_rd_i 2 rfl), (hX (h.focus 3 rfl)), (hY (h.focus 4 rfl))⟩) (fun w26 hS26 s27 => ?_)
        clear hS14
        refine WD.pure (i := 0) pickAnd_spec_t10 #[true, false, false, false, false, false, false] rfl rfl rfl (by kernel_rfl) (PQ.then (PQ.blk (PQ.then (PQ.blk (PQ.then PQ.body))))) rfl (fun w => run_move rfl) ?_
        obtain ⟨y, hy⟩ : ∃ y, ys[0]? = some y := ⟨_, List.getElem?_eq_getElem (by omega)⟩
        refine WD.take (i := 1) pickAnd_spec_t10 #[true, true, false, false, false, false, false] s27 rfl rfl rfl (by kernel_rfl) (PQ.then (PQ.blk (PQ.then (PQ.blk (PQ.then PQ.body))))) rfl (fun w hs => run_indexAddr (q := adr pb 0) Tryz.underlying22 Ty.sz3 rfl rfl (by omega) (by omega) ((hs.2.1).2.1 (by omega)) (by simp)) ?_
        refine WD.take (i := 2) pickAnd_spec_t10 #[true, true, true, false, false, false, false] s27 rfl rfl rfl (by kernel_rfl) (PQ.then (PQ.blk (PQ.then (PQ.blk (PQ.then PQ.body))))) rfl (fun w hs => run_load Ty.ag3 rfl ((hs.2.1).cell (ri_get hy))) ?_
        refine WD.pure (i := 3) pickAnd_spec_t10 #[true, true, true, true, false, false, false] rfl rfl rfl (by kernel_rfl) (PQ.then (PQ.blk (PQ.then (PQ.blk (PQ.then PQ.body))))) rfl (fun w => run_move rfl) ?_
        refine WD.pure (i := 4) pickAnd_spec_t10 #[true, true, true, true, true, false, false] rfl rfl rfl (by kernel_rfl) (PQ.then (PQ.blk (PQ.then (PQ.blk (PQ.then PQ.body))))) rfl (fun w => run_sliceL (i := 1) (j := ys.length) Tryz.underlying22 Ty.sz3 rfl ⟨_, rfl⟩ rfl (by omega) (by omega)) ?_
        refine WD.pure (i := 5) pickAnd_spec_t10 #[true, true, true, true, true, true, false] rfl rfl rfl (by kernel_rfl) (PQ.then (PQ.blk (PQ.then (PQ.blk (PQ.then PQ.body))))) rfl (fun w => run_assign rfl) ?_
        refine WD.pure (i := 6) pickAnd_spec_t10 #[true, true, true, true, true, true, true] rfl rfl rfl (by kernel_rfl) (PQ.then (PQ.blk (PQ.then (PQ.blk (PQ.then PQ.body))))) rfl (fun w => run_assign rfl) ?_
        refine WD.done pickAnd_spec_t10 (by kernel_rfl) ?_
        have e1 : ys.length - 1 = (tl q ys).length := by rw [tl_t g63, List.length_drop]
        have e2 : hd1 q ys (hd1 p xs 0) = y := hd1_t g63 hy
        have hk := ro_len (((hS26.permT [1, 0, 0, 0, 0] (L' := ro pb ys.length 3 1 (ri ys) :: ro pa1 ((tl p xs).length) 3 1 (ri (tl p xs)) :: own ao o.length co 3 1 (ri o) :: X :: Y :: L) rfl)).ro_drop1 (i := 1) (c := cb) (by omega) hcb) e1 (show (ri ys).drop 1 = ri (tl q ys) by rw [tl_t g63]; unfold ri; rw [List.map_drop])
        exact K15 ((if cb = 1 then pb else pb.map (·.add (1 * 1))), cb - 1) _ _ ⟨by rw [← e1]; omega, hk.permT [1, 0] rfl⟩ (Sub.cons rfl (Sub.consE rfl (by rw [e1]) (Sub.cons rfl (Sub.cons rfl (Sub.cons rfl (Sub.cons rfl (Sub.consE rfl (by rw [e2]) (Sub.nil _))))))))
       ·
        refine WP.skip ?_
        have e1 : tl q ys = ys := tl_f g63
        have e2 : hd1 q ys (hd1 p xs 0) = (hd1 p xs 0) := hd1_f g63
        exact K15 (pb, cb) _ _ ⟨by rw [e1]; exact hcb, by have hk := (hS14.permT [1, 0, 0, 0, 0] (L' := ro pb ys.length 3 1 (ri ys) :: ro pa1 ((tl p xs).length) 3 1 (ri (tl p xs)) :: own ao o.length co 3 1 (ri o) :: X :: Y :: L) rfl); rw [← e1] at hk; exact hk.permT [1, 0] rfl⟩ (Sub.cons rfl (Sub.consE rfl (by rw [e1]) (Sub.cons rfl (Sub.cons rfl (Sub.cons rfl (Sub.cons rfl (Sub.consE rfl (by rw [e2]) (Sub.nil _))))))))
     ·
      refine WP.condB rfl (fun g57 => ?_) (fun g57 => ?_)
      ·
       have hxp := inB_pos (hp ▸ g57 : inB xs ys = true)
       refine WD.start (fun w => Rd w pa xs.length 1 (ri xs) ∧ Rd w pb ys.length 1 (ri ys) ∧ Rd w ao o.length 1 (ri o) ∧ Rd w a l.length 1 (ri l) ∧ Rd w b m.length 1 (ri m)) [] #[false, false, false, false, false, false, false] Ty.mo rfl (by kernel_rfl) hS12 (fun _ h => ⟨(h.ro_rd_i 0 rfl), (h.ro_rd_i 1 rfl), (h.own_rd_i 2 rfl), (hX (h.focus 3 rfl)), (hY (h.focus 4 rfl))⟩) (fun w28 hS28 s29 => ?_)
       clear hS12
       refine WD.pure (i := 0) pickAnd_spec_t8 #[true, false, false, false, false, false, false] rfl rfl rfl (by kernel_rfl) (PQ.then (PQ.blk (PQ.then (PQ.blk (PQ.then PQ.body))))) rfl (fun w => run_move rfl) ?_
       obtain ⟨x, hx⟩ : ∃ x, xs[0]? = some x := ⟨_, List.getElem?_eq_getElem (by omega)⟩
       refine WD.take (i := 1) pickAnd_spec_t8 #[true, true, false, false, false, false, false] s29 rfl rfl rfl (by kernel_rfl) (PQ.then (PQ.blk (PQ.then (PQ.blk (PQ.then PQ.body))))) rfl (fun w hs => run_indexAddr (q := adr pa 0) Tryz.underlying22 Ty.sz3 rfl rfl (by omega) (by omega) ((hs.1).2.1 (by omega)) (by simp)) ?_
       refine WD.take (i := 2) pickAnd_spec_t8 #[true, true, true, false, false, false, false] s29 rfl rfl rfl (by kernel_rfl) (PQ.then (PQ.blk (PQ.then (PQ.blk (PQ.then PQ.body))))) rfl (fun w hs => run_load Ty.ag3 rfl ((hs.1).cell (ri_get hx))) ?_
       refine WD.pure (i := 3) pickAnd_spec_t8 #[true, true, true, true, false, false, false] rfl rfl rfl (by kernel_rfl) (PQ.then (PQ.blk (PQ.then (PQ.blk (PQ.then PQ.body))))) rfl (fun w => run_move rfl) ?_
       refine WD.pure (i := 4) pickAnd_spec_t8 #[true, true, true, true, true, false, false] rfl rfl rfl (by kernel_rfl) (PQ.then (PQ.blk (PQ.then (PQ.blk (PQ.then PQ.body))))) rfl (fun w => run_sliceL (i := 1) (j := xs.length) Tryz.underlying22 Ty.sz3 rfl ⟨_, rfl⟩ rfl (by omega) (by omega)) ?_
       refine WD.pure (i := 5) pickAnd_spec_t8 #[true, true, true, true, true, true, false] rfl rfl rfl (by kernel_rfl) (PQ.then (PQ.blk (PQ.then (PQ.blk (PQ.then PQ.body))))) rfl (fun w => run_assign rfl) ?_
       refine WD.pure (i := 6) pickAnd_spec_t8 #[true, true, true, true, true, true, true] rfl rfl rfl (by kernel_rfl) (PQ.then (PQ.blk (PQ.then (PQ.blk (PQ.then PQ.body))))) rfl (fun w => run_assign rfl) ?_
       refine WD.done pickAnd_spec_t8 (by kernel_rfl) ?_
       have e1 : xs.length - 1 = (tl p xs).length := by rw [tl_t g57, List.length_drop]
       have e2 : hd1 p xs 0 = x := hd1_t g57 hx
       have hk := ro_len ((hS28).ro_drop1 (i := 1) (c := ca) (by omega) hca) e1 (show (ri xs).drop 1 = ri (tl p xs) by rw [tl_t g57]; unfold ri; rw [List.map_drop])
       exact K13 ((if ca = 1 then pa else pa.map (·.add (1 * 1))), ca - 1) _ _ ⟨by rw [← e1]; omega, hk⟩ (Sub.consE rfl (by rw [e1]) (Sub.cons rfl (Sub.cons rfl (Sub.cons rfl (Sub.cons rfl (Sub.cons rfl (Sub.consE rfl (by rw [e2]) (Sub.nil _))))))))
      ·
       refine WP.skip ?_
       have e1 : tl p xs = xs := tl_f g57
       have e2 : hd1 p xs 0 = 0 := hd1_f g57
       exact K13 (pa, ca) _ _ ⟨by rw [e1]; exact hca, by have hk := hS12; rw [← e1] at hk; exact hk⟩ (Sub.consE rfl (by rw [e1]) (Sub.cons rfl (Sub.cons rfl (Sub.cons rfl (Sub.cons rfl (Sub.cons rfl (Sub.consE rfl (by rw [e2]) (Sub.nil _))))))))
    ·
     refine WD.start (fun w => Rd w pa xs.length 1 (ri xs) ∧ Rd w pb ys.length 1 (ri ys) ∧ Rd w ao o.length 1 (ri o) ∧ Rd w a l.length 1 (ri l) ∧ Rd w b m.length 1 (ri m)) [] #[false, false, false, false, false, false, false, false, false, false, false, false, false, false, false, false, false, false] Ty.mo rfl (by kernel_rfl) hS10 (fun _ h => ⟨(h.ro_rd_i 0 rfl), (h.ro_rd_i 1 rfl), (h.own_rd_i 2 rfl), (hX (h.focus 3 rfl)), (hY (h.focus 4 rfl))⟩) (fun w30 hS30 s31 => ?_)
     clear hS10
     refine WD.pure (i := 0) pickAnd_spec_t5 #[true, false, false, false, false, false, false, false, false, false, false, false, false, false, false, false, false, false] rfl rfl rfl (by kernel_rfl) (PQ.then (PQ.blk (PQ.then (PQ.blk (PQ.then PQ.body))))) rfl (fun w => run_move rfl) ?_
     refine WD.pure (i := 1) pickAnd_spec_t5 #[true, true, false, false, false, false, false, false, false, false, false, false, false, false, false, false, false, false] rfl rfl rfl (by kernel_rfl) (PQ.then (PQ.blk (PQ.then (PQ.blk (PQ.then PQ.body))))) rfl (fun w => run_len rfl Tryz.underlying22 rfl) ?_
     refine WD.pure (i := 2) pickAnd_spec_t5 #[true, true, true, false, false, false, false, false, false, false, false, false, false, false, false, false, false, false] rfl rfl rfl (by kernel_rfl) (PQ.then (PQ.blk (PQ.then (PQ.blk (PQ.then PQ.body))))) rfl (fun w => run_gtr rfl rfl) ?_
     refine WD.pure (i := 3) pickAnd_spec_t5 #[true, true, true, true, false, false, false, false, false, false, false, false, false, false, false, false, false, false] rfl rfl rfl (by kernel_rfl) (PQ.then (PQ.blk (PQ.then (PQ.blk (PQ.then PQ.body))))) rfl (fun w => run_move rfl) ?_
     by_cases g43 : 0 < ((ys.length : Nat) : Int)
     ·
      refine WD.pureOn (i := 4) pickAnd_spec_t5 #[true, true, true, true, true, false, false, false, false, false, false, false, false, false, false, false, false, false] rfl rfl rfl (decide_eq_true g43) (by kernel_rfl) (PQ.then (PQ.blk (PQ.then (PQ.blk (PQ.then PQ.body))))) rfl (fun w => run_move rfl) ?_
      refine WD.pureOn (i := 5) pickAnd_spec_t5 #[true, true, true, true, true, true, false, false, false, false, false, false, false, false, false, false, false, false] rfl rfl rfl (decide_eq_true g43) (by kernel_rfl) (PQ.then (PQ.blk (PQ.then (PQ.blk (PQ.then PQ.body))))) rfl (fun w => run_len rfl Tryz.underlying22 rfl) ?_
      refine WD.pureOn (i := 6) pickAnd_spec_t5 #[true, true, true, true, true, true, true, false, false, false, false, false, false, false, false, false, false, false] rfl rfl rfl (decide_eq_true g43) (by kernel_rfl) (PQ.then (PQ.blk (PQ.then (PQ.blk (PQ.then PQ.body))))) rfl (fun w => run_eql rfl rfl) ?_
      refine WD.pureOn (i := 7) pickAnd_spec_t5 #[true, true, true, true, true, true, true, true, false, false, false, false, false, false, false, false, false, false] rfl rfl rfl (decide_eq_true g43) (by kernel_rfl) (PQ.then (PQ.blk (PQ.then (PQ.blk (PQ.then PQ.body))))) rfl (fun w => run_move rfl) ?_
      by_cases g47 : ((xs.length : Nat) : Int) = 0
      ·
       refine WD.off (i := 8) pickAnd_spec_t5 #[true, true, true, true, true, true, true, true, true, false, false, false, false, false, false, false, false, false] rfl rfl rfl (decide_eq_true g47) (by kernel_rfl) (PQ.then (PQ.blk (PQ.then (PQ.blk (PQ.then PQ.body))))) rfl ?_
       refine WD.off (i := 9) pickAnd_spec_t5 #[true, true, true, true, true, true, true, true, true, true, false, false, false, false, false, false, false, false] rfl rfl rfl (decide_eq_true g47) (by kernel_rfl) (PQ.then (PQ.blk (PQ.then (PQ.blk (PQ.then PQ.body))))) rfl ?_
       refine WD.off (i := 10) pickAnd_spec_t5 #[true, true, true, true, true, true, true, true, true, true, true, false, false, false, false, false, false, false] rfl rfl rfl (decide_eq_true g47) (by kernel_rfl) (PQ.then (PQ.blk (PQ.then (PQ.blk (PQ.then PQ.body))))) rfl ?_
       refine WD.off (i := 11) pickAnd_spec_t5 #[true, true, true, true, true, true, true, true, true, true, true, true, false, false, false, false, false, false] rfl rfl rfl (decide_eq_true g47) (by kernel_rfl) (PQ.then (PQ.blk (PQ.then (PQ.blk (PQ.then PQ.body))))) rfl ?_
       refine WD.off (i := 12) pickAnd_spec_t5 #[true, true, true, true, true, true, true, true, true, true, true, true, true, false, false, false, false, false] rfl rfl rfl (decide_eq_true g47) (by kernel_rfl) (PQ.then (PQ.blk (PQ.then (PQ.blk (PQ.then PQ.body))))) rfl ?_
       refine WD.off (i := 13) pickAnd_spec_t5 #[true, true, true, true, true, true, true, true, true, true, true, true, true, true, false, false, false, false] rfl rfl rfl (decide_eq_true g47) (by kernel_rfl) (PQ.then (PQ.blk (PQ.then (PQ.blk (PQ.then PQ.body))))) rfl ?_
       refine WD.off (i := 14) pickAnd_spec_t5 #[true, true, true, true, true, true, true, true, true, true, true, true, true, true, true, false, false, false] rfl rfl rfl (decide_eq_true g47) (by kernel_rfl) (PQ.then (PQ.blk (PQ.then (PQ.blk (PQ.then PQ.body))))) rfl ?_
       refine WD.pureOn (i := 15) pickAnd_spec_t5 #[true, true, true, true, true, true, true, true, true, true, true, true, true, true, true, true, false, false] rfl rfl rfl (decide_eq_true g43) (by kernel_rfl) (PQ.then (PQ.blk (PQ.then (PQ.blk (PQ.then PQ.body))))) rfl (fun w => run_pickT rfl (decide_eq_true g47) rfl) ?_
       refine WD.pure (i := 16) pickAnd_spec_t5 #[true, true, true, true, true, true, true, true, true, true, true, true, true, true, true, true, true, false] rfl rfl rfl (by kernel_rfl) (PQ.then (PQ.blk (PQ.then (PQ.blk (PQ.then PQ.body))))) rfl (fun w => run_pickT rfl (decide_eq_true g43) rfl) ?_
       refine WD.pure (i := 17) pickAnd_spec_t5 #[true, true, true, true, true, true, true, true, true, true, true, true, true, true, true, true, true, true] rfl rfl rfl (by kernel_rfl) (PQ.then (PQ.blk (PQ.then (PQ.blk (PQ.then PQ.body))))) rfl (fun w => run_assign rfl) ?_
       refine WD.done pickAnd_spec_t5 (by kernel_rfl) ?_
       exact K11 true _ _ ⟨inB_t g43 g47, hS30⟩ (Sub.cons rfl (Sub.cons rfl (Sub.cons rfl (Sub.cons rfl (Sub.cons rfl (Sub.consE rfl (by first | rfl | first | rfl | (congr 1; omega) | (simp; done) | (simp; omega)) (Sub.nil _)))))))
      ·
       refine WD.pureOn (i := 8) pickAnd_spec_t5 #[true, true, true, true, true, true, true, true, true, false, false, false, false, false, false, false, false, false] rfl rfl rfl (decide_eq_false g47) (by kernel_rfl) (PQ.then (PQ.blk (PQ.then (PQ.blk (PQ.then PQ.body))))) rfl (fun w => run_move rfl) ?_
       obtain ⟨y, hy⟩ : ∃ y, ys[0]? = some y := ⟨_, List.getElem?_eq_getElem (by omega)⟩
       refine WD.takeOn (i := 9) pickAnd_spec_t5 #[true, true, true, true, true, true, true, true, true, true, false, false, false, false, false, false, false, false] s31 rfl rfl rfl (decide_eq_false g47) (by kernel_rfl) (PQ.then (PQ.blk (PQ.then (PQ.blk (PQ.then PQ.body))))) rfl (fun w hs => run_indexAddr (q := adr pb 0) Tryz.underlying22 Ty.sz3 rfl rfl (by omega) (by omega) ((hs.2.1).2.1 (by omega)) (by simp)) ?_
       refine WD.takeOn (i := 10) pickAnd_spec_t5 #[true, true, true, true, true, true, true, true, true, true, true, false, false, false, false, false, false, false] s31 rfl rfl rfl (decide_eq_false g47) (by kernel_rfl) (PQ.then (PQ.blk (PQ.then (PQ.blk (PQ.then PQ.body))))) rfl (fun w hs => run_load Ty.ag3 rfl ((hs.2.1).cell (ri_get hy))) ?_
       refine WD.pureOn (i := 11) pickAnd_spec_t5 #[true, true, true, true, true, true, true, true, true, true, true, true, false, false, false, false, false, false] rfl rfl rfl (decide_eq_false g47) (by kernel_rfl) (PQ.then (PQ.blk (PQ.then (PQ.blk (PQ.then PQ.body))))) rfl (fun w => run_move rfl) ?_
       obtain ⟨x, hx⟩ : ∃ x, xs[0]? = some x := ⟨_, List.getElem?_eq_getElem (by omega)⟩
       refine WD.takeOn (i := 12) pickAnd_spec_t5 #[true, true, true, true, true, true, true, true, true, true, true, true, true, false, false, false, false, false] s31 rfl rfl rfl (decide_eq_false g47) (by kernel_rfl) (PQ.then (PQ.blk (PQ.then (PQ.blk (PQ.then PQ.body))))) rfl (fun w hs => run_indexAddr (q := adr pa 0) Tryz.underlying22 Ty.sz3 rfl rfl (by omega) (by omega) ((hs.1).2.1 (by omega)) (by simp)) ?_
       refine WD.takeOn (i := 13) pickAnd_spec_t5 #[true, true, true, true, true, true, true, true, true, true, true, true, true, true, false, false, false, false] s31 rfl rfl rfl (decide_eq_false g47) (by kernel_rfl) (PQ.then (PQ.blk (PQ.then (PQ.blk (PQ.then PQ.body))))) rfl (fun w hs => run_load Ty.ag3 rfl ((hs.1).cell (ri_get hx))) ?_
       refine WD.pureOn (i := 14) pickAnd_spec_t5 #[true, true, true, true, true, true, true, true, true, true, true, true, true, true, true, false, false, false] rfl rfl rfl (decide_eq_false g47) (by kernel_rfl) (PQ.then (PQ.blk (PQ.then (PQ.blk (PQ.then PQ.body))))) rfl (fun w => run_leq rfl rfl) ?_
       refine WD.pureOn (i := 15) pickAnd_spec_t5 #[true, true, true, true, true, true, true, true, true, true, true, true, true, true, true, true, false, false] rfl rfl rfl (decide_eq_true g43) (by kernel_rfl) (PQ.then (PQ.blk (PQ.then (PQ.blk (PQ.then PQ.body))))) rfl (fun w => run_pickF rfl (decide_eq_false g47) rfl) ?_
       refine WD.pure (i := 16) pickAnd_spec_t5 #[true, true, true, true, true, true, true, true, true, true, true, true, true, true, true, true, true, false] rfl rfl rfl (by kernel_rfl) (PQ.then (PQ.blk (PQ.then (PQ.blk (PQ.then PQ.body))))) rfl (fun w => run_pickT rfl (decide_eq_true g43) rfl) ?_
       refine WD.pure (i := 17) pickAnd_spec_t5 #[true, true, true, true, true, true, true, true, true, true, true, true, true, true, true, true, true, true] rfl rfl rfl (by kernel_rfl) (PQ.then (PQ.blk (PQ.then (PQ.blk (PQ.then PQ.body))))) rfl (fun w => run_assign rfl) ?_
       refine WD.done pickAnd_spec_t5 (by kernel_rfl) ?_
       exact K11 (decide (y ≤ x)) _ _ ⟨inB_d hy hx, hS30⟩ (Sub.cons rfl (Sub.cons rfl (Sub.cons rfl (Sub.cons rfl (Sub.cons rfl (Sub.consE rfl (by first | rfl | first | rfl | (congr 1; omega) | (simp; done) | (simp; omega)) (Sub.nil _)))))))
     ·
      refine WD.off (i := 4) pickAnd_spec_t5 #[true, true, true, true, true, false, false, false, false, false, false, false, false, false, false, false, false, false] rfl rfl rfl (decide_eq_false g43) (by kernel_rfl) (PQ.then (PQ.blk (PQ.then (PQ.blk (PQ.then PQ.body))))) rfl ?_
      refine WD.off (i := 5) pickAnd_spec_t5 #[true, true, true, true, true, true, false, false, false, false, false, false, false, false, false, false, false, false] rfl rfl rfl (decide_eq_false g43) (by kernel_rfl) (PQ.then (PQ.blk (PQ.then (PQ.blk (PQ.then PQ.body))))) rfl ?_
      refine WD.off (i := 6) pickAnd_spec_t5 #[true, true, true, true, true, true, true, false, false, false, false, false, false, false, false, false, false, false] rfl rfl rfl (decide_eq_false g43) (by kernel_rfl) (PQ.then (PQ.blk (PQ.then (PQ.blk (PQ.then PQ.body))))) rfl ?_
      refine WD.off (i := 7) pickAnd_spec_t5 #[true, true, true, true, true, true, true, true, false, false, false, false, false, false, false, false, false, false] rfl rfl rfl (decide_eq_false g43) (by kernel_rfl) (PQ.then (PQ.blk (PQ.then (PQ.blk (PQ.then PQ.body))))) rfl ?_
      refine WD.offU (i := 8) pickAnd_spec_t5 #[true, true, true, true, true, true, true, true, true, false, false, false, false, false, false, false, false, false] rfl rfl rfl (by kernel_rfl) (PQ.then (PQ.blk (PQ.then (PQ.blk (PQ.then PQ.body))))) rfl ?_
      refine WD.offU (i := 9) pickAnd_spec_t5 #[true, true, true, true, true, true, true, true, true, true, false, false, false, false, false, false, false, false] rfl rfl rfl (by kernel_rfl) (PQ.then (PQ.blk (PQ.then (PQ.blk (PQ.then PQ.body))))) rfl ?_
      refine WD.offU (i := 10) pickAnd_spec_t5 #[true, true, true, true, true, true, true, true, true, true, true, false, false, false, false, false, false, false] rfl rfl rfl (by kernel_rfl) (PQ.then (PQ.blk (PQ.then (PQ.blk (PQ.then PQ.body))))) rfl ?_
      refine WD.offU (i := 11) pickAnd_spec_t5 #[true, true, true, true, true, true, true, true, true, true, true, true, false, false, false, false, false, false] rfl rfl rfl (by kernel_rfl) (PQ.then (PQ.blk (PQ.then (PQ.blk (PQ.then PQ.body))))) rfl ?_
      refine WD.offU (i := 12) pickAnd_spec_t5 #[true, true, true, true, true, true, true, true, true, true, true, true, true, false, false, false, false, false] rfl rfl rfl (by kernel_rfl) (PQ.then (PQ.blk (PQ.then (PQ.blk (PQ.then PQ.body))))) rfl ?_
      refine WD.offU (i := 13) pickAnd_spec_t5 #[true, true, true, true, true, true, true, true, true, true, true, true, true, true, false, false, false, false] rfl rfl rfl (by kernel_rfl) (PQ.then (PQ.blk (PQ.then (PQ.blk (PQ.then PQ.body))))) rfl ?_
      refine WD.offU (i := 14) pickAnd_spec_t5 #[true, true, true, true, true, true, true, true, true, true, true, true, true, true, true, false, false, false] rfl rfl rfl (by kernel_rfl) (PQ.then (PQ.blk (PQ.then (PQ.blk (PQ.then PQ.body))))) rfl ?_
      refine WD.off (i := 15) pickAnd_spec_t5 #[true, true, true, true, true, true, true, true, true, true, true, true, true, true, true, true, false, false] rfl rfl rfl (decide_eq_false g43) (by kernel_rfl) (PQ.then (PQ.blk (PQ.then (PQ.blk (PQ.then PQ.body))))) rfl ?_
      refine WD.pure (i := 16) pickAnd_spec_t5 #[true, true, true, true, true, true, true, true, true, true, true, true, true, true, true, true, true, false] rfl rfl rfl (by kernel_rfl) (PQ.then (PQ.blk (PQ.then (PQ.blk (PQ.then PQ.body))))) rfl (fun w => run_pickF rfl (decide_eq_false g43) rfl) ?_
      refine WD.pure (i := 17) pickAnd_spec_t5 #[true, true, true, true, true, true, true, true, true, true, true, true, true, true, true, true, true, true] rfl rfl rfl (by kernel_rfl) (PQ.then (PQ.blk (PQ.then (PQ.blk (PQ.then PQ.body))))) rfl (fun w => run_assign rfl) ?_
      refine WD.done pickAnd_spec_t5 (by kernel_rfl) ?_
      exact K11 false _ _ ⟨inB_f g43, hS30⟩ (Sub.cons rfl (Sub.cons rfl (Sub.cons rfl (Sub.cons rfl (Sub.cons rfl (Sub.consE rfl (by first | rfl | first | rfl | (congr 1; omega) | (simp; done) | (simp; omega)) (Sub.nil _)))))))
   ·
    refine WD.start (fun w => Rd w pa xs.length 1 (ri xs) ∧ Rd w pb ys.length 1 (ri ys) ∧ Rd w ao o.length 1 (ri o) ∧ Rd w a l.length 1 (ri l) ∧ Rd w b m.length 1 (ri m)) [] #[false, false, false, false, false, false, false, false, false, false, false, false, false, false, false, false, false, false] Ty.mo rfl (by kernel_rfl) hS8 (fun _ h => ⟨(h.ro_rd_i 0 rfl), (h.ro_rd_i 1 rfl), (h.own_rd_i 2 rfl), (hX (h.focus 3 rfl)), (hY (h.focus 4 rfl))⟩) (fun w32 hS32 s33 => ?_)
    clear hS8
    refine WD.pure (i := 0) pickAnd_spec_t4 #[true, false, false, false, false, false, false, false, false, false, false, false, false, false, false, false, false, false] rfl rfl rfl (by kernel_rfl) (PQ.then (PQ.blk (PQ.then (PQ.blk (PQ.then PQ.body))))) rfl (fun w => run_move rfl) ?_
    refine WD.pure (i := 1) pickAnd_spec_t4 #[true, true, false, false, false, false, false, false, false, false, false, false, false, false, false, false, false, false] rfl rfl rfl (by kernel_rfl) (PQ.then (PQ.blk (PQ.then (PQ.blk (PQ.then PQ.body))))) rfl (fun w => run_len rfl Tryz.underlying22 rfl) ?_
    refine WD.pure (i := 2) pickAnd_spec_t4 #[true, true, true, false, false, false, false, false, false, false, false, false, false, false, false, false, false, false] rfl rfl rfl (by kernel_rfl) (PQ.then (PQ.blk (PQ.then (PQ.blk (PQ.then PQ.body))))) rfl (fun w => run_gtr rfl rfl) ?_
    refine WD.pure (i := 3) pickAnd_spec_t4 #[true, true, true, true, false, false, false, false, false, false, false, false, false, false, false, false, false, false] rfl rfl rfl (by kernel_rfl) (PQ.then (PQ.blk (PQ.then (PQ.blk (PQ.then PQ.body))))) rfl (fun w => run_move rfl) ?_
    by_cases g26 : 0 < ((xs.length : Nat) : Int)
    ·
     refine WD.pureOn (i := 4) pickAnd_spec_t4 #[true, true, true, true, true, false, false, false, false, false, false, false, false, false, false, false, false, false] rfl rfl rfl (decide_eq_true g26) (by kernel_rfl) (PQ.then (PQ.blk (PQ.then (PQ.blk (PQ.then PQ.body))))) rfl (fun w => run_move rfl) ?_
     refine WD.pureOn (i := 5) pickAnd_spec_t4 #[true, true, true, true, true, true, false, false, false, false, false, false, false, false, false, false, false, false] rfl rfl rfl (decide_eq_true g26) (by kernel_rfl) (PQ.then (PQ.blk (PQ.then (PQ.blk (PQ.then PQ.body))))) rfl (fun w => run_len rfl Tryz.underlying22 rfl) ?_
     refine WD.pureOn (i := 6) pickAnd_spec_t4 #[true, true, true, true, true, true, true, false, false, false, false, false, false, false, false, false, false, false] rfl rfl rfl (decide_eq_true g26) (by kernel_rfl) (PQ.then (PQ.blk (PQ.then (PQ.blk (PQ.then PQ.body))))) rfl (fun w => run_eql rfl rfl) ?_
     refine WD.pureOn (i := 7) pickAnd_spec_t4 #[true, true, true, true, true, true, true, true, false, false, false, false, false, false, false, false, false, false] rfl rfl rfl (decide_eq_true g26) (by kernel_rfl) (PQ.then (PQ.blk (PQ.then (PQ.blk (PQ.then PQ.body))))) rfl (fun w => run_move rfl) ?_
     by_cases g30 : ((ys.length : Nat) : Int) = 0
     ·
      refine WD.off (i := 8) pickAnd_spec_t4 #[true, true, true, true, true, true, true, true, true, false, false, false, false, false, false, false, false, false] rfl rfl rfl (decide_eq_true g30) (by kernel_rfl) (PQ.then (PQ.blk (PQ.then (PQ.blk (PQ.then PQ.body))))) rfl ?_
      refine WD.off (i := 9) pickAnd_spec_t4 #[true, true, true, true, true, true, true, true, true, true, false, false, false, false, false, false, false, false] rfl rfl rfl (decide_eq_true g30) (by kernel_rfl) (PQ.then (PQ.blk (PQ.then (PQ.blk (PQ.then PQ.body))))) rfl ?_
      refine WD.off (i := 10) pickAnd_spec_t4 #[true, true, true, true, true, true, true, true, true, true, true, false, false, false, false, false, false, false] rfl rfl rfl (decide_eq_true g30) (by kernel_rfl) (PQ.then (PQ.blk (PQ.then (PQ.blk (PQ.then PQ.body))))) rfl ?_
      refine WD.off (i := 11) pickAnd_spec_t4 #[true, true, true, true, true, true, true, true, true, true, true, true, false, false, false, false, false, false] rfl rfl rfl (decide_eq_true g30) (by kernel_rfl) (PQ.then (PQ.blk (PQ.then (PQ.blk (PQ.then PQ.body))))) rfl ?_
      refine WD.off (i := 12) pickAnd_spec_t4 #[true, true, true, true, true, true, true, true, true, true, true, true, true, false, false, false, false, false] rfl rfl rfl (decide_eq_true g30) (by kernel_rfl) (PQ.then (PQ.blk (PQ.then (PQ.blk (PQ.then PQ.body))))) rfl ?_
      refine WD.off (i := 13) pickAnd_spec_t4 #[true, true, true, true, true, true, true, true, true, true, true, true, true, true, false, false, false, false] rfl rfl rfl (decide_eq_true g30) (by kernel_rfl) (PQ.then (PQ.blk (PQ.then (PQ.blk (PQ.then PQ.body))))) rfl ?_
      refine WD.off (i := 14) pickAnd_spec_t4 #[true, true, true, true, true, true, true, true, true, true, true, true, true, true, true, false, false, false] rfl rfl rfl (decide_eq_true g30) (by kernel_rfl) (PQ.then (PQ.blk (PQ.then (PQ.blk (PQ.then PQ.body))))) rfl ?_
      refine WD.pureOn (i := 15) pickAnd_spec_t4 #[true, true, true, true, true, true, true, true, true, true, true, true, true, true, true, true, false, false] rfl rfl rfl (decide_eq_true g26) (by kernel_rfl) (PQ.then (PQ.blk (PQ.then (PQ.blk (PQ.then PQ.body))))) rfl (fun w => run_pickT rfl (decide_eq_true g30) rfl) ?_
      refine WD.pure (i := 16) pickAnd_spec_t4 #[true, true, true, true, true, true, true, true, true, true, true, true, true, true, true, true, true, false] rfl rfl rfl (by kernel_rfl) (PQ.then (PQ.blk (PQ.then (PQ.blk (PQ.then PQ.body))))) rfl (fun w => run_pickT rfl (decide_eq_true g26) rfl) ?_
      refine WD.pure (i := 17) pickAnd_spec_t4 #[true, true, true, true, true, true, true, true, true, true, true, true, true, true, true, true, true, true] rfl rfl rfl (by kernel_rfl) (PQ.then (PQ.blk (PQ.then (PQ.blk (PQ.then PQ.body))))) rfl (fun w => run_assign rfl) ?_
      refine WD.done pickAnd_spec_t4 (by kernel_rfl) ?_
      exact K9 true _ _ ⟨inB_t g26 g30, hS32⟩ (Sub.cons rfl (Sub.cons rfl (Sub.cons rfl (Sub.cons rfl (Sub.consE rfl (by first | rfl | first | rfl | (congr 1; omega) | (simp; done) | (simp; omega)) (Sub.nil _))))))
     ·
      refine WD.pureOn (i := 8) pickAnd_spec_t4 #[true, true, true, true, true, true, true, true, true, false, false, false, false, false, false, false, false, false] rfl rfl rfl (decide_eq_false g30) (by kernel_rfl) (PQ.then (PQ.blk (PQ.then (PQ.blk (PQ.then PQ.body))))) rfl (fun w => run_move rfl) ?_
      obtain ⟨x, hx⟩ : ∃ x, xs[0]? = some x := ⟨_, List.getElem?_eq_getElem (by omega)⟩
      refine WD.takeOn (i := 9) pickAnd_spec_t4 #[true, true, true, true, true, true, true, true, true, true, false, false, false, false, false, false, false, false] s33 rfl rfl rfl (decide_eq_false g30) (by kernel_rfl) (PQ.then (PQ.blk (PQ.then (PQ.blk (PQ.then PQ.body))))) rfl (fun w hs => run_indexAddr (q := adr pa 0) Tryz.underlying22 Ty.sz3 rfl rfl (by omega) (by omega) ((hs.1).2.1 (by omega)) (by simp)) ?_
      refine WD.takeOn (i := 10) pickAnd_spec_t4 #[true, true, true, true, true, true, true, true, true, true, true, false, false, false, false, false, false, false] s33 rfl rfl rfl (decide_eq_false g30) (by kernel_rfl) (PQ.then (PQ.blk (PQ.then (PQ.blk (PQ.then PQ.body))))) rfl (fun w hs => run_load Ty.ag3 rfl ((hs.1).cell (ri_get hx))) ?_
      refine WD.pureOn (i := 11) pickAnd_spec_t4 #[true, true, true, true, true, true, true, true, true, true, true, true, false, false, false, false, false, false] rfl rfl rfl (decide_eq_false g30) (by kernel_rfl) (PQ.then (PQ.blk (PQ.then (PQ.blk (PQ.then PQ.body))))) rfl (fun w => run_move rfl) ?_
      obtain ⟨y, hy⟩ : ∃ y, ys[0]? = some y := ⟨_, List.getElem?_eq_getElem (by omega)⟩
      refine WD.takeOn (i := 12) pickAnd_spec_t4 #[true, true, true, true, true, true, true, true, true, true, true, true, true, false, false, false, false, false] s33 rfl rfl rfl (decide_eq_false g30) (by kernel_rfl) (PQ.then (PQ.blk (PQ.then (PQ.blk (PQ.then PQ.body))))) rfl (fun w hs => run_indexAddr (q := adr pb 0) Tryz.underlying22 Ty.sz3 rfl rfl (by omega) (by omega) ((hs.2.1).2.1 (by omega)) (by simp)) ?_
      refine WD.takeOn (i := 13) pickAnd_spec_t4 #[true, true, true, true, true, true, true, true, true, true, true, true, true, true, false, false, false, false] s33 rfl rfl rfl (decide_eq_false g30) (by kernel_rfl) (PQ.then (PQ.blk (PQ.then (PQ.blk (PQ.then PQ.body))))) rfl (fun w hs => run_load Ty.ag3 rfl ((hs.2.1).cell (ri_get hy))) ?_
      refine WD.pureOn (i := 14) pickAnd_spec_t4 #[true, true, true, true, true, true, true, true, true, true, true, true, true, true, true, false, false, false] rfl rfl rfl (decide_eq_false g30) (by kernel_rfl) (PQ.then (PQ.blk (PQ.then (PQ.blk (PQ.then PQ.body))))) rfl (fun w => run_leq rfl rfl) ?_
      refine WD.pureOn (i := 15) pickAnd_spec_t4 #[true, true, true, true, true, true, true, true, true, true, true, true, true, true, true, true, false, false] rfl rfl rfl (decide_eq_true g26) (by kernel_rfl) (PQ.then (PQ.blk (PQ.then (PQ.blk (PQ.then PQ.body))))) rfl (fun w => run_pickF rfl (decide_eq_false g30) rfl) ?_
      refine WD.pure (i := 16) pickAnd_spec_t4 #[true, true, true, true, true, true, true, true, true, true, true, true, true, true, true, true, true, false] rfl rfl rfl (by kernel_rfl) (PQ.then (PQ.blk (PQ.then (PQ.blk (PQ.then PQ.body))))) rfl (fun w => run_pickT rfl (decide_eq_true g26) rfl) ?_
      refine WD.pure (i := 17) pickAnd_spec_t4 #[true, true, true, true, true, true, true, true, true, true, true, true, true, true, true, true, true, true] rfl rfl rfl (by kernel_rfl) (PQ.then (PQ.blk (PQ.then (PQ.blk (PQ.then PQ.body))))) rfl (fun w => run_assign rfl) ?_
      refine WD.done pickAnd_spec_t4 (by kernel_rfl) ?_
      exact K9 (decide (x ≤ y)) _ _ ⟨inB_d hx hy, hS32⟩ (Sub.cons rfl (Sub.cons rfl (Sub.cons rfl (Sub.cons rfl (Sub.consE rfl (by first | rfl | first | rfl | (congr 1; omega) | (simp; done) | (simp; omega)) (Sub.nil _))))))
    ·
     refine WD.off (i := 4) pickAnd_spec_t4 #[true, true, true, true, true, false, false, false, false, false, false, false, false, false, false, false, false, false] rfl rfl rfl (decide_eq_false g26) (by kernel_rfl) (PQ.then (PQ.blk (PQ.then (PQ.blk (PQ.then PQ.body))))) rfl ?_
     refine WD.off (i := 5) pickAnd_spec_t4 #[true, true, true, true, true, true, false, false, false, false, false, false, false, false, false, false, false, false] rfl rfl rfl (decide_eq_false g26) (by kernel_rfl) (PQ.then (PQ.blk (PQ.then (PQ.blk (PQ.then PQ.body))))) rfl ?_
     refine WD.off (i := 6) pickAnd_spec_t4 #[true, true, true, true, true, true, true, false, false, false, false, false, false, false, false, false, false, false] rfl rfl rfl (decide_eq_false g26) (by kernel_rfl) (PQ.then (PQ.blk (PQ.then (PQ.blk (PQ.then PQ.body))))) rfl ?_
     refine WD.off (i := 7) pickAnd_spec_t4 #[true, true, true, true, true, true, true, true, false, false, false, false, false, false, false, false, false, false] rfl rfl rfl (decide_eq_false g26) (by kernel_rfl) (PQ.then (PQ.blk (PQ.then (PQ.blk (PQ.then PQ.body))))) rfl ?_
     refine WD.offU (i := 8) pickAnd_spec_t4 #[true, true, true, true, true, true, true, true, true, false, false, false, false, false, false, false, false, false] rfl rfl rfl (by kernel_rfl) (PQ.then (PQ.blk (PQ.then (PQ.blk (PQ.then PQ.body))))) rfl ?_
     refine WD.offU (i := 9) pickAnd_spec_t4 #[true, true, true, true, true, true, true, true, true, true, false, false, false, false, false, false, false, false] rfl rfl rfl (by kernel_rfl) (PQ.then (PQ.blk (PQ.then (PQ.blk (PQ.then PQ.body))))) rfl ?_
     refine WD.offU (i := 10) pickAnd_spec_t4 #[true, true, true, true, true, true, true, true, true, true, true, false, false, false, false, false, false, false] rfl rfl rfl (by kernel_rfl) (PQ.then (PQ.blk (PQ.then (PQ.blk (PQ.then PQ.body))))) rfl ?_
     refine WD.offU (i := 11) pickAnd_spec_t4 #[true, true, true, true, true, true, true, true, true, true, true, true, false, false, false, false, false, false] rfl rfl rfl (by kernel_rfl) (PQ.then (PQ.blk (PQ.then (PQ.blk (PQ.then PQ.body))))) rfl ?_
     refine WD.offU (i := 12) pickAnd_spec_t4 #[true, true, true, true, true, true, true, true, true, true, true, true, true, false, false, false, false, false] rfl rfl rfl (by kernel_rfl) (PQ.then (PQ.blk (PQ.then (PQ.blk (PQ.then PQ.body))))) rfl ?_
     refine WD.offU (i := 13) pickAnd_spec_t4 #[true, true, true, true, true, true, true, true, true, true, true, true, true, true, false, false, false, false] rfl rfl rfl (by kernel_rfl) (PQ.then (PQ.blk (PQ.then (PQ.blk (PQ.then PQ.body))))) rfl ?_
     refine WD.offU (i := 14) pickAnd_spec_t4 #[true, true, true, true, true, true, true, true, true, true, true, true, true, true, true, false, false, false] rfl rfl rfl (by kernel_rfl) (PQ.then (PQ.blk (PQ.then (PQ.blk (PQ.then PQ.body))))) rfl ?_
     refine WD.off (i := 15) pickAnd_spec_t4 #[true, true, true, true, true, true, true, true, true, true, true, true, true, true, true, true, false, false] rfl rfl rfl (decide_eq_false g26) (by kernel_rfl) (PQ.then (PQ.blk (PQ.then (PQ.blk (PQ.then PQ.body))))) rfl ?_
     refine WD.pure (i := 16) pickAnd_spec_t4 #[true, true, true, true, true, true, true, true, true, true, true, true, true, true, true, true, true, false] rfl rfl rfl (by kernel_rfl) (PQ.then (PQ.blk (PQ.then (PQ.blk (PQ.then PQ.body))))) rfl (fun w => run_pickF rfl (decide_eq_false g26) rfl) ?_
     refine WD.pure (i := 17) pickAnd_spec_t4 #[true, true, true, true, true, true, true, true, true, true, true, true, true, true, true, true, true, true] rfl rfl rfl (by kernel_rfl) (PQ.then (PQ.blk (PQ.then (PQ.blk (PQ.then PQ.body))))) rfl (fun w => run_assign rfl) ?_
     refine WD.done pickAnd_spec_t4 (by kernel_rfl) ?_
     exact K9 false _ _ ⟨inB_f g26, hS32⟩ (Sub.cons rfl (Sub.cons rfl (Sub.cons rfl (Sub.cons rfl (Sub.consE rfl (by first | rfl | first | rfl | (congr 1; omega) | (simp; done) | (simp; omega)) (Sub.nil _))))))
  ·
   have hnc : ¬ (0 < xs.length ∨ 0 < ys.length) := fun h => by rw [hcc.2 h] at g22; cases g22
   refine WP.exit ?_
   refine NX.thenExit ?_
   refine NX.thenExit ?_
   refine NX.blkExit ?_
   refine NX.go ?_
   refine WP.seq ?_
   refine WP.region rfl ?_
   refine WO.val (run_move rfl) rfl rfl rfl ?_
   refine WO.val (run_assign rfl) rfl rfl rfl ?_
   refine WO.nil ?_
   refine NX.go ?_
   refine WP.ret ?_
   refine NX.done (l := [.tmp 6]) rfl rfl ?_
   have hRR := pk_end hnc hR
   exact ⟨ao, co, congrArg (fun z => Value.slice ao z co) (by rw [hRR]), own_len (hS8.drop.drop) (by rw [hRR]) (by rw [hRR])⟩
 ·
  refine WP.region rfl ?_
  refine WO.val (run_move rfl) rfl rfl rfl ?_
  refine WO.val (run_len rfl Tryz.underlying22 rfl) rfl rfl rfl ?_
  refine WO.val (run_gtr rfl rfl) rfl rfl rfl ?_
  refine WO.val (run_move rfl) rfl rfl rfl ?_
  by_cases g18 : 0 < ((xs.length : Nat) : Int)
  ·
   refine WO.off rfl rfl (decide_eq_true g18) rfl ?_
   refine WO.off rfl rfl (decide_eq_true g18) rfl ?_
   refine WO.off rfl rfl (decide_eq_true g18) rfl ?_
   refine WO.val (run_pickT rfl (decide_eq_true g18) rfl) rfl rfl rfl ?_
   refine WO.nil ?_
   exact K7 true _ _ ⟨pk_c1 g18, hS6⟩ (Sub.cons rfl (Sub.cons rfl (Sub.cons rfl (Sub.cons rfl (Sub.consE rfl (by first | rfl | first | rfl | (congr 1; omega) | (simp; done) | (simp; omega)) (Sub.nil _))))))
  ·
   refine WO.on rfl rfl (decide_eq_false g18) ?_
   refine WO.val (run_move rfl) rfl rfl rfl ?_
   refine WO.on rfl rfl (decide_eq_false g18) ?_
   refine WO.val (run_len rfl Tryz.underlying22 rfl) rfl rfl rfl ?_
   refine WO.on rfl rfl (decide_eq_false g18) ?_
   refine WO.val (run_gtr rfl rfl) rfl rfl rfl ?_
   refine WO.val (run_pickF rfl (decide_eq_false g18) rfl) rfl rfl rfl ?_
   refine WO.nil ?_
   exact K7 (decide (0 < ((ys.length : Nat) : Int))) _ _ ⟨pk_c2 g18, hS6⟩ (Sub.cons rfl (Sub.cons rfl (Sub.cons rfl (Sub.cons rfl (Sub.consE rfl (by first | rfl | first | rfl | (congr 1; omega) | (simp; done) | (simp; omega)) (Sub.nil _))))))
theorem pAnd_spec {B w : World} {L : List HP} {X Y : HP} {a b : Option Addr} {cap cap2 : Nat} {l m : List Int} (hX : ∀ {L : List HP} {w : World}, St B (X :: L) w → Rd w a l.length 1 (ri l)) (hY : ∀ {L : List HP} {w : World}, St B (Y :: L) w → Rd w b m.length 1 (ri m)) (hb : l.length ≤ 400000) (hb2 : m.length ≤ 400000) (hS : St B (X :: Y :: L) w) : Does Tryz.prog 7 [Value.slice a l.length cap, Value.slice b m.length cap2] w (fun v w1 => ∃ a1 c1, v = .slice a1 (pickF fAnd l m).length c1 ∧ St B (own a1 (pickF fAnd l m).length c1 3 1 (ri (pickF fAnd l m)) :: X :: Y :: L) w1) := by
 refine enter (n := 8) Tryz.func7 rfl rfl [Value.slice a l.length cap, Value.slice b m.length cap2] rfl ?_
 refine WP.seq ?_
 refine WP.region rfl ?_
 refine WO.val (run_assign rfl) rfl rfl rfl ?_
 refine WO.nil ?_
 refine NX.go ?_
 refine WP.seq ?_
 refine WP.region rfl ?_
 refine WO.val (run_move rfl) rfl rfl rfl ?_
 refine WO.val (run_move rfl) rfl rfl rfl ?_
 refine WO.call rfl rfl Ty.hd15 rfl (pickAnd_spec hX hY hb hb2 hS) (fun v2 w1 pv2 => ?_)
 obtain ⟨a1, c1, rfl, hS1⟩ := pv2
 clear hS
 refine WO.val (run_assign rfl) rfl rfl rfl ?_
 refine WO.nil ?_
 refine NX.go ?_
 refine WP.ret ?_
 refine NX.done (l := [.tmp 4]) rfl rfl ?_
 exact ⟨a1, c1, rfl, hS1⟩
theorem fOr_spec {B w : World} {L : List HP} (p q : Bool) (hS : St B L w) : Does Tryz.prog 17 [Value.bool p, Value.bool q] w (fun v w1 => v = .bool (fOr p q) ∧ St B L w1) := by
 refine enter (n := 5) Tryz.func17 rfl rfl [Value.bool p, Value.bool q] rfl ?_
 refine WP.seq ?_
 refine WP.region rfl ?_
 refine WO.val (run_assign rfl) rfl rfl rfl ?_
 refine WO.nil ?_
 refine NX.go ?_
 refine WP.seq ?_
 refine WP.region rfl ?_
 refine WO.val (run_assign rfl) rfl rfl rfl ?_
 refine WO.nil ?_
 refine NX.go ?_
 refine WP.ret ?_
 refine NX.done (l := [.tmp 4]) rfl rfl ?_
 exact ⟨rfl, hS⟩
theorem pickOr_spec_t10 : rtab .any (opsOf Tryz.f15 10) = (true, [([], []), ([0], [0]), ([1], [1]), ([], []), ([3], [3]), ([2, 0, 1, 2], [2]), ([4, 5, 0, 1, 2, 3, 4, 5], [0, 3, 4])]) := by kernel_rfl
theorem pickOr_spec_t8 : rtab .any (opsOf Tryz.f15 8) = (true, [([], []), ([0], [0]), ([1], [1]), ([], []), ([3], [3]), ([2, 0, 1, 2], [2]), ([4, 5, 0, 1, 2, 3, 4, 5], [0, 3, 4])]) := by kernel_rfl
theorem pickOr_spec_t5 : rtab .any (opsOf Tryz.f15 5) = (true, [([], []), ([0], [0]), ([1], [1]), ([2], [2]), ([3], [3]), ([4, 3], [3, 4]), ([5, 3], [3, 5]), ([6, 3, 3], [3, 6]), ([7], [7]), ([8, 7], [7, 8]), ([9, 7], [7, 9]), ([7], [7]), ([11, 7], [7, 11]), ([12, 7], [7, 12]), ([10, 13, 7], [7, 10, 13]), ([7, 14, 3], [3, 7, 14]), ([3, 15], [3, 15]), ([16, 7, 0, 1, 2, 3, 4, 5, 6, 7, 8, 9, 10, 11, 12, 13, 14, 15, 16], [16])]) := by kernel_rfl
theorem pickOr_spec_t4 : rtab .any (opsOf Tryz.f15 4) = (true, [([], []), ([0], [0]), ([1], [1]), ([2], [2]), ([3], [3]), ([4, 3], [3, 4]), ([5, 3], [3, 5]), ([6, 3, 3], [3, 6]), ([7], [7]), ([8, 7], [7, 8]), ([9, 7], [7, 9]), ([7], [7]), ([11, 7], [7, 11]), ([12, 7], [7, 12]), ([10, 13, 7], [7, 10, 13]), ([7, 14, 3], [3, 7, 14]), ([3, 15], [3, 15]), ([16, 7, 0, 1, 2, 3, 4, 5, 6, 7, 8, 9, 10, 11, 12, 13, 14, 15, 16], [16])]) := by kernel_rfl
theorem pickOr_spec {B w : World} {L : List HP} {X Y : HP} {a b : Option Addr} {cap cap2 : Nat} {l m : List Int} (hX : ∀ {L : List HP} {w : World}, St B (X :: L) w → Rd w a l.length 1 (ri l)) (hY : ∀ {L : List HP} {w : World}, St B (Y :: L) w → Rd w b m.length 1 (ri m)) (hb : l.length ≤ 400000) (hb2 : m.length ≤ 400000) (hS : St B (X :: Y :: L) w) : Does Tryz.prog 15 [Value.slice a l.length cap, Value.slice b m.length cap2, Value.func (.func 17) #[] #[]] w (fun v w1 => ∃ a1 c1, v = .slice a1 (pickF fOr l m).length c1 ∧ St B (own a1 (pickF fOr l m).length c1 3 1 (ri (pickF fOr l m)) :: X :: Y :: L) w1) := by
 refine enter (n := 78) Tryz.func15 rfl rfl [Value.slice a l.length cap, Value.slice b m.length cap2, Value.func (.func 17) #[] #[]] rfl ?_
 refine WP.seq ?_
 refine WP.region rfl ?_
 refine WO.val (run_assign rfl) rfl rfl rfl ?_
 refine WO.nil ?_
 refine NX.go ?_
 refine WP.seq ?_
 refine WP.region rfl ?_
 refine WO.val (run_move rfl) rfl rfl rfl ?_
 refine WO.call rfl rfl Ty.hd25 rfl (rising_spec hX (by omega) hS) (fun v2 w1 pv2 => ?_)
 obtain ⟨a0, ca0, rfl, hS1⟩ := pv2
 clear hS
 refine WO.val (run_move rfl) rfl rfl rfl ?_
 have hS3 := hS1.permT [2, 0, 0] (L' := Y :: own a0 ((rising l).length) ca0 3 1 (ri (rising l)) :: X :: L) rfl
 clear hS1
 refine WO.call rfl rfl Ty.hd25 rfl (rising_spec hY (by omega) hS3) (fun v5 w4 pv5 => ?_)
 obtain ⟨b0, cb0, rfl, hS4⟩ := pv5
 clear hS3
 refine WO.val (run_assign rfl) rfl rfl rfl ?_
 refine WO.val (run_assign rfl) rfl rfl rfl ?_
 refine WO.nil ?_
 refine NX.go ?_
 refine WP.seq ?_
 refine WP.region rfl ?_
 refine WO.val (run_assign rfl) rfl rfl rfl ?_
 refine WO.nil ?_
 refine NX.go ?_
 refine WP.seq ?_
 refine WP.block ?_
 have hca0 := hS4.own_le_i 2 rfl
 have hcb0 := hS4.own_le_i 0 rfl
 have hq := ((hS4.permT [2, 0, 1, 0] (L' := own a0 ((rising l).length) ca0 3 1 (ri (rising l)) :: own b0 ((rising m).length) cb0 3 1 (ri (rising m)) :: X :: Y :: L) rfl)).own_seal.permT [1, 0] (L' := own b0 ((rising m).length) cb0 3 1 (ri (rising m)) :: ro a0 ((rising l).length) 3 1 (ri (rising l)) :: X :: Y :: L) rfl
 have hq2 := (hq.own_seal.own_nil 3 1).permT [2, 1, 0] (L' := ro a0 ((rising l).length) 3 1 (ri (rising l)) :: ro b0 ((rising m).length) 3 1 (ri (rising m)) :: own none 0 0 3 1 [] :: X :: Y :: L) rfl
 have hr1 := rising_len l
 have hr2 := rising_len m
 refine WP.loop (α := Nat × List Int × List Int × List Int × (Option Addr × Nat × Option Addr × Nat) × Option Addr × Nat) (fun x => match x with | ⟨mu, xs, ys, o, ⟨pa, ca, pb, cb⟩, ao, co⟩ => [(0, Value.slice pa xs.length ca), (1, Value.slice pb ys.length cb), (2, Value.func (.func 17) #[] #[]), (7, Value.slice ao o.length co)]) (fun x w => match x with | ⟨mu, xs, ys, o, ⟨pa, ca, pb, cb⟩, ao, co⟩ => (xs.length ≤ ca ∧ ys.length ≤ cb ∧ xs.length + ys.length ≤ mu ∧ o.length + mu ≤ 800000 ∧ o ++ pkF fOr mu xs ys = pickF fOr l m) ∧ St B (ro pa xs.length 3 1 (ri xs) :: ro pb ys.length 3 1 (ri ys) :: own ao o.length co 3 1 (ri o) :: X :: Y :: L) w) (fun x => match x with | ⟨mu, xs, ys, o, ⟨pa, ca, pb, cb⟩, ao, co⟩ => mu) ((rising l).length + (rising m).length, rising l, rising m, [], (a0, ca0, b0, cb0), none, 0) ⟨⟨hca0, hcb0, Nat.le_refl _, by simp; omega, rfl⟩, hq2⟩ (Sub.consE rfl (by first | rfl | first | rfl | (congr 1; omega) | (simp; done) | (simp; omega)) (Sub.consE rfl (by first | rfl | first | rfl | (congr 1; omega) | (simp; done) | (simp; omega)) (Sub.cons rfl (Sub.consE rfl (by first | rfl | first | rfl | (congr 1; omega) | (simp; done) | (simp; omega)) (Sub.nil _))))) ?_
 rintro ⟨mu, xs, ys, o, ⟨pa, ca, pb, cb⟩, ao, co⟩ w6 ⟨⟨hca, hcb, hmu, hom, hR⟩, hS6⟩
 clear hS4
 refine WP.seq ?_
 refine WP.seq ?_
 refine WP.meet (α := Bool) (fun x => match x with | c => [(0, Value.slice pa xs.length ca), (1, Value.slice pb ys.length cb), (2, Value.func (.func 17) #[] #[]), (7, Value.slice ao o.length co), (22, Value.bool c)]) (fun x w => match x with | c => (c = true ↔ 0 < xs.length ∨ 0 < ys.length) ∧ St B (ro pa xs.length 3 1 (ri xs) :: ro pb ys.length 3 1 (ri ys) :: own ao o.length co 3 1 (ri o) :: X :: Y :: L) w) ?_ (fun K7 => ?_)
 ·
  rintro c w8 ⟨hcc, hS8⟩
  clear hS6
  refine NX.go ?_
  refine WP.condB rfl (fun g22 => ?_) (fun g22 => ?_)
  ·
   have hc := hcc.1 g22
   obtain ⟨k, rfl⟩ : ∃ k, mu = k + 1 := ⟨mu - 1, by omega⟩
   refine WP.skip ?_
   refine NX.go ?_
   refine WP.block ?_
   refine WP.seq ?_
   refine WP.meet (α := Bool) (fun x => match x with | p => [(0, Value.slice pa xs.length ca), (1, Value.slice pb ys.length cb), (2, Value.func (.func 17) #[] #[]), (7, Value.slice ao o.length co), (8, Value.bool p)]) (fun x w => match x with | p => (p = inB xs ys) ∧ St B (ro pa xs.length 3 1 (ri xs) :: ro pb ys.length 3 1 (ri ys) :: own ao o.length co 3 1 (ri o) :: X :: Y :: L) w) ?_ (fun K9 => ?_)
   ·
    rintro p w10 ⟨hp, hS10⟩
    clear hS8
    refine NX.go ?_
    refine WP.seq ?_
    refine WP.meet (α := Bool) (fun x => match x with | q => [(0, Value.slice pa xs.length ca), (1, Value.slice pb ys.length cb), (2, Value.func (.func 17) #[] #[]), (7, Value.slice ao o.length co), (8, Value.bool p), (9, Value.bool q)]) (fun x w => match x with | q => (q = inB ys xs) ∧ St B (ro pa xs.length 3 1 (ri xs) :: ro pb ys.length 3 1 (ri ys) :: own ao o.length co 3 1 (ri o) :: X :: Y :: L) w) ?_ (fun K11 => ?_)
    ·
     rintro q w12 ⟨hq, hS12⟩
     clear hS10
     refine NX.go ?_
     refine WP.seq ?_
     refine WP.region rfl ?_
     refine WO.val (run_assign rfl) rfl rfl rfl ?_
     refine WO.nil ?_
     refine NX.go ?_
     refine WP.seq ?_
     refine WP.seq ?_
     refine WP.region rfl ?_
     refine WO.val (run_move rfl) rfl rfl rfl ?_
     refine WO.nil ?_
     refine NX.go ?_
     refine WP.meet (α := Option Addr × Nat) (fun x => match x with | ⟨pa1, ca1⟩ => [(0, Value.slice pa1 ((tl p xs).length) ca1), (1, Value.slice pb ys.length cb), (2, Value.func (.func 17) #[] #[]), (7, Value.slice ao o.length co), (8, Value.bool p), (9, Value.bool q), (10, Value.int .i64 (hd1 p xs 0))]) (fun x w => match x with | ⟨pa1, ca1⟩ => ((tl p xs).length ≤ ca1) ∧ St B (ro pa1 ((tl p xs).length) 3 1 (ri (tl p xs)) :: ro pb ys.length 3 1 (ri ys) :: own ao o.length co 3 1 (ri o) :: X :: Y :: L) w) ?_ (fun K13 => ?_)
     ·
      rintro ⟨pa1, ca1⟩ w14 ⟨hca1, hS14⟩
      clear hS12
      refine NX.go ?_
      refine WP.seq ?_
      refine WP.seq ?_
      refine WP.region rfl ?_
      refine WO.val (run_move rfl) rfl rfl rfl ?_
      refine WO.nil ?_
      refine NX.go ?_
      refine WP.meet (α := Option Addr × Nat) (fun x => match x with | ⟨pb1, cb1⟩ => [(0, Value.slice pa1 ((tl p xs).length) ca1), (1, Value.slice pb1 ((tl q ys).length) cb1), (2, Value.func (.func 17) #[] #[]), (7, Value.slice ao o.length co), (8, Value.bool p), (9, Value.bool q), (10, Value.int .i64 (hd1 q ys (hd1 p xs 0)))]) (fun x w => match x with | ⟨pb1, cb1⟩ => ((tl q ys).length ≤ cb1) ∧ St B (ro pa1 ((tl p xs).length) 3 1 (ri (tl p xs)) :: ro pb1 ((tl q ys).length) 3 1 (ri (tl q ys)) :: own ao o.length co 3 1 (ri o) :: X :: Y :: L) w) ?_ (fun K15 => ?_)
      ·
       rintro ⟨pb1, cb1⟩ w16 ⟨hcb1, hS16⟩
       clear hS14
       refine NX.go ?_
       refine WP.seq ?_
       refine WP.region rfl ?_
       refine WO.val (run_move rfl) rfl rfl rfl ?_
       refine WO.val (run_move rfl) rfl rfl rfl ?_
       refine WO.val (run_move rfl) rfl rfl rfl ?_
       refine WO.call rfl rfl Ty.hd17 rfl (fOr_spec p q hS16) (fun v18 w17 pv18 => ?_)
       obtain ⟨rfl, hS17⟩ := pv18
       clear hS16
       refine WO.nil ?_
       refine NX.go ?_
       refine WP.meet (α := Option Addr × Nat) (fun x => match x with | ⟨ao1, co1⟩ => [(0, Value.slice pa1 ((tl p xs).length) ca1), (1, Value.slice pb1 ((tl q ys).length) cb1), (2, Value.func (.func 17) #[] #[]), (7, Value.slice ao1 ((apd (fOr p q) o (hd1 q ys (hd1 p xs 0))).length) co1)]) (fun x w => match x with | ⟨ao1, co1⟩ => St B (ro pa1 ((tl p xs).length) 3 1 (ri (tl p xs)) :: ro pb1 ((tl q ys).length) 3 1 (ri (tl q ys)) :: own ao1 ((apd (fOr p q) o (hd1 q ys (hd1 p xs 0))).length) co1 3 1 (ri (apd (fOr p q) o (hd1 q ys (hd1 p xs 0)))) :: X :: Y :: L) w) ?_ (fun K19 => ?_)
       ·
        rintro ⟨ao1, co1⟩ w20 hS20
        clear hS17
        refine NX.blk ?_
        exact NX.again (k, tl p xs, tl q ys, apd (fOr p q) o (hd1 q ys (hd1 p xs 0)), (pa1, ca1, pb1, cb1), ao1, co1) ⟨⟨hca1, hcb1, pk_len hp hq hc hmu, by have := apd_len (fOr p q) o (hd1 q ys (hd1 p xs 0)); omega, pk_step hp hq hc hR⟩, hS20⟩ (Nat.lt_succ_self k) (Sub.consE rfl rfl (Sub.consE rfl rfl (Sub.cons rfl (Sub.consE rfl rfl (Sub.nil _)))))
       ·
        refine WP.condB rfl (fun g72 => ?_) (fun g72 => ?_)
        ·
         refine WP.region rfl ?_
         refine WO.val (run_move rfl) rfl rfl rfl ?_
         refine WO.val (run_move rfl) rfl rfl rfl ?_
         refine WO.buildSlice (l := [Value.int .i64 (hd1 q ys (hd1 p xs 0))]) hS17 Tryz.underlying22 rfl (fun w => by kernel_rfl) rfl (fun g22 w21 lg22 hS21 => ?_)
         clear hS17
         have hS21 := hS21.own_of_cel (m := 1) (k := 1) rfl
         refine WO.append (news := [Value.int .i64 (hd1 q ys (hd1 p xs 0))]) 3 rfl Tryz.underlying22 Tryz.underlying22 (fun _ h => by cases h) Ty.sz3 (by decide) Ty.by3 Ty.zr3 rfl rfl rfl rfl hS21 rfl ((hS21.own_rd_i 0 rfl).src) rfl (by omega) (by omega) (fun a24 c25 w23 hS23 => ?_)
         replace hS23 : St B (own (some ⟨g22, 0, none⟩) 1 1 3 1 [Value.int .i64 (hd1 q ys (hd1 p xs 0))] :: ro pa1 ((tl p xs).length) 3 1 (ri (tl p xs)) :: ro pb1 ((tl q ys).length) 3 1 (ri (tl q ys)) :: own a24 (o.length + 1) c25 3 1 ((ri o) ++ [Value.int .i64 (hd1 q ys (hd1 p xs 0))]) :: X :: Y :: L) w23 := hS23
         clear hS21
         refine WO.val (run_assign rfl) rfl rfl rfl ?_
         refine WO.nil ?_
         have e1 : apd (fOr p q) o (hd1 q ys (hd1 p xs 0)) = o ++ [(hd1 q ys (hd1 p xs 0))] := by unfold apd; rw [g72]; rfl
         exact K19 (a24, c25) _ _ (by have hk := (hS23.drop).permT [2, 0, 0] rfl; exact (own_len hk (show _ = (apd (fOr p q) o (hd1 q ys (hd1 p xs 0))).length by rw [e1]; simp) (show _ = ri (apd (fOr p q) o (hd1 q ys (hd1 p xs 0))) by rw [e1]; simp [ri])).permT [1, 1, 0] rfl) (Sub.cons rfl (Sub.cons rfl (Sub.cons rfl (Sub.consE rfl (by rw [e1]; simp) (Sub.nil _)))))
        ·
         refine WP.skip ?_
         have e1 : apd (fOr p q) o (hd1 q ys (hd1 p xs 0)) = o := by unfold apd; rw [g72]; exact List.append_nil o
         exact K19 (ao, co) _ _ (by have hk := hS17; rw [e1]; exact hk) (Sub.cons rfl (Sub.cons rfl (Sub.cons rfl (Sub.consE rfl (by rw [e1]) (Sub.nil _)))))
      ·
       refine WP.condB rfl (fun g63 => ?_) (fun g63 => ?_)
       ·
        have hyp := inB_pos (hq ▸ g63 : inB ys xs = true)
        refine WD.start (fun w => Rd w pa1 ((tl p xs).length) 1 (ri (tl p xs)) ∧ Rd w pb ys.length 1 (ri ys) ∧ Rd w ao o.length 1 (ri o) ∧ Rd w a l.length 1 (ri l) ∧ Rd w b m.length 1 (ri m)) [] #[false, false, false, false, false, false, false] Ty.mo rfl (by kernel_rfl) hS14 (fun _ h => ⟨(h.ro_rd_i 0 rfl), (h.ro_rd_i 1 rfl), (h.own_rd_i 2 rfl), (hX (h.focus 3 rfl)), (hY (h.focus 4 rfl))⟩) (fun w26 hS26 s27 => ?_)
        clear hS14
        refine WD.pure (i := 0) pickOr_spec_t10 #[true, false, false, false, false, false, false] rfl rfl rfl (by kernel_rfl) (PQ.then (PQ.blk (PQ.then (PQ.blk (PQ.then PQ.body))))) rfl (fun w => run_move rfl) ?_
        obtain ⟨y, hy⟩ : ∃ y, ys[0]? = some y := ⟨_, List.getElem?_eq_getElem (by omega)⟩
        refine WD.take (i := 1) pickOr_spec_t10 #[true, true, false, false, false, false, false] s27 rfl rfl rfl (by kernel_rfl) (PQ.then (PQ.blk (PQ.then (PQ.blk (PQ.then PQ.body))))) rfl (fun w hs => run_indexAddr (q := adr pb 0) Tryz.underlying22 Ty.sz3 rfl rfl (by omega) (by omega) ((hs.2.1).2.1 (by omega)) (by simp)) ?_
        refine WD.take (i := 2) pickOr_spec_t10 #[true, true, true, false, false, false, false] s27 rfl rfl rfl (by kernel_rfl) (PQ.then (PQ.blk (PQ.then (PQ.blk (PQ.then PQ.body))))) rfl (fun w hs => run_load Ty.ag3 rfl ((hs.2.1).cell (ri_get hy))) ?_
        refine WD.pure (i := 3) pickOr_spec_t10 #[true, true, true, true, false, false, false] rfl rfl rfl (by kernel_rfl) (PQ.then (PQ.blk (PQ.then (PQ.blk (PQ.then PQ.body))))) rfl (fun w => run_move rfl) ?_
        refine WD.pure (i := 4) pickOr_spec_t10 #[true, true, true, true, true, false, false] rfl rfl rfl (by kernel_rfl) (PQ.then (PQ.blk (PQ.then (PQ.blk (PQ.then PQ.body))))) rfl (fun w => run_sliceL (i := 1) (j := ys.length) Tryz.underlying22 Ty.sz3 rfl ⟨_, rfl⟩ rfl (by omega) (by omega)) ?_
        refine WD.pure (i := 5) pickOr_spec_t10 #[true, true, true, true, true, true, false] rfl rfl rfl (by kernel_rfl) (PQ.then (PQ.blk (PQ.then (PQ.blk (PQ.then PQ.body))))) rfl (fun w => run_assign rfl) ?_
        refine WD.pure (i := 6) pickOr_spec_t10 #[true, true, true, true, true, true, true] rfl rfl rfl (by kernel_rfl) (PQ.then (PQ.blk (PQ.then (PQ.blk (PQ.then PQ.body))))) rfl (fun w => run_assign rfl) ?_
        refine WD.done pickOr_spec_t10 (by kernel_rfl) ?_
        have e1 : ys.length - 1 = (tl q ys).length := by rw [tl_t g63, List.length_drop]
        have e2 : hd1 q ys (hd1 p xs 0) = y := hd1_t g63 hy
        have hk := ro_len (((hS26.permT [1, 0, 0, 0, 0] (L' := ro pb ys.length 3 1 (ri ys) :: ro pa1 ((tl p xs).length) 3 1 (ri (tl p xs)) :: own ao o.length co 3 1 (ri o) :: X :: Y :: L) rfl)).ro_drop1 (i := 1) (c := cb) (by omega) hcb) e1 (show (ri ys).drop 1 = ri (tl q ys) by rw [tl_t g63]; unfold ri; rw [List.map_drop])
        exact K15 ((if cb = 1 then pb else pb.map (·.add (1 * 1))), cb - 1) _ _ ⟨by rw [← e1]; omega, hk.permT [1, 0] rfl⟩ (Sub.cons rfl (Sub.consE rfl (by rw [e1]) (Sub.cons rfl (Sub.cons rfl (Sub.cons rfl (Sub.cons rfl (Sub.consE rfl (by rw [e2]) (Sub.nil _))))))))
       ·
        refine WP.skip ?_
        have e1 : tl q ys = ys := tl_f g63
        have e2 : hd1 q ys (hd1 p xs 0) = (hd1 p xs 0) := hd1_f g63
        exact K15 (pb, cb) _ _ ⟨by rw [e1]; exact hcb, by have hk := (hS14.permT [1, 0, 0, 0, 0] (L' := ro pb ys.length 3 1 (ri ys) :: ro pa1 ((tl p xs).length) 3 1 (ri (tl p xs)) :: own ao o.length co 3 1 (ri o) :: X :: Y :: L) rfl); rw [← e1] at hk; exact hk.permT [1, 0] rfl⟩ (Sub.cons rfl (Sub.consE rfl (by rw [e1]) (Sub.cons rfl (Sub.cons rfl (Sub.cons rfl (Sub.cons rfl (Sub.consE rfl (by rw [e2]) (Sub.nil _))))))))
     ·
      refine WP.condB rfl (fun g57 => ?_) (fun g57 => ?_)
      ·
       have hxp := inB_pos (hp ▸ g57 : inB xs ys = true)
       refine WD.start (fun w => Rd w pa xs.length 1 (ri xs) ∧ Rd w pb ys.length 1 (ri ys) ∧ Rd w ao o.length 1 (ri o) ∧ Rd w a l.length 1 (ri l) ∧ Rd w b m.length 1 (ri m)) [] #[false, false, false, false, false, false, false] Ty.mo rfl (by kernel_rfl) hS12 (fun _ h => ⟨(h.ro_rd_i 0 rfl), (h.ro_rd_i 1 rfl), (h.own_rd_i 2 rfl), (hX (h.focus 3 rfl)), (hY (h.focus 4 rfl))⟩) (fun w28 hS28 s29 => ?_)
       clear hS12
       refine WD.pure (i := 0) pickOr_spec_t8 #[true, false, false, false, false, false, false] rfl rfl rfl (by kernel_rfl) (PQ.then (PQ.blk (PQ.then (PQ.blk (PQ.then PQ.body))))) rfl (fun w => run_move rfl) ?_
       obtain ⟨x, hx⟩ : ∃ x, xs[0]? = some x := ⟨_, List.getElem?_eq_getElem (by omega)⟩
       refine WD.take (i := 1) pickOr_spec_t8 #[true, true, false, false, false, false, false] s29 rfl rfl rfl (by kernel_rfl) (PQ.then (PQ.blk (PQ.then (PQ.blk (PQ.then PQ.body))))) rfl (fun w hs => run_indexAddr (q := adr pa 0) Tryz.underlying22 Ty.sz3 rfl rfl (by omega) (by omega) ((hs.1).2.1 (by omega)) (by simp)) ?_
       refine WD.take (i := 2) pickOr_spec_t8 #[true, true, true, false, false, false, false] s29 rfl rfl rfl (by kernel_rfl) (PQ.then (PQ.blk (PQ.then (PQ.blk (PQ.then PQ.body))))) rfl (fun w hs => run_load Ty.ag3 rfl ((hs.1).cell (ri_get hx))) ?_
       refine WD.pure (i := 3) pickOr_spec_t8 #[true, true, true, true, false, false, false] rfl rfl rfl (by kernel_rfl) (PQ.then (PQ.blk (PQ.then (PQ.blk (PQ.then PQ.body))))) rfl (fun w => run_move rfl) ?_
       refine WD.pure (i := 4) pickOr_spec_t8 #[true, true, true, true, true, false, false] rfl rfl rfl (by kernel_rfl) (PQ.then (PQ.blk (PQ.then (PQ.blk (PQ.then PQ.body))))) rfl (fun w => run_sliceL (i := 1) (j := xs.length) Tryz.underlying22 Ty.sz3 rfl ⟨_, rfl⟩ rfl (by omega) (by omega)) ?_
       refine WD.pure (i := 5) pickOr_spec_t8 #[true, true, true, true, true, true, false] rfl rfl rfl (by kernel_rfl) (PQ.then (PQ.blk (PQ.then (PQ.blk (PQ.then PQ.body))))) rfl (fun w => run_assign rfl) ?_
       refine WD.pure (i := 6) pickOr_spec_t8 #[true, true, true, true, true, true, true] rfl rfl rfl (by kernel_rfl) (PQ.then (PQ.blk (PQ.then (PQ.blk (PQ.then PQ.body))))) rfl (fun w => run_assign rfl) ?_
       refine WD.done pickOr_spec_t8 (by kernel_rfl) ?_
       have e1 : xs.length - 1 = (tl p xs).length := by rw [tl_t g57, List.length_drop]
       have e2 : hd1 p xs 0 = x := hd1_t g57 hx
       have hk := ro_len ((hS28).ro_drop1 (i := 1) (c := ca) (by omega) hca) e1 (show (ri xs).drop 1 = ri (tl p xs) by rw [tl_t g57]; unfold ri; rw [List.map_drop])
       exact K13 ((if ca = 1 then pa else pa.map (·.add (1 * 1))), ca - 1) _ _ ⟨by rw [← e1]; omega, hk⟩ (Sub.consE rfl (by rw [e1]) (Sub.cons rfl (Sub.cons rfl (Sub.cons rfl (Sub.cons rfl (Sub.cons rfl (Sub.consE rfl (by rw [e2]) (Sub.nil _))))))))
      ·
       refine WP.skip ?_
       have e1 : tl p xs = xs := tl_f g57
       have e2 : hd1 p xs 0 = 0 := hd1_f g57
       exact K13 (pa, ca) _ _ ⟨by rw [e1]; exact hca, by have hk := hS12; rw [← e1] at hk; exact hk⟩ (Sub.consE rfl (by rw [e1]) (Sub.cons rfl (Sub.cons rfl (Sub.cons rfl (Sub.cons rfl (Sub.cons rfl (Sub.consE rfl (by rw [e2]) (Sub.nil _))))))))
    ·
     refine WD.start (fun w => Rd w pa xs.length 1 (ri xs) ∧ Rd w pb ys.length 1 (ri ys) ∧ Rd w ao o.length 1 (ri o) ∧ Rd w a l.length 1 (ri l) ∧ Rd w b m.length 1 (ri m)) [] #[false, false, false, false, false, false, false, false, false, false, false, false, false, false, false, false, false, false] Ty.mo rfl (by kernel_rfl) hS10 (fun _ h => ⟨(h.ro_rd_i 0 rfl), (h.ro_rd_i 1 rfl), (h.own_rd_i 2 rfl), (hX (h.focus 3 rfl)), (hY (h.focus 4 rfl))⟩) (fun w30 hS30 s31 => ?_)
     clear hS10
     refine WD.pure (i := 0) pickOr_spec_t5 #[true, false, false, false, false, false, false, false, false, false, false, false, false, false, false, false, false, false] rfl rfl rfl (by kernel_rfl) (PQ.then (PQ.blk (PQ.then (PQ.blk (PQ.then PQ.body))))) rfl (fun w => run_move rfl) ?_
     refine WD.pure (i := 1) pickOr_spec_t5 #[true, true, false, false, false, false, false, false, false, false, false, false, false, false, false, false, false, false] rfl rfl rfl (by kernel_rfl) (PQ.then (PQ.blk (PQ.then (PQ.blk (PQ.then PQ.body))))) rfl (fun w => run_len rfl Tryz.underlying22 rfl) ?_
     refine WD.pure (i := 2) pickOr_spec_t5 #[true, true, true, false, false, false, false, false, false, false, false, false, false, false, false, false, false, false] rfl rfl rfl (by kernel_rfl) (PQ.then (PQ.blk (PQ.then (PQ.blk (PQ.then PQ.body))))) rfl (fun w => run_gtr rfl rfl) ?_
     refine WD.pure (i := 3) pickOr_spec_t5 #[true, true, true, true, false, false, false, false, false, false, false, false, false, false, false, false, false, false] rfl rfl rfl (by kernel_rfl) (PQ.then (PQ.blk (PQ.then (PQ.blk (PQ.then PQ.body))))) rfl (fun w => run_move rfl) ?_
     by_cases g43 : 0 < ((ys.length : Nat) : Int)
     ·
      refine WD.pureOn (i := 4) pickOr_spec_t5 #[true, true, true, true, true, false, false, false, false, false, false, false, false, false, false, false, false, false] rfl rfl rfl (decide_eq_true g43) (by kernel_rfl) (PQ.then (PQ.blk (PQ.then (PQ.blk (PQ.then PQ.body))))) rfl (fun w => run_move rfl) ?_
      refine WD.pureOn (i := 5) pickOr_spec_t5 #[true, true, true, true, true, true, false, false, false, false, false, false, false, false, false, false, false, false] rfl rfl rfl (decide_eq_true g43) (by kernel_rfl) (PQ.then (PQ.blk (PQ.then (PQ.blk (PQ.then PQ.body))))) rfl (fun w => run_len rfl Tryz.underlying22 rfl) ?_
      refine WD.pureOn (i := 6) pickOr_spec_t5 #[true, true, true, true, true, true, true, false, false, false, false, false, false, false, false, false, false, false] rfl rfl rfl (decide_eq_true g43) (by kernel_rfl) (PQ.then (PQ.blk (PQ.then (PQ.blk (PQ.then PQ.body))))) rfl (fun w => run_eql rfl rfl) ?_
      refine WD.pureOn (i := 7) pickOr_spec_t5 #[true, true, true, true, true, true, true, true, false, false, false, false, false, false, false, false, false, false] rfl rfl rfl (decide_eq_true g43) (by kernel_rfl) (PQ.then (PQ.blk (PQ.then (PQ.blk (PQ.then PQ.body))))) rfl (fun w => run_move rfl) ?_
      by_cases g47 : ((xs.length : Nat) : Int) = 0
      ·
       refine WD.off (i := 8) pickOr_spec_t5 #[true, true, true, true, true, true, true, true, true, false, false, false, false, false, false, false, false, false] rfl rfl rfl (decide_eq_true g47) (by kernel_rfl) (PQ.then (PQ.blk (PQ.then (PQ.blk (PQ.then PQ.body))))) rfl ?_
       refine WD.off (i := 9) pickOr_spec_t5 #[true, true, true, true, true, true, true, true, true, true, false, false, false, false, false, false, false, false] rfl rfl rfl (decide_eq_true g47) (by kernel_rfl) (PQ.then (PQ.blk (PQ.then (PQ.blk (PQ.then PQ.body))))) rfl ?_
       refine WD.off (i := 10) pickOr_spec_t5 #[true, true, true, true, true, true, true, true, true, true, true, false, false, false, false, false, false, false] rfl rfl rfl (decide_eq_true g47) (by kernel_rfl) (PQ.then (PQ.blk (PQ.then (PQ.blk (PQ.then PQ.body))))) rfl ?_
       refine WD.off (i := 11) pickOr_spec_t5 #[true, true, true, true, true, true, true, true, true, true, true, true, false, false, false, false, false, false] rfl rfl rfl (decide_eq_true g47) (by kernel_rfl) (PQ.then (PQ.blk (PQ.then (PQ.blk (PQ.then PQ.body))))) rfl ?_
       refine WD.off (i := 12) pickOr_spec_t5 #[true, true, true, true, true, true, true, true, true, true, true, true, true, false, false, false, false, false] rfl rfl rfl (decide_eq_true g47) (by kernel_rfl) (PQ.then (PQ.blk (PQ.then (PQ.blk (PQ.then PQ.body))))) rfl ?_
       refine WD.off (i := 13) pickOr_spec_t5 #[true, true, true, true, true, true, true, true, true, true, true, true, true, true, false, false, false, false] rfl rfl rfl (decide_eq_true g47) (by kernel_rfl) (PQ.then (PQ.blk (PQ.then (PQ.blk (PQ.then PQ.body))))) rfl ?_
       refine WD.off (i := 14) pickOr_spec_t5 #[true, true, true, true, true, true, true, true, true, true, true, true, true, true, true, false, false, false] rfl rfl rfl (decide_eq_true g47) (by kernel_rfl) (PQ.then (PQ.blk (PQ.then (PQ.blk (PQ.then PQ.body))))) rfl ?_
       refine WD.pureOn (i := 15) pickOr_spec_t5 #[true, true, true, true, true, true, true, true, true, true, true, true, true, true, true, true, false, false] rfl rfl rfl (decide_eq_true g43) (by kernel_rfl) (PQ.then (PQ.blk (PQ.then (PQ.blk (PQ.then PQ.body))))) rfl (fun w => run_pickT rfl (decide_eq_true g47) rfl) ?_
       refine WD.pure (i := 16) pickOr_spec_t5 #[true, true, true, true, true, true, true, true, true, true, true, true, true, true, true, true, true, false] rfl rfl rfl (by kernel_rfl) (PQ.then (PQ.blk (PQ.then (PQ.blk (PQ.then PQ.body))))) rfl (fun w => run_pickT rfl (decide_eq_true g43) rfl) ?_
       refine WD.pure (i := 17) pickOr_spec_t5 #[true, true, true, true, true, true, true, true, true, true, true, true, true, true, true, true, true, true] rfl rfl rfl (by kernel_rfl) (PQ.then (PQ.blk (PQ.then (PQ.blk (PQ.then PQ.body))))) rfl (fun w => run_assign rfl) ?_
       refine WD.done pickOr_spec_t5 (by kernel_rfl) ?_
       exact K11 true _ _ ⟨inB_t g43 g47, hS30⟩ (Sub.cons rfl (Sub.cons rfl (Sub.cons rfl (Sub.cons rfl (Sub.cons rfl (Sub.consE rfl (by first | rfl | first | rfl | (congr 1; omega) | (simp; done) | (simp; omega)) (Sub.nil _)))))))
      ·
       refine WD.pureOn (i := 8) pickOr_spec_t5 #[true, true, true, true, true, true, true, true, true, false, false, false, false, false, false, false, false, false] rfl rfl rfl (decide_eq_false g47) (by kernel_rfl) (PQ.then (PQ.blk (PQ.then (PQ.blk (PQ.then PQ.body))))) rfl (fun w => run_move rfl) ?_
       obtain ⟨y, hy⟩ : ∃ y, ys[0]? = some y := ⟨_, List.getElem?_eq_getElem (by omega)⟩
       refine WD.takeOn (i := 9) pickOr_spec_t5 #[true, true, true, true, true, true, true, true, true, true, false, false, false, false, false, false, false, false] s31 rfl rfl rfl (decide_eq_false g47) (by kernel_rfl) (PQ.then (PQ.blk (PQ.then (PQ.blk (PQ.then PQ.body))))) rfl (fun w hs => run_indexAddr (q := adr pb 0) Tryz.underlying22 Ty.sz3 rfl rfl (by omega) (by omega) ((hs.2.1).2.1 (by omega)) (by simp)) ?_
       refine WD.takeOn (i := 10) pickOr_spec_t5 #[true, true, true, true, true, true, true, true, true, true, true, false, false, false, false, false, false, false] s31 rfl rfl rfl (decide_eq_false g47) (by kernel_rfl) (PQ.then (PQ.blk (PQ.then (PQ.blk (PQ.then PQ.body))))) rfl (fun w hs => run_load Ty.ag3 rfl ((hs.2.1).cell (ri_get hy))) ?_
       refine WD.pureOn (i := 11) pickOr_spec_t5 #[true, true, true, true, true, true, true, true, true, true, true, true, false, false, false, false, false, false] rfl rfl rfl (decide_eq_false g47) (by kernel_rfl) (PQ.then (PQ.blk (PQ.then (PQ.blk (PQ.then PQ.body))))) rfl (fun w => run_move rfl) ?_
       obtain ⟨x, hx⟩ : ∃ x, xs[0]? = some x := ⟨_, List.getElem?_eq_getElem (by omega)⟩
       refine WD.takeOn (i := 12) pickOr_spec_t5 #[true, true, true, true, true, true, true, true, true, true, true, true, true, false, false, false, false, false] s31 rfl rfl rfl (decide_eq_false g47) (by kernel_rfl) (PQ.then (PQ.blk (PQ.then (PQ.blk (PQ.then PQ.body))))) rfl (fun w hs => run_indexAddr (q := adr pa 0) Tryz.underlying22 Ty.sz3 rfl rfl (by omega) (by omega) ((hs.1).2.1 (by omega)) (by simp)) ?_
       refine WD.takeOn (i := 13) pickOr_spec_t5 #[true, true, true, true, true, true, true, true, true, true, true, true, true, true, false, false, false, false] s31 rfl rfl rfl (decide_eq_false g47) (by kernel_rfl) (PQ.then (PQ.blk (PQ.then (PQ.blk (PQ.then PQ.body))))) rfl (fun w hs => run_load Ty.ag3 rfl ((hs.1).cell (ri_get hx))) ?_
       refine WD.pureOn (i := 14) pickOr_spec_t5 #[true, true, true, true, true, true, true, true, true, true, true, true, true, true, true, false, false, false] rfl rfl rfl (decide_eq_false g47) (by kernel_rfl) (PQ.then (PQ.blk (PQ.then (PQ.blk (PQ.then PQ.body))))) rfl (fun w => run_leq rfl rfl) ?_
       refine WD.pureOn (i := 15) pickOr_spec_t5 #[true, true, true, true, true, true, true, true, true, true, true, true, true, true, true, true, false, false] rfl rfl rfl (decide_eq_true g43) (by kernel_rfl) (PQ.then (PQ.blk (PQ.then (PQ.blk (PQ.then PQ.body))))) rfl (fun w => run_pickF rfl (decide_eq_false g47) rfl) ?_
       refine WD.pure (i := 16) pickOr_spec_t5 #[true, true, true, true, true, true, true, true, true, true, true, true, true, true, true, true, true, false] rfl rfl rfl (by kernel_rfl) (PQ.then (PQ.blk (PQ.then (PQ.blk (PQ.then PQ.body))))) rfl (fun w => run_pickT rfl (decide_eq_true g43) rfl) ?_
       refine WD.pure (i := 17) pickOr_spec_t5 #[true, true, true, true, true, true, true, true, true, true, true, true, true, true, true, true, true, true] rfl rfl rfl (by kernel_rfl) (PQ.then (PQ.blk (PQ.then (PQ.blk (PQ.then PQ.body))))) rfl (fun w => run_assign rfl) ?_
       refine WD.done pickOr_spec_t5 (by kernel_rfl) ?_
       exact K11 (decide (y ≤ x)) _ _ ⟨inB_d hy hx, hS30⟩ (Sub.cons rfl (Sub.cons rfl (Sub.cons rfl (Sub.cons rfl (Sub.cons rfl (Sub.consE rfl (by first | rfl | first | rfl | (congr 1; omega) | (simp; done) | (simp; omega)) (Sub.nil _)))))))
     ·
      refine WD.off (i := 4) pickOr_spec_t5 #[true, true, true, true, true, false, false, false, false, false, false, false, false, false, false, false, false, false] rfl rfl rfl (decide_eq_false g43) (by kernel_rfl) (PQ.then (PQ.blk (PQ.then (PQ.blk (PQ.then PQ.body))))) rfl ?_
      refine WD.off (i := 5) pickOr_spec_t5 #[true, true, true, true, true, true, false, false, false, false, false, false, false, false, false, false, false, false] rfl rfl rfl (decide_eq_false g43) (by kernel_rfl) (PQ.then (PQ.blk (PQ.then (PQ.blk (PQ.then PQ.body))))) rfl ?_
      refine WD.off (i := 6) pickOr_spec_t5 #[true, true, true, true, true, true, true, false, false, false, false, false, false, false, false, false, false, false] rfl rfl rfl (decide_eq_false g43) (by kernel_rfl) (PQ.then (PQ.blk (PQ.then (PQ.blk (PQ.then PQ.body))))) rfl ?_
      refine WD.off (i := 7) pickOr_spec_t5 #[true, true, true, true, true, true, true, true, false, false, false, false, false, false, false, false, false, false] rfl rfl rfl (decide_eq_false g43) (by kernel_rfl) (PQ.then (PQ.blk (PQ.then (PQ.blk (PQ.then PQ.body))))) rfl ?_
      refine WD.offU (i := 8) pickOr_spec_t5 #[true, true, true, true, true, true, true, true, true, false, false, false, false, false, false, false, false, false] rfl rfl rfl (by kernel_rfl) (PQ.then (PQ.blk (PQ.then (PQ.blk (PQ.then PQ.body))))) rfl ?_
      refine WD.offU (i := 9) pickOr_spec_t5 #[true, true, true, true, true, true, true, true, true, true, false, false, false, false, false, false, false, false] rfl rfl rfl (by kernel_rfl) (PQ.then (PQ.blk (PQ.then (PQ.blk (PQ.then PQ.body))))) rfl ?_
      refine WD.offU (i := 10) pickOr_spec_t5 #[true, true, true, true, true, true, true, true, true, true, true, false, false, false, false, false, false, false] rfl rfl rfl (by kernel_rfl) (PQ.then (PQ.blk (PQ.then (PQ.blk (PQ.then PQ.body))))) rfl ?_
      refine WD.offU (i := 11) pickOr_spec_t5 #[true, true, true, true, true, true, true, true, true, true, true, true, false, false, false, false, false, false] rfl rfl rfl (by kernel_rfl) (PQ.then (PQ.blk (PQ.then (PQ.blk (PQ.then PQ.body))))) rfl ?_
      refine WD.offU (i := 12) pickOr_spec_t5 #[true, true, true, true, true, true, true, true, true, true, true, true, true, false, false, false, false, false] rfl rfl rfl (by kernel_rfl) (PQ.then (PQ.blk (PQ.then (PQ.blk (PQ.then PQ.body))))) rfl ?_
      refine WD.offU (i := 13) pickOr_spec_t5 #[true, true, true, true, true, true, true, true, true, true, true, true, true, true, false, false, false, false] rfl rfl rfl (by kernel_rfl) (PQ.then (PQ.blk (PQ.then (PQ.blk (PQ.then PQ.body))))) rfl ?_
      refine WD.offU (i := 14) pickOr_spec_t5 #[true, true, true, true, true, true, true, true, true, true, true, true, true, true, true, false, false, false] rfl rfl rfl (by kernel_rfl) (PQ.then (PQ.blk (PQ.then (PQ.blk (PQ.then PQ.body))))) rfl ?_
      refine WD.off (i := 15) pickOr_spec_t5 #[true, true, true, true, true, true, true, true, true, true, true, true, true, true, true, true, false, false] rfl rfl rfl (decide_eq_false g43) (by kernel_rfl) (PQ.then (PQ.blk (PQ.then (PQ.blk (PQ.then PQ.body))))) rfl ?_
      refine WD.pure (i := 16) pickOr_spec_t5 #[true, true, true, true, true, true, true, true, true, true, true, true, true, true, true, true, true, false] rfl rfl rfl (by kernel_rfl) (PQ.then (PQ.blk (PQ.then (PQ.blk (PQ.then PQ.body))))) rfl (fun w => run_pickF rfl (decide_eq_false g43) rfl) ?_
      refine WD.pure (i := 17) pickOr_spec_t5 #[true, true, true, true, true, true, true, true, true, true, true, true, true, true, true, true, true, true] rfl rfl rfl (by kernel_rfl) (PQ.then (PQ.blk (PQ.then (PQ.blk (PQ.then PQ.body))))) rfl (fun w => run_assign rfl) ?_
      refine WD.done pickOr_spec_t5 (by kernel_rfl) ?_
      exact K11 false _ _ ⟨inB_f g43, hS30⟩ (Sub.cons rfl (Sub.cons rfl (Sub.cons rfl (Sub.cons rfl (Sub.cons rfl (Sub.consE rfl (by first | rfl | first | rfl | (congr 1; omega) | (simp; done) | (simp; omega)) (Sub.nil _)))))))
   ·
    refine WD.start (fun w => Rd w pa xs.length 1 (ri xs) ∧ Rd w pb ys.length 1 (ri ys) ∧ Rd w ao o.length 1 (ri o) ∧ Rd w a l.length 1 (ri l) ∧ Rd w b m.length 1 (ri m)) [] #[false, false, false, false, false, false, false, false, false, false, false, false, false, false, false, false, false, false] Ty.mo rfl (by kernel_rfl) hS8 (fun _ h => ⟨(h.ro_rd_i 0 rfl), (h.ro_rd_i 1 rfl), (h.own_rd_i 2 rfl), (hX (h.focus 3 rfl)), (hY (h.focus 4 rfl))⟩) (fun w32 hS32 s33 => ?_)
    clear hS8
    refine WD.pure (i := 0) pickOr_spec_t4 #[true, false, false, false, false, false, false, false, false, false, false, false, false, false, false, false, false, false] rfl rfl rfl (by kernel_rfl) (PQ.then (PQ.blk (PQ.then (PQ.blk (PQ.then PQ.body))))) rfl (fun w => run_move rfl) ?_
    refine WD.pure (i := 1) pickOr_spec_t4 #[true, true, false, false, false, false, false, false, false, false, false, false, false, false, false, false, false, false] rfl rfl rfl (by kernel_rfl) (PQ.then (PQ.blk (PQ.then (PQ.blk (PQ.then PQ.body))))) rfl (fun w => run_len rfl Tryz.underlying22 rfl) ?_
    refine WD.pure (i := 2) pickOr_spec_t4 #[true, true, true, false, false, false, false, false, false, false, false, false, false, false, false, false, false, false] rfl rfl rfl (by kernel_rfl) (PQ.then (PQ.blk (PQ.then (PQ.blk (PQ.then PQ.body))))) rfl (fun w => run_gtr rfl rfl) ?_
    refine WD.pure (i := 3) pickOr_spec_t4 #[true, true, true, true, false, false, false, false, false, false, false, false, false, false, false, false, false, false] rfl rfl rfl (by kernel_rfl) (PQ.then (PQ.blk (PQ.then (PQ.blk (PQ.then PQ.body))))) rfl (fun w => run_move rfl) ?_
    by_cases g26 : 0 < ((xs.length : Nat) : Int)
    ·
     refine WD.pureOn (i := 4) pickOr_spec_t4 #[true, true, true, true, true, false, false, false, false, false, false, false, false, false, false, false, false, false] rfl rfl rfl (decide_eq_true g26) (by kernel_rfl) (PQ.then (PQ.blk (PQ.then (PQ.blk (PQ.then PQ.body))))) rfl (fun w => run_move rfl) ?_
     refine WD.pureOn (i := 5) pickOr_spec_t4 #[true, true, true, true, true, true, false, false, false, false, false, false, false, false, false, false, false, false] rfl rfl rfl (decide_eq_true g26) (by kernel_rfl) (PQ.then (PQ.blk (PQ.then (PQ.blk (PQ.then PQ.body))))) rfl (fun w => run_len rfl Tryz.underlying22 rfl) ?_
     refine WD.pureOn (i := 6) pickOr_spec_t4 #[true, true, true, true, true, true, true, false, false, false, false, false, false, false, false, false, false, false] rfl rfl rfl (decide_eq_true g26) (by kernel_rfl) (PQ.then (PQ.blk (PQ.then (PQ.blk (PQ.then PQ.body))))) rfl (fun w => run_eql rfl rfl) ?_
     refine WD.pureOn (i := 7) pickOr_spec_t4 #[true, true, true, true, true, true, true, true, false, false, false, false, false, false, false, false, false, false] rfl rfl rfl (decide_eq_true g26) (by kernel_rfl) (PQ.then (PQ.blk (PQ.then (PQ.blk (PQ.then PQ.body))))) rfl (fun w => run_move rfl) ?_
     by_cases g30 : ((ys.length : Nat) : Int) = 0
     ·
      refine WD.off (i := 8) pickOr_spec_t4 #[true, true, true, true, true, true, true, true, true, false, false, false, false, false, false, false, false, false] rfl rfl rfl (decide_eq_true g30) (by kernel_rfl) (PQ.then (PQ.blk (PQ.then (PQ.blk (PQ.then PQ.body))))) rfl ?_
      refine WD.off (i := 9) pickOr_spec_t4 #[true, true, true, true, true, true, true, true, true, true, false, false, false, false, false, false, false, false] rfl rfl rfl (decide_eq_true g30) (by kernel_rfl) (PQ.then (PQ.blk (PQ.then (PQ.blk (PQ.then PQ.body))))) rfl ?_
      refine WD.off (i := 10) pickOr_spec_t4 #[true, true, true, true, true, true, true, true, true, true, true, false, false, false, false, false, false, false] rfl rfl rfl (decide_eq_true g30) (by kernel_rfl) (PQ.then (PQ.blk (PQ.then (PQ.blk (PQ.then PQ.body))))) rfl ?_
      refine WD.off (i := 11) pickOr_spec_t4 #[true, true, true, true, true, true, true, true, true, true, true, true, false, false, false, false, false, false] rfl rfl rfl (decide_eq_true g30) (by kernel_rfl) (PQ.then (PQ.blk (PQ.then (PQ.blk (PQ.then PQ.body))))) rfl ?_
      refine WD.off (i := 12) pickOr_spec_t4 #[true, true, true, true, true, true, true, true, true, true, true, true, true, false, false, false, false, false] rfl rfl rfl (decide_eq_true g30) (by kernel_rfl) (PQ.then (PQ.blk (PQ.then (PQ.blk (PQ.then PQ.body))))) rfl ?_
      refine WD.off (i := 13) pickOr_spec_t4 #[true, true, true, true, true, true, true, true, true, true, true, true, true, true, false, false, false, false] rfl rfl rfl (decide_eq_true g30) (by kernel_rfl) (PQ.then (PQ.blk (PQ.then (PQ.blk (PQ.then PQ.body))))) rfl ?_
      refine WD.off (i := 14) pickOr_spec_t4 #[true, true, true, true, true, true, true, true, true, true, true, true, true, true, true, false, false, false] rfl rfl rfl (decide_eq_true g30) (by kernel_rfl) (PQ.then (PQ.blk (PQ.then (PQ.blk (PQ.then PQ.body))))) rfl ?_
      refine WD.pureOn (i := 15) pickOr_spec_t4 #[true, true, true, true, true, true, true, true, true, true, true, true, true, true, true, true, false, false] rfl rfl rfl (decide_eq_true g26) (by kernel_rfl) (PQ.then (PQ.blk (PQ.then (PQ.blk (PQ.then PQ.body))))) rfl (fun w => run_pickT rfl (decide_eq_true g30) rfl) ?_
      refine WD.pure (i := 16) pickOr_spec_t4 #[true, true, true, true, true, true, true, true, true, true, true, true, true, true, true, true, true, false] rfl rfl rfl (by kernel_rfl) (PQ.then (PQ.blk (PQ.then (PQ.blk (PQ.then PQ.body))))) rfl (fun w => run_pickT rfl (decide_eq_true g26) rfl) ?_
      refine WD.pure (i := 17) pickOr_spec_t4 #[true, true, true, true, true, true, true, true, true, true, true, true, true, true, true, true, true, true] rfl rfl rfl (by kernel_rfl) (PQ.then (PQ.blk (PQ.then (PQ.blk (PQ.then PQ.body))))) rfl (fun w => run_assign rfl) ?_
      refine WD.done pickOr_spec_t4 (by kernel_rfl) ?_
      exact K9 true _ _ ⟨inB_t g26 g30, hS32⟩ (Sub.cons rfl (Sub.cons rfl (Sub.cons rfl (Sub.cons rfl (Sub.consE rfl (by first | rfl | first | rfl | (congr 1; omega) | (simp; done) | (simp; omega)) (Sub.nil _))))))
     ·
      refine WD.pureOn (i := 8) pickOr_spec_t4 #[true, true, true, true, true, true, true, true, true, false, false, false, false, false, false, false, false, false] rfl rfl rfl (decide_eq_false g30) (by kernel_rfl) (PQ.then (PQ.blk (PQ.then (PQ.blk (PQ.then PQ.body))))) rfl (fun w => run_move rfl) ?_
      obtain ⟨x, hx⟩ : ∃ x, xs[0]? = some x := ⟨_, List.getElem?_eq_getElem (by omega)⟩
      refine WD.takeOn (i := 9) pickOr_spec_t4 #[true, true, true, true, true, true, true, true, true, true, false, false, false, false, false, false, false, false] s33 rfl rfl rfl (decide_eq_false g30) (by kernel_rfl) (PQ.then (PQ.blk (PQ.then (PQ.blk (PQ.then PQ.body))))) rfl (fun w hs => run_indexAddr (q := adr pa 0) Tryz.underlying22 Ty.sz3 rfl rfl (by omega) (by omega) ((hs.1).2.1 (by omega)) (by simp)) ?_
      refine WD.takeOn (i := 10) pickOr_spec_t4 #[true, true, true, true, true, true, true, true, true, true, true, false, false, false, false, false, false, false] s33 rfl rfl rfl (decide_eq_false g30) (by kernel_rfl) (PQ.then (PQ.blk (PQ.then (PQ.blk (PQ.then PQ.body))))) rfl (fun w hs => run_load Ty.ag3 rfl ((hs.1).cell (ri_get hx))) ?_
      refine WD.pureOn (i := 11) pickOr_spec_t4 #[true, true, true, true, true, true, true, true, true, true, true, true, false, false, false, false, false, false] rfl rfl rfl (decide_eq_false g30) (by kernel_rfl) (PQ.then (PQ.blk (PQ.then (PQ.blk (PQ.then PQ.body))))) rfl (fun w => run_move rfl) ?_
      obtain ⟨y, hy⟩ : ∃ y, ys[0]? = some y := ⟨_, List.getElem?_eq_getElem (by omega)⟩
      refine WD.takeOn (i := 12) pickOr_spec_t4 #[true, true, true, true, true, true, true, true, true, true, true, true, true, false, false, false, false, false] s33 rfl rfl rfl (decide_eq_false g30) (by kernel_rfl) (PQ.then (PQ.blk (PQ.then (PQ.blk (PQ.then PQ.body))))) rfl (fun w hs => run_indexAddr (q := adr pb 0) Tryz.underlying22 Ty.sz3 rfl rfl (by omega) (by omega) ((hs.2.1).2.1 (by omega)) (by simp)) ?_
      refine WD.takeOn (i := 13) pickOr_spec_t4 #[true, true, true, true, true, true, true, true, true, true, true, true, true, true, false, false, false, false] s33 rfl rfl rfl (decide_eq_false g30) (by kernel_rfl) (PQ.then (PQ.blk (PQ.then (PQ.blk (PQ.then PQ.body))))) rfl (fun w hs => run_load Ty.ag3 rfl ((hs.2.1).cell (ri_get hy))) ?_
      refine WD.pureOn (i := 14) pickOr_spec_t4 #[true, true, true, true, true, true, true, true, true, true, true, true, true, true, true, false, false, false] rfl rfl rfl (decide_eq_false g30) (by kernel_rfl) (PQ.then (PQ.blk (PQ.then (PQ.blk (PQ.then PQ.body))))) rfl (fun w => run_leq rfl rfl) ?_
      refine WD.pureOn (i := 15) pickOr_spec_t4 #[true, true, true, true, true, true, true, true, true, true, true, true, true, true, true, true, false, false] rfl rfl rfl (decide_eq_true g26) (by kernel_rfl) (PQ.then (PQ.blk (PQ.then (PQ.blk (PQ.then PQ.body))))) rfl (fun w => run_pickF rfl (decide_eq_false g30) rfl) ?_
      refine WD.pure (i := 16) pickOr_spec_t4 #[true, true, true, true, true, true, true, true, true, true, true, true, true, true, true, true, true, false] rfl rfl rfl (by kernel_rfl) (PQ.then (PQ.blk (PQ.then (PQ.blk (PQ.then PQ.body))))) rfl (fun w => run_pickT rfl (decide_eq_true g26) rfl) ?_
      refine WD.pure (i := 17) pickOr_spec_t4 #[true, true, true, true, true, true, true, true, true, true, true, true, true, true, true, true, true, true] rfl rfl rfl (by kernel_rfl) (PQ.then (PQ.blk (PQ.then (PQ.blk (PQ.then PQ.body))))) rfl (fun w => run_assign rfl) ?_
      refine WD.done pickOr_spec_t4 (by kernel_rfl) ?_
      exact K9 (decide (x ≤ y)) _ _ ⟨inB_d hx hy, hS32⟩ (Sub.cons rfl (Sub.cons rfl (Sub.cons rfl (Sub.cons rfl (Sub.consE rfl (by first | rfl | first | rfl | (congr 1; omega) | (simp; done) | (simp; omega)) (Sub.nil _))))))
    ·
     refine WD.off (i := 4) pickOr_spec_t4 #[true, true, true, true, true, false, false, false, false, false, false, false, false, false, false, false, false, false] rfl rfl rfl (decide_eq_false g26) (by kernel_rfl) (PQ.then (PQ.blk (PQ.then (PQ.blk (PQ.then PQ.body))))) rfl ?_
     refine WD.off (i := 5) pickOr_spec_t4 #[true, true, true, true, true, true, false, false, false, false, false, false, false, false, false, false, false, false] rfl rfl rfl (decide_eq_false g26) (by kernel_rfl) (PQ.then (PQ.blk (PQ.then (PQ.blk (PQ.then PQ.body))))) rfl ?_
     refine WD.off (i := 6) pickOr_spec_t4 #[true, true, true, true, true, true, true, false, false, false, false, false, false, false, false, false, false, false] rfl rfl rfl (decide_eq_false g26) (by kernel_rfl) (PQ.then (PQ.blk (PQ.then (PQ.blk (PQ.then PQ.body))))) rfl ?_
     refine WD.off (i := 7) pickOr_spec_t4 #[true, true, true, true, true, true, true, true, false, false, false, false, false, false, false, false, false, false] rfl rfl rfl (decide_eq_false g26) (by kernel_rfl) (PQ.then (PQ.blk (PQ.then (PQ.blk (PQ.then PQ.body))))) rfl ?_
     refine WD.offU (i := 8) pickOr_spec_t4 #[true, true, true, true, true, true, true, true, true, false, false, false, false, false, false, false, false, false] rfl rfl rfl (by kernel_rfl) (PQ.then (PQ.blk (PQ.then (PQ.blk (PQ.then PQ.body))))) rfl ?_
     refine WD.offU (i := 9) pickOr_spec_t4 #[true, true, true, true, true, true, true, true, true, true, false, false, false, false, false, false, false, false] rfl rfl rfl (by kernel_rfl) (PQ.then (PQ.blk (PQ.then (PQ.blk (PQ.then PQ.body))))) rfl ?_
     refine WD.offU (i := 10) pickOr_spec_t4 #[true, true, true, true, true, true, true, true, true, true, true, false, false, false, false, false, false, false] rfl rfl rfl (by kernel_rfl) (PQ.then (PQ.blk (PQ.then (PQ.blk (PQ.then PQ.body))))) rfl ?_
     refine WD.offU (i := 11) pickOr_spec_t4 #[true, true, true, true, true, true, true, true, true, true, true, true, false, false, false, false, false, false] rfl rfl rfl (by kernel_rfl) (PQ.then (PQ.blk (PQ.then (PQ.blk (PQ.then PQ.body))))) rfl ?_
     refine WD.offU (i := 12) pickOr_spec_t4 #[true, true, true, true, true, true, true, true, true, true, true, true, true, false, false, false, false, false] rfl rfl rfl (by kernel_rfl) (PQ.then (PQ.blk (PQ.then (PQ.blk (PQ.then PQ.body))))) rfl ?_
     refine WD.offU (i := 13) pickOr_spec_t4 #[true, true, true, true, true, true, true, true, true, true, true, true, true, true, false, false, false, false] rfl rfl rfl (by kernel_rfl) (PQ.then (PQ.blk (PQ.then (PQ.blk (PQ.then PQ.body))))) rfl ?_
     refine WD.offU (i := 14) pickOr_spec_t4 #[true, true, true, true, true, true, true, true, true, true, true, true, true, true, true, false, false, false] rfl rfl rfl (by kernel_rfl) (PQ.then (PQ.blk (PQ.then (PQ.blk (PQ.then PQ.body))))) rfl ?_
     refine WD.off (i := 15) pickOr_spec_t4 #[true, true, true, true, true, true, true, true, true, true, true, true, true, true, true, true, false, false] rfl rfl rfl (decide_eq_false g26) (by kernel_rfl) (PQ.then (PQ.blk (PQ.then (PQ.blk (PQ.then PQ.body))))) rfl ?_
     refine WD.pure (i := 16) pickOr_spec_t4 #[true, true, true, true, true, true, true, true, true, true, true, true, true, true, true, true, true, false] rfl rfl rfl (by kernel_rfl) (PQ.then (PQ.blk (PQ.then (PQ.blk (PQ.then PQ.body))))) rfl (fun w => run_pickF rfl (decide_eq_false g26) rfl) ?_
     refine WD.pure (i := 17) pickOr_spec_t4 #[true, true, true, true, true, true, true, true, true, true, true, true, true, true, true, true, true, true] rfl rfl rfl (by kernel_rfl) (PQ.then (PQ.blk (PQ.then (PQ.blk (PQ.then PQ.body))))) rfl (fun w => run_assign rfl) ?_
     refine WD.done pickOr_spec_t4 (by kernel_rfl) ?_
     exact K9 false _ _ ⟨inB_f g26, hS32⟩ (Sub.cons rfl (Sub.cons rfl (Sub.cons rfl (Sub.cons rfl (Sub.consE rfl (by first | rfl | first | rfl | (congr 1; omega) | (simp; done) | (simp; omega)) (Sub.nil _))))))
  ·
   have hnc : ¬ (0 < xs.length ∨ 0 < ys.length) := fun h => by rw [hcc.2 h] at g22; cases g22
   refine WP.exit ?_
   refine NX.thenExit ?_
   refine NX.thenExit ?_
   refine NX.blkExit ?_
   refine NX.go ?_
   refine WP.seq ?_
   refine WP.region rfl ?_
   refine WO.val (run_move rfl) rfl rfl rfl ?_
   refine WO.val (run_assign rfl) rfl rfl rfl ?_
   refine WO.nil ?_
   refine NX.go ?_
   refine WP.ret ?_
   refine NX.done (l := [.tmp 6]) rfl rfl ?_
   have hRR := pk_end hnc hR
   exact ⟨ao, co, congrArg (fun z => Value.slice ao z co) (by rw [hRR]), own_len (hS8.drop.drop) (by rw [hRR]) (by rw [hRR])⟩
 ·
  refine WP.region rfl ?_
  refine WO.val (run_move rfl) rfl rfl rfl ?_
  refine WO.val (run_len rfl Tryz.underlying22 rfl) rfl rfl rfl ?_
  refine WO.val (run_gtr rfl rfl) rfl rfl rfl ?_
  refine WO.val (run_move rfl) rfl rfl rfl ?_
  by_cases g18 : 0 < ((xs.length : Nat) : Int)
  ·
   refine WO.off rfl rfl (decide_eq_true g18) rfl ?_
   refine WO.off rfl rfl (decide_eq_true g18) rfl ?_
   refine WO.off rfl rfl (decide_eq_true g18) rfl ?_
   refine WO.val (run_pickT rfl (decide_eq_true g18) rfl) rfl rfl rfl ?_
   refine WO.nil ?_
   exact K7 true _ _ ⟨pk_c1 g18, hS6⟩ (Sub.cons rfl (Sub.cons rfl (Sub.cons rfl (Sub.cons rfl (Sub.consE rfl (by first | rfl | first | rfl | (congr 1; omega) | (simp; done) | (simp; omega)) (Sub.nil _))))))
  ·
   refine WO.on rfl rfl (decide_eq_false g18) ?_
   refine WO.val (run_move rfl) rfl rfl rfl ?_
   refine WO.on rfl rfl (decide_eq_false g18) ?_
   refine WO.val (run_len rfl Tryz.underlying22 rfl) rfl rfl rfl ?_
   refine WO.on rfl rfl (decide_eq_false g18) ?_
   refine WO.val (run_gtr rfl rfl) rfl rfl rfl ?_
   refine WO.val (run_pickF rfl (decide_eq_false g18) rfl) rfl rfl rfl ?_
   refine WO.nil ?_
   exact K7 (decide (0 < ((ys.length : Nat) : Int))) _ _ ⟨pk_c2 g18, hS6⟩ (Sub.cons rfl (Sub.cons rfl (Sub.cons rfl (Sub.cons rfl (Sub.consE rfl (by first | rfl | first | rfl | (congr 1; omega) | (simp; done) | (simp; omega)) (Sub.nil _))))))
theorem pOr_spec {B w : World} {L : List HP} {X Y : HP} {a b : Option Addr} {cap cap2 : Nat} {l m : List Int} (hX : ∀ {L : List HP} {w : World}, St B (X :: L) w → Rd w a l.length 1 (ri l)) (hY : ∀ {L : List HP} {w : World}, St B (Y :: L) w → Rd w b m.length 1 (ri m)) (hb : l.length ≤ 400000) (hb2 : m.length ≤ 400000) (hS : St B (X :: Y :: L) w) : Does Tryz.prog 8 [Value.slice a l.length cap, Value.slice b m.length cap2] w (fun v w1 => ∃ a1 c1, v = .slice a1 (pickF fOr l m).length c1 ∧ St B (own a1 (pickF fOr l m).length c1 3 1 (ri (pickF fOr l m)) :: X :: Y :: L) w1) := by
 refine enter (n := 8) Tryz.func8 rfl rfl [Value.slice a l.length cap, Value.slice b m.length cap2] rfl ?_
 refine WP.seq ?_
 refine WP.region rfl ?_
 refine WO.val (run_assign rfl) rfl rfl rfl ?_
 refine WO.nil ?_
 refine NX.go ?_
 refine WP.seq ?_
 refine WP.region rfl ?_
 refine WO.val (run_move rfl) rfl rfl rfl ?_
 refine WO.val (run_move rfl) rfl rfl rfl ?_
 refine WO.call rfl rfl Ty.hd15 rfl (pickOr_spec hX hY hb hb2 hS) (fun v2 w1 pv2 => ?_)
 obtain ⟨a1, c1, rfl, hS1⟩ := pv2
 clear hS
 refine WO.val (run_assign rfl) rfl rfl rfl ?_
 refine WO.nil ?_
 refine NX.go ?_
 refine WP.ret ?_
 refine NX.done (l := [.tmp 4]) rfl rfl ?_
 exact ⟨a1, c1, rfl, hS1⟩
theorem fLess_spec {B w : World} {L : List HP} (p q : Bool) (hS : St B L w) : Does Tryz.prog 18 [Value.bool p, Value.bool q] w (fun v w1 => v = .bool (fLess p q) ∧ St B L w1) := by
 refine enter (n := 7) Tryz.func18 rfl rfl [Value.bool p, Value.bool q] rfl ?_
 refine WP.seq ?_
 refine WP.region rfl ?_
 refine WO.val (run_assign rfl) rfl rfl rfl ?_
 refine WO.nil ?_
 refine NX.go ?_
 refine WP.seq ?_
 refine WP.region rfl ?_
 refine WO.val (run_move rfl) rfl rfl rfl ?_
 refine WO.val (run_not rfl rfl) rfl rfl rfl ?_
 refine WO.val (run_assign rfl) rfl rfl rfl ?_
 refine WO.nil ?_
 refine NX.go ?_
 refine WP.ret ?_
 refine NX.done (l := [.tmp 4]) rfl rfl ?_
 exact ⟨rfl, hS⟩
theorem pickLess_spec_t10 : rtab .any (opsOf Tryz.f15 10) = (true, [([], []), ([0], [0]), ([1], [1]), ([], []), ([3], [3]), ([2, 0, 1, 2], [2]), ([4, 5, 0, 1, 2, 3, 4, 5], [0, 3, 4])]) := by kernel_rfl
theorem pickLess_spec_t8 : rtab .any (opsOf Tryz.f15 8) = (true, [([], []), ([0], [0]), ([1], [1]), ([], []), ([3], [3]), ([2, 0, 1, 2], [2]), ([4, 5, 0, 1, 2, 3, 4, 5], [0, 3, 4])]) := by kernel_rfl
theorem pickLess_spec_t5 : rtab .any (opsOf Tryz.f15 5) = (true, [([], []), ([0], [0]), ([1], [1]), ([2], [2]), ([3], [3]), ([4, 3], [3, 4]), ([5, 3], [3, 5]), ([6, 3, 3], [3, 6]), ([7], [7]), ([8, 7], [7, 8]), ([9, 7], [7, 9]), ([7], [7]), ([11, 7], [7, 11]), ([12, 7], [7, 12]), ([10, 13, 7], [7, 10, 13]), ([7, 14, 3], [3, 7, 14]), ([3, 15], [3, 15]), ([16, 7, 0, 1, 2, 3, 4, 5, 6, 7, 8, 9, 10, 11, 12, 13, 14, 15, 16], [16])]) := by kernel_rfl
theorem pickLess_spec_t4 : rtab .any (opsOf Tryz.f15 4) = (true, [([], []), ([0], [0]), ([1], [1]), ([2], [2]), ([3], [3]), ([4, 3], [3, 4]), ([5, 3], [3, 5]), ([6, 3, 3], [3, 6]), ([7], [7]), ([8, 7], [7, 8]), ([9, 7], [7, 9]), ([7], [7]), ([11, 7], [7, 11]), ([12, 7], [7, 12]), ([10, 13, 7], [7, 10, 13]), ([7, 14, 3], [3, 7, 14]), ([3, 15], [3, 15]), ([16, 7, 0, 1, 2, 3, 4, 5, 6, 7, 8, 9, 10, 11, 12, 13, 14, 15, 16], [16])]) := by kernel_rfl
theorem pickLess_spec {B w : World} {L : List HP} {X Y : HP} {a b : Option Addr} {cap cap2 : Nat} {l m : List Int} (hX : ∀ {L : List HP} {w : World}, St B (X :: L) w → Rd w a l.length 1 (ri l)) (hY : ∀ {L : List HP} {w : World}, St B (Y :: L) w → Rd w b m.length 1 (ri m)) (hb : l.length ≤ 400000) (hb2 : m.length ≤ 400000) (hS : St B (X :: Y :: L) w) : Does Tryz.prog 15 [Value.slice a l.length cap, Value.slice b m.length cap2, Value.func (.func 18) #[] #[]] w (fun v w1 => ∃ a1 c1, v = .slice a1 (pickF fLess l m).length c1 ∧ St B (own a1 (pickF fLess l m).length c1 3 1 (ri (pickF fLess l m)) :: X :: Y :: L) w1) := by
 refine enter (n := 78) Tryz.func15 rfl rfl [Value.slice a l.length cap, Value.slice b m.length cap2, Value.func (.func 18) #[] #[]] rfl ?_
 refine WP.seq ?_
 refine WP.region rfl ?_
 refine WO.val (run_assign rfl) rfl rfl rfl ?_
 refine WO.nil ?_
 refine NX.go ?_
 refine WP.seq ?_
 refine WP.region rfl ?_
 refine WO.val (run_move rfl) rfl rfl rfl ?_
 refine WO.call rfl rfl Ty.hd25 rfl (rising_spec hX (by omega) hS) (fun v2 w1 pv2 => ?_)
 obtain ⟨a0, ca0, rfl, hS1⟩ := pv2
 clear hS
 refine WO.val (run_move rfl) rfl rfl rfl ?_
 have hS3 := hS1.permT [2, 0, 0] (L' := Y :: own a0 ((rising l).length) ca0 3 1 (ri (rising l)) :: X :: L) rfl
 clear hS1
 refine WO.call rfl rfl Ty.hd25 rfl (rising_spec hY (by omega) hS3) (fun v5 w4 pv5 => ?_)
 obtain ⟨b0, cb0, rfl, hS4⟩ := pv5
 clear hS3
 refine WO.val (run_assign rfl) rfl rfl rfl ?_
 refine WO.val (run_assign rfl) rfl rfl rfl ?_
 refine WO.nil ?_
 refine NX.go ?_
 refine WP.seq ?_
 refine WP.region rfl ?_
 refine WO.val (run_assign rfl) rfl rfl rfl ?_
 refine WO.nil ?_
 refine NX.go ?_
 refine WP.seq ?_
 refine WP.block ?_
 have hca0 := hS4.own_le_i 2 rfl
 have hcb0 := hS4.own_le_i 0 rfl
 have hq := ((hS4.permT [2, 0, 1, 0] (L' := own a0 ((rising l).length) ca0 3 1 (ri (rising l)) :: own b0 ((rising m).length) cb0 3 1 (ri (rising m)) :: X :: Y :: L) rfl)).own_seal.permT [1, 0] (L' := own b0 ((rising m).length) cb0 3 1 (ri (rising m)) :: ro a0 ((rising l).length) 3 1 (ri (rising l)) :: X :: Y :: L) rfl
 have hq2 := (hq.own_seal.own_nil 3 1).permT [2, 1, 0] (L' := ro a0 ((rising l).length) 3 1 (ri (rising l)) :: ro b0 ((rising m).length) 3 1 (ri (rising m)) :: own none 0 0 3 1 [] :: X :: Y :: L) rfl
 have hr1 := rising_len l
 have hr2 := rising_len m
 refine WP.loop (α := Nat × List Int × List Int × List Int × (Option Addr × Nat × Option Addr × Nat) × Option Addr × Nat) (fun x => match x with | ⟨mu, xs, ys, o, ⟨pa, ca, pb, cb⟩, ao, co⟩ => [(0, Value.slice pa xs.length ca), (1, Value.slice pb ys.length cb), (2, Value.func (.func 18) #[] #[]), (7, Value.slice ao o.length co)]) (fun x w => match x with | ⟨mu, xs, ys, o, ⟨pa, ca, pb, cb⟩, ao, co⟩ => (xs.length ≤ ca ∧ ys.length ≤ cb ∧ xs.length + ys.length ≤ mu ∧ o.length + mu ≤ 800000 ∧ o ++ pkF fLess mu xs ys = pickF fLess l m) ∧ St B (ro pa xs.length 3 1 (ri xs) :: ro pb ys.length 3 1 (ri ys) :: own ao o.length co 3 1 (ri o) :: X :: Y :: L) w) (fun x => match x with | ⟨mu, xs, ys, o, ⟨pa, ca, pb, cb⟩, ao, co⟩ => mu) ((rising l).length + (rising m).length, rising l, rising m, [], (a0, ca0, b0, cb0), none, 0) ⟨⟨hca0, hcb0, Nat.le_refl _, by simp; omega, rfl⟩, hq2⟩ (Sub.consE rfl (by first | rfl | first | rfl | (congr 1; omega) | (simp; done) | (simp; omega)) (Sub.consE rfl (by first | rfl | first | rfl | (congr 1; omega) | (simp; done) | (simp; omega)) (Sub.cons rfl (Sub.consE rfl (by first | rfl | first | rfl | (congr 1; omega) | (simp; done) | (simp; omega)) (Sub.nil _))))) ?_
 rintro ⟨mu, xs, ys, o, ⟨pa, ca, pb, cb⟩, ao, co⟩ w6 ⟨⟨hca, hcb, hmu, hom, hR⟩, hS6⟩
 clear hS4
 refine WP.seq ?_
 refine WP.seq ?_
 refine WP.meet (α := Bool) (fun x => match x with | c => [(0, Value.slice pa xs.length ca), (1, Value.slice pb ys.length cb), (2, Value.func (.func 18) #[] #[]), (7, Value.slice ao o.length co), (22, Value.bool c)]) (fun x w => match x with | c => (c = true ↔ 0 < xs.length ∨ 0 < ys.length) ∧ St B (ro pa xs.length 3 1 (ri xs) :: ro pb ys.length 3 1 (ri ys) :: own ao o.length co 3 1 (ri o) :: X :: Y :: L) w) ?_ (fun K7 => ?_)
 ·
  rintro c w8 ⟨hcc, hS8⟩
  clear hS6
  refine NX.go ?_
  refine WP.condB rfl (fun g22 => ?_) (fun g22 => ?_)
  ·
   have hc := hcc.1 g22
   obtain ⟨k, rfl⟩ : ∃ k, mu = k + 1 := ⟨mu - 1, by omega⟩
   refine WP.skip ?_
   refine NX.go ?_
   refine WP.block ?_
   refine WP.seq ?_
   refine WP.meet (α := Bool) (fun x => match x with | p => [(0, Value.slice pa xs.length ca), (1, Value.slice pb ys.length cb), (2, Value.func (.func 18) #[] #[]), (7, Value.slice ao o.length co), (8, Value.bool p)]) (fun x w => match x with | p => (p = inB xs ys) ∧ St B (ro pa xs.length 3 1 (ri xs) :: ro pb ys.length 3 1 (ri ys) :: own ao o.length co 3 1 (ri o) :: X :: Y :: L) w) ?_ (fun K9 => ?_)
   ·
    rintro p w10 ⟨hp, hS10⟩
    clear hS8
    refine NX.go ?_
    refine WP.seq ?_
    refine WP.meet (α := Bool) (fun x => match x with | q => [(0, Value.slice pa xs.length ca), (1, Value.slice pb ys.length cb), (2, Value.func (.func 18) #[] #[]), (7, Value.slice ao o.length co), (8, Value.bool p), (9, Value.bool q)]) (fun x w => match x with | q => (q = inB ys xs) ∧ St B (ro pa xs.length 3 1 (ri xs) :: ro pb ys.length 3 1 (ri ys) :: own ao o.length co 3 1 (ri o) :: X :: Y :: L) w) ?_ (fun K11 => ?_)
    ·
     rintro q w12 ⟨hq, hS12⟩
     clear hS10
     refine NX.go ?_
     refine WP.seq ?_
     refine WP.region rfl ?_
     refine WO.val (run_assign rfl) rfl rfl rfl ?_
     refine WO.nil ?_
     refine NX.go ?_
     refine WP.seq ?_
     refine WP.seq ?_
     refine WP.region rfl ?_
     refine WO.val (run_move rfl) rfl rfl rfl ?_
     refine WO.nil ?_
     refine NX.go ?_
     refine WP.meet (α := Option Addr × Nat) (fun x => match x with | ⟨pa1, ca1⟩ => [(0, Value.slice pa1 ((tl p xs).length) ca1), (1, Value.slice pb ys.length cb), (2, Value.func (.func 18) #[] #[]), (7, Value.slice ao o.length co), (8, Value.bool p), (9, Value.bool q), (10, Value.int .i64 (hd1 p xs 0))]) (fun x w => match x with | ⟨pa1, ca1⟩ => ((tl p xs).length ≤ ca1) ∧ St B (ro pa1 ((tl p xs).length) 3 1 (ri (tl p xs)) :: ro pb ys.length 3 1 (ri ys) :: own ao o.length co 3 1 (ri o) :: X :: Y :: L) w) ?_ (fun K13 => ?_)
     ·
      rintro ⟨pa1, ca1⟩ w14 ⟨hca1, hS14⟩
      clear hS12
      refine NX.go ?_
      refine WP.seq ?_
      refine WP.seq ?_
      refine WP.region rfl ?_
      refine WO.val (run_move rfl) rfl rfl rfl ?_
      refine WO.nil ?_
      refine NX.go ?_
      refine WP.meet (α := Option Addr × Nat) (fun x => match x with | ⟨pb1, cb1⟩ => [(0, Value.slice pa1 ((tl p xs).length) ca1), (1, Value.slice pb1 ((tl q ys).length) cb1), (2, Value.func (.func 18) #[] #[]), (7, Value.slice ao o.length co), (8, Value.bool p), (9, Value.bool q), (10, Value.int .i64 (hd1 q ys (hd1 p xs 0)))]) (fun x w => match x with | ⟨pb1, cb1⟩ => ((tl q ys).length ≤ cb1) ∧ St B (ro pa1 ((tl p xs).length) 3 1 (ri (tl p xs)) :: ro pb1 ((tl q ys).length) 3 1 (ri (tl q ys)) :: own ao o.length co 3 1 (ri o) :: X :: Y :: L) w) ?_ (fun K15 => ?_)
      ·
       rintro ⟨pb1, cb1⟩ w16 ⟨hcb1, hS16⟩
       clear hS14
       refine NX.go ?_
       refine WP.seq ?_
       refine WP.region rfl ?_
       refine WO.val (run_move rfl) rfl rfl rfl ?_
       refine WO.val (run_move rfl) rfl rfl rfl ?_
       refine WO.val (run_move rfl) rfl rfl rfl ?_
       refine WO.call rfl rfl Ty.hd18 rfl (fLess_spec p q hS16) (fun v18 w17 pv18 => ?_)
       obtain ⟨rfl, hS17⟩ := pv18
       clear hS16
       refine WO.nil ?_
       refine NX.go ?_
       refine WP.meet (α := Option Addr × Nat) (fun x => match x with | ⟨ao1, co1⟩ => [(0, Value.slice pa1 ((tl p xs).length) ca1), (1, Value.slice pb1 ((tl q ys).length) cb1), (2, Value.func (.func 18) #[] #[]), (7, Value.slice ao1 ((apd (fLess p q) o (hd1 q ys (hd1 p xs 0))).length) co1)]) (fun x w => match x with | ⟨ao1, co1⟩ => St B (ro pa1 ((tl p xs).length) 3 1 (ri (tl p xs)) :: ro pb1 ((tl q ys).length) 3 1 (ri (tl q ys)) :: own ao1 ((apd (fLess p q) o (hd1 q ys (hd1 p xs 0))).length) co1 3 1 (ri (apd (fLess p q) o (hd1 q ys (hd1 p xs 0)))) :: X :: Y :: L) w) ?_ (fun K19 => ?_)
       ·
        rintro ⟨ao1, co1⟩ w20 hS20
        clear hS17
        refine NX.blk ?_
        exact NX.again (k, tl p xs, tl q ys, apd (fLess p q) o (hd1 q ys (hd1 p xs 0)), (pa1, ca1, pb1, cb1), ao1, co1) ⟨⟨hca1, hcb1, pk_len hp hq hc hmu, by have := apd_len (fLess p q) o (hd1 q ys (hd1 p xs 0)); omega, pk_step hp hq hc hR⟩, hS20⟩ (Nat.lt_succ_self k) (Sub.consE rfl rfl (Sub.consE rfl rfl (Sub.cons rfl (Sub.consE rfl rfl (Sub.nil _)))))
       ·
        refine WP.condB rfl (fun g72 => ?_) (fun g72 => ?_)
        ·
         refine WP.region rfl ?_
         refine WO.val (run_move rfl) rfl rfl rfl ?_
         refine WO.val (run_move rfl) rfl rfl rfl ?_
         refine WO.buildSlice (l := [Value.int .i64 (hd1 q ys (hd1 p xs 0))]) hS17 Tryz.underlying22 rfl (fun w => by kernel_rfl) rfl (fun g22 w21 lg22 hS21 => ?_)
         clear hS17
         have hS21 := hS21.own_of_cel (m := 1) (k := 1) rfl
         refine WO.append (news := [Value.int .i64 (hd1 q ys (hd1 p xs 0))]) 3 rfl Tryz.underlying22 Tryz.underlying22 (fun _ h => by cases h) Ty.sz3 (by decide) Ty.by3 Ty.zr3 rfl rfl rfl rfl hS21 rfl ((hS21.own_rd_i 0 rfl).src) rfl (by omega) (by omega) (fun a24 c25 w23 hS23 => ?_)
         replace hS23 : St B (own (some ⟨g22, 0, none⟩) 1 1 3 1 [Value.int .i64 (hd1 q ys (hd1 p xs 0))] :: ro pa1 ((tl p xs).length) 3 1 (ri (tl p xs)) :: ro pb1 ((tl q ys).length) 3 1 (ri (tl q ys)) :: own a24 (o.length + 1) c25 3 1 ((ri o) ++ [Value.int .i64 (hd1 q ys (hd1 p xs 0))]) :: X :: Y :: L) w23 := hS23
         clear hS21
         refine WO.val (run_assign rfl) rfl rfl rfl ?_
         refine WO.nil ?_
         have e1 : apd (fLess p q) o (hd1 q ys (hd1 p xs 0)) = o ++ [(hd1 q ys (hd1 p xs 0))] := by unfold apd; rw [g72]; rfl
         exact K19 (a24, c25) _ _ (by have hk := (hS23.drop).permT [2, 0, 0] rfl; exact (own_len hk (show _ = (apd (fLess p q) o (hd1 q ys (hd1 p xs 0))).length by rw [e1]; simp) (show _ = ri (apd (fLess p q) o (hd1 q ys (hd1 p xs 0))) by rw [e1]; simp [ri])).permT [1, 1, 0] rfl) (Sub.cons rfl (Sub.cons rfl (Sub.cons rfl (Sub.consE rfl (by rw [e1]; simp) (Sub.nil _)))))
        ·
         refine WP.skip ?_
         have e1 : apd (fLess p q) o (hd1 q ys (hd1 p xs 0)) = o := by unfold apd; rw [g72]; exact List.append_nil o
         exact K19 (ao, co) _ _ (by have hk := hS17; rw [e1]; exact hk) (Sub.cons rfl (Sub.cons rfl (Sub.cons rfl (Sub.consE rfl (by rw [e1]) (Sub.nil _)))))
      ·
       refine WP.condB rfl (fun g63 => ?_) (fun g63 => ?_)
       ·
        have hyp := inB_pos (hq ▸ g63 : inB ys xs = true)
        refine WD.start (fun w => Rd w pa1 ((tl p xs).length) 1 (ri (tl p xs)) ∧ Rd w pb ys.length 1 (ri ys) ∧ Rd w ao o.length 1 (ri o) ∧ Rd w a l.length 1 (ri l) ∧ Rd w b m.length 1 (ri m)) [] #[false, false, false, false, false, false, false] Ty.mo rfl (by kernel_rfl) hS14 (fun _ h => ⟨(h.ro_rd_i 0 rfl), (h.ro_rd_i 1 rfl), (h.own_rd_i 2 rfl), (hX (h.focus 3 rfl)), (hY (h.focus 4 rfl))⟩) (fun w26 hS26 s27 => ?_)
        clear hS14
        refine WD.pure (i := 0) pickLess_spec_t10 #[true, false, false, false, false, false, false] rfl rfl rfl (by kernel_rfl) (PQ.then (PQ.blk (PQ.then (PQ.blk (PQ.then PQ.body))))) rfl (fun w => run_move rfl) ?_
        obtain ⟨y, hy⟩ : ∃ y, ys[0]? = some y := ⟨_, List.getElem?_eq_getElem (by omega)⟩
        refine WD.take (i := 1) pickLess_spec_t10 #[true, true, false, false, false, false, false] s27 rfl rfl rfl (by kernel_rfl) (PQ.then (PQ.blk (PQ.then (PQ.blk (PQ.then PQ.body))))) rfl (fun w hs => run_indexAddr (q := adr pb 0) Tryz.underlying22 Ty.sz3 rfl rfl (by omega) (by omega) ((hs.2.1).2.1 (by omega)) (by simp)) ?_
        refine WD.take (i := 2) pickLess_spec_t10 #[true, true, true, false, false, false, false] s27 rfl rfl rfl (by kernel_rfl) (PQ.then (PQ.blk (PQ.then (PQ.blk (PQ.then PQ.body))))) rfl (fun w hs => run_load Ty.ag3 rfl ((hs.2.1).cell (ri_get hy))) ?_
        refine WD.pure (i := 3) pickLess_spec_t10 #[true, true, true, true, false, false, false] rfl rfl rfl (by kernel_rfl) (PQ.then (PQ.blk (PQ.then (PQ.blk (PQ.then PQ.body))))) rfl (fun w => run_move rfl) ?_
        refine WD.pure (i := 4) pickLess_spec_t10 #[true, true, true, true, true, false, false] rfl rfl rfl (by kernel_rfl) (PQ.then (PQ.blk (PQ.then (PQ.blk (PQ.then PQ.body))))) rfl (fun w => run_sliceL (i := 1) (j := ys.length) Tryz.underlying22 Ty.sz3 rfl ⟨_, rfl⟩ rfl (by omega) (by omega)) ?_
        refine WD.pure (i := 5) pickLess_spec_t10 #[true, true, true, true, true, true, false] rfl rfl rfl (by kernel_rfl) (PQ.then (PQ.blk (PQ.then (PQ.blk (PQ.then PQ.body))))) rfl (fun w => run_assign rfl) ?_
        refine WD.pure (i := 6) pickLess_spec_t10 #[true, true, true, true, true, true, true] rfl rfl rfl (by kernel_rfl) (PQ.then (PQ.blk (PQ.then (PQ.blk (PQ.then PQ.body))))) rfl (fun w => run_assign rfl) ?_
        refine WD.done pickLess_spec_t10 (by kernel_rfl) ?_
        have e1 : ys.length - 1 = (tl q ys).length := by rw [tl_t g63, List.length_drop]
        have e2 : hd1 q ys (hd1 p xs 0) = y := hd1_t g63 hy
        have hk := ro_len (((hS26.permT [1, 0, 0, 0, 0] (L' := ro pb ys.length 3 1 (ri ys) :: ro pa1 ((tl p xs).length) 3 1 (ri (tl p xs)) :: own ao o.length co 3 1 (ri o) :: X :: Y :: L) rfl)).ro_drop1 (i := 1) (c := cb) (by omega) hcb) e1 (show (ri ys).drop 1 = ri (tl q ys) by rw [tl_t g63]; unfold ri; rw [List.map_drop])
        exact K15 ((if cb = 1 then pb else pb.map (·.add (1 * 1))), cb - 1) _ _ ⟨by rw [← e1]; omega, hk.permT [1, 0] rfl⟩ (Sub.cons rfl (Sub.consE rfl (by rw [e1]) (Sub.cons rfl (Sub.cons rfl (Sub.cons rfl (Sub.cons rfl (Sub.consE rfl (by rw [e2]) (Sub.nil _))))))))
       ·
        refine WP.skip ?_
        have e1 : tl q ys = ys := tl_f g63
        have e2 : hd1 q ys (hd1 p xs 0) = (hd1 p xs 0) := hd1_f g63
        exact K15 (pb, cb) _ _ ⟨by rw [e1]; exact hcb, by have hk := (hS14.permT [1, 0, 0, 0, 0] (L' := ro pb ys.length 3 1 (ri ys) :: ro pa1 ((tl p xs).length) 3 1 (ri (tl p xs)) :: own ao o.length co 3 1 (ri o) :: X :: Y :: L) rfl); rw [← e1] at hk; exact hk.permT [1, 0] rfl⟩ (Sub.cons rfl (Sub.consE rfl (by rw [e1]) (Sub.cons rfl (Sub.cons rfl (Sub.cons rfl (Sub.cons rfl (Sub.consE rfl (by rw [e2]) (Sub.nil _))))))))
     ·
      refine WP.condB rfl (fun g57 => ?_) (fun g57 => ?_)
      ·
       have hxp := inB_pos (hp ▸ g57 : inB xs ys = true)
       refine WD.start (fun w => Rd w pa xs.length 1 (ri xs) ∧ Rd w pb ys.length 1 (ri ys) ∧ Rd w ao o.length 1 (ri o) ∧ Rd w a l.length 1 (ri l) ∧ Rd w b m.length 1 (ri m)) [] #[false, false, false, false, false, false, false] Ty.mo rfl (by kernel_rfl) hS12 (fun _ h => ⟨(h.ro_rd_i 0 rfl), (h.ro_rd_i 1 rfl), (h.own_rd_i 2 rfl), (hX (h.focus 3 rfl)), (hY (h.focus 4 rfl))⟩) (fun w28 hS28 s29 => ?_)
       clear hS12
       refine WD.pure (i := 0) pickLess_spec_t8 #[true, false, false, false, false, false, false] rfl rfl rfl (by kernel_rfl) (PQ.then (PQ.blk (PQ.then (PQ.blk (PQ.then PQ.body))))) rfl (fun w => run_move rfl) ?_
       obtain ⟨x, hx⟩ : ∃ x, xs[0]? = some x := ⟨_, List.getElem?_eq_getElem (by omega)⟩
       refine WD.take (i := 1) pickLess_spec_t8 #[true, true, false, false, false, false, false] s29 rfl rfl rfl (by kernel_rfl) (PQ.then (PQ.blk (PQ.then (PQ.blk (PQ.then PQ.body))))) rfl (fun w hs => run_indexAddr (q := adr pa 0) Tryz.underlying22 Ty.sz3 rfl rfl (by omega) (by omega) ((hs.1).2.1 (by omega)) (by simp)) ?_
       refine WD.take (i := 2) pickLess_spec_t8 #[true, true, true, false, false, false, false] s29 rfl rfl rfl (by kernel_rfl) (PQ.then (PQ.blk (PQ.then (PQ.blk (PQ.then PQ.body))))) rfl (fun w hs => run_load Ty.ag3 rfl ((hs.1).cell (ri_get hx))) ?_
       refine WD.pure (i := 3) pickLess_spec_t8 #[true, true, true, true, false, false, false] rfl rfl rfl (by kernel_rfl) (PQ.then (PQ.blk (PQ.then (PQ.blk (PQ.then PQ.body))))) rfl (fun w => run_move rfl) ?_
       refine WD.pure (i := 4) pickLess_spec_t8 #[true, true, true, true, true, false, false] rfl rfl rfl (by kernel_rfl) (PQ.then (PQ.blk (PQ.then (PQ.blk (PQ.then PQ.body))))) rfl (fun w => run_sliceL (i := 1) (j := xs.length) Tryz.underlying22 Ty.sz3 rfl ⟨_, rfl⟩ rfl (by omega) (by omega)) ?_
       refine WD.pure (i := 5) pickLess_spec_t8 #[true, true, true, true, true, true, false] rfl rfl rfl (by kernel_rfl) (PQ.then (PQ.blk (PQ.then (PQ.blk (PQ.then PQ.body))))) rfl (fun w => run_assign rfl) ?_
       refine WD.pure (i := 6) pickLess_spec_t8 #[true, true, true, true, true, true, true] rfl rfl rfl (by kernel_rfl) (PQ.then (PQ.blk (PQ.then (PQ.blk (PQ.then PQ.body))))) rfl (fun w => run_assign rfl) ?_
       refine WD.done pickLess_spec_t8 (by kernel_rfl) ?_
       have e1 : xs.length - 1 = (tl p xs).length := by rw [tl_t g57, List.length_drop]
       have e2 : hd1 p xs 0 = x := hd1_t g57 hx
       have hk := ro_len ((hS28).ro_drop1 (i := 1) (c := ca) (by omega) hca) e1 (show (ri xs).drop 1 = ri (tl p xs) by rw [tl_t g57]; unfold ri; rw [List.map_drop])
       exact K13 ((if ca = 1 then pa else pa.map (·.add (1 * 1))), ca - 1) _ _ ⟨by rw [← e1]; omega, hk⟩ (Sub.consE rfl (by rw [e1]) (Sub.cons rfl (Sub.cons rfl (Sub.cons rfl (Sub.cons rfl (Sub.cons rfl (Sub.consE rfl (by rw [e2]) (Sub.nil _))))))))
      ·
       refine WP.skip ?_
       have e1 : tl p xs = xs := tl_f g57
       have e2 : hd1 p xs 0 = 0 := hd1_f g57
       exact K13 (pa, ca) _ _ ⟨by rw [e1]; exact hca, by have hk := hS12; rw [← e1] at hk; exact hk⟩ (Sub.consE rfl (by rw [e1]) (Sub.cons rfl (Sub.cons rfl (Sub.cons rfl (Sub.cons rfl (Sub.cons rfl (Sub.consE rfl (by rw [e2]) (Sub.nil _))))))))
    ·
     refine WD.start (fun w => Rd w pa xs.length 1 (ri xs) ∧ Rd w pb ys.length 1 (ri ys) ∧ Rd w ao o.length 1 (ri o) ∧ Rd w a l.length 1 (ri l) ∧ Rd w b m.length 1 (ri m)) [] #[false, false, false, false, false, false, false, false, false, false, false, false, false, false, false, false, false, false] Ty.mo rfl (by kernel_rfl) hS10 (fun _ h => ⟨(h.ro_rd_i 0 rfl), (h.ro_rd_i 1 rfl), (h.own_rd_i 2 rfl), (hX (h.focus 3 rfl)), (hY (h.focus 4 rfl))⟩) (fun w30 hS30 s31 => ?_)
     clear hS10
     refine WD.pure (i := 0) pickLess_spec_t5 #[true, false, false, false, false, false, false, false, false, false, false, false, false, false, false, false, false, false] rfl rfl rfl (by kernel_rfl) (PQ.then (PQ.blk (PQ.then (PQ.blk (PQ.then PQ.body))))) rfl (fun w => run_move rfl) ?_
     refine WD.pure (i := 1) pickLess_spec_t5 #[true, true, false, false, false, false, false, false, false, false, false, false, false, false, false, false, false, false] rfl rfl rfl (by kernel_rfl) (PQ.then (PQ.blk (PQ.then (PQ.blk (PQ.then PQ.body))))) rfl (fun w => run_len rfl Tryz.underlying22 rfl) ?_
     refine WD.pure (i := 2) pickLess_spec_t5 #[true, true, true, false, false, false, false, false, false, false, false, false, false, false, false, false, false, false] rfl rfl rfl (by kernel_rfl) (PQ.then (PQ.blk (PQ.then (PQ.blk (PQ.then PQ.body))))) rfl (fun w => run_gtr rfl rfl) ?_
     refine WD.pure (i := 3) pickLess_spec_t5 #[true, true, true, true, false, false, false, false, false, false, false, false, false, false, false, false, false, false] rfl rfl rfl (by kernel_rfl) (PQ.then (PQ.blk (PQ.then (PQ.blk (PQ.then PQ.body))))) rfl (fun w => run_move rfl) ?_
     by_cases g43 : 0 < ((ys.length : Nat) : Int)
     ·
      refine WD.pureOn (i := 4) pickLess_spec_t5 #[true, true, true, true, true, false, false, false, false, false, false, false, false, false, false, false, false, false] rfl rfl rfl (decide_eq_true g43) (by kernel_rfl) (PQ.then (PQ.blk (PQ.then (PQ.blk (PQ.then PQ.body))))) rfl (fun w => run_move rfl) ?_
      refine WD.pureOn (i := 5) pickLess_spec_t5 #[true, true, true, true, true, true, false, false, false, false, false, false, false, false, false, false, false, false] rfl rfl rfl (decide_eq_true g43) (by kernel_rfl) (PQ.then (PQ.blk (PQ.then (PQ.blk (PQ.then PQ.body))))) rfl (fun w => run_len rfl Tryz.underlying22 rfl) ?_
      refine WD.pureOn (i := 6) pickLess_spec_t5 #[true, true, true, true, true, true, true, false, false, false, false, false, false, false, false, false, false, false] rfl rfl rfl (decide_eq_true g43) (by kernel_rfl) (PQ.then (PQ.blk (PQ.then (PQ.blk (PQ.then PQ.body))))) rfl (fun w => run_eql rfl rfl) ?_
      refine WD.pureOn (i := 7) pickLess_spec_t5 #[true, true, true, true, true, true, true, true, false, false, false, false, false, false, false, false, false, false] rfl rfl rfl (decide_eq_true g43) (by kernel_rfl) (PQ.then (PQ.blk (PQ.then (PQ.blk (PQ.then PQ.body))))) rfl (fun w => run_move rfl) ?_
      by_cases g47 : ((xs.length : Nat) : Int) = 0
      ·
       refine WD.off (i := 8) pickLess_spec_t5 #[true, true, true, true, true, true, true, true, true, false, false, false, false, false, false, false, false, false] rfl rfl rfl (decide_eq_true g47) (by kernel_rfl) (PQ.then (PQ.blk (PQ.then (PQ.blk (PQ.then PQ.body))))) rfl ?_
       refine WD.off (i := 9) pickLess_spec_t5 #[true, true, true, true, true, true, true, true, true, true, false, false, false, false, false, false, false, false] rfl rfl rfl (decide_eq_true g47) (by kernel_rfl) (PQ.then (PQ.blk (PQ.then (PQ.blk (PQ.then PQ.body))))) rfl ?_
       refine WD.off (i := 10) pickLess_spec_t5 #[true, true, true, true, true, true, true, true, true, true, true, false, false, false, false, false, false, false] rfl rfl rfl (decide_eq_true g47) (by kernel_rfl) (PQ.then (PQ.blk (PQ.then (PQ.blk (PQ.then PQ.body))))) rfl ?_
       refine WD.off (i := 11) pickLess_spec_t5 #[true, true, true, true, true, true, true, true, true, true, true, true, false, false, false, false, false, false] rfl rfl rfl (decide_eq_true g47) (by kernel_rfl) (PQ.then (PQ.blk (PQ.then (PQ.blk (PQ.then PQ.body))))) rfl ?_
       refine WD.off (i := 12) pickLess_spec_t5 #[true, true, true, true, true, true, true, true, true, true, true, true, true, false, false, false, false, false] rfl rfl rfl (decide_eq_true g47) (by kernel_rfl) (PQ.then (PQ.blk (PQ.then (PQ.blk (PQ.then PQ.body))))) rfl ?_
       refine WD.off (i := 13) pickLess_spec_t5 #[true, true, true, true, true, true, true, true, true, true, true, true, true, true, false, false, false, false] rfl rfl rfl (decide_eq_true g47) (by kernel_rfl) (PQ.then (PQ.blk (PQ.then (PQ.blk (PQ.then PQ.body))))) rfl ?_
       refine WD.off (i := 14) pickLess_spec_t5 #[true, true, true, true, true, true, true, true, true, true, true, true, true, true, true, false, false, false] rfl rfl rfl (decide_eq_true g47) (by kernel_rfl) (PQ.then (PQ.blk (PQ.then (PQ.blk (PQ.then PQ.body))))) rfl ?_
       refine WD.pureOn (i := 15) pickLess_spec_t5 #[true, true, true, true, true, true, true, true, true, true, true, true, true, true, true, true, false, false] rfl rfl rfl (decide_eq_true g43) (by kernel_rfl) (PQ.then (PQ.blk (PQ.then (PQ.blk (PQ.then PQ.body))))) rfl (fun w => run_pickT rfl (decide_eq_true g47) rfl) ?_
       refine WD.pure (i := 16) pickLess_spec_t5 #[true, true, true, true, true, true, true, true, true, true, true, true, true, true, true, true, true, false] rfl rfl rfl (by kernel_rfl) (PQ.then (PQ.blk (PQ.then (PQ.blk (PQ.then PQ.body))))) rfl (fun w => run_pickT rfl (decide_eq_true g43) rfl) ?_
       refine WD.pure (i := 17) pickLess_spec_t5 #[true, true, true, true, true, true, true, true, true, true, true, true, true, true, true, true, true, true] rfl rfl rfl (by kernel_rfl) (PQ.then (PQ.blk (PQ.then (PQ.blk (PQ.then PQ.body))))) rfl (fun w => run_assign rfl) ?_
       refine WD.done pickLess_spec_t5 (by kernel_rfl) ?_
       exact K11 true _ _ ⟨inB_t g43 g47, hS30⟩ (Sub.cons rfl (Sub.cons rfl (Sub.cons rfl (Sub.cons rfl (Sub.cons rfl (Sub.consE rfl (by first | rfl | first | rfl | (congr 1; omega) | (simp; done) | (simp; omega)) (Sub.nil _)))))))
      ·
       refine WD.pureOn (i := 8) pickLess_spec_t5 #[true, true, true, true, true, true, true, true, true, false, false, false, false, false, false, false, false, false] rfl rfl rfl (decide_eq_false g47) (by kernel_rfl) (PQ.then (PQ.blk (PQ.then (PQ.blk (PQ.then PQ.body))))) rfl (fun w => run_move rfl) ?_
       obtain ⟨y, hy⟩ : ∃ y, ys[0]? = some y := ⟨_, List.getElem?_eq_getElem (by omega)⟩
       refine WD.takeOn (i := 9) pickLess_spec_t5 #[true, true, true, true, true, true, true, true, true, true, false, false, false, false, false, false, false, false] s31 rfl rfl rfl (decide_eq_false g47) (by kernel_rfl) (PQ.then (PQ.blk (PQ.then (PQ.blk (PQ.then PQ.body))))) rfl (fun w hs => run_indexAddr (q := adr pb 0) Tryz.underlying22 Ty.sz3 rfl rfl (by omega) (by omega) ((hs.2.1).2.1 (by omega)) (by simp)) ?_
       refine WD.takeOn (i := 10) pickLess_spec_t5 #[true, true, true, true, true, true, true, true, true, true, true, false, false, false, false, false, false, false] s31 rfl rfl rfl (decide_eq_false g47) (by kernel_rfl) (PQ.then (PQ.blk (PQ.then (PQ.blk (PQ.then PQ.body))))) rfl (fun w hs => run_load Ty.ag3 rfl ((hs.2.1).cell (ri_get hy))) ?_
       refine WD.pureOn (i := 11) pickLess_spec_t5 #[true, true, true, true, true, true, true, true, true, true, true, true, false, false, false, false, false, false] rfl rfl rfl (decide_eq_false g47) (by kernel_rfl) (PQ.then (PQ.blk (PQ.then (PQ.blk (PQ.then PQ.body))))) rfl (fun w => run_move rfl) ?_
       obtain ⟨x, hx⟩ : ∃ x, xs[0]? = some x := ⟨_, List.getElem?_eq_getElem (by omega)⟩
       refine WD.takeOn (i := 12) pickLess_spec_t5 #[true, true, true, true, true, true, true, true, true, true, true, true, true, false, false, false, false, false] s31 rfl rfl rfl (decide_eq_false g47) (by kernel_rfl) (PQ.then (PQ.blk (PQ.then (PQ.blk (PQ.then PQ.body))))) rfl (fun w hs => run_indexAddr (q := adr pa 0) Tryz.underlying22 Ty.sz3 rfl rfl (by omega) (by omega) ((hs.1).2.1 (by omega)) (by simp)) ?_
       refine WD.takeOn (i := 13) pickLess_spec_t5 #[true, true, true, true, true, true, true, true, true, true, true, true, true, true, false, false, false, false] s31 rfl rfl rfl (decide_eq_false g47) (by kernel_rfl) (PQ.then (PQ.blk (PQ.then (PQ.blk (PQ.then PQ.body))))) rfl (fun w hs => run_load Ty.ag3 rfl ((hs.1).cell (ri_get hx))) ?_
       refine WD.pureOn (i := 14) pickLess_spec_t5 #[true, true, true, true, true, true, true, true, true, true, true, true, true, true, true, false, false, false] rfl rfl rfl (decide_eq_false g47) (by kernel_rfl) (PQ.then (PQ.blk (PQ.then (PQ.blk (PQ.then PQ.body))))) rfl (fun w => run_leq rfl rfl) ?_
       refine WD.pureOn (i := 15) pickLess_spec_t5 #[true, true, true, true, true, true, true, true, true, true, true, true, true, true, true, true, false, false] rfl rfl rfl (decide_eq_true g43) (by kernel_rfl) (PQ.then (PQ.blk (PQ.then (PQ.blk (PQ.then PQ.body))))) rfl (fun w => run_pickF rfl (decide_eq_false g47) rfl) ?_
       refine WD.pure (i := 16) pickLess_spec_t5 #[true, true, true, true, true, true, true, true, true, true, true, true, true, true, true, true, true, false] rfl rfl rfl (by kernel_rfl) (PQ.then (PQ.blk (PQ.then (PQ.blk (PQ.then PQ.body))))) rfl (fun w => run_pickT rfl (decide_eq_true g43) rfl) ?_
       refine WD.pure (i := 17) pickLess_spec_t5 #[true, true, true, true, true, true, true, true, true, true, true, true, true, true, true, true, true, true] rfl rfl rfl (by kernel_rfl) (PQ.then (PQ.blk (PQ.then (PQ.blk (PQ.then PQ.body))))) rfl (fun w => run_assign rfl) ?_
       refine WD.done pickLess_spec_t5 (by kernel_rfl) ?_
       exact K11 (decide (y ≤ x)) _ _ ⟨inB_d hy hx, hS30⟩ (Sub.cons rfl (Sub.cons rfl (Sub.cons rfl (Sub.cons rfl (Sub.cons rfl (Sub.consE rfl (by first | rfl | first | rfl | (congr 1; omega) | (simp; done) | (simp; omega)) (Sub.nil _)))))))
     ·
      refine WD.off (i := 4) pickLess_spec_t5 #[true, true, true, true, true, false, false, false, false, false, false, false, false, false, false, false, false, false] rfl rfl rfl (decide_eq_false g43) (by kernel_rfl) (PQ.then (PQ.blk (PQ.then (PQ.blk (PQ.then PQ.body))))) rfl ?_
      refine WD.off (i := 5) pickLess_spec_t5 #[true, true, true, true, true, true, false, false, false, false, false, false, false, false, false, false, false, false] rfl rfl rfl (decide_eq_false g43) (by kernel_rfl) (PQ.then (PQ.blk (PQ.then (PQ.blk (PQ.then PQ.body))))) rfl ?_
      refine WD.off (i := 6) pickLess_spec_t5 #[true, true, true, true, true, true, true, false, false, false, false, false, false, false, false, false, false, false] rfl rfl rfl (decide_eq_false g43) (by kernel_rfl) (PQ.then (PQ.blk (PQ.then (PQ.blk (PQ.then PQ.body))))) rfl ?_
      refine WD.off (i := 7) pickLess_spec_t5 #[true, true, true, true, true, true, true, true, false, false, false, false, false, false, false, false, false, false] rfl rfl rfl (decide_eq_false g43) (by kernel_rfl) (PQ.then (PQ.blk (PQ.then (PQ.blk (PQ.then PQ.body))))) rfl ?_
      refine WD.offU (i := 8) pickLess_spec_t5 #[true, true, true, true, true, true, true, true, true, false, false, false, false, false, false, false, false, false] rfl rfl rfl (by kernel_rfl) (PQ.then (PQ.blk (PQ.then (PQ.blk (PQ.then PQ.body))))) rfl ?_
      refine WD.offU (i := 9) pickLess_spec_t5 #[true, true, true, true, true, true, true, true, true, true, false, false, false, false, false, false, false, false] rfl rfl rfl (by kernel_rfl) (PQ.then (PQ.blk (PQ.then (PQ.blk (PQ.then PQ.body))))) rfl ?_
      refine WD.offU (i := 10) pickLess_spec_t5 #[true, true, true, true, true, true, true, true, true, true, true, false, false, false, false, false, false, false] rfl rfl rfl (by kernel_rfl) (PQ.then (PQ.blk (PQ.then (PQ.blk (PQ.then PQ.body))))) rfl ?_
      refine WD.offU (i := 11) pickLess_spec_t5 #[true, true, true, true, true, true, true, true, true, true, true, true, false, false, false, false, false, false] rfl rfl rfl (by kernel_rfl) (PQ.then (PQ.blk (PQ.then (PQ.blk (PQ.then PQ.body))))) rfl ?_
      refine WD.offU (i := 12) pickLess_spec_t5 #[true, true, true, true, true, true, true, true, true, true, true, true, true, false, false, false, false, false] rfl rfl rfl (by kernel_rfl) (PQ.then (PQ.blk (PQ.then (PQ.blk (PQ.then PQ.body))))) rfl ?_
      refine WD.offU (i := 13) pickLess_spec_t5 #[true, true, true, true, true, true, true, true, true, true, true, true, true, true, false, false, false, false] rfl rfl rfl (by kernel_rfl) (PQ.then (PQ.blk (PQ.then (PQ.blk (PQ.then PQ.body))))) rfl ?_
      refine WD.offU (i := 14) pickLess_spec_t5 #[true, true, true, true, true, true, true, true, true, true, true, true, true, true, true, false, false, false] rfl rfl rfl (by kernel_rfl) (PQ.then (PQ.blk (PQ.then (PQ.blk (PQ.then PQ.body))))) rfl ?_
      refine WD.off (i := 15) pickLess_spec_t5 #[true, true, true, true, true, true, true, true, true, true, true, true, true, true, true, true, false, false] rfl rfl rfl (decide_eq_false g43) (by kernel_rfl) (PQ.then (PQ.blk (PQ.then (PQ.blk (PQ.then PQ.body))))) rfl ?_
      refine WD.pure (i := 16) pickLess_spec_t5 #[true, true, true, true, true, true, true, true, true, true, true, true, true, true, true, true, true, false] rfl rfl rfl (by kernel_rfl) (PQ.then (PQ.blk (PQ.then (PQ.blk (PQ.then PQ.body))))) rfl (fun w => run_pickF rfl (decide_eq_false g43) rfl) ?_
      refine WD.pure (i := 17) pickLess_spec_t5 #[true, true, true, true, true, true, true, true, true, true, true, true, true, true, true, true, true, true] rfl rfl rfl (by kernel_rfl) (PQ.then (PQ.blk (PQ.then (PQ.blk (PQ.then PQ.body))))) rfl (fun w => run_assign rfl) ?_
      refine WD.done pickLess_spec_t5 (by kernel_rfl) ?_
      exact K11 false _ _ ⟨inB_f g43, hS30⟩ (Sub.cons rfl (Sub.cons rfl (Sub.cons rfl (Sub.cons rfl (Sub.cons rfl (Sub.consE rfl (by first | rfl | first | rfl | (congr 1; omega) | (simp; done) | (simp; omega)) (Sub.nil _)))))))
   ·
    refine WD.start (fun w => Rd w pa xs.length 1 (ri xs) ∧ Rd w pb ys.length 1 (ri ys) ∧ Rd w ao o.length 1 (ri o) ∧ Rd w a l.length 1 (ri l) ∧ Rd w b m.length 1 (ri m)) [] #[false, false, false, false, false, false, false, false, false, false, false, false, false, false, false, false, false, false] Ty.mo rfl (by kernel_rfl) hS8 (fun _ h => ⟨(h.ro_rd_i 0 rfl), (h.ro_rd_i 1 rfl), (h.own_rd_i 2 rfl), (hX (h.focus 3 rfl)), (hY (h.focus 4 rfl))⟩) (fun w32 hS32 s33 => ?_)
    clear hS8
    refine WD.pure (i := 0) pickLess_spec_t4 #[true, false, false, false, false, false, false, false, false, false, false, false, false, false, false, false, false, false] rfl rfl rfl (by kernel_rfl) (PQ.then (PQ.blk (PQ.then (PQ.blk (PQ.then PQ.body))))) rfl (fun w => run_move rfl) ?_
    refine WD.pure (i := 1) pickLess_spec_t4 #[true, true, false, false, false, false, false, false, false, false, false, false, false, false, false, false, false, false] rfl rfl rfl (by kernel_rfl) (PQ.then (PQ.blk (PQ.then (PQ.blk (PQ.then PQ.body))))) rfl (fun w => run_len rfl Tryz.underlying22 rfl) ?_
    refine WD.pure (i := 2) pickLess_spec_t4 #[true, true, true, false, false, false, false, false, false, false, false, false, false, false, false, false, false, false] rfl rfl rfl (by kernel_rfl) (PQ.then (PQ.blk (PQ.then (PQ.blk (PQ.then PQ.body))))) rfl (fun w => run_gtr rfl rfl) ?_
    refine WD.pure (i := 3) pickLess_spec_t4 #[true, true, true, true, false, false, false, false, false, false, false, false, false, false, false, false, false, false] rfl rfl rfl (by kernel_rfl) (PQ.then (PQ.blk (PQ.then (PQ.blk (PQ.then PQ.body))))) rfl (fun w => run_move rfl) ?_
    by_cases g26 : 0 < ((xs.length : Nat) : Int)
    ·
     refine WD.pureOn (i := 4) pickLess_spec_t4 #[true, true, true, true, true, false, false, false, false, false, false, false, false, false, false, false, false, false] rfl rfl rfl (decide_eq_true g26) (by kernel_rfl) (PQ.then (PQ.blk (PQ.then (PQ.blk (PQ.then PQ.body))))) rfl (fun w => run_move rfl) ?_
     refine WD.pureOn (i := 5) pickLess_spec_t4 #[true, true, true, true, true, true, false, false, false, false, false, false, false, false, false, false, false, false] rfl rfl rfl (decide_eq_true g26) (by kernel_rfl) (PQ.then (PQ.blk (PQ.then (PQ.blk (PQ.then PQ.body))))) rfl (fun w => run_len rfl Tryz.underlying22 rfl) ?_
     refine WD.pureOn (i := 6) pickLess_spec_t4 #[true, true, true, true, true, true, true, false, false, false, false, false, false, false, false, false, false, false] rfl rfl rfl (decide_eq_true g26) (by kernel_rfl) (PQ.then (PQ.blk (PQ.then (PQ.blk (PQ.then PQ.body))))) rfl (fun w => run_eql rfl rfl) ?_
     refine WD.pureOn (i := 7) pickLess_spec_t4 #[true, true, true, true, true, true, true, true, false, false, false, false, false, false, false, false, false, false] rfl rfl rfl (decide_eq_true g26) (by kernel_rfl) (PQ.then (PQ.blk (PQ.then (PQ.blk (PQ.then PQ.body))))) rfl (fun w => run_move rfl) ?_
     by_cases g30 : ((ys.length : Nat) : Int) = 0
     ·
      refine WD.off (i := 8) pickLess_spec_t4 #[true, true, true, true, true, true, true, true, true, false, false, false, false, false, false, false, false, false] rfl rfl rfl (decide_eq_true g30) (by kernel_rfl) (PQ.then (PQ.blk (PQ.then (PQ.blk (PQ.then PQ.body))))) rfl ?_
      refine WD.off (i := 9) pickLess_spec_t4 #[true, true, true, true, true, true, true, true, true, true, false, false, false, false, false, false, false, false] rfl rfl rfl (decide_eq_true g30) (by kernel_rfl) (PQ.then (PQ.blk (PQ.then (PQ.blk (PQ.then PQ.body))))) rfl ?_
      refine WD.off (i := 10) pickLess_spec_t4 #[true, true, true, true, true, true, true, true, true, true, true, false, false, false, false, false, false, false] rfl rfl rfl (decide_eq_true g30) (by kernel_rfl) (PQ.then (PQ.blk (PQ.then (PQ.blk (PQ.then PQ.body))))) rfl ?_
      refine WD.off (i := 11) pickLess_spec_t4 #[true, true, true, true, true, true, true, true, true, true, true, true, false, false, false, false, false, false] rfl rfl rfl (decide_eq_true g30) (by kernel_rfl) (PQ.then (PQ.blk (PQ.then (PQ.blk (PQ.then PQ.body))))) rfl ?_
      refine WD.off (i := 12) pickLess_spec_t4 #[true, true, true, true, true, true, true, true, true, true, true, true, true, false, false, false, false, false] rfl rfl rfl (decide_eq_true g30) (by kernel_rfl) (PQ.then (PQ.blk (PQ.then (PQ.blk (PQ.then PQ.body))))) rfl ?_
      refine WD.off (i := 13) pickLess_spec_t4 #[true, true, true, true, true, true, true, true, true, true, true, true, true, true, false, false, false, false] rfl rfl rfl (decide_eq_true g30) (by kernel_rfl) (PQ.then (PQ.blk (PQ.then (PQ.blk (PQ.then PQ.body))))) rfl ?_
      refine WD.off (i := 14) pickLess_spec_t4 #[true, true, true, true, true, true, true, true, true, true, true, true, true, true, true, false, false, false] rfl rfl rfl (decide_eq_true g30) (by kernel_rfl) (PQ.then (PQ.blk (PQ.then (PQ.blk (PQ.then PQ.body))))) rfl ?_
      refine WD.pureOn (i := 15) pickLess_spec_t4 #[true, true, true, true, true, true, true, true, true, true, true, true, true, true, true, true, false, false] rfl rfl rfl (decide_eq_true g26) (by kernel_rfl) (PQ.then (PQ.blk (PQ.then (PQ.blk (PQ.then PQ.body))))) rfl (fun w => run_pickT rfl (decide_eq_true g30) rfl) ?_
      refine WD.pure (i := 16) pickLess_spec_t4 #[true, true, true, true, true, true, true, true, true, true, true, true, true, true, true, true, true, false] rfl rfl rfl (by kernel_rfl) (PQ.then (PQ.blk (PQ.then (PQ.blk (PQ.then PQ.body))))) rfl (fun w => run_pickT rfl (decide_eq_true g26) rfl) ?_
      refine WD.pure (i := 17) pickLess_spec_t4 #[true, true, true, true, true, true, true, true, true, true, true, true, true, true, true, true, true, true] rfl rfl rfl (by kernel_rfl) (PQ.then (PQ.blk (PQ.then (PQ.blk (PQ.then PQ.body))))) rfl (fun w => run_assign rfl) ?_
      refine WD.done pickLess_spec_t4 (by kernel_rfl) ?_
      exact K9 true _ _ ⟨inB_t g26 g30, hS32⟩ (Sub.cons rfl (Sub.cons rfl (Sub.cons rfl (Sub.cons rfl (Sub.consE rfl (by first | rfl | first | rfl | (congr 1; omega) | (simp; done) | (simp; omega)) (Sub.nil _))))))
     ·
      refine WD.pureOn (i := 8) pickLess_spec_t4 #[true, true, true, true, true, true, true, true, true, false, false, false, false, false, false, false, false, false] rfl rfl rfl (decide_eq_false g30) (by kernel_rfl) (PQ.then (PQ.blk (PQ.then (PQ.blk (PQ.then PQ.body))))) rfl (fun w => run_move rfl) ?_
      obtain ⟨x, hx⟩ : ∃ x, xs[0]? = some x := ⟨_, List.getElem?_eq_getElem (by omega)⟩
      refine WD.takeOn (i := 9) pickLess_spec_t4 #[true, true, true, true, true, true, true, true, true, true, false, false, false, false, false, false, false, false] s33 rfl rfl rfl (decide_eq_false g30) (by kernel_rfl) (PQ.then (PQ.blk (PQ.then (PQ.blk (PQ.then PQ.body))))) rfl (fun w hs => run_indexAddr (q := adr pa 0) Tryz.underlying22 Ty.sz3 rfl rfl (by omega) (by omega) ((hs.1).2.1 (by omega)) (by simp)) ?_
      refine WD.takeOn (i := 10) pickLess_spec_t4 #[true, true, true, true, true, true, true, true, true, true, true, false, false, false, false, false, false, false] s33 rfl rfl rfl (decide_eq_false g30) (by kernel_rfl) (PQ.then (PQ.blk (PQ.then (PQ.blk (PQ.then PQ.body))))) rfl (fun w hs => run_load Ty.ag3 rfl ((hs.1).cell (ri_get hx))) ?_
      refine WD.pureOn (i := 11) pickLess_spec_t4 #[true, true, true, true, true, true, true, true, true, true, true, true, false, false, false, false, false, false] rfl rfl rfl (decide_eq_false g30) (by kernel_rfl) (PQ.then (PQ.blk (PQ.then (PQ.blk (PQ.then PQ.body))))) rfl (fun w => run_move rfl) ?_
      obtain ⟨y, hy⟩ : ∃ y, ys[0]? = some y := ⟨_, List.getElem?_eq_getElem (by omega)⟩
      refine WD.takeOn (i := 12) pickLess_spec_t4 #[true, true, true, true, true, true, true, true, true, true, true, true, true, false, false, false, false, false] s33 rfl rfl rfl (decide_eq_false g30) (by kernel_rfl) (PQ.then (PQ.blk (PQ.then (PQ.blk (PQ.then PQ.body))))) rfl (fun w hs => run_indexAddr (q := adr pb 0) Tryz.underlying22 Ty.sz3 rfl rfl (by omega) (by omega) ((hs.2.1).2.1 (by omega)) (by simp)) ?_
      refine WD.takeOn (i := 13) pickLess_spec_t4 #[true, true, true, true, true, true, true, true, true, true, true, true, true, true, false, false, false, false] s33 rfl rfl rfl (decide_eq_false g30) (by kernel_rfl) (PQ.then (PQ.blk (PQ.then (PQ.blk (PQ.then PQ.body))))) rfl (fun w hs => run_load Ty.ag3 rfl ((hs.2.1).cell (ri_get hy))) ?_
      refine WD.pureOn (i := 14) pickLess_spec_t4 #[true, true, true, true, true, true, true, true, true, true, true, true, true, true, true, false, false, false] rfl rfl rfl (decide_eq_false g30) (by kernel_rfl) (PQ.then (PQ.blk (PQ.then (PQ.blk (PQ.then PQ.body))))) rfl (fun w => run_leq rfl rfl) ?_
      refine WD.pureOn (i := 15) pickLess_spec_t4 #[true, true, true, true, true, true, true, true, true, true, true, true, true, true, true, true, false, false] rfl rfl rfl (decide_eq_true g26) (by kernel_rfl) (PQ.then (PQ.blk (PQ.then (PQ.blk (PQ.then PQ.body))))) rfl (fun w => run_pickF rfl (decide_eq_false g30) rfl) ?_
      refine WD.pure (i := 16) pickLess_spec_t4 #[true, true, true, true, true, true, true, true, true, true, true, true, true, true, true, true, true, false] rfl rfl rfl (by kernel_rfl) (PQ.then (PQ.blk (PQ.then (PQ.blk (PQ.then PQ.body))))) rfl (fun w => run_pickT rfl (decide_eq_true g26) rfl) ?_
      refine WD.pure (i := 17) pickLess_spec_t4 #[true, true, true, true, true, true, true, true, true, true, true, true, true, true, true, true, true, true] rfl rfl rfl (by kernel_rfl) (PQ.then (PQ.blk (PQ.then (PQ.blk (PQ.then PQ.body))))) rfl (fun w => run_assign rfl) ?_
      refine WD.done pickLess_spec_t4 (by kernel_rfl) ?_
      exact K9 (decide (x ≤ y)) _ _ ⟨inB_d hx hy, hS32⟩ (Sub.cons rfl (Sub.cons rfl (Sub.cons rfl (Sub.cons rfl (Sub.consE rfl (by first | rfl | first | rfl | (congr 1; omega) | (simp; done) | (simp; omega)) (Sub.nil _))))))
    ·
     refine WD.off (i := 4) pickLess_spec_t4 #[true, true, true, true, true, false, false, false, false, false, false, false, false, false, false, false, false, false] rfl rfl rfl (decide_eq_false g26) (by kernel_rfl) (PQ.then (PQ.blk (PQ.then (PQ.blk (PQ.then PQ.body))))) rfl ?_
     refine WD.off (i := 5) pickLess_spec_t4 #[true, true, true, true, true, true, false, false, false, false, false, false, false, false, false, false, false, false] rfl rfl rfl (decide_eq_false g26) (by kernel_rfl) (PQ.then (PQ.blk (PQ.then (PQ.blk (PQ.then PQ.body))))) rfl ?_
     refine WD.off (i := 6) pickLess_spec_t4 #[true, true, true, true, true, true, true, false, false, false, false, false, false, false, false, false, false, false] rfl rfl rfl (decide_eq_false g26) (by kernel_rfl) (PQ.then (PQ.blk (PQ.then (PQ.blk (PQ.then PQ.body))))) rfl ?_
     refine WD.off (i := 7) pickLess_spec_t4 #[true, true, true, true, true, true, true, true, false, false, false, false, false, false, false, false, false, false] rfl rfl rfl (decide_eq_false g26) (by kernel_rfl) (PQ.then (PQ.blk (PQ.then (PQ.blk (PQ.then PQ.body))))) rfl ?_
     refine WD.offU (i := 8) pickLess_spec_t4 #[true, true, true, true, true, true, true, true, true, false, false, false, false, false, false, false, false, false] rfl rfl rfl (by kernel_rfl) (PQ.then (PQ.blk (PQ.then (PQ.blk (PQ.then PQ.body))))) rfl ?_
     refine WD.offU (i := 9) pickLess_spec_t4 #[true, true, true, true, true, true, true, true, true, true, false, false, false, false, false, false, false, false] rfl rfl rfl (by kernel_rfl) (PQ.then (PQ.blk (PQ.then (PQ.blk (PQ.then PQ.body))))) rfl ?_
     refine WD.offU (i := 10) pickLess_spec_t4 #[true, true, true, true, true, true, true, true, true, true, true, false, false, false, false, false, false, false] rfl rfl rfl (by kernel_rfl) (PQ.then (PQ.blk (PQ.then (PQ.blk (PQ.then PQ.body))))) rfl ?_
     refine WD.offU (i := 11) pickLess_spec_t4 #[true, true, true, true, true, true, true, true, true, true, true, true, false, false, false, false, false, false] rfl rfl rfl (by kernel_rfl) (PQ.then (PQ.blk (PQ.then (PQ.blk (PQ.then PQ.body))))) rfl ?_
     refine WD.offU (i := 12) pickLess_spec_t4 #[true, true, true, true, true, true, true, true, true, true, true, true, true, false, false, false, false, false] rfl rfl rfl (by kernel_rfl) (PQ.then (PQ.blk (PQ.then (PQ.blk (PQ.then PQ.body))))) rfl ?_
     refine WD.offU (i := 13) pickLess_spec_t4 #[true, true, true, true, true, true, true, true, true, true, true, true, true, true, false, false, false, false] rfl rfl rfl (by kernel_rfl) (PQ.then (PQ.blk (PQ.then (PQ.blk (PQ.then PQ.body))))) rfl ?_
     refine WD.offU (i := 14) pickLess_spec_t4 #[true, true, true, true, true, true, true, true, true, true, true, true, true, true, true, false, false, false] rfl rfl rfl (by kernel_rfl) (PQ.then (PQ.blk (PQ.then (PQ.blk (PQ.then PQ.body))))) rfl ?_
     refine WD.off (i := 15) pickLess_spec_t4 #[true, true, true, true, true, true, true, true, true, true, true, true, true, true, true, true, false, false] rfl rfl rfl (decide_eq_false g26) (by kernel_rfl) (PQ.then (PQ.blk (PQ.then (PQ.blk (PQ.then PQ.body))))) rfl ?_
     refine WD.pure (i := 16) pickLess_spec_t4 #[true, true, true, true, true, true, true, true, true, true, true, true, true, true, true, true, true, false] rfl rfl rfl (by kernel_rfl) (PQ.then (PQ.blk (PQ.then (PQ.blk (PQ.then PQ.body))))) rfl (fun w => run_pickF rfl (decide_eq_false g26) rfl) ?_
     refine WD.pure (i := 17) pickLess_spec_t4 #[true, true, true, true, true, true, true, true, true, true, true, true, true, true, true, true, true, true] rfl rfl rfl (by kernel_rfl) (PQ.then (PQ.blk (PQ.then (PQ.blk (PQ.then PQ.body))))) rfl (fun w => run_assign rfl) ?_
     refine WD.done pickLess_spec_t4 (by kernel_rfl) ?_
     exact K9 false _ _ ⟨inB_f g26, hS32⟩ (Sub.cons rfl (Sub.cons rfl (Sub.cons rfl (Sub.cons rfl (Sub.consE rfl (by first | rfl | first | rfl | (congr 1; omega) | (simp; done) | (simp; omega)) (Sub.nil _))))))
  ·
   have hnc : ¬ (0 < xs.length ∨ 0 < ys.length) := fun h => by rw [hcc.2 h] at g22; cases g22
   refine WP.exit ?_
   refine NX.thenExit ?_
   refine NX.thenExit ?_
   refine NX.blkExit ?_
   refine NX.go ?_
   refine WP.seq ?_
   refine WP.region rfl ?_
   refine WO.val (run_move rfl) rfl rfl rfl ?_
   refine WO.val (run_assign rfl) rfl rfl rfl ?_
   refine WO.nil ?_
   refine NX.go ?_
   refine WP.ret ?_
   refine NX.done (l := [.tmp 6]) rfl rfl ?_
   have hRR := pk_end hnc hR
   exact ⟨ao, co, congrArg (fun z => Value.slice ao z co) (by rw [hRR]), own_len (hS8.drop.drop) (by rw [hRR]) (by rw [hRR])⟩
 ·
  refine WP.region rfl ?_
  refine WO.val (run_move rfl) rfl rfl rfl ?_
  refine WO.val (run_len rfl Tryz.underlying22 rfl) rfl rfl rfl ?_
  refine WO.val (run_gtr rfl rfl) rfl rfl rfl ?_
  refine WO.val (run_move rfl) rfl rfl rfl ?_
  by_cases g18 : 0 < ((xs.length : Nat) : Int)
  ·
   refine WO.off rfl rfl (decide_eq_true g18) rfl ?_
   refine WO.off rfl rfl (decide_eq_true g18) rfl ?_
   refine WO.off rfl rfl (decide_eq_true g18) rfl ?_
   refine WO.val (run_pickT rfl (decide_eq_true g18) rfl) rfl rfl rfl ?_
   refine WO.nil ?_
   exact K7 true _ _ ⟨pk_c1 g18, hS6⟩ (Sub.cons rfl (Sub.cons rfl (Sub.cons rfl (Sub.cons rfl (Sub.consE rfl (by first | rfl | first | rfl | (congr 1; omega) | (simp; done) | (simp; omega)) (Sub.nil _))))))
  ·
   refine WO.on rfl rfl (decide_eq_false g18) ?_
   refine WO.val (run_move rfl) rfl rfl rfl ?_
   refine WO.on rfl rfl (decide_eq_false g18) ?_
   refine WO.val (run_len rfl Tryz.underlying22 rfl) rfl rfl rfl ?_
   refine WO.on rfl rfl (decide_eq_false g18) ?_
   refine WO.val (run_gtr rfl rfl) rfl rfl rfl ?_
   refine WO.val (run_pickF rfl (decide_eq_false g18) rfl) rfl rfl rfl ?_
   refine WO.nil ?_
   exact K7 (decide (0 < ((ys.length : Nat) : Int))) _ _ ⟨pk_c2 g18, hS6⟩ (Sub.cons rfl (Sub.cons rfl (Sub.cons rfl (Sub.cons rfl (Sub.consE rfl (by first | rfl | first | rfl | (congr 1; omega) | (simp; done) | (simp; omega)) (Sub.nil _))))))
theorem pLess_spec {B w : World} {L : List HP} {X Y : HP} {a b : Option Addr} {cap cap2 : Nat} {l m : List Int} (hX : ∀ {L : List HP} {w : World}, St B (X :: L) w → Rd w a l.length 1 (ri l)) (hY : ∀ {L : List HP} {w : World}, St B (Y :: L) w → Rd w b m.length 1 (ri m)) (hb : l.length ≤ 400000) (hb2 : m.length ≤ 400000) (hS : St B (X :: Y :: L) w) : Does Tryz.prog 9 [Value.slice a l.length cap, Value.slice b m.length cap2] w (fun v w1 => ∃ a1 c1, v = .slice a1 (pickF fLess l m).length c1 ∧ St B (own a1 (pickF fLess l m).length c1 3 1 (ri (pickF fLess l m)) :: X :: Y :: L) w1) := by
 refine enter (n := 8) Tryz.func9 rfl rfl [Value.slice a l.length cap, Value.slice b m.length cap2] rfl ?_
 refine WP.seq ?_
 refine WP.region rfl ?_
 refine WO.val (run_assign rfl) rfl rfl rfl ?_
 refine WO.nil ?_
 refine NX.go ?_
 refine WP.seq ?_
 refine WP.region rfl ?_
 refine WO.val (run_move rfl) rfl rfl rfl ?_
 refine WO.val (run_move rfl) rfl rfl rfl ?_
 refine WO.call rfl rfl Ty.hd15 rfl (pickLess_spec hX hY hb hb2 hS) (fun v2 w1 pv2 => ?_)
 obtain ⟨a1, c1, rfl, hS1⟩ := pv2
 clear hS
 refine WO.val (run_assign rfl) rfl rfl rfl ?_
 refine WO.nil ?_
 refine NX.go ?_
 refine WP.ret ?_
 refine NX.done (l := [.tmp 4]) rfl rfl ?_
 exact ⟨a1, c1, rfl, hS1⟩
end Go.Proofs.YtogidmceomlkeaaGreatDoor.SL
