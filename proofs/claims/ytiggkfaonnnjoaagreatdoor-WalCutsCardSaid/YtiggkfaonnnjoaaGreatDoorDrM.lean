import Derived.Test.YtiggkfaonnnjoaaGreatDoorDk
import Derived.Test.YtiggkfaonnnjoaaGreatDoorSh
/- A disk in memory. -/
namespace Go.Proofs.YtiggkfaonnnjoaaGreatDoor.SL
open Go.RowKit Go.Proofs.YtiggkfaonnnjoaaGreatDoor
open Go.Proofs.YtiggkfaonnnjoaaGreatDoorW.PrintLast (rtab opsOf)
set_option linter.unusedVariables false
set_option linter.unusedSimpArgs false

def chgA (gs : List Nat) (c : Chg) (v : Value) : HP :=
  if c.tn = [] then .ex fun k : Nat => .sep (.pure (v = .func (.func 48) #[] #[ptrV k])) (scel k [str c.fr] 9)
  else if c.fr = [] then .ex fun k : Nat × Nat => .sep (.pure (v = .func (.func 46) #[] #[ptrV k.1, ptrV k.2])) (.sep (scel k.1 [ptrV (gs.getD c.fi 0)] 74) (scel k.2 [str c.tn] 9))
  else .ex fun k : Nat × Nat × Nat => .sep (.pure (v = .func (.func 61) #[] #[ptrV k.1, ptrV k.2.1, ptrV k.2.2])) (.sep (scel k.1 [str c.fr] 9) (.sep (scel k.2.1 [ptrV (gs.getD c.fi 0)] 74) (scel k.2.2 [str c.tn] 9)))
theorem chgA_pers (gs : List Nat) (c : Chg) (v : Value) : (chgA gs c v).Pers := by
  unfold chgA
  split
  · exact HP.pers_ex fun k => HP.pers_sep (HP.pers_pure _) (scel_pers _ _ _)
  · split
    · exact HP.pers_ex fun k => HP.pers_sep (HP.pers_pure _) (HP.pers_sep (scel_pers _ _ _) (scel_pers _ _ _))
    · exact HP.pers_ex fun k => HP.pers_sep (HP.pers_pure _) (HP.pers_sep (scel_pers _ _ _) (HP.pers_sep (scel_pers _ _ _) (scel_pers _ _ _)))
def chsA (gs : List Nat) : List Chg → List Value → HP
  | [], [] => .pure True
  | c :: cs, v :: vs => .sep (chgA gs c v) (chsA gs cs vs)
  | _, _ => .pure False
theorem chsA_pers (gs : List Nat) : ∀ (cs : List Chg) (vs : List Value), (chsA gs cs vs).Pers
  | [], [] => HP.pers_pure _
  | c :: cs, v :: vs => HP.pers_sep (chgA_pers gs c v) (chsA_pers gs cs vs)
  | [], _ :: _ => HP.pers_pure _
  | _ :: _, [] => HP.pers_pure _
theorem chsA_len {gs : List Nat} {B w : World} : ∀ {cs : List Chg} {vs : List Value} {L : List HP}, St B (chsA gs cs vs :: L) w → cs.length = vs.length
  | [], [], _, _ => rfl
  | c :: cs, v :: vs, L, h => by rw [List.length_cons, List.length_cons, chsA_len (cs := cs) (vs := vs) h.sep.drop]
  | [], _ :: _, _, h => h.pure.1.elim
  | _ :: _, [], _, h => h.pure.1.elim
theorem chsA_snoc {gs : List Nat} {B w : World} {c : Chg} {v : Value} : ∀ {cs : List Chg} {vs : List Value} {L : List HP}, St B (chsA gs cs vs :: chgA gs c v :: L) w → St B (chsA gs (cs ++ [c]) (vs ++ [v]) :: L) w
  | [], [], L, h => (h.permT [1, 0] (L' := chgA gs c v :: chsA gs [] [] :: L) rfl).join
  | d :: cs, u :: vs, L, h => by
    have h1 := h.sep.permT [1, 1, 0] (L' := chsA gs cs vs :: chgA gs c v :: chgA gs d u :: L) rfl
    have h2 := chsA_snoc (cs := cs) (vs := vs) h1
    exact (h2.permT [1, 0] (L' := chgA gs d u :: chsA gs (cs ++ [c]) (vs ++ [v]) :: L) rfl).join
  | [], _ :: _, _, h => h.pure.1.elim
  | _ :: _, [], _, h => h.pure.1.elim
theorem chsA_at {gs : List Nat} {B w : World} : ∀ {cs : List Chg} {vs : List Value} {i : Nat} {c : Chg} {L : List HP}, cs[i]? = some c → St B (chsA gs cs vs :: L) w → ∃ v, vs[i]? = some v ∧ St B (chgA gs c v :: chsA gs cs vs :: L) w
  | [], _, i, c, L, hi, _ => by simp at hi
  | d :: cs, [], i, c, L, _, h => h.pure.1.elim
  | d :: cs, v :: vs, 0, c, L, hi, h => by
    simp at hi; subst hi
    have h1 := (St.dup (chgA_pers gs d v) h.sep).permT [0, 0, 0] (L' := chgA gs d v :: chgA gs d v :: chsA gs cs vs :: L) rfl
    exact ⟨v, rfl, (h1.permT [1, 1, 0] (L' := chgA gs d v :: chsA gs cs vs :: chgA gs d v :: L) rfl).join.permT [1, 0] (L' := chgA gs d v :: chsA gs (d :: cs) (v :: vs) :: L) rfl⟩
  | d :: cs, v :: vs, i + 1, c, L, hi, h => by
    obtain ⟨u, hu, h1⟩ := chsA_at (cs := cs) (vs := vs) (i := i) (by simpa using hi) (h.sep.permT [1, 0] (L' := chsA gs cs vs :: chgA gs d v :: L) rfl)
    exact ⟨u, by simpa using hu, (h1.permT [2, 1, 0] (L' := chgA gs d v :: chsA gs cs vs :: chgA gs c u :: L) rfl).join.permT [1, 0] (L' := chgA gs c u :: chsA gs (d :: cs) (v :: vs) :: L) rfl⟩
theorem getD_grow {gs : List Nat} {g i : Nat} (h : i < gs.length) : (gs ++ [g]).getD i 0 = gs.getD i 0 := by
  rw [List.getD_eq_getElem?_getD, List.getD_eq_getElem?_getD, List.getElem?_append_left h]
theorem chsA_grow {gs : List Nat} {g : Nat} : ∀ {cs : List Chg} {vs : List Value}, (∀ c ∈ cs, OkC gs.length c) → chsA (gs ++ [g]) cs vs = chsA gs cs vs
  | [], [], _ => rfl
  | c :: cs, v :: vs, h => by
    have e1 : chgA (gs ++ [g]) c v = chgA gs c v := by
      unfold chgA
      rcases h c (List.mem_cons_self ..) with hc | ⟨_, hi, _⟩
      · rw [if_pos hc.1, if_pos hc.1]
      · rw [getD_grow hi]
    show HP.sep (chgA (gs ++ [g]) c v) (chsA (gs ++ [g]) cs vs) = .sep (chgA gs c v) (chsA gs cs vs)
    rw [e1, chsA_grow (cs := cs) (vs := vs) fun d hd => h d (List.mem_cons_of_mem _ hd)]
  | [], _ :: _, _ => rfl
  | _ :: _, [], _ => rfl
def fileA (g : Nat) (x : List UInt8 × Nat) : HP := cel g [str x.1, .int .i64 (x.2 : Int)] 76
def filesA : List Nat → List (List UInt8 × Nat) → HP
  | [], [] => .pure True
  | g :: gs, x :: f => .sep (fileA g x) (filesA gs f)
  | _, _ => .pure False
def filesBut : Nat → List Nat → List (List UInt8 × Nat) → HP
  | 0, _ :: gs, _ :: f => filesA gs f
  | i + 1, g :: gs, x :: f => .sep (fileA g x) (filesBut i gs f)
  | _, _, _ => .pure False
theorem filesA_len {B w : World} : ∀ {gs : List Nat} {f : List (List UInt8 × Nat)} {L : List HP}, St B (filesA gs f :: L) w → gs.length = f.length
  | [], [], _, _ => rfl
  | g :: gs, x :: f, L, h => by rw [List.length_cons, List.length_cons, filesA_len (gs := gs) (f := f) h.sep.drop]
  | [], _ :: _, _, h => h.pure.1.elim
  | _ :: _, [], _, h => h.pure.1.elim
theorem filesA_pick {B w : World} : ∀ {gs : List Nat} {f : List (List UInt8 × Nat)} {i : Nat} {L : List HP}, i < f.length → St B (filesA gs f :: L) w → St B (fileA (gs.getD i 0) (fileAt f i) :: filesBut i gs f :: L) w
  | [], [], i, L, hi, _ => by simp at hi
  | g :: gs, x :: f, 0, L, _, h => h.sep
  | g :: gs, x :: f, i + 1, L, hi, h => by
    have h1 := filesA_pick (gs := gs) (f := f) (i := i) (by simpa using hi) (h.sep.permT [1, 0] (L' := filesA gs f :: fileA g x :: L) rfl)
    exact ((h1.permT [2, 1, 0] (L' := fileA g x :: filesBut i gs f :: fileA (gs.getD i 0) (fileAt f i) :: L) rfl).join).permT [1, 0] rfl
  | [], _ :: _, _, _, _, h => h.pure.1.elim
  | _ :: _, [], _, _, _, h => h.pure.1.elim
theorem filesA_back {B w : World} {y : List UInt8 × Nat} : ∀ {gs : List Nat} {f : List (List UInt8 × Nat)} {i : Nat} {L : List HP}, St B (fileA (gs.getD i 0) y :: filesBut i gs f :: L) w → St B (filesA gs (f.set i y) :: L) w
  | g :: gs, x :: f, 0, L, h => h.join
  | g :: gs, x :: f, i + 1, L, h => by
    have h0 := (h.permT [1, 0] (L' := filesBut (i + 1) (g :: gs) (x :: f) :: fileA (gs.getD i 0) y :: L) rfl).sep
    have h1 := filesA_back (gs := gs) (f := f) (i := i) (h0.permT [2, 1, 0] (L' := fileA (gs.getD i 0) y :: filesBut i gs f :: fileA g x :: L) rfl)
    exact (h1.permT [1, 0] (L' := fileA g x :: filesA gs (f.set i y) :: L) rfl).join
  | [], _, i, L, h => (by cases i <;> exact h.drop.pure.1.elim)
  | _ :: _, [], i, L, h => (by cases i <;> exact h.drop.pure.1.elim)
theorem filesA_snoc {B w : World} {g : Nat} {y : List UInt8 × Nat} : ∀ {gs : List Nat} {f : List (List UInt8 × Nat)} {L : List HP}, St B (filesA gs f :: fileA g y :: L) w → St B (filesA (gs ++ [g]) (f ++ [y]) :: L) w
  | [], [], L, h => (h.permT [1, 0] (L' := fileA g y :: filesA [] [] :: L) rfl).join
  | q :: gs, x :: f, L, h => by
    have h1 := h.sep.permT [1, 1, 0] (L' := filesA gs f :: fileA g y :: fileA q x :: L) rfl
    have h2 := filesA_snoc (gs := gs) (f := f) h1
    exact (h2.permT [1, 0] (L' := fileA q x :: filesA (gs ++ [g]) (f ++ [y]) :: L) rfl).join
  | [], _ :: _, _, h => h.pure.1.elim
  | _ :: _, [], _, h => h.pure.1.elim
structure DkX where
  gs : List Nat
  r1 : Nat
  e1 : List (List UInt8 × Value)
  r2 : Nat
  e2 : List (List UInt8 × Value)
  a : Option Addr
  cap : Nat
  vs : List Value
structure OkX (dx : DkX) (D : Dk) : Prop where
  g : dx.gs.length = D.f.length
  p1 : dx.e1.Perm (esOf dx.gs D.nm)
  p2 : dx.e2.Perm (esOf dx.gs D.last)
  v : D.ch.length = dx.vs.length
def dkA (g : Nat) (D : Dk) : HP := .ex fun dx : DkX => .sep (.pure (OkX dx D)) (.sep (cel g [Value.int .i64 D.room, Value.map (some dx.r1), Value.map (some dx.r2), Value.slice dx.a dx.vs.length dx.cap, Value.bool D.dead, Value.int .i64 D.left] 45) (.sep (mpS dx.r1 dx.e1) (.sep (mpS dx.r2 dx.e2) (.sep (own dx.a dx.vs.length dx.cap 69 1 dx.vs) (.sep (chsA dx.gs D.ch dx.vs) (filesA dx.gs D.f))))))
theorem St.dk_open {B w : World} {L : List HP} {g : Nat} {D : Dk} (h : St B (dkA g D :: L) w) : ∃ dx : DkX, OkX dx D ∧ St B (cel g [Value.int .i64 D.room, Value.map (some dx.r1), Value.map (some dx.r2), Value.slice dx.a dx.vs.length dx.cap, Value.bool D.dead, Value.int .i64 D.left] 45 :: mpS dx.r1 dx.e1 :: mpS dx.r2 dx.e2 :: own dx.a dx.vs.length dx.cap 69 1 dx.vs :: chsA dx.gs D.ch dx.vs :: filesA dx.gs D.f :: L) w := by
  obtain ⟨dx, h1⟩ := h.ex
  obtain ⟨h2, h3⟩ := h1.sep.pure
  have a1 := h3.sep
  have a2 := (a1.permT [1, 0] rfl).sep
  have a3 := (a2.permT [1, 1, 0] (L' := _ :: _ :: _ :: L) rfl).sep
  have a4 := (a3.permT [1, 2, 1, 0] (L' := _ :: _ :: _ :: _ :: L) rfl).sep
  have a5 := (a4.permT [1, 3, 2, 1, 0] (L' := _ :: _ :: _ :: _ :: _ :: L) rfl).sep
  exact ⟨dx, h2, a5.permT [3, 3, 2, 2, 0, 0] rfl⟩
theorem St.dk_shut {B w : World} {L : List HP} {g : Nat} {D : Dk} {dx : DkX} (ok : OkX dx D) (h : St B (cel g [Value.int .i64 D.room, Value.map (some dx.r1), Value.map (some dx.r2), Value.slice dx.a dx.vs.length dx.cap, Value.bool D.dead, Value.int .i64 D.left] 45 :: mpS dx.r1 dx.e1 :: mpS dx.r2 dx.e2 :: own dx.a dx.vs.length dx.cap 69 1 dx.vs :: chsA dx.gs D.ch dx.vs :: filesA dx.gs D.f :: L) w) : St B (dkA g D :: L) w := by
  have a5 := (h.permT [4, 4, 3, 2, 1, 0] (L' := chsA dx.gs D.ch dx.vs :: filesA dx.gs D.f :: own dx.a dx.vs.length dx.cap 69 1 dx.vs :: mpS dx.r2 dx.e2 :: mpS dx.r1 dx.e1 :: cel g [Value.int .i64 D.room, Value.map (some dx.r1), Value.map (some dx.r2), Value.slice dx.a dx.vs.length dx.cap, Value.bool D.dead, Value.int .i64 D.left] 45 :: L) rfl).join
  have a4 := (a5.permT [1, 0] (L' := own dx.a dx.vs.length dx.cap 69 1 dx.vs :: .sep (chsA dx.gs D.ch dx.vs) (filesA dx.gs D.f) :: mpS dx.r2 dx.e2 :: mpS dx.r1 dx.e1 :: cel g [Value.int .i64 D.room, Value.map (some dx.r1), Value.map (some dx.r2), Value.slice dx.a dx.vs.length dx.cap, Value.bool D.dead, Value.int .i64 D.left] 45 :: L) rfl).join
  have a3 := (a4.permT [1, 0] (L' := mpS dx.r2 dx.e2 :: .sep (own dx.a dx.vs.length dx.cap 69 1 dx.vs) (.sep (chsA dx.gs D.ch dx.vs) (filesA dx.gs D.f)) :: mpS dx.r1 dx.e1 :: cel g [Value.int .i64 D.room, Value.map (some dx.r1), Value.map (some dx.r2), Value.slice dx.a dx.vs.length dx.cap, Value.bool D.dead, Value.int .i64 D.left] 45 :: L) rfl).join
  have a2 := (a3.permT [1, 0] (L' := mpS dx.r1 dx.e1 :: .sep (mpS dx.r2 dx.e2) (.sep (own dx.a dx.vs.length dx.cap 69 1 dx.vs) (.sep (chsA dx.gs D.ch dx.vs) (filesA dx.gs D.f))) :: cel g [Value.int .i64 D.room, Value.map (some dx.r1), Value.map (some dx.r2), Value.slice dx.a dx.vs.length dx.cap, Value.bool D.dead, Value.int .i64 D.left] 45 :: L) rfl).join
  have a1 := (a2.permT [1, 0] (L' := cel g [Value.int .i64 D.room, Value.map (some dx.r1), Value.map (some dx.r2), Value.slice dx.a dx.vs.length dx.cap, Value.bool D.dead, Value.int .i64 D.left] 45 :: .sep (mpS dx.r1 dx.e1) (.sep (mpS dx.r2 dx.e2) (.sep (own dx.a dx.vs.length dx.cap 69 1 dx.vs) (.sep (chsA dx.gs D.ch dx.vs) (filesA dx.gs D.f)))) :: L) rfl).join
  exact (St.join (a1.addPure ok)).give dx
end Go.Proofs.YtiggkfaonnnjoaaGreatDoor.SL

/- A disk: made; its power; its fuse. -/
namespace Go.Proofs.YtiggkfaonnnjoaaGreatDoor.SL
open Go.RowKit Go.Proofs.YtiggkfaonnnjoaaGreatDoor
open Go.Proofs.YtiggkfaonnnjoaaGreatDoorW.PrintLast (rtab opsOf)
set_option linter.unusedVariables false
set_option linter.unusedSimpArgs false

def wOk (dead : Bool) (left : Int) : Bool := if left = 0 then false else !dead
def wDead (dead : Bool) (left : Int) : Bool := if left = 0 then true else dead
def wLeft (dead : Bool) (left : Int) : Int := if left = 0 then left else if dead = true then left else if -1 > left - 1 then -1 else left - 1
theorem writeD_eq (D : Dk) : writeD D = ({ D with dead := wDead D.dead D.left, left := wLeft D.dead D.left }, wOk D.dead D.left) := by
  obtain ⟨room, f, nm, last, ch, dead, left⟩ := D
  unfold writeD wOk wDead wLeft
  by_cases h : left = 0
  · simp [h]
  · cases dead <;> simp [h]
theorem onWrite_eq (D : Dk) (k : Dk → Dk × Int) : onWrite D k = if wOk D.dead D.left = true then k { D with dead := wDead D.dead D.left, left := wLeft D.dead D.left } else ({ D with dead := wDead D.dead D.left, left := wLeft D.dead D.left }, 11) := by
  unfold onWrite; rw [writeD_eq]
theorem dwrite_spec {B w : World} {L : List HP} {g r1 r2 n cap : Nat} {room left : Int} {a : Option Addr} {dead : Bool} (hl : -1 ≤ left) (hl2 : left ≤ 9223372036854775807) (hS : St B (cel g [Value.int .i64 room, Value.map (some r1), Value.map (some r2), Value.slice a n cap, Value.bool dead, Value.int .i64 left] 45 :: L) w) : Does Tryz.prog 42 [Value.pointer (some ⟨g, 0, none⟩)] w (fun v w1 => v = .bool (wOk dead left) ∧ St B (cel g [Value.int .i64 room, Value.map (some r1), Value.map (some r2), Value.slice a n cap, Value.bool (wDead dead left), Value.int .i64 (wLeft dead left)] 45 :: L) w1) := by
 refine enter (n := 24) Tryz.func42 rfl rfl [Value.pointer (some ⟨g, 0, none⟩)] rfl ?_
 refine WP.seq (WP.region rfl ?_)
 refine WO.asg rfl rfl ?_
 refine WO.nil (NX.go (WP.seq (WP.seq (WP.region rfl ?_))))
 refine WO.mv rfl rfl ?_
 refine WO.val (run_nilCheck rfl) rfl rfl rfl ?_
 refine WO.val (run_fieldAddr (q := ⟨g, 5, none⟩) (show fieldB Tryz.prog 45 5 = some 5 from by kernel_rfl) rfl rfl) rfl rfl rfl ?_
 refine WO.val (run_load Ty.ag3 rfl ((hS.cel_at 0 rfl 5).trans rfl)) rfl rfl rfl ?_
 refine WO.val (run_eql rfl rfl) rfl rfl rfl ?_
 refine WO.nil (NX.go ?_)
 refine WP.condP rfl (fun g7 => ?_) (fun g7 => ?_)
 ·
  refine WP.region rfl ?_
  refine WO.mv rfl rfl ?_
  refine WO.val (run_nilCheck rfl) rfl rfl rfl ?_
  refine WO.val (run_fieldAddr (q := ⟨g, 4, none⟩) (show fieldB Tryz.prog 45 4 = some 4 from by kernel_rfl) rfl rfl) rfl rfl rfl ?_
  refine WO.store (l' := [Value.int .i64 room, Value.map (some r1), Value.map (some r2), Value.slice a n cap, Value.bool true, Value.int .i64 left]) 0 hS rfl Ty.sz4 rfl rfl rfl rfl rfl (Nat.le_of_ble_eq_true rfl) rfl (fun w1 (hS1 : St B (cel g [Value.int .i64 room, Value.map (some r1), Value.map (some r2), Value.slice a n cap, Value.bool true, Value.int .i64 left] 45 :: L) w1) => ?_)
  clear hS
  refine WO.nil (NX.go (WP.seq (WP.seq (WP.region rfl ?_))))
  refine WO.mv rfl rfl ?_
  refine WO.val (run_nilCheck rfl) rfl rfl rfl ?_
  refine WO.val (run_fieldAddr (q := ⟨g, 4, none⟩) (show fieldB Tryz.prog 45 4 = some 4 from by kernel_rfl) rfl rfl) rfl rfl rfl ?_
  refine WO.val (run_load Ty.ag4 rfl ((hS1.cel_at 0 rfl 4).trans rfl)) rfl rfl rfl ?_
  refine WO.nil (NX.go ?_)
  refine WP.condT rfl rfl ?_
  refine WP.seq (WP.region rfl ?_)
  refine WO.asg rfl rfl ?_
  refine WO.nil (NX.go (WP.ret (NX.thenRet ?_)))
  refine NX.done (l := [.tmp 2]) rfl rfl ?_
  have e1 : wOk dead left = false := by unfold wOk; rw [if_pos g7]
  have e2 : wDead dead left = true := by unfold wDead; rw [if_pos g7]
  have e3 : wLeft dead left = left := by unfold wLeft; rw [if_pos g7]
  rw [e1, e2, e3]
  exact ⟨rfl, hS1⟩
 ·
  refine WP.skip (NX.go (WP.seq (WP.seq (WP.region rfl ?_))))
  refine WO.mv rfl rfl ?_
  refine WO.val (run_nilCheck rfl) rfl rfl rfl ?_
  refine WO.val (run_fieldAddr (q := ⟨g, 4, none⟩) (show fieldB Tryz.prog 45 4 = some 4 from by kernel_rfl) rfl rfl) rfl rfl rfl ?_
  refine WO.val (run_load Ty.ag4 rfl ((hS.cel_at 0 rfl 4).trans rfl)) rfl rfl rfl ?_
  refine WO.nil (NX.go ?_)
  refine WP.condB rfl (fun g14 => ?_) (fun g14 => ?_)
  ·
   refine WP.seq (WP.region rfl ?_)
   refine WO.asg rfl rfl ?_
   refine WO.nil (NX.go (WP.ret (NX.thenRet ?_)))
   refine NX.done (l := [.tmp 2]) rfl rfl ?_
   have e1 : wOk dead left = false := by unfold wOk; rw [if_neg g7, g14]; rfl
   have e2 : wDead dead left = dead := by unfold wDead; rw [if_neg g7]
   have e3 : wLeft dead left = left := by unfold wLeft; rw [if_neg g7, if_pos g14]
   rw [e1, e2, e3]
   exact ⟨rfl, hS⟩
  ·
   refine WP.skip (NX.go (WP.seq (WP.region rfl ?_)))
   refine WO.mv rfl rfl ?_
   refine WO.mv rfl rfl ?_
   refine WO.val (run_nilCheck rfl) rfl rfl rfl ?_
   refine WO.val (run_fieldAddr (q := ⟨g, 5, none⟩) (show fieldB Tryz.prog 45 5 = some 5 from by kernel_rfl) rfl rfl) rfl rfl rfl ?_
   refine WO.val (run_load Ty.ag3 rfl ((hS.cel_at 0 rfl 5).trans rfl)) rfl rfl rfl ?_
   refine WO.val (run_sub rfl rfl (IntWalk.i64_in _ (by omega))) rfl rfl rfl ?_
   refine WO.val (run_max rfl rfl) rfl rfl rfl ?_
   refine WO.val (run_nilCheck rfl) rfl rfl rfl ?_
   refine WO.val (run_fieldAddr (q := ⟨g, 5, none⟩) (show fieldB Tryz.prog 45 5 = some 5 from by kernel_rfl) rfl rfl) rfl rfl rfl ?_
   refine WO.store (l' := [Value.int .i64 room, Value.map (some r1), Value.map (some r2), Value.slice a n cap, Value.bool dead, Value.int .i64 (if -1 > left - 1 then -1 else left - 1)]) 0 hS rfl Ty.sz3 rfl rfl rfl rfl rfl (Nat.le_of_ble_eq_true rfl) rfl (fun w2 (hS2 : St B (cel g [Value.int .i64 room, Value.map (some r1), Value.map (some r2), Value.slice a n cap, Value.bool dead, Value.int .i64 (if -1 > left - 1 then -1 else left - 1)] 45 :: L) w2) => ?_)
   clear hS
   refine WO.nil (NX.go (WP.seq (WP.region rfl ?_)))
   refine WO.asg rfl rfl ?_
   refine WO.nil (NX.go (WP.ret ?_))
   refine NX.done (l := [.tmp 2]) rfl rfl ?_
   have e1 : wOk dead left = true := by unfold wOk; rw [if_neg g7, g14]; rfl
   have e2 : wDead dead left = dead := by unfold wDead; rw [if_neg g7]
   have e3 : wLeft dead left = if -1 > left - 1 then -1 else left - 1 := by unfold wLeft; rw [if_neg g7, if_neg (by rw [g14]; decide)]
   rw [e1, e2, e3]
   exact ⟨rfl, hS2⟩
theorem dup_spec {B w : World} {L : List HP} {g : Nat} {D : Dk} (hS : St B (dkA g D :: L) w) : Does Tryz.prog 13 [Value.pointer (some ⟨g, 0, none⟩)] w (fun v w1 => v = .bool (!D.dead) ∧ St B (dkA g D :: L) w1) := by
 obtain ⟨dx, ok, h0⟩ := hS.dk_open
 clear hS
 refine enter (n := 8) Tryz.func13 rfl rfl [Value.pointer (some ⟨g, 0, none⟩)] rfl ?_
 refine WP.seq (WP.region rfl ?_)
 refine WO.asg rfl rfl ?_
 refine WO.nil (NX.go (WP.seq (WP.region rfl ?_)))
 refine WO.mv rfl rfl ?_
 refine WO.val (run_nilCheck rfl) rfl rfl rfl ?_
 refine WO.val (run_fieldAddr (q := ⟨g, 4, none⟩) (show fieldB Tryz.prog 45 4 = some 4 from by kernel_rfl) rfl rfl) rfl rfl rfl ?_
 refine WO.val (run_load Ty.ag4 rfl ((h0.cel_at 0 rfl 4).trans rfl)) rfl rfl rfl ?_
 refine WO.val (run_not rfl rfl) rfl rfl rfl ?_
 refine WO.asg rfl rfl ?_
 refine WO.nil (NX.go (WP.ret ?_))
 refine NX.done (l := [.tmp 2]) rfl rfl ?_
 exact ⟨rfl, h0.dk_shut ok⟩
theorem dnew_spec {B w : World} {L : List HP} (room : Int) (hS : St B L w) : Does Tryz.prog 5 [Value.int .i64 room] w (fun v w1 => ∃ g, v = .pointer (some ⟨g, 0, none⟩) ∧ St B (dkA g (newD room) :: L) w1) := by
 refine enter (n := 8) Tryz.func5 rfl rfl [Value.int .i64 room] rfl ?_
 refine WP.seq (WP.region rfl ?_)
 refine WO.asg rfl rfl ?_
 refine WO.nil (NX.go (WP.seq (WP.region rfl ?_)))
 refine WO.mv rfl rfl ?_
 refine WO.makeMap hS rfl (fun r2 w1 hS1 => ?_)
 clear hS
 refine WO.makeMap hS1 rfl (fun r4 w3 hS3 => ?_)
 clear hS1
 refine WO.val (run_build (v := Value.agg #[Value.int .i64 room, Value.map (some r2), Value.map (some r4), Value.slice none 0 0, Value.bool false, Value.int .i64 (-1)]) rfl (fun w => by kernel_rfl)) rfl rfl rfl ?_
 refine WO.box (l := [Value.int .i64 room, Value.map (some r2), Value.map (some r4), Value.slice none 0 0, Value.bool false, Value.int .i64 (-1)]) hS3 rfl rfl rfl (fun g6 w5 lg6 hS5 => ?_)
 clear hS3
 refine WO.asg rfl rfl ?_
 refine WO.nil (NX.go (WP.ret ?_))
 refine NX.done (l := [.tmp 2]) rfl rfl ?_
 have hk := ((hS5.addPure (p := True) trivial).permT [1, 2, 1, 0] (L' := cel g6 [Value.int .i64 room, Value.map (some r2), Value.map (some r4), Value.slice none 0 0, Value.bool false, Value.int .i64 (-1)] 45 :: mpS r2 [] :: mpS r4 [] :: .pure True :: L) rfl)
 have hk2 := ((hk.permT [3, 0, 0, 0] (L' := .pure True :: cel g6 [Value.int .i64 room, Value.map (some r2), Value.map (some r4), Value.slice none 0 0, Value.bool false, Value.int .i64 (-1)] 45 :: mpS r2 [] :: mpS r4 [] :: L) rfl).addPure (p := True) trivial).own_nil 69 1
 exact ⟨g6, rfl, St.dk_shut (dx := ⟨[], r2, [], r4, [], none, 0, []⟩) ⟨rfl, List.Perm.refl _, List.Perm.refl _, rfl⟩ (hk2.permT [3, 3, 3, 0, 0, 0] rfl)⟩
end Go.Proofs.YtiggkfaonnnjoaaGreatDoor.SL

/- A disk: what is in it. -/
namespace Go.Proofs.YtiggkfaonnnjoaaGreatDoor.SL
open Go.RowKit Go.Proofs.YtiggkfaonnnjoaaGreatDoor
open Go.Proofs.YtiggkfaonnnjoaaGreatDoorW.PrintLast (rtab opsOf)
set_option linter.unusedVariables false
set_option linter.unusedSimpArgs false

theorem findN_mem {k : List UInt8} {i : Nat} : ∀ {l : Nm}, findN k l = some i → (k, i) ∈ l
  | [], h => by cases h
  | e :: l, h => by
    unfold findN at h
    split at h
    · rename_i e1; cases h; subst e1; exact List.mem_cons_self ..
    · exact List.mem_cons_of_mem _ (findN_mem h)
theorem esOf_step {gs : List Nat} {R : Nm} {pre post : List (List UInt8 × Value)} {k : List UInt8} {v : Value} (h : (pre ++ (k, v) :: post).Perm (esOf gs R)) :
    ∃ (e : List UInt8 × Nat) (R' : Nm), R.Perm (e :: R') ∧ k = e.1 ∧ v = ptrV (gs.getD e.2 0) ∧ (pre ++ post).Perm (esOf gs R') := by
  have hm : (k, v) ∈ esOf gs R := h.mem_iff.1 (by simp)
  obtain ⟨e, he, hkv⟩ := List.mem_map.1 hm
  cases hkv
  refine ⟨e, R.erase e, List.perm_cons_erase he, rfl, rfl, ?_⟩
  have h2 : (pre ++ (e.1, ptrV (gs.getD e.2 0)) :: post).Perm ((e.1, ptrV (gs.getD e.2 0)) :: (pre ++ post)) := List.perm_middle
  have h3 := (h2.symm.trans h).trans (esOf_perm (List.perm_cons_erase he))
  exact h3.cons_inv
theorem usedN_perm {f : List (List UInt8 × Nat)} {l m : Nm} (h : l.Perm m) : usedN f l = usedN f m := (h.map _).sum_nat
theorem usedN_cons (f : List (List UInt8 × Nat)) (e : List UInt8 × Nat) (l : Nm) : usedN f (e :: l) = (fileAt f e.2).1.length + usedN f l := rfl
/-- The address that a look-up hands out. -/
def findP (gs : List Nat) (k : List UInt8) (l : Nm) : Option Addr := (findN k l).map fun i => ⟨gs.getD i 0, 0, none⟩
theorem look_ok {dx : DkX} {D : Dk} (ok : OkX dx D) (hw : WFD D) (k : List UInt8) : (getS dx.e1 k).getD (.pointer none) = .pointer (findP dx.gs k D.nm) := by
  rw [getS_perm ok.p1 (by rw [esOf_keys]; exact hw.good.s.nodup), getS_esOf]
  unfold findP
  cases findN k D.nm <;> rfl
theorem findP_some {gs : List Nat} {k : List UInt8} {l : Nm} (h : (findP gs k l).isNone = false) : ∃ i, findN k l = some i := by
  unfold findP at h
  cases e : findN k l with
  | none => rw [e] at h; cases h
  | some i => exact ⟨i, rfl⟩
theorem findP_none {gs : List Nat} {k : List UInt8} {l : Nm} (h : (findP gs k l).isNone = true) : findN k l = none := by
  unfold findP at h
  cases e : findN k l with
  | none => rfl
  | some i => rw [e] at h; cases h
theorem findP_eq {gs : List Nat} {k : List UInt8} {l : Nm} {i q : Nat} (h : findN k l = some i) (hq : q = gs.getD i 0) : Value.pointer (findP gs k l) = .pointer (some ⟨q, 0, none⟩) := by
  unfold findP; rw [h, hq]; rfl
theorem WFD.find {D : Dk} (hw : WFD D) {k : List UInt8} {i : Nat} (h : findN k D.nm = some i) : i < D.f.length ∧ fileF k = true := findN_lt hw.good.f h
theorem filesA_cell {B w : World} {L : List HP} {gs : List Nat} {f : List (List UInt8 × Nat)} {i q : Nat} (h : St B (filesA gs f :: L) w) (hi : i < f.length) (hq : q = gs.getD i 0) : w.cell? ⟨q, 0, none⟩ = some (str (fileAt f i).1) ∧ w.cell? ⟨q, 1, none⟩ = some (.int .i64 ((fileAt f i).2 : Int)) := by
  have h1 := filesA_pick hi h
  rw [← hq] at h1
  exact ⟨(St.cel_at h1 0 rfl 0).trans rfl, (St.cel_at h1 0 rfl 1).trans rfl⟩
theorem fileAt_le {D : Dk} {n t : Nat} (hb : Bnd D n t) {i : Nat} (hi : i < D.f.length) : (fileAt D.f i).1.length ≤ t := hb.t _ (fileAt_mem hi)
theorem dused_open {B w : World} {L : List HP} {g : Nat} {D : Dk} {dx : DkX} {n t : Nat} (ok : OkX dx D) (hw : WFD D) (hb : Bnd D n t) (ht : t ≤ 1099511627776) (h0 : St B (cel g [Value.int .i64 D.room, Value.map (some dx.r1), Value.map (some dx.r2), Value.slice dx.a dx.vs.length dx.cap, Value.bool D.dead, Value.int .i64 D.left] 45 :: mpS dx.r1 dx.e1 :: mpS dx.r2 dx.e2 :: own dx.a dx.vs.length dx.cap 69 1 dx.vs :: chsA dx.gs D.ch dx.vs :: filesA dx.gs D.f :: L) w) : Does Tryz.prog 44 [Value.pointer (some ⟨g, 0, none⟩)] w (fun v w1 => v = .int .i64 ((usedN D.f D.nm : Nat) : Int) ∧ St B (cel g [Value.int .i64 D.room, Value.map (some dx.r1), Value.map (some dx.r2), Value.slice dx.a dx.vs.length dx.cap, Value.bool D.dead, Value.int .i64 D.left] 45 :: mpS dx.r1 dx.e1 :: mpS dx.r2 dx.e2 :: own dx.a dx.vs.length dx.cap 69 1 dx.vs :: chsA dx.gs D.ch dx.vs :: filesA dx.gs D.f :: L) w1) := by
 have hu := usedN_le hb D.nm
 have h64 := hw.nm64
 have hub : usedN D.f D.nm ≤ 70368744177664 := Nat.le_trans hu (Nat.mul_le_mul h64 ht)
 refine enter (n := 23) Tryz.func44 rfl rfl [Value.pointer (some ⟨g, 0, none⟩)] rfl ?_
 refine WP.seq (WP.region rfl ?_)
 refine WO.asg rfl rfl ?_
 refine WO.nil (NX.go (WP.seq (WP.region rfl ?_)))
 refine WO.asg rfl rfl ?_
 refine WO.nil (NX.go (WP.seq (WP.seq (WP.region rfl ?_))))
 refine WO.mv rfl rfl ?_
 refine WO.val (run_nilCheck rfl) rfl rfl rfl ?_
 refine WO.val (run_fieldAddr (q := ⟨g, 1, none⟩) (show fieldB Tryz.prog 45 1 = some 1 from by kernel_rfl) rfl rfl) rfl rfl rfl ?_
 refine WO.val (run_load Ty.ag42 rfl ((h0.cel_at 0 rfl 1).trans rfl)) rfl rfl rfl ?_
 refine WO.rangeM 1 h0 rfl Tryz.underlying42 rfl rfl (fun r2 w1 hS1 => ?_)
 clear h0
 refine WO.nil (NX.go (WP.block ?_))
 refine WP.loop (α := Nat × Nm × List (List UInt8 × Value) × Option (List UInt8 × Value)) (fun x => match x with | ⟨acc, R, rst, cur⟩ => [(3, Value.int .i64 (acc : Int)), (10, Value.pointer (some ⟨r2, 0, none⟩))]) (fun x w => match x with | ⟨acc, R, rst, cur⟩ => (rst.Perm (esOf dx.gs R) ∧ acc + usedN D.f R = usedN D.f D.nm ∧ (∀ e ∈ R, e.2 < D.f.length)) ∧ St B (cel g [Value.int .i64 D.room, Value.map (some dx.r1), Value.map (some dx.r2), Value.slice dx.a dx.vs.length dx.cap, Value.bool D.dead, Value.int .i64 D.left] 45 :: itM dx.r1 r2 dx.e1 rst cur :: mpS dx.r2 dx.e2 :: own dx.a dx.vs.length dx.cap 69 1 dx.vs :: chsA dx.gs D.ch dx.vs :: filesA dx.gs D.f :: L) w) (fun x => match x with | ⟨acc, R, rst, cur⟩ => rst.length) (0, D.nm, dx.e1, none) ⟨⟨ok.p1, Nat.zero_add _, fun e he => (hw.good.f e he).2⟩, hS1⟩ (Sub.consE rfl (by first | rfl | first | rfl | (congr 1; omega) | (simp; done) | (simp; omega)) (Sub.cons rfl (Sub.nil _))) ?_
 rintro ⟨acc, R, rst, cur⟩ w3 ⟨⟨hR, hacc, hin⟩, hS3⟩
 clear hS1
 refine WP.seq (WP.region rfl ?_)
 refine WO.nextM 1 hS3 rfl rfl rfl (fun e11 => ?_) (fun pre11 nk nv post11 e11 w4 hS4 => ?_)
 ·
  refine WO.val (run_extract rfl rfl) rfl rfl rfl ?_
  refine WO.nil (NX.go (WP.seq ?_))
  refine WP.condF rfl rfl ?_
  refine WP.exit (NX.thenExit (NX.thenExit ?_))
  refine NX.blkExit ?_
  refine NX.go (WP.seq (WP.region rfl ?_))
  refine WO.mv rfl rfl ?_
  refine WO.asg rfl rfl ?_
  refine WO.nil (NX.go (WP.ret ?_))
  have hS5 := St.itM_end (hS3.permT [1, 0, 0, 0, 0, 0] (L' := itM dx.r1 r2 dx.e1 rst cur :: cel g [Value.int .i64 D.room, Value.map (some dx.r1), Value.map (some dx.r2), Value.slice dx.a dx.vs.length dx.cap, Value.bool D.dead, Value.int .i64 D.left] 45 :: mpS dx.r2 dx.e2 :: own dx.a dx.vs.length dx.cap 69 1 dx.vs :: chsA dx.gs D.ch dx.vs :: filesA dx.gs D.f :: L) rfl)
  clear hS3
  refine NX.done (l := [.tmp 2]) rfl rfl ?_
  have hRn : R = [] := by subst e11; have := hR.length_eq; unfold esOf at this; rw [List.length_map] at this; exact List.length_eq_zero_iff.1 (by simpa using this.symm)
  have hfin : acc = usedN D.f D.nm := by rw [← hacc, hRn]; rfl
  exact ⟨by rw [hfin]; rfl, ((hS5.permT [1, 0, 0, 0, 0, 0] (L' := cel g [Value.int .i64 D.room, Value.map (some dx.r1), Value.map (some dx.r2), Value.slice dx.a dx.vs.length dx.cap, Value.bool D.dead, Value.int .i64 D.left] 45 :: mpS dx.r1 dx.e1 :: mpS dx.r2 dx.e2 :: own dx.a dx.vs.length dx.cap 69 1 dx.vs :: chsA dx.gs D.ch dx.vs :: filesA dx.gs D.f :: L) rfl))⟩
 ·
  rw [e11] at hR
  obtain ⟨e, R2, hR1, rfl, hv, hR4⟩ := esOf_step hR
  obtain ⟨q, hq⟩ : ∃ q, q = dx.gs.getD e.2 0 := ⟨_, rfl⟩
  rw [← hq] at hv
  subst hv
  have hlt : e.2 < D.f.length := hin e (hR1.mem_iff.2 (List.mem_cons_self ..))
  have hfl := fileAt_le hb hlt
  have hle : (fileAt D.f e.2).1.length ≤ usedN D.f R := by rw [usedN_perm hR1, usedN_cons]; omega
  refine WO.val (run_extract rfl rfl) rfl rfl rfl ?_
  refine WO.nil (NX.go (WP.seq ?_))
  refine WP.condT rfl rfl ?_
  refine WP.skip (NX.go (WP.block (WP.seq (WP.region rfl ?_))))
  refine WO.val (run_entryM (d := 0) 1 hS4 rfl rfl) rfl rfl rfl ?_
  refine WO.val (run_extract rfl rfl) rfl rfl rfl ?_
  refine WO.asg rfl rfl ?_
  refine WO.nil (NX.go (WP.region rfl ?_))
  refine WO.mv rfl rfl ?_
  refine WO.mv rfl rfl ?_
  refine WO.val (run_nilCheck rfl) rfl rfl rfl ?_
  refine WO.val (run_fieldAddr (q := ⟨q, 0, none⟩) (show fieldB Tryz.prog 76 0 = some 0 from by kernel_rfl) rfl rfl) rfl rfl rfl ?_
  refine WO.val (run_load Ty.ag9 rfl (filesA_cell (hS4.focus 5 rfl) hlt hq).1) rfl rfl rfl ?_
  refine WO.val (run_lenS rfl Tryz.underlying9 rfl) rfl rfl rfl ?_
  refine WO.val (run_add rfl rfl (IntWalk.i64_in _ (by omega))) rfl rfl rfl ?_
  refine WO.asg rfl rfl ?_
  refine WO.nil (NX.blk ?_)
  exact NX.again (acc + (fileAt D.f e.2).1.length, R2, pre11 ++ post11, some (e.1, ptrV q)) ⟨⟨hR4, by rw [← hacc, usedN_perm hR1, usedN_cons]; omega, fun z hz => hin z (hR1.mem_iff.2 (List.mem_cons_of_mem _ hz))⟩, hS4⟩ (by show (pre11 ++ post11).length < rst.length; rw [e11]; simp only [List.length_append, List.length_cons]; omega) (Sub.consE rfl (by congr 1) (Sub.cons rfl (Sub.nil _)))

theorem dused_spec {B w : World} {L : List HP} {g : Nat} {D : Dk} {n t : Nat} (hw : WFD D) (hb : Bnd D n t) (ht : t ≤ 1099511627776) (hS : St B (dkA g D :: L) w) : Does Tryz.prog 44 [.pointer (some ⟨g, 0, none⟩)] w (fun v w1 => v = .int .i64 ((usedN D.f D.nm : Nat) : Int) ∧ St B (dkA g D :: L) w1) := by
  obtain ⟨dx, ok, h0⟩ := hS.dk_open
  exact (dused_open ok hw hb ht h0).mono fun v w1 ⟨e, h⟩ => ⟨e, h.dk_shut ok⟩
theorem dread_spec {B w : World} {L : List HP} {g : Nat} {D : Dk} (hw : WFD D) (k : List UInt8) (hS : St B (dkA g D :: L) w) : Does Tryz.prog 18 [Value.pointer (some ⟨g, 0, none⟩), str k] w (fun v w1 => v = .tuple #[str (readD D k).1, .int .i64 (readD D k).2] ∧ St B (dkA g D :: L) w1) := by
 obtain ⟨dx, ok, h0⟩ := hS.dk_open
 clear hS
 refine enter (n := 25) Tryz.func18 rfl rfl [Value.pointer (some ⟨g, 0, none⟩), str k] rfl ?_
 refine WP.seq (WP.region rfl ?_)
 refine WO.asg rfl rfl ?_
 refine WO.asg rfl rfl ?_
 refine WO.nil (NX.go (WP.seq (WP.region rfl ?_)))
 refine WO.mv rfl rfl ?_
 refine WO.val (run_nilCheck rfl) rfl rfl rfl ?_
 refine WO.val (run_fieldAddr (q := ⟨g, 1, none⟩) (show fieldB Tryz.prog 45 1 = some 1 from by kernel_rfl) rfl rfl) rfl rfl rfl ?_
 refine WO.val (run_load Ty.ag42 rfl ((h0.cel_at 0 rfl 1).trans rfl)) rfl rfl rfl ?_
 refine WO.mv rfl rfl ?_
 refine WO.val (run_lookupS 1 h0 rfl Tryz.underlying42 Tryz.underlying9 Ty.zr74 rfl rfl (look_ok ok hw k)) rfl rfl rfl ?_
 refine WO.asg rfl rfl ?_
 refine WO.nil (NX.go (WP.seq (WP.block (WP.seq (WP.region rfl ?_)))))
 refine WO.mv rfl rfl ?_
 refine WO.val (run_nilCheck rfl) rfl rfl rfl ?_
 refine WO.val (run_fieldAddr (q := ⟨g, 4, none⟩) (show fieldB Tryz.prog 45 4 = some 4 from by kernel_rfl) rfl rfl) rfl rfl rfl ?_
 refine WO.val (run_load Ty.ag4 rfl ((h0.cel_at 0 rfl 4).trans rfl)) rfl rfl rfl ?_
 refine WO.asg rfl rfl ?_
 refine WO.nil (NX.go ?_)
 refine WP.condB rfl (fun g13 => ?_) (fun g13 => ?_)
 ·
  refine WP.seq (WP.region rfl ?_)
  refine WO.asg rfl rfl ?_
  refine WO.asg rfl rfl ?_
  refine WO.nil (NX.go (WP.ret (NX.blkRet (NX.thenRet ?_))))
  refine NX.done (l := [.tmp 4, .tmp 5]) rfl rfl ?_
  have e : readD D k = ([], 11) := by unfold readD; rw [if_pos g13]
  rw [e]
  exact ⟨rfl, h0.dk_shut ok⟩
 ·
  refine WP.seq (WP.region rfl ?_)
  refine WO.mv rfl rfl ?_
  refine WO.val (run_eqlNilP Tryz.underlying74 rfl rfl) rfl rfl rfl ?_
  refine WO.asg rfl rfl ?_
  refine WO.nil (NX.go ?_)
  refine WP.condB rfl (fun g18 => ?_) (fun g18 => ?_)
  ·
   refine WP.seq (WP.region rfl ?_)
   refine WO.asg rfl rfl ?_
   refine WO.asg rfl rfl ?_
   refine WO.nil (NX.go (WP.ret (NX.blkRet (NX.thenRet ?_))))
   refine NX.done (l := [.tmp 4, .tmp 5]) rfl rfl ?_
   have e : readD D k = ([], 12) := by unfold readD; rw [if_neg (by rw [g13]; decide), findP_none g18]
   rw [e]
   exact ⟨rfl, h0.dk_shut ok⟩
  ·
   obtain ⟨i, hi⟩ := findP_some g18
   obtain ⟨q, hq⟩ : ∃ q, q = dx.gs.getD i 0 := ⟨_, rfl⟩
   have hlt := hw.find hi
   refine WP.as (d := 6) (v := Value.pointer (some ⟨q, 0, none⟩)) rfl (findP_eq hi hq) ?_
   refine WP.skip (NX.blk (NX.go (WP.seq (WP.region rfl ?_))))
   refine WO.mv rfl rfl ?_
   refine WO.val (run_nilCheck rfl) rfl rfl rfl ?_
   refine WO.val (run_fieldAddr (q := ⟨q, 0, none⟩) (show fieldB Tryz.prog 76 0 = some 0 from by kernel_rfl) rfl rfl) rfl rfl rfl ?_
   refine WO.val (run_load Ty.ag9 rfl (filesA_cell (h0.focus 5 rfl) hlt.1 hq).1) rfl rfl rfl ?_
   refine WO.asg rfl rfl ?_
   refine WO.asg rfl rfl ?_
   refine WO.nil (NX.go (WP.ret ?_))
   refine NX.done (l := [.tmp 4, .tmp 5]) rfl rfl ?_
   have e : readD D k = ((fileAt D.f i).1, 0) := by unfold readD; rw [if_neg (by rw [g13]; decide), hi]
   rw [e]
   exact ⟨rfl, h0.dk_shut ok⟩
end Go.Proofs.YtiggkfaonnnjoaaGreatDoor.SL

/- A disk: its names; what lasts. -/
namespace Go.Proofs.YtiggkfaonnnjoaaGreatDoor.SL
open Go.RowKit Go.Proofs.YtiggkfaonnnjoaaGreatDoor
open Go.Proofs.YtiggkfaonnnjoaaGreatDoorW.PrintLast (rtab opsOf)
set_option linter.unusedVariables false
set_option linter.unusedSimpArgs false

def fdP (dead : Bool) (left : Int) (p : Option Addr) : Option Addr := if wOk dead left = true then p else none
def fdE (dead : Bool) (left : Int) (p : Option Addr) : Int := if wOk dead left = true then (if p.isNone = true then 12 else 0) else 11
theorem dfind_spec {B w : World} {L : List HP} {g r1 r2 n cap : Nat} {room left : Int} {a : Option Addr} {dead : Bool} {es : List (List UInt8 × Value)} {p : Option Addr} (hl : -1 ≤ left) (hl2 : left ≤ 9223372036854775807) (k : List UInt8) (hp : (getS es k).getD (.pointer none) = .pointer p) (hS : St B (cel g [Value.int .i64 room, Value.map (some r1), Value.map (some r2), Value.slice a n cap, Value.bool dead, Value.int .i64 left] 45 :: mpS r1 es :: L) w) : Does Tryz.prog 47 [Value.pointer (some ⟨g, 0, none⟩), str k] w (fun v w1 => v = .tuple #[.pointer (fdP dead left p), .int .i64 (fdE dead left p)] ∧ St B (cel g [Value.int .i64 room, Value.map (some r1), Value.map (some r2), Value.slice a n cap, Value.bool (wDead dead left), Value.int .i64 (wLeft dead left)] 45 :: mpS r1 es :: L) w1) := by
 refine enter (n := 19) Tryz.func47 rfl rfl [Value.pointer (some ⟨g, 0, none⟩), str k] rfl ?_
 refine WP.seq (WP.region rfl ?_)
 refine WO.asg rfl rfl ?_
 refine WO.asg rfl rfl ?_
 refine WO.nil (NX.go (WP.seq (WP.seq (WP.region rfl ?_))))
 refine WO.mv rfl rfl ?_
 refine WO.call rfl rfl Ty.hd42 rfl (dwrite_spec hl hl2 hS) (fun v2 w1 pv2 => ?_)
 obtain ⟨rfl, hS1⟩ := pv2
 clear hS
 refine WO.val (run_not rfl rfl) rfl rfl rfl ?_
 refine WO.nil (NX.go ?_)
 refine WP.condB rfl (fun g9 => ?_) (fun g9 => ?_)
 ·
  refine WP.seq (WP.region rfl ?_)
  refine WO.asg rfl rfl ?_
  refine WO.asg rfl rfl ?_
  refine WO.nil (NX.go (WP.ret (NX.thenRet ?_)))
  refine NX.done (l := [.tmp 4, .tmp 5]) rfl rfl ?_
  have e1 : fdP dead left p = none := by unfold fdP; rw [if_neg (by simpa using g9)]
  have e2 : fdE dead left p = 11 := by unfold fdE; rw [if_neg (by simpa using g9)]
  rw [e1, e2]
  exact ⟨rfl, hS1⟩
 ·
  refine WP.skip (NX.go (WP.seq (WP.region rfl ?_)))
  refine WO.mv rfl rfl ?_
  refine WO.val (run_nilCheck rfl) rfl rfl rfl ?_
  refine WO.val (run_fieldAddr (q := ⟨g, 1, none⟩) (show fieldB Tryz.prog 45 1 = some 1 from by kernel_rfl) rfl rfl) rfl rfl rfl ?_
  refine WO.val (run_load Ty.ag42 rfl ((hS1.cel_at 0 rfl 1).trans rfl)) rfl rfl rfl ?_
  refine WO.mv rfl rfl ?_
  refine WO.val (run_lookupS 1 hS1 rfl Tryz.underlying42 Tryz.underlying9 Ty.zr74 rfl rfl hp) rfl rfl rfl ?_
  refine WO.asg rfl rfl ?_
  refine WO.nil (NX.go (WP.seq (WP.seq (WP.region rfl ?_))))
  refine WO.mv rfl rfl ?_
  refine WO.val (run_eqlNilP Tryz.underlying74 rfl rfl) rfl rfl rfl ?_
  refine WO.nil (NX.go ?_)
  refine WP.condB rfl (fun g17 => ?_) (fun g17 => ?_)
  ·
   refine WP.seq (WP.region rfl ?_)
   refine WO.asg rfl rfl ?_
   refine WO.asg rfl rfl ?_
   refine WO.nil (NX.go (WP.ret (NX.thenRet ?_)))
   refine NX.done (l := [.tmp 4, .tmp 5]) rfl rfl ?_
   have e1 : fdP dead left p = none := by unfold fdP; rw [if_pos (by simpa using g9)]; cases p with | none => rfl | some a => cases g17
   have e2 : fdE dead left p = 12 := by unfold fdE; rw [if_pos (by simpa using g9), if_pos g17]
   rw [e1, e2]
   exact ⟨rfl, hS1⟩
  ·
   refine WP.skip (NX.go (WP.seq (WP.region rfl ?_)))
   refine WO.mv rfl rfl ?_
   refine WO.asg rfl rfl ?_
   refine WO.asg rfl rfl ?_
   refine WO.nil (NX.go (WP.ret ?_))
   refine NX.done (l := [.tmp 4, .tmp 5]) rfl rfl ?_
   have e1 : fdP dead left p = p := by unfold fdP; rw [if_pos (by simpa using g9)]
   have e2 : fdE dead left p = 0 := by unfold fdE; rw [if_pos (by simpa using g9), if_neg (by rw [g17]; decide)]
   rw [e1, e2]
   exact ⟨rfl, hS1⟩

theorem fd_ok {gs : List Nat} {D : Dk} {k : List UInt8} (h : fdE D.dead D.left (findP gs k D.nm) = 0) : wOk D.dead D.left = true ∧ ∃ i, findN k D.nm = some i := by
  unfold fdE at h
  split at h
  · rename_i h1
    split at h
    · cases h
    · rename_i h2; exact ⟨h1, findP_some (Bool.eq_false_iff.2 h2)⟩
  · cases h
theorem fd_err {gs : List Nat} {D : Dk} {k : List UInt8} (h : ¬ fdE D.dead D.left (findP gs k D.nm) = 0) : (wOk D.dead D.left = true ∧ findN k D.nm = none ∧ fdE D.dead D.left (findP gs k D.nm) = 12) ∨ (wOk D.dead D.left = false ∧ fdE D.dead D.left (findP gs k D.nm) = 11) := by
  unfold fdE at h ⊢
  split
  · rename_i h1
    rw [if_pos h1] at h
    split
    · rename_i h2; exact .inl ⟨h1, findP_none h2, rfl⟩
    · rename_i h2; rw [if_neg h2] at h; exact absurd rfl h
  · rename_i h1; exact .inr ⟨by simpa using h1, rfl⟩
theorem fdP_eq {gs : List Nat} {D : Dk} {k : List UInt8} {i q : Nat} (h : wOk D.dead D.left = true) (hi : findN k D.nm = some i) (hq : q = gs.getD i 0) : Value.pointer (fdP D.dead D.left (findP gs k D.nm)) = .pointer (some ⟨q, 0, none⟩) := by
  unfold fdP; rw [if_pos h]; exact findP_eq hi hq
theorem WFD.w {D : Dk} (h : WFD D) : WFD { D with dead := wDead D.dead D.left, left := wLeft D.dead D.left } := by
  refine ⟨h.nm, h.few, h.last, h.ch, h.lasts, ?_, h.neg, h.rng, ?_⟩
  · show -1 ≤ wLeft D.dead D.left
    have := h.left
    unfold wLeft; split
    · exact this
    · split
      · exact this
      · split <;> omega
  · show wLeft D.dead D.left ≤ _
    have := h.lrng
    unfold wLeft; split
    · exact this
    · split
      · exact this
      · split <;> omega
theorem dsync_spec {B w : World} {L : List HP} {g : Nat} {D : Dk} (hw : WFD D) (k : List UInt8) (hS : St B (dkA g D :: L) w) : Does Tryz.prog 26 [Value.pointer (some ⟨g, 0, none⟩), str k] w (fun v w1 => v = .int .i64 (syncD D k).2 ∧ St B (dkA g (syncD D k).1 :: L) w1) := by
 obtain ⟨dx, ok, h0⟩ := hS.dk_open
 clear hS
 refine enter (n := 24) Tryz.func26 rfl rfl [Value.pointer (some ⟨g, 0, none⟩), str k] rfl ?_
 refine WP.seq (WP.region rfl ?_)
 refine WO.asg rfl rfl ?_
 refine WO.nil (NX.go (WP.seq (WP.region rfl ?_)))
 refine WO.mv rfl rfl ?_
 refine WO.mv rfl rfl ?_
 refine WO.call rfl rfl Ty.hd47 rfl (dfind_spec hw.left hw.lrng k (look_ok ok hw _) h0) (fun v2 w1 pv2 => ?_)
 obtain ⟨rfl, hS1⟩ := pv2
 clear h0
 refine WO.mv rfl rfl ?_
 refine WO.val (run_extract rfl rfl) rfl rfl rfl ?_
 refine WO.val (run_extract rfl rfl) rfl rfl rfl ?_
 refine WO.asg rfl rfl ?_
 refine WO.asg rfl rfl ?_
 refine WO.nil (NX.go (WP.seq (WP.seq (WP.region rfl ?_))))
 refine WO.mv rfl rfl ?_
 refine WO.val (run_eql rfl rfl) rfl rfl rfl ?_
 refine WO.nil (NX.go ?_)
 refine WP.condP rfl (fun g14 => ?_) (fun g14 => ?_)
 ·
  obtain ⟨hok, i, hi⟩ := fd_ok g14
  obtain ⟨q, hq⟩ : ∃ q, q = dx.gs.getD i 0 := ⟨_, rfl⟩
  have hlt := hw.find hi
  have hS3 : St B (cel q [str ((fileAt D.f i).1), Value.int .i64 ((fileAt D.f i).2 : Int)] 76 :: filesBut i dx.gs D.f :: cel g [Value.int .i64 D.room, Value.map (some dx.r1), Value.map (some dx.r2), Value.slice dx.a dx.vs.length dx.cap, Value.bool (wDead D.dead D.left), Value.int .i64 (wLeft D.dead D.left)] 45 :: mpS dx.r1 dx.e1 :: mpS dx.r2 dx.e2 :: own dx.a dx.vs.length dx.cap 69 1 dx.vs :: chsA dx.gs D.ch dx.vs :: L) w1 := by have z := filesA_pick hlt.1 (hS1.permT [5, 0, 0, 0, 0, 0] (L' := filesA dx.gs D.f :: cel g [Value.int .i64 D.room, Value.map (some dx.r1), Value.map (some dx.r2), Value.slice dx.a dx.vs.length dx.cap, Value.bool (wDead D.dead D.left), Value.int .i64 (wLeft D.dead D.left)] 45 :: mpS dx.r1 dx.e1 :: mpS dx.r2 dx.e2 :: own dx.a dx.vs.length dx.cap 69 1 dx.vs :: chsA dx.gs D.ch dx.vs :: L) rfl); rw [← hq] at z; exact z
  clear hS1
  refine WP.as (d := 5) (v := Value.pointer (some ⟨q, 0, none⟩)) rfl (fdP_eq hok hi hq) ?_
  refine WP.region rfl ?_
  refine WO.mv rfl rfl ?_
  refine WO.mv rfl rfl ?_
  refine WO.val (run_nilCheck rfl) rfl rfl rfl ?_
  refine WO.val (run_fieldAddr (q := ⟨q, 0, none⟩) (show fieldB Tryz.prog 76 0 = some 0 from by kernel_rfl) rfl rfl) rfl rfl rfl ?_
  refine WO.val (run_load Ty.ag9 rfl ((hS3.cel_at 0 rfl 0).trans rfl)) rfl rfl rfl ?_
  refine WO.val (run_lenS rfl Tryz.underlying9 rfl) rfl rfl rfl ?_
  refine WO.val (run_nilCheck rfl) rfl rfl rfl ?_
  refine WO.val (run_fieldAddr (q := ⟨q, 1, none⟩) (show fieldB Tryz.prog 76 1 = some 1 from by kernel_rfl) rfl rfl) rfl rfl rfl ?_
  refine WO.store (l' := [str ((fileAt D.f i).1), Value.int .i64 (((fileAt D.f i).1).length : Int)]) 0 hS3 rfl Ty.sz3 rfl rfl rfl rfl rfl (Nat.le_of_ble_eq_true rfl) rfl (fun w4 (hS4 : St B (cel q [str ((fileAt D.f i).1), Value.int .i64 (((fileAt D.f i).1).length : Int)] 76 :: filesBut i dx.gs D.f :: cel g [Value.int .i64 D.room, Value.map (some dx.r1), Value.map (some dx.r2), Value.slice dx.a dx.vs.length dx.cap, Value.bool (wDead D.dead D.left), Value.int .i64 (wLeft D.dead D.left)] 45 :: mpS dx.r1 dx.e1 :: mpS dx.r2 dx.e2 :: own dx.a dx.vs.length dx.cap 69 1 dx.vs :: chsA dx.gs D.ch dx.vs :: L) w4) => ?_)
  clear hS3
  refine WO.nil (NX.go (WP.seq (WP.region rfl ?_)))
  refine WO.mv rfl rfl ?_
  refine WO.asg rfl rfl ?_
  refine WO.nil (NX.go (WP.ret ?_))
  have hS5 : St B (filesA dx.gs (D.f.set i ((fileAt D.f i).1, (fileAt D.f i).1.length)) :: cel g [Value.int .i64 D.room, Value.map (some dx.r1), Value.map (some dx.r2), Value.slice dx.a dx.vs.length dx.cap, Value.bool (wDead D.dead D.left), Value.int .i64 (wLeft D.dead D.left)] 45 :: mpS dx.r1 dx.e1 :: mpS dx.r2 dx.e2 :: own dx.a dx.vs.length dx.cap 69 1 dx.vs :: chsA dx.gs D.ch dx.vs :: L) w4 := filesA_back (y := ((fileAt D.f i).1, (fileAt D.f i).1.length)) (by rw [← hq]; exact hS4)
  refine NX.done (l := [.tmp 4]) rfl rfl ?_
  have e : syncD D k = ({ D with dead := wDead D.dead D.left, left := wLeft D.dead D.left, f := (D.f.set i ((fileAt D.f i).1, (fileAt D.f i).1.length)) }, 0) := by unfold syncD; rw [onWrite_eq, if_pos hok]; show sync1 _ k = _; unfold sync1; rw [show findN k (Dk.nm { D with dead := wDead D.dead D.left, left := wLeft D.dead D.left }) = some i from hi]
  rw [e, g14]
  exact ⟨rfl, St.dk_shut (D := { D with dead := wDead D.dead D.left, left := wLeft D.dead D.left, f := (D.f.set i ((fileAt D.f i).1, (fileAt D.f i).1.length)) }) ⟨by show dx.gs.length = (D.f.set i ((fileAt D.f i).1, (fileAt D.f i).1.length)).length; rw [List.length_set]; exact ok.g, ok.p1, ok.p2, ok.v⟩ ((hS5.permT [1, 1, 1, 1, 1, 0] (L' := cel g [Value.int .i64 D.room, Value.map (some dx.r1), Value.map (some dx.r2), Value.slice dx.a dx.vs.length dx.cap, Value.bool (wDead D.dead D.left), Value.int .i64 (wLeft D.dead D.left)] 45 :: mpS dx.r1 dx.e1 :: mpS dx.r2 dx.e2 :: own dx.a dx.vs.length dx.cap 69 1 dx.vs :: chsA dx.gs D.ch dx.vs :: filesA dx.gs (D.f.set i ((fileAt D.f i).1, (fileAt D.f i).1.length)) :: L) rfl))⟩
 ·
  refine WP.skip (NX.go (WP.seq (WP.region rfl ?_)))
  refine WO.mv rfl rfl ?_
  refine WO.asg rfl rfl ?_
  refine WO.nil (NX.go (WP.ret ?_))
  refine NX.done (l := [.tmp 4]) rfl rfl ?_
  rcases fd_err g14 with ⟨h1, h2, h3⟩ | ⟨h1, h3⟩
  · have e : syncD D k = ({ D with dead := wDead D.dead D.left, left := wLeft D.dead D.left }, 12) := (by unfold syncD; rw [onWrite_eq, if_pos h1]; show sync1 _ k = _; unfold sync1; rw [show findN k (Dk.nm { D with dead := wDead D.dead D.left, left := wLeft D.dead D.left }) = none from h2]); rw [e, h3]; exact ⟨rfl, St.dk_shut (D := { D with dead := wDead D.dead D.left, left := wLeft D.dead D.left }) (show OkX dx { D with dead := wDead D.dead D.left, left := wLeft D.dead D.left } from ⟨ok.g, ok.p1, ok.p2, ok.v⟩) (hS1)⟩
  · have e : syncD D k = ({ D with dead := wDead D.dead D.left, left := wLeft D.dead D.left }, 11) := (by unfold syncD; rw [onWrite_eq, if_neg (by rw [h1]; decide)]); rw [e, h3]; exact ⟨rfl, St.dk_shut (D := { D with dead := wDead D.dead D.left, left := wLeft D.dead D.left }) (show OkX dx { D with dead := wDead D.dead D.left, left := wLeft D.dead D.left } from ⟨ok.g, ok.p1, ok.p2, ok.v⟩) (hS1)⟩
theorem dsyncNames_spec {B w : World} {L : List HP} {g : Nat} {D : Dk} (hw : WFD D) (hS : St B (dkA g D :: L) w) : Does Tryz.prog 27 [Value.pointer (some ⟨g, 0, none⟩)] w (fun v w1 => v = .int .i64 (syncNamesD D).2 ∧ St B (dkA g (syncNamesD D).1 :: L) w1) := by
 obtain ⟨dx, ok, h0⟩ := hS.dk_open
 clear hS
 refine enter (n := 17) Tryz.func27 rfl rfl [Value.pointer (some ⟨g, 0, none⟩)] rfl ?_
 refine WP.seq (WP.region rfl ?_)
 refine WO.asg rfl rfl ?_
 refine WO.nil (NX.go (WP.seq (WP.seq (WP.region rfl ?_))))
 refine WO.mv rfl rfl ?_
 refine WO.call rfl rfl Ty.hd42 rfl (dwrite_spec hw.left hw.lrng h0) (fun v2 w1 pv2 => ?_)
 obtain ⟨rfl, hS1⟩ := pv2
 clear h0
 refine WO.val (run_not rfl rfl) rfl rfl rfl ?_
 refine WO.nil (NX.go ?_)
 refine WP.condB rfl (fun g5 => ?_) (fun g5 => ?_)
 ·
  refine WP.seq (WP.region rfl ?_)
  refine WO.asg rfl rfl ?_
  refine WO.nil (NX.go (WP.ret (NX.thenRet ?_)))
  refine NX.done (l := [.tmp 2]) rfl rfl ?_
  have e : syncNamesD D = ({ D with dead := wDead D.dead D.left, left := wLeft D.dead D.left }, 11) := by unfold syncNamesD; rw [onWrite_eq, if_neg (by simpa using g5)]
  rw [e]
  exact ⟨rfl, St.dk_shut (D := { D with dead := wDead D.dead D.left, left := wLeft D.dead D.left }) (show OkX dx { D with dead := wDead D.dead D.left, left := wLeft D.dead D.left } from ⟨ok.g, ok.p1, ok.p2, ok.v⟩) (hS1)⟩
 ·
  refine WP.skip (NX.go (WP.seq (WP.region rfl ?_)))
  refine WO.mv rfl rfl ?_
  refine WO.mv rfl rfl ?_
  refine WO.mv rfl rfl ?_
  refine WO.val (run_nilCheck rfl) rfl rfl rfl ?_
  refine WO.val (run_fieldAddr (q := ⟨g, 1, none⟩) (show fieldB Tryz.prog 45 1 = some 1 from by kernel_rfl) rfl rfl) rfl rfl rfl ?_
  refine WO.val (run_load Ty.ag42 rfl ((hS1.cel_at 0 rfl 1).trans rfl)) rfl rfl rfl ?_
  have hS3 := hS1.permT [1, 0, 0, 0, 0, 0] (L' := mpS dx.r1 dx.e1 :: cel g [Value.int .i64 D.room, Value.map (some dx.r1), Value.map (some dx.r2), Value.slice dx.a dx.vs.length dx.cap, Value.bool (wDead D.dead D.left), Value.int .i64 (wLeft D.dead D.left)] 45 :: mpS dx.r2 dx.e2 :: own dx.a dx.vs.length dx.cap 69 1 dx.vs :: chsA dx.gs D.ch dx.vs :: filesA dx.gs D.f :: L) rfl
  clear hS1
  refine WO.call rfl rfl Ty.hd35 rfl (clone35_spec hS3) (fun v5 w4 pv5 => ?_)
  obtain ⟨r3, rfl, hS4⟩ := pv5
  clear hS3
  refine WO.val (run_nilCheck rfl) rfl rfl rfl ?_
  refine WO.val (run_fieldAddr (q := ⟨g, 2, none⟩) (show fieldB Tryz.prog 45 2 = some 2 from by kernel_rfl) rfl rfl) rfl rfl rfl ?_
  refine WO.store (l' := [Value.int .i64 D.room, Value.map (some dx.r1), Value.map (some r3), Value.slice dx.a dx.vs.length dx.cap, Value.bool (wDead D.dead D.left), Value.int .i64 (wLeft D.dead D.left)]) 2 hS4 rfl Ty.sz42 rfl rfl rfl rfl rfl (Nat.le_of_ble_eq_true rfl) rfl (fun w6 (hS6 : St B (mpS r3 dx.e1 :: mpS dx.r1 dx.e1 :: cel g [Value.int .i64 D.room, Value.map (some dx.r1), Value.map (some r3), Value.slice dx.a dx.vs.length dx.cap, Value.bool (wDead D.dead D.left), Value.int .i64 (wLeft D.dead D.left)] 45 :: mpS dx.r2 dx.e2 :: own dx.a dx.vs.length dx.cap 69 1 dx.vs :: chsA dx.gs D.ch dx.vs :: filesA dx.gs D.f :: L) w6) => ?_)
  clear hS4
  refine WO.val (run_nilCheck rfl) rfl rfl rfl ?_
  refine WO.val (run_fieldAddr (q := ⟨g, 3, none⟩) (show fieldB Tryz.prog 45 3 = some 3 from by kernel_rfl) rfl rfl) rfl rfl rfl ?_
  refine WO.store (l' := [Value.int .i64 D.room, Value.map (some dx.r1), Value.map (some r3), Value.slice none 0 0, Value.bool (wDead D.dead D.left), Value.int .i64 (wLeft D.dead D.left)]) 2 hS6 rfl Ty.sz43 rfl rfl rfl rfl rfl (Nat.le_of_ble_eq_true rfl) rfl (fun w7 (hS7 : St B (mpS r3 dx.e1 :: mpS dx.r1 dx.e1 :: cel g [Value.int .i64 D.room, Value.map (some dx.r1), Value.map (some r3), Value.slice none 0 0, Value.bool (wDead D.dead D.left), Value.int .i64 (wLeft D.dead D.left)] 45 :: mpS dx.r2 dx.e2 :: own dx.a dx.vs.length dx.cap 69 1 dx.vs :: chsA dx.gs D.ch dx.vs :: filesA dx.gs D.f :: L) w7) => ?_)
  clear hS6
  refine WO.nil (NX.go (WP.seq (WP.region rfl ?_)))
  refine WO.asg rfl rfl ?_
  refine WO.nil (NX.go (WP.ret ?_))
  have hn1 := (hS7.addPure (p := True) trivial).own_nil 69 1
  refine NX.done (l := [.tmp 2]) rfl rfl ?_
  have e : syncNamesD D = ({ D with dead := wDead D.dead D.left, left := wLeft D.dead D.left, last := D.nm, ch := [] }, 0) := by unfold syncNamesD; rw [onWrite_eq, if_pos (by simpa using g5)]; rfl
  rw [e]
  exact ⟨rfl, St.dk_shut (dx := ⟨dx.gs, dx.r1, dx.e1, r3, dx.e1, none, 0, []⟩) (D := { D with dead := wDead D.dead D.left, left := wLeft D.dead D.left, last := D.nm, ch := [] }) ⟨ok.g, ok.p1, ok.p1, rfl⟩ ((hn1.permT [5, 5, 5, 4, 3, 2, 0, 0, 0] (L' := mpS dx.r2 dx.e2 :: own dx.a dx.vs.length dx.cap 69 1 dx.vs :: chsA dx.gs D.ch dx.vs :: cel g [Value.int .i64 D.room, Value.map (some dx.r1), Value.map (some r3), Value.slice none 0 0, Value.bool (wDead D.dead D.left), Value.int .i64 (wLeft D.dead D.left)] 45 :: mpS dx.r1 dx.e1 :: mpS r3 dx.e1 :: own none 0 0 69 1 [] :: .pure True :: filesA dx.gs D.f :: L) rfl).drop.drop.drop)⟩

theorem names_perm {dx : DkX} {D : Dk} (ok : OkX dx D) : (dx.e1.map (·.1)).Perm (D.nm.map (·.1)) := by have := ok.p1.map (·.1); rw [esOf_keys] at this; exact this
theorem names_sorted {D : Dk} (hw : WFD D) : (D.nm.map (·.1)).Pairwise (fun a b => strLt a b = true) := List.pairwise_map.2 hw.good.s
theorem names_nodup {dx : DkX} {D : Dk} (ok : OkX dx D) (hw : WFD D) : (dx.e1.map (·.1)).Nodup := (names_perm ok).nodup_iff.2 hw.good.s.nodup
theorem names_len {dx : DkX} {D : Dk} (ok : OkX dx D) (hw : WFD D) : ∀ p ∈ dx.e1, p.1.length ≤ 4294967296 := fun p hp => by
  have h := (names_perm ok).mem_iff.1 (List.mem_map_of_mem hp)
  obtain ⟨e, he, h2⟩ := List.mem_map.1 h
  have := fileF_len (hw.good.f e he).1
  rw [h2] at this; omega
theorem names_few {dx : DkX} {D : Dk} (ok : OkX dx D) (hw : WFD D) : dx.e1.length ≤ 4294967296 := by
  have := (names_perm ok).length_eq
  rw [List.length_map, List.length_map] at this
  have := hw.nm64; omega
theorem dnames_spec {B w : World} {L : List HP} {g : Nat} {D : Dk} (hw : WFD D) (hS : St B (dkA g D :: L) w) : Does Tryz.prog 15 [Value.pointer (some ⟨g, 0, none⟩)] w (fun v w1 => ∃ a c, v = .slice a (namesD D).length c ∧ St B (own a (namesD D).length c 9 1 ((namesD D).map str) :: dkA g D :: L) w1) := by
 obtain ⟨dx, ok, h0⟩ := hS.dk_open
 clear hS
 refine enter (n := 13) Tryz.func15 rfl rfl [Value.pointer (some ⟨g, 0, none⟩)] rfl ?_
 refine WP.seq (WP.region rfl ?_)
 refine WO.asg rfl rfl ?_
 refine WO.nil (NX.go (WP.seq (WP.seq (WP.region rfl ?_))))
 refine WO.mv rfl rfl ?_
 refine WO.val (run_nilCheck rfl) rfl rfl rfl ?_
 refine WO.val (run_fieldAddr (q := ⟨g, 4, none⟩) (show fieldB Tryz.prog 45 4 = some 4 from by kernel_rfl) rfl rfl) rfl rfl rfl ?_
 refine WO.val (run_load Ty.ag4 rfl ((h0.cel_at 0 rfl 4).trans rfl)) rfl rfl rfl ?_
 refine WO.nil (NX.go ?_)
 refine WP.condB rfl (fun g6 => ?_) (fun g6 => ?_)
 ·
  refine WP.seq (WP.region rfl ?_)
  refine WO.asg rfl rfl ?_
  refine WO.nil (NX.go (WP.ret (NX.thenRet ?_)))
  refine NX.done (l := [.tmp 2]) rfl rfl ?_
  have e : namesD D = [] := by unfold namesD; rw [if_pos g6]
  rw [e]
  exact ⟨none, 0, rfl, St.own_nil 9 1 (h0.dk_shut ok)⟩
 ·
  refine WP.skip (NX.go (WP.seq (WP.region rfl ?_)))
  refine WO.mv rfl rfl ?_
  refine WO.val (run_nilCheck rfl) rfl rfl rfl ?_
  refine WO.val (run_fieldAddr (q := ⟨g, 1, none⟩) (show fieldB Tryz.prog 45 1 = some 1 from by kernel_rfl) rfl rfl) rfl rfl rfl ?_
  refine WO.val (run_load Ty.ag42 rfl ((h0.cel_at 0 rfl 1).trans rfl)) rfl rfl rfl ?_
  refine WO.call rfl rfl Ty.hd34 rfl (keys34_spec dx.r1 h0) (fun v2 w1 pv2 => ?_)
  obtain ⟨gk, rfl, hK, hS1⟩ := pv2
  clear h0
  have hS3 := hS1.permT [1, 0, 0, 0, 0, 0] (L' := mpS dx.r1 dx.e1 :: cel g [Value.int .i64 D.room, Value.map (some dx.r1), Value.map (some dx.r2), Value.slice dx.a dx.vs.length dx.cap, Value.bool D.dead, Value.int .i64 D.left] 45 :: mpS dx.r2 dx.e2 :: own dx.a dx.vs.length dx.cap 69 1 dx.vs :: chsA dx.gs D.ch dx.vs :: filesA dx.gs D.f :: L) rfl
  clear hS1
  refine WO.call rfl rfl Ty.hd33 rfl (sorted34_spec hK (names_perm ok) (names_sorted hw) (names_nodup ok hw) (names_len ok hw) (names_few ok hw) hS3) (fun v5 w4 pv5 => ?_)
  obtain ⟨a3, c3, rfl, hS4⟩ := pv5
  clear hS3
  refine WO.asg rfl rfl ?_
  refine WO.nil (NX.go (WP.ret ?_))
  refine NX.done (l := [.tmp 2]) rfl rfl ?_
  have e : namesD D = D.nm.map (·.1) := by unfold namesD; rw [if_neg (by rw [g6]; decide)]
  rw [e]
  have hz := (hS4.permT [2, 1, 1, 1, 1, 1, 0] (L' := cel g [Value.int .i64 D.room, Value.map (some dx.r1), Value.map (some dx.r2), Value.slice dx.a dx.vs.length dx.cap, Value.bool D.dead, Value.int .i64 D.left] 45 :: mpS dx.r1 dx.e1 :: mpS dx.r2 dx.e2 :: own dx.a dx.vs.length dx.cap 69 1 dx.vs :: chsA dx.gs D.ch dx.vs :: filesA dx.gs D.f :: own a3 ((D.nm.map (·.1)).length) c3 9 1 ((D.nm.map (·.1)).map str) :: L) rfl)
  exact ⟨a3, c3, rfl, (hz.dk_shut ok).permT [1, 0] rfl⟩
end Go.Proofs.YtiggkfaonnnjoaaGreatDoor.SL

/- A disk: a change of names. -/
namespace Go.Proofs.YtiggkfaonnnjoaaGreatDoor.SL
open Go.RowKit Go.Proofs.YtiggkfaonnnjoaaGreatDoor
open Go.Proofs.YtiggkfaonnnjoaaGreatDoorW.PrintLast (rtab opsOf)
set_option linter.unusedVariables false
set_option linter.unusedSimpArgs false
theorem put_spec1 {B w : World} {L : List HP} {r kf kn q : Nat} {nm : List UInt8} {es : List (List UInt8 × Value)} (hS : St B (scel kf [Value.pointer (some ⟨q, 0, none⟩)] 74 :: scel kn [str nm] 9 :: mpS r es :: L) w) : Does Tryz.prog 46 [Value.map (some r), Value.pointer (some ⟨kf, 0, none⟩), Value.pointer (some ⟨kn, 0, none⟩)] w (fun v w1 => v = .tuple #[] ∧ St B (scel kf [Value.pointer (some ⟨q, 0, none⟩)] 74 :: scel kn [str nm] 9 :: mpS r (putS es nm (ptrV q)) :: L) w1) := by
 refine enter (n := 7) Tryz.func46 rfl rfl [Value.map (some r), Value.pointer (some ⟨kf, 0, none⟩), Value.pointer (some ⟨kn, 0, none⟩)] rfl ?_
 refine WP.region rfl ?_
 refine WO.mv rfl rfl ?_
 refine WO.val (run_load Ty.ag9 rfl ((hS.scel_at 1 rfl 0).trans rfl)) rfl rfl rfl ?_
 refine WO.val (run_load Ty.ag74 rfl ((hS.scel_at 0 rfl 0).trans rfl)) rfl rfl rfl ?_
 refine WO.mapUpdateS 2 hS rfl Tryz.underlying42 Tryz.underlying9 rfl rfl rfl (fun w1 hS1 => ?_)
 replace hS1 : St B (scel kf [Value.pointer (some ⟨q, 0, none⟩)] 74 :: scel kn [str nm] 9 :: mpS r (putS es nm (Value.pointer (some ⟨q, 0, none⟩))) :: L) w1 := hS1
 clear hS
 refine WO.nil ?_
 refine NX.ended (l := []) rfl rfl ?_
 exact ⟨rfl, hS1⟩
theorem mov_spec1 {B w : World} {L : List HP} {r k1 kf kn q : Nat} {fr nm : List UInt8} {es : List (List UInt8 × Value)} (hS : St B (scel k1 [str fr] 9 :: scel kf [Value.pointer (some ⟨q, 0, none⟩)] 74 :: scel kn [str nm] 9 :: mpS r es :: L) w) : Does Tryz.prog 61 [Value.map (some r), Value.pointer (some ⟨k1, 0, none⟩), Value.pointer (some ⟨kf, 0, none⟩), Value.pointer (some ⟨kn, 0, none⟩)] w (fun v w1 => v = .tuple #[] ∧ St B (scel k1 [str fr] 9 :: scel kf [Value.pointer (some ⟨q, 0, none⟩)] 74 :: scel kn [str nm] 9 :: mpS r (putS (delS es fr) nm (ptrV q)) :: L) w1) := by
 refine enter (n := 10) Tryz.func61 rfl rfl [Value.map (some r), Value.pointer (some ⟨k1, 0, none⟩), Value.pointer (some ⟨kf, 0, none⟩), Value.pointer (some ⟨kn, 0, none⟩)] rfl ?_
 refine WP.seq (WP.region rfl ?_)
 refine WO.mv rfl rfl ?_
 refine WO.val (run_load Ty.ag9 rfl ((hS.scel_at 0 rfl 0).trans rfl)) rfl rfl rfl ?_
 refine WO.deleteS 3 hS rfl rfl Tryz.underlying42 Tryz.underlying9 rfl rfl (fun w1 hS1 => ?_)
 replace hS1 : St B (scel k1 [str fr] 9 :: scel kf [Value.pointer (some ⟨q, 0, none⟩)] 74 :: scel kn [str nm] 9 :: mpS r (delS es fr) :: L) w1 := hS1
 clear hS
 refine WO.nil (NX.go (WP.region rfl ?_))
 refine WO.mv rfl rfl ?_
 refine WO.val (run_load Ty.ag9 rfl ((hS1.scel_at 2 rfl 0).trans rfl)) rfl rfl rfl ?_
 refine WO.val (run_load Ty.ag74 rfl ((hS1.scel_at 1 rfl 0).trans rfl)) rfl rfl rfl ?_
 refine WO.mapUpdateS 3 hS1 rfl Tryz.underlying42 Tryz.underlying9 rfl rfl rfl (fun w2 hS2 => ?_)
 replace hS2 : St B (scel k1 [str fr] 9 :: scel kf [Value.pointer (some ⟨q, 0, none⟩)] 74 :: scel kn [str nm] 9 :: mpS r (putS (delS es fr) nm (Value.pointer (some ⟨q, 0, none⟩))) :: L) w2 := hS2
 clear hS1
 refine WO.nil ?_
 refine NX.ended (l := []) rfl rfl ?_
 exact ⟨rfl, hS2⟩
theorem del_spec1 {B w : World} {L : List HP} {r k1 : Nat} {fr : List UInt8} {es : List (List UInt8 × Value)} (hS : St B (scel k1 [str fr] 9 :: mpS r es :: L) w) : Does Tryz.prog 48 [Value.map (some r), Value.pointer (some ⟨k1, 0, none⟩)] w (fun v w1 => v = .tuple #[] ∧ St B (scel k1 [str fr] 9 :: mpS r (delS es fr) :: L) w1) := by
 refine enter (n := 5) Tryz.func48 rfl rfl [Value.map (some r), Value.pointer (some ⟨k1, 0, none⟩)] rfl ?_
 refine WP.region rfl ?_
 refine WO.mv rfl rfl ?_
 refine WO.val (run_load Ty.ag9 rfl ((hS.scel_at 0 rfl 0).trans rfl)) rfl rfl rfl ?_
 refine WO.deleteS 1 hS rfl rfl Tryz.underlying42 Tryz.underlying9 rfl rfl (fun w1 hS1 => ?_)
 replace hS1 : St B (scel k1 [str fr] 9 :: mpS r (delS es fr) :: L) w1 := hS1
 clear hS
 refine WO.nil ?_
 refine NX.ended (l := []) rfl rfl ?_
 exact ⟨rfl, hS1⟩

/-- A change is done by the function value that was laid aside. -/
theorem chg_call {B w : World} {L : List HP} {gs : List Nat} {c : Chg} {v : Value} {r f : Nat} {es : List (List UInt8 × Value)} {cs : List Value} (hv : v = .func (.func f) #[] cs.toArray) (h : St B (chgA gs c v :: mpS r es :: L) w) :
    Has Tryz.prog f ∧ Does Tryz.prog f ([.map (some r)] ++ cs) w (fun _ w1 => St B (chgA gs c v :: mpS r (applyE gs es c) :: L) w1) := by
  unfold chgA applyE at *
  split at h
  · rename_i ht
    simp only [if_pos ht]
    obtain ⟨k1, h1⟩ := h.ex
    obtain ⟨rfl, h2⟩ := h1.sep.pure
    cases hv
    refine ⟨Ty.hd48, (del_spec1 (h2)).mono fun _ w' ⟨_, h5⟩ => ?_⟩
    refine ((h5.addPure (p := Value.func (.func 48) #[] #[ptrV k1] = .func (.func 48) #[] #[ptrV k1]) rfl).join.give k1)
  · rename_i ht
    split at h
    · rename_i hf
      simp only [if_neg ht, if_pos hf]
      obtain ⟨⟨kf, kn⟩, h1⟩ := h.ex
      obtain ⟨rfl, h2⟩ := h1.sep.pure
      cases hv
      refine ⟨Ty.hd46, (put_spec1 (h2.sep)).mono fun _ w' ⟨_, h5⟩ => ?_⟩
      exact ((h5.join.addPure (p := Value.func (.func 46) #[] #[ptrV kf, ptrV kn] = .func (.func 46) #[] #[ptrV kf, ptrV kn]) rfl).join.give (kf, kn))
    · rename_i hf
      simp only [if_neg ht, if_neg hf]
      obtain ⟨⟨k1, kf, kn⟩, h1⟩ := h.ex
      obtain ⟨rfl, h2⟩ := h1.sep.pure
      cases hv
      have h3 := ((h2.sep.permT [1, 0] rfl).sep.permT [2, 0, 0] (L' := scel k1 [str c.fr] 9 :: scel kf [ptrV (gs.getD c.fi 0)] 74 :: scel kn [str c.tn] 9 :: mpS r es :: L) rfl)
      refine ⟨Ty.hd61, (mov_spec1 h3).mono fun _ w' ⟨_, h5⟩ => ?_⟩
      have h6 := (h5.permT [1, 1, 0] rfl).join.permT [1, 0] (L' := scel k1 [str c.fr] 9 :: .sep (scel kf [ptrV (gs.getD c.fi 0)] 74) (scel kn [str c.tn] 9) :: mpS r (putS (delS es c.fr) c.tn (ptrV (gs.getD c.fi 0))) :: L) rfl
      exact ((h6.join.addPure (p := Value.func (.func 61) #[] #[ptrV k1, ptrV kf, ptrV kn] = .func (.func 61) #[] #[ptrV k1, ptrV kf, ptrV kn]) rfl).join.give (k1, kf, kn))
theorem chg_form {B w : World} {L : List HP} {gs : List Nat} {c : Chg} {v : Value} (h : St B (chgA gs c v :: L) w) : ∃ f cs, v = .func (.func f) #[] (List.toArray cs) := by
  unfold chgA at h
  split at h
  · obtain ⟨k1, h1⟩ := h.ex; obtain ⟨rfl, h2⟩ := h1.sep.pure; exact ⟨_, [ptrV k1], rfl⟩
  · split at h
    · obtain ⟨⟨kf, kn⟩, h1⟩ := h.ex; obtain ⟨rfl, h2⟩ := h1.sep.pure; exact ⟨_, [ptrV kf, ptrV kn], rfl⟩
    · obtain ⟨⟨k1, kf, kn⟩, h1⟩ := h.ex; obtain ⟨rfl, h2⟩ := h1.sep.pure; exact ⟨_, [ptrV k1, ptrV kf, ptrV kn], rfl⟩
theorem mk_put {B w : World} {L : List HP} {gs : List Nat} {c : Chg} {kf kn q : Nat} (ht : ¬ c.tn = []) (hf : c.fr = []) (hq : q = gs.getD c.fi 0) (h : St B (scel kf [ptrV q] 74 :: scel kn [str c.tn] 9 :: L) w) : St B (chgA gs c (.func (.func 46) #[] #[ptrV kf, ptrV kn]) :: L) w := by
  unfold chgA
  rw [if_neg ht, if_pos hf, ← hq]
  exact ((h.join.addPure (p := Value.func (.func 46) #[] #[ptrV kf, ptrV kn] = .func (.func 46) #[] #[ptrV kf, ptrV kn]) rfl).join.give (kf, kn))

theorem mk_mov {B w : World} {L : List HP} {gs : List Nat} {c : Chg} {k1 kf kn q : Nat} (ht : ¬ c.tn = []) (hf : ¬ c.fr = []) (hq : q = gs.getD c.fi 0) (h : St B (scel k1 [str c.fr] 9 :: scel kf [ptrV q] 74 :: scel kn [str c.tn] 9 :: L) w) : St B (chgA gs c (.func (.func 61) #[] #[ptrV k1, ptrV kf, ptrV kn]) :: L) w := by
  unfold chgA
  rw [if_neg ht, if_neg hf, ← hq]
  have h6 := (h.permT [1, 1, 0] rfl).join.permT [1, 0] (L' := scel k1 [str c.fr] 9 :: .sep (scel kf [ptrV q] 74) (scel kn [str c.tn] 9) :: L) rfl
  exact ((h6.join.addPure (p := Value.func (.func 61) #[] #[ptrV k1, ptrV kf, ptrV kn] = .func (.func 61) #[] #[ptrV k1, ptrV kf, ptrV kn]) rfl).join.give (k1, kf, kn))

theorem mk_del {B w : World} {L : List HP} {gs : List Nat} {c : Chg} {k1 : Nat} (ht : c.tn = []) (h : St B (scel k1 [str c.fr] 9 :: L) w) : St B (chgA gs c (.func (.func 48) #[] #[ptrV k1]) :: L) w := by
  unfold chgA
  rw [if_pos ht]
  exact ((h.addPure (p := Value.func (.func 48) #[] #[ptrV k1] = .func (.func 48) #[] #[ptrV k1]) rfl).join.give k1)
theorem dchange_spec {B w : World} {L : List HP} {g r1 r2 cap f : Nat} {room left : Int} {a : Option Addr} {dead : Bool} {gs : List Nat} {c : Chg} {es : List (List UInt8 × Value)} {vs cs : List Value} (hvs : vs.length ≤ 1099511627776) (hS : St B (chgA gs c (Value.func (.func f) #[] cs.toArray) :: mpS r1 es :: cel g [Value.int .i64 room, Value.map (some r1), Value.map (some r2), Value.slice a vs.length cap, Value.bool dead, Value.int .i64 left] 45 :: own a vs.length cap 69 1 vs :: L) w) : Does Tryz.prog 45 [Value.pointer (some ⟨g, 0, none⟩), Value.func (.func f) #[] cs.toArray] w (fun v w1 => ∃ a2 c2, v = .tuple #[] ∧ St B (chgA gs c (Value.func (.func f) #[] cs.toArray) :: mpS r1 (applyE gs es c) :: cel g [Value.int .i64 room, Value.map (some r1), Value.map (some r2), Value.slice a2 ((vs ++ [Value.func (.func f) #[] cs.toArray]).length) c2, Value.bool dead, Value.int .i64 left] 45 :: own a2 ((vs ++ [Value.func (.func f) #[] cs.toArray]).length) c2 69 1 (vs ++ [Value.func (.func f) #[] cs.toArray]) :: L) w1) := by
 refine enter (n := 20) Tryz.func45 rfl rfl [Value.pointer (some ⟨g, 0, none⟩), Value.func (.func f) #[] cs.toArray] rfl ?_
 refine WP.seq (WP.region rfl ?_)
 refine WO.mv rfl rfl ?_
 refine WO.mv rfl rfl ?_
 refine WO.val (run_nilCheck rfl) rfl rfl rfl ?_
 refine WO.val (run_fieldAddr (q := ⟨g, 1, none⟩) (show fieldB Tryz.prog 45 1 = some 1 from by kernel_rfl) rfl rfl) rfl rfl rfl ?_
 refine WO.val (run_load Ty.ag42 rfl ((hS.cel_at 2 rfl 1).trans rfl)) rfl rfl rfl ?_
 obtain ⟨hF, hD⟩ := chg_call rfl hS
 refine WO.callV (us := []) (cs := cs) rfl rfl hF rfl hD (fun v2 w1 hS1 => ?_)
 clear hS
 refine WO.nil (NX.go (WP.region rfl ?_))
 refine WO.mv rfl rfl ?_
 refine WO.mv rfl rfl ?_
 refine WO.val (run_nilCheck rfl) rfl rfl rfl ?_
 refine WO.val (run_fieldAddr (q := ⟨g, 3, none⟩) (show fieldB Tryz.prog 45 3 = some 3 from by kernel_rfl) rfl rfl) rfl rfl rfl ?_
 refine WO.val (run_load Ty.ag43 rfl ((hS1.cel_at 2 rfl 3).trans rfl)) rfl rfl rfl ?_
 refine WO.mv rfl rfl ?_
 refine WO.buildSlice (l := [Value.func (.func f) #[] cs.toArray]) hS1 Tryz.underlying43 rfl (fun w => by kernel_rfl) rfl (fun g4 w3 lg4 hS3 => ?_)
 clear hS1
 have hS3 := hS3.own_of_cel (m := 1) (k := 1) rfl
 refine WO.append (news := [Value.func (.func f) #[] cs.toArray]) 4 rfl Tryz.underlying43 Tryz.underlying43 (fun _ h => by cases h) Ty.sz69 (by decide) Ty.by69 Ty.zr69 rfl rfl rfl rfl hS3 rfl ((hS3.own_rd_i 0 rfl).src) rfl (by omega) (by omega) (fun a6 c7 w5 hS5 => ?_)
 replace hS5 : St B (own (some ⟨g4, 0, none⟩) 1 1 69 1 [Value.func (.func f) #[] cs.toArray] :: chgA gs c (Value.func (.func f) #[] cs.toArray) :: mpS r1 (applyE gs es c) :: cel g [Value.int .i64 room, Value.map (some r1), Value.map (some r2), Value.slice a vs.length cap, Value.bool dead, Value.int .i64 left] 45 :: own a6 ((vs ++ [Value.func (.func f) #[] cs.toArray]).length) c7 69 1 (vs ++ [Value.func (.func f) #[] cs.toArray]) :: L) w5 := (by rw [List.length_append]; exact hS5)
 refine WO.as (d := 17) (v := Value.slice a6 ((vs ++ [Value.func (.func f) #[] cs.toArray]).length) c7) rfl (by simp) ?_
 clear hS3
 refine WO.val (run_nilCheck rfl) rfl rfl rfl ?_
 refine WO.val (run_fieldAddr (q := ⟨g, 3, none⟩) (show fieldB Tryz.prog 45 3 = some 3 from by kernel_rfl) rfl rfl) rfl rfl rfl ?_
 refine WO.store (l' := [Value.int .i64 room, Value.map (some r1), Value.map (some r2), Value.slice a6 ((vs ++ [Value.func (.func f) #[] cs.toArray]).length) c7, Value.bool dead, Value.int .i64 left]) 3 hS5 rfl Ty.sz43 rfl rfl rfl rfl rfl (Nat.le_of_ble_eq_true rfl) rfl (fun w8 (hS8 : St B (own (some ⟨g4, 0, none⟩) 1 1 69 1 [Value.func (.func f) #[] cs.toArray] :: chgA gs c (Value.func (.func f) #[] cs.toArray) :: mpS r1 (applyE gs es c) :: cel g [Value.int .i64 room, Value.map (some r1), Value.map (some r2), Value.slice a6 ((vs ++ [Value.func (.func f) #[] cs.toArray]).length) c7, Value.bool dead, Value.int .i64 left] 45 :: own a6 ((vs ++ [Value.func (.func f) #[] cs.toArray]).length) c7 69 1 (vs ++ [Value.func (.func f) #[] cs.toArray]) :: L) w8) => ?_)
 clear hS5
 refine WO.nil ?_
 refine NX.ended (l := []) rfl rfl ?_
 exact ⟨a6, c7, rfl, hS8.drop⟩
end Go.Proofs.YtiggkfaonnnjoaaGreatDoor.SL

/- A disk: bytes behind a file. -/
namespace Go.Proofs.YtiggkfaonnnjoaaGreatDoor.SL
open Go.RowKit Go.Proofs.YtiggkfaonnnjoaaGreatDoor
open Go.Proofs.YtiggkfaonnnjoaaGreatDoorW.PrintLast (rtab opsOf)
set_option linter.unusedVariables false
set_option linter.unusedSimpArgs false

theorem WFD.room {D : Dk} {n t : Nat} (hw : WFD D) (hb : Bnd D n t) (ht : t ≤ 1099511627776) : -9223372036854775808 ≤ D.room - ((usedN D.f D.nm : Nat) : Int) ∧ D.room - ((usedN D.f D.nm : Nat) : Int) ≤ 9223372036854775807 := by
  have hu : usedN D.f D.nm ≤ 70368744177664 := Nat.le_trans (usedN_le hb D.nm) (Nat.mul_le_mul hw.nm64 ht)
  have hr := hw.rng
  rcases Int.lt_or_le D.room 0 with h | h
  · have h0 : D.nm = [] := by
      cases e : D.nm with
      | nil => rfl
      | cons x l =>
        have := (hw.good.f x (by rw [e]; exact List.mem_cons_self ..)).2
        rw [hw.neg h] at this
        exact absurd this (Nat.not_lt_zero _)
    rw [h0]
    show -9223372036854775808 ≤ D.room - ((0 : Nat) : Int) ∧ _
    omega
  · omega
theorem getD_new {gs : List Nat} {g n : Nat} (h : gs.length = n) : (gs ++ [g]).getD n 0 = g := by
  rw [List.getD_eq_getElem?_getD, List.getElem?_append_right (by omega), h, Nat.sub_self]; rfl
theorem append_ok {dx : DkX} {D D1 : Dk} {k s : List UInt8} {gf : Nat} {a : Option Addr} {cap : Nat} {v : Value} (ok : OkX dx D) (hw : WFD D) (hk : fileF k = true) (h1 : D1.f = D.f) (h2 : D1.nm = D.nm) (h3 : D1.last = D.last) (h4 : D1.ch = D.ch) :
    OkX ⟨dx.gs ++ [gf], dx.r1, applyE (dx.gs ++ [gf]) dx.e1 ⟨[], k, D.f.length⟩, dx.r2, dx.e2, a, cap, dx.vs ++ [v]⟩ { changeD { D1 with f := D1.f ++ [([], 0)] } ⟨[], k, D1.f.length⟩ with f := D1.f ++ [(s, 0)] } := by
  have hlt : ∀ l : Nm, GoodN l D.f.length → ∀ e ∈ l, e.2 < dx.gs.length := fun l h e he => by rw [ok.g]; exact (h.f e he).2
  refine ⟨?_, ?_, ?_, ?_⟩
  · show (dx.gs ++ [gf]).length = (D1.f ++ [(s, 0)]).length
    rw [List.length_append, List.length_append, ok.g, h1]; rfl
  · show (applyE (dx.gs ++ [gf]) dx.e1 ⟨[], k, D.f.length⟩).Perm (esOf (dx.gs ++ [gf]) (applyN D1.nm ⟨[], k, D1.f.length⟩))
    rw [h1, h2]
    refine applyE_perm (n := D.f.length + 1) ?_ (hw.good.mono (Nat.le_succ _)) (.inr ⟨hk, Nat.lt_succ_self _, .inl rfl⟩)
    rw [esOf_grow (hlt _ hw.good)]; exact ok.p1
  · show dx.e2.Perm (esOf (dx.gs ++ [gf]) D1.last)
    rw [h3, esOf_grow (hlt _ hw.last)]; exact ok.p2
  · show (D1.ch ++ [_]).length = (dx.vs ++ [v]).length
    rw [List.length_append, List.length_append, h4, ok.v]; rfl
theorem dappend_spec_t3 : rtab .any (opsOf Tryz.f24 3) = (true, [([], []), ([0], [0]), ([1], [1]), ([2], [2]), ([], []), ([3, 4], [3, 4]), ([], []), ([6, 5, 0, 1, 2, 3, 4, 5, 6], [5, 6])]) := by kernel_rfl
theorem dappend_spec_t6 : rtab .any (opsOf Tryz.f24 6) = (true, [([], []), ([0], [0]), ([], []), ([2], [2]), ([3], [3]), ([4], [4]), ([], []), ([6], [6]), ([5, 7], [5, 7]), ([1, 8], [1, 8]), ([9, 7], [9]), ([10], [10]), ([11, 10], [10, 11]), ([12, 10, 10], [10, 12]), ([13], [13]), ([14, 13], [13, 14]), ([15, 13], [13, 15]), ([16, 13], [13, 16]), ([17, 13, 13], [13, 17]), ([18, 13], [13, 18]), ([13, 19, 10], [10, 13, 19]), ([10, 20], [10, 20]), ([21, 18], [21])]) := by kernel_rfl
theorem dappend_spec {B w : World} {L : List HP} {g : Nat} {D : Dk} {n t : Nat} (hw : WFD D) (hb : Bnd D n t) (hn1 : n ≤ 1000000000) (ht : t ≤ 1099511627776) (k s : List UInt8) (hkl : k.length ≤ 140737488355328) (hsl : s.length ≤ 140737488355328) (hS : St B (dkA g D :: L) w) : Does Tryz.prog 24 [Value.pointer (some ⟨g, 0, none⟩), str k, str s] w (fun v w1 => v = .int .i64 (appendD D k s).2 ∧ St B (dkA g (appendD D k s).1 :: L) w1) := by
 obtain ⟨dx, ok, h0⟩ := hS.dk_open
 clear hS
 have he1 : dx.e1.length = D.nm.length := by have := ok.p1.length_eq; unfold esOf at this; rw [List.length_map] at this; exact this
 have hroom := hw.room hb ht
 have hvs : dx.vs.length ≤ 1099511627776 := by have := ok.v; have := hb.ch; omega
 refine enter (n := 59) Tryz.func24 rfl rfl [Value.pointer (some ⟨g, 0, none⟩), str k, str s] rfl ?_
 refine WP.seq (WP.region rfl ?_)
 refine WO.box (l := [str k]) h0 rfl rfl rfl (fun g2 w1 lg2 hS1 => ?_)
 clear h0
 refine WO.asg rfl rfl ?_
 refine WO.nil (NX.go (WP.seq (WP.seq (WP.region rfl ?_))))
 refine WO.mv rfl rfl ?_
 have hS3 := hS1.permT [1, 0, 0, 0, 0, 0, 0] (L' := cel g [Value.int .i64 D.room, Value.map (some dx.r1), Value.map (some dx.r2), Value.slice dx.a dx.vs.length dx.cap, Value.bool D.dead, Value.int .i64 D.left] 45 :: cel g2 [str k] 9 :: mpS dx.r1 dx.e1 :: mpS dx.r2 dx.e2 :: own dx.a dx.vs.length dx.cap 69 1 dx.vs :: chsA dx.gs D.ch dx.vs :: filesA dx.gs D.f :: L) rfl
 clear hS1
 refine WO.call rfl rfl Ty.hd42 rfl (dwrite_spec hw.left hw.lrng hS3) (fun v5 w4 pv5 => ?_)
 obtain ⟨rfl, hS4⟩ := pv5
 clear hS3
 refine WO.val (run_not rfl rfl) rfl rfl rfl ?_
 refine WO.nil (NX.go ?_)
 refine WP.condB rfl (fun g10 => ?_) (fun g10 => ?_)
 ·
  refine WP.seq (WP.region rfl ?_)
  refine WO.asg rfl rfl ?_
  refine WO.nil (NX.go (WP.ret (NX.thenRet ?_)))
  refine NX.done (l := [.tmp 6]) rfl rfl ?_
  have e : appendD D k s = ({ D with dead := wDead D.dead D.left, left := wLeft D.dead D.left }, 11) := by unfold appendD; rw [onWrite_eq, if_neg (by simpa using g10)]
  rw [e]
  exact ⟨rfl, St.dk_shut (D := { D with dead := wDead D.dead D.left, left := wLeft D.dead D.left }) ⟨ok.g, ok.p1, ok.p2, ok.v⟩ ((hS4.permT [1, 0, 0, 0, 0, 0, 0] (L' := cel g2 [str k] 9 :: cel g [Value.int .i64 D.room, Value.map (some dx.r1), Value.map (some dx.r2), Value.slice dx.a dx.vs.length dx.cap, Value.bool (wDead D.dead D.left), Value.int .i64 (wLeft D.dead D.left)] 45 :: mpS dx.r1 dx.e1 :: mpS dx.r2 dx.e2 :: own dx.a dx.vs.length dx.cap 69 1 dx.vs :: chsA dx.gs D.ch dx.vs :: filesA dx.gs D.f :: L) rfl).drop)⟩
 ·
  refine WP.skip (NX.go (WP.seq ?_))
  refine WD.start (fun w => (∀ jz, World.cell? w ⟨g, jz, none⟩ = [Value.int .i64 D.room, Value.map (some dx.r1), Value.map (some dx.r2), Value.slice dx.a dx.vs.length dx.cap, Value.bool (wDead D.dead D.left), Value.int .i64 (wLeft D.dead D.left)][jz]?) ∧ (∀ jz, World.cell? w ⟨g2, jz, none⟩ = [str k][jz]?)) [] (bt 8 0) Ty.mo rfl (by kernel_rfl) hS4 (fun _ h => ⟨h.cel_at 0 rfl, h.cel_at 1 rfl⟩) (fun w6 hS6 s7 => ?_)
  clear hS4
  refine WD.pure (i := 0) dappend_spec_t3 (bt 8 1) rfl rfl rfl (by kernel_rfl) (PQ.then PQ.body) rfl (fun w => run_move rfl) ?_
  refine WD.pure (i := 1) dappend_spec_t3 (bt 8 3) rfl rfl rfl (by kernel_rfl) (PQ.then PQ.body) rfl (fun w => run_nilCheck rfl) ?_
  refine WD.pure (i := 2) dappend_spec_t3 (bt 8 7) rfl rfl rfl (by kernel_rfl) (PQ.then PQ.body) rfl (fun w => run_fieldAddr (q := ⟨g, 1, none⟩) (show fieldB Tryz.prog 45 1 = some 1 from by kernel_rfl) rfl rfl) ?_
  refine WD.take (i := 3) dappend_spec_t3 (bt 8 15) s7 rfl rfl rfl (by kernel_rfl) (PQ.then PQ.body) rfl (fun w hs => run_load Ty.ag42 rfl ((hs.1 1).trans rfl)) ?_
  refine WD.take (i := 4) dappend_spec_t3 (bt 8 31) s7 rfl rfl rfl (by kernel_rfl) (PQ.then PQ.body) rfl (fun w hs => run_load Ty.ag9 rfl ((hs.2 0).trans rfl)) ?_
  refine WD.two (i := 5) (k := 6) dappend_spec_t3 (bt 8 63) (bt 8 95) rfl rfl (by kernel_rfl) ?_ ?_
  ·
   refine WO.val (run_lookupS 2 hS6 rfl Tryz.underlying42 Tryz.underlying9 Ty.zr74 rfl rfl (look_ok ok hw k)) rfl rfl rfl ?_
   refine WO.nil ?_
   have s8 : (∀ jz, World.cell? w6 ⟨g, jz, none⟩ = [Value.int .i64 D.room, Value.map (some dx.r1), Value.map (some dx.r2), Value.slice dx.a dx.vs.length dx.cap, Value.bool (wDead D.dead D.left), Value.int .i64 (wLeft D.dead D.left)][jz]?) ∧ (∀ jz, World.cell? w6 ⟨g2, jz, none⟩ = [str k][jz]?) := ⟨hS6.cel_at 0 rfl, hS6.cel_at 1 rfl⟩
   refine NX.held s8 ?_
   refine WD.one (i := 6) dappend_spec_t3 (bt 8 127) rfl (by kernel_rfl) ?_
   refine WO.alloc (l := [Value.pointer none]) hS6 Ty.zr74 rfl rfl (fun g11 w9 lg11 hS9 => ?_)
   clear hS6
   refine WO.nil ?_
   have s12 : (∀ jz, World.cell? w9 ⟨g, jz, none⟩ = [Value.int .i64 D.room, Value.map (some dx.r1), Value.map (some dx.r2), Value.slice dx.a dx.vs.length dx.cap, Value.bool (wDead D.dead D.left), Value.int .i64 (wLeft D.dead D.left)][jz]?) ∧ (∀ jz, World.cell? w9 ⟨g2, jz, none⟩ = [str k][jz]?) := ⟨hS9.cel_at 1 rfl, hS9.cel_at 2 rfl⟩
   refine NX.held s12 ?_
   refine WD.one (i := 7) dappend_spec_t3 (bt 8 255) rfl (by kernel_rfl) ?_
   refine WO.store (l' := [Value.pointer (findP dx.gs k D.nm)]) 0 hS9 rfl Ty.sz74 rfl rfl rfl rfl rfl (Nat.le_of_ble_eq_true rfl) rfl (fun w13 (hS13 : St B (cel g11 [Value.pointer (findP dx.gs k D.nm)] 74 :: cel g [Value.int .i64 D.room, Value.map (some dx.r1), Value.map (some dx.r2), Value.slice dx.a dx.vs.length dx.cap, Value.bool (wDead D.dead D.left), Value.int .i64 (wLeft D.dead D.left)] 45 :: cel g2 [str k] 9 :: mpS dx.r1 dx.e1 :: mpS dx.r2 dx.e2 :: own dx.a dx.vs.length dx.cap 69 1 dx.vs :: chsA dx.gs D.ch dx.vs :: filesA dx.gs D.f :: L) w13) => ?_)
   clear hS9
   refine WO.nil ?_
   have s14 : (∀ jz, World.cell? w13 ⟨g, jz, none⟩ = [Value.int .i64 D.room, Value.map (some dx.r1), Value.map (some dx.r2), Value.slice dx.a dx.vs.length dx.cap, Value.bool (wDead D.dead D.left), Value.int .i64 (wLeft D.dead D.left)][jz]?) ∧ (∀ jz, World.cell? w13 ⟨g2, jz, none⟩ = [str k][jz]?) := ⟨hS13.cel_at 1 rfl, hS13.cel_at 2 rfl⟩
   refine NX.held s14 ?_
   refine WD.done dappend_spec_t3 (by kernel_rfl) ?_
   refine NX.go (WP.seq (WP.block (WP.seq (WP.region rfl ?_))))
   refine WO.val (run_load Ty.ag9 rfl ((hS13.cel_at 2 rfl 0).trans rfl)) rfl rfl rfl ?_
   refine WO.call rfl rfl Ty.hd43 rfl (dright_spec k (by omega) hS13) (fun v16 w15 pv16 => ?_)
   obtain ⟨rfl, hS15⟩ := pv16
   clear hS13
   refine WO.val (run_not rfl rfl) rfl rfl rfl ?_
   refine WO.asg rfl rfl ?_
   refine WO.nil (NX.go ?_)
   refine WP.condB rfl (fun g17 => ?_) (fun g17 => ?_)
   ·
    refine WP.seq (WP.region rfl ?_)
    refine WO.asg rfl rfl ?_
    refine WO.nil (NX.go (WP.ret (NX.blkRet (NX.thenRet ?_))))
    refine NX.done (l := [.tmp 6]) rfl rfl ?_
    have e : appendD D k s = ({ D with dead := wDead D.dead D.left, left := wLeft D.dead D.left }, 3) := by unfold appendD; rw [onWrite_eq, if_pos (by simpa using g10)]; show append1 _ k s = _; unfold append1; rw [if_pos (by simpa using g17)]
    rw [e]
    exact ⟨rfl, St.dk_shut (D := { D with dead := wDead D.dead D.left, left := wLeft D.dead D.left }) ⟨ok.g, ok.p1, ok.p2, ok.v⟩ ((hS15.permT [0, 1, 0, 0, 0, 0, 0, 0] (L' := cel g11 [Value.pointer (findP dx.gs k D.nm)] 74 :: cel g2 [str k] 9 :: cel g [Value.int .i64 D.room, Value.map (some dx.r1), Value.map (some dx.r2), Value.slice dx.a dx.vs.length dx.cap, Value.bool (wDead D.dead D.left), Value.int .i64 (wLeft D.dead D.left)] 45 :: mpS dx.r1 dx.e1 :: mpS dx.r2 dx.e2 :: own dx.a dx.vs.length dx.cap 69 1 dx.vs :: chsA dx.gs D.ch dx.vs :: filesA dx.gs D.f :: L) rfl).drop.drop)⟩
   ·
    have hk : fileF k = true := by simpa using g17
    refine WP.seq ?_
    refine WD.start (fun w => (∀ jz, World.cell? w ⟨g, jz, none⟩ = [Value.int .i64 D.room, Value.map (some dx.r1), Value.map (some dx.r2), Value.slice dx.a dx.vs.length dx.cap, Value.bool (wDead D.dead D.left), Value.int .i64 (wLeft D.dead D.left)][jz]?)) [] (bt 23 0) Ty.mo rfl (by kernel_rfl) hS15 (fun _ h => h.cel_at 1 rfl) (fun w17 hS17 s18 => ?_)
    clear hS15
    refine WD.pure (i := 0) dappend_spec_t6 (bt 23 1) rfl rfl rfl (by kernel_rfl) (PQ.then (PQ.blk (PQ.then PQ.body))) rfl (fun w => run_move rfl) ?_
    refine WD.pure (i := 1) dappend_spec_t6 (bt 23 3) rfl rfl rfl (by kernel_rfl) (PQ.then (PQ.blk (PQ.then PQ.body))) rfl (fun w => run_lenS rfl Tryz.underlying9 rfl) ?_
    refine WD.pure (i := 2) dappend_spec_t6 (bt 23 7) rfl rfl rfl (by kernel_rfl) (PQ.then (PQ.blk (PQ.then PQ.body))) rfl (fun w => run_move rfl) ?_
    refine WD.pure (i := 3) dappend_spec_t6 (bt 23 15) rfl rfl rfl (by kernel_rfl) (PQ.then (PQ.blk (PQ.then PQ.body))) rfl (fun w => run_nilCheck rfl) ?_
    refine WD.pure (i := 4) dappend_spec_t6 (bt 23 31) rfl rfl rfl (by kernel_rfl) (PQ.then (PQ.blk (PQ.then PQ.body))) rfl (fun w => run_fieldAddr (q := ⟨g, 0, none⟩) (show fieldB Tryz.prog 45 0 = some 0 from by kernel_rfl) rfl rfl) ?_
    refine WD.take (i := 5) dappend_spec_t6 (bt 23 63) s18 rfl rfl rfl (by kernel_rfl) (PQ.then (PQ.blk (PQ.then PQ.body))) rfl (fun w hs => run_load Ty.ag3 rfl ((hs 0).trans rfl)) ?_
    refine WD.pure (i := 6) dappend_spec_t6 (bt 23 127) rfl rfl rfl (by kernel_rfl) (PQ.then (PQ.blk (PQ.then PQ.body))) rfl (fun w => run_move rfl) ?_
    refine WD.one (i := 7) dappend_spec_t6 (bt 23 255) rfl (by kernel_rfl) ?_
    have hS19 := hS17.permT [1, 2, 2, 2, 2, 2, 0, 0] (L' := cel g [Value.int .i64 D.room, Value.map (some dx.r1), Value.map (some dx.r2), Value.slice dx.a dx.vs.length dx.cap, Value.bool (wDead D.dead D.left), Value.int .i64 (wLeft D.dead D.left)] 45 :: mpS dx.r1 dx.e1 :: mpS dx.r2 dx.e2 :: own dx.a dx.vs.length dx.cap 69 1 dx.vs :: chsA dx.gs D.ch dx.vs :: filesA dx.gs D.f :: cel g11 [Value.pointer (findP dx.gs k D.nm)] 74 :: cel g2 [str k] 9 :: L) rfl
    clear hS17
    refine WO.call rfl rfl Ty.hd44 rfl (dused_open (D := { D with dead := wDead D.dead D.left, left := wLeft D.dead D.left }) (dx := dx) ⟨ok.g, ok.p1, ok.p2, ok.v⟩ hw.w ⟨hb.ch, hb.f, hb.t⟩ ht hS19) (fun v21 w20 pv21 => ?_)
    obtain ⟨rfl, hS20⟩ := pv21
    clear hS19
    refine WO.nil ?_
    have s22 : (∀ jz, World.cell? w20 ⟨g, jz, none⟩ = [Value.int .i64 D.room, Value.map (some dx.r1), Value.map (some dx.r2), Value.slice dx.a dx.vs.length dx.cap, Value.bool (wDead D.dead D.left), Value.int .i64 (wLeft D.dead D.left)][jz]?) := hS20.cel_at 0 rfl
    refine NX.held s22 ?_
    refine WD.pure (i := 8) dappend_spec_t6 (bt 23 511) rfl rfl rfl (by kernel_rfl) (PQ.then (PQ.blk (PQ.then PQ.body))) rfl (fun w => run_sub rfl rfl (IntWalk.i64_in _ (by omega))) ?_
    refine WD.pure (i := 9) dappend_spec_t6 (bt 23 1023) rfl rfl rfl (by kernel_rfl) (PQ.then (PQ.blk (PQ.then PQ.body))) rfl (fun w => run_gtr rfl rfl) ?_
    refine WD.pure (i := 10) dappend_spec_t6 (bt 23 2047) rfl rfl rfl (by kernel_rfl) (PQ.then (PQ.blk (PQ.then PQ.body))) rfl (fun w => run_move rfl) ?_
    by_cases g32 : (D.room - ((usedN D.f D.nm : Nat) : Int)) < (s.length : Int)
    ·
     refine WD.off (i := 11) dappend_spec_t6 (bt 23 4095) rfl rfl rfl (decide_eq_true g32) (by kernel_rfl) (PQ.then (PQ.blk (PQ.then PQ.body))) rfl ?_
     refine WD.off (i := 12) dappend_spec_t6 (bt 23 8191) rfl rfl rfl (decide_eq_true g32) (by kernel_rfl) (PQ.then (PQ.blk (PQ.then PQ.body))) rfl ?_
     refine WD.off (i := 13) dappend_spec_t6 (bt 23 16383) rfl rfl rfl (decide_eq_true g32) (by kernel_rfl) (PQ.then (PQ.blk (PQ.then PQ.body))) rfl ?_
     refine WD.offU (i := 14) dappend_spec_t6 (bt 23 32767) rfl rfl rfl (by kernel_rfl) (PQ.then (PQ.blk (PQ.then PQ.body))) rfl ?_
     refine WD.offU (i := 15) dappend_spec_t6 (bt 23 65535) rfl rfl rfl (by kernel_rfl) (PQ.then (PQ.blk (PQ.then PQ.body))) rfl ?_
     refine WD.offU (i := 16) dappend_spec_t6 (bt 23 131071) rfl rfl rfl (by kernel_rfl) (PQ.then (PQ.blk (PQ.then PQ.body))) rfl ?_
     refine WD.offU (i := 17) dappend_spec_t6 (bt 23 262143) rfl rfl rfl (by kernel_rfl) (PQ.then (PQ.blk (PQ.then PQ.body))) rfl ?_
     refine WD.offU (i := 18) dappend_spec_t6 (bt 23 524287) rfl rfl rfl (by kernel_rfl) (PQ.then (PQ.blk (PQ.then PQ.body))) rfl ?_
     refine WD.offU (i := 19) dappend_spec_t6 (bt 23 1048575) rfl rfl rfl (by kernel_rfl) (PQ.then (PQ.blk (PQ.then PQ.body))) rfl ?_
     refine WD.off (i := 20) dappend_spec_t6 (bt 23 2097151) rfl rfl rfl (decide_eq_true g32) (by kernel_rfl) (PQ.then (PQ.blk (PQ.then PQ.body))) rfl ?_
     refine WD.pure (i := 21) dappend_spec_t6 (bt 23 4194303) rfl rfl rfl (by kernel_rfl) (PQ.then (PQ.blk (PQ.then PQ.body))) rfl (fun w => run_pickT rfl (decide_eq_true g32) rfl) ?_
     refine WD.pure (i := 22) dappend_spec_t6 (bt 23 8388607) rfl rfl rfl (by kernel_rfl) (PQ.then (PQ.blk (PQ.then PQ.body))) rfl (fun w => run_assign rfl) ?_
     refine WD.done dappend_spec_t6 (by kernel_rfl) ?_
     refine NX.go ?_
     refine WP.condT rfl rfl ?_
     refine WP.seq (WP.region rfl ?_)
     refine WO.asg rfl rfl ?_
     refine WO.nil (NX.go (WP.ret (NX.blkRet (NX.thenRet ?_))))
     refine NX.done (l := [.tmp 6]) rfl rfl ?_
     have e : appendD D k s = ({ D with dead := wDead D.dead D.left, left := wLeft D.dead D.left }, 4) := by unfold appendD; rw [onWrite_eq, if_pos (by simpa using g10)]; show append1 _ k s = _; unfold append1; rw [if_neg (by rw [hk]; decide), if_pos (show D.room - ((usedN D.f D.nm : Nat) : Int) < (s.length : Int) ∨ (findN k D.nm = none ∧ D.nm.length = 64) from .inl g32)]
     rw [e]
     exact ⟨rfl, St.dk_shut (D := { D with dead := wDead D.dead D.left, left := wLeft D.dead D.left }) ⟨ok.g, ok.p1, ok.p2, ok.v⟩ ((hS20.permT [6, 6, 0, 0, 0, 0, 0, 0] (L' := cel g11 [Value.pointer (findP dx.gs k D.nm)] 74 :: cel g2 [str k] 9 :: cel g [Value.int .i64 D.room, Value.map (some dx.r1), Value.map (some dx.r2), Value.slice dx.a dx.vs.length dx.cap, Value.bool (wDead D.dead D.left), Value.int .i64 (wLeft D.dead D.left)] 45 :: mpS dx.r1 dx.e1 :: mpS dx.r2 dx.e2 :: own dx.a dx.vs.length dx.cap 69 1 dx.vs :: chsA dx.gs D.ch dx.vs :: filesA dx.gs D.f :: L) rfl).drop.drop)⟩
    ·
     refine WD.one (i := 11) dappend_spec_t6 (bt 23 4095) rfl (by kernel_rfl) ?_
     refine WO.on rfl rfl (decide_eq_false g32) ?_
     refine WO.val (run_load Ty.ag74 rfl ((hS20.cel_at 6 rfl 0).trans rfl)) rfl rfl rfl ?_
     refine WO.nil ?_
     have s23 : (∀ jz, World.cell? w20 ⟨g, jz, none⟩ = [Value.int .i64 D.room, Value.map (some dx.r1), Value.map (some dx.r2), Value.slice dx.a dx.vs.length dx.cap, Value.bool (wDead D.dead D.left), Value.int .i64 (wLeft D.dead D.left)][jz]?) := hS20.cel_at 0 rfl
     refine NX.held s23 ?_
     refine WD.pureOn (i := 12) dappend_spec_t6 (bt 23 8191) rfl rfl rfl (decide_eq_false g32) (by kernel_rfl) (PQ.then (PQ.blk (PQ.then PQ.body))) rfl (fun w => run_eqlNilP Tryz.underlying74 rfl rfl) ?_
     refine WD.pureOn (i := 13) dappend_spec_t6 (bt 23 16383) rfl rfl rfl (decide_eq_false g32) (by kernel_rfl) (PQ.then (PQ.blk (PQ.then PQ.body))) rfl (fun w => run_move rfl) ?_
     rcases Bool.eq_false_or_eq_true ((findP dx.gs k D.nm).isNone) with g35 | g35
     ·
      have hn := findP_none g35
      have hP : findP dx.gs k D.nm = none := by unfold findP; rw [hn]; rfl
      rw [hP] at hS20
      refine WD.pureOn (i := 14) dappend_spec_t6 (bt 23 32767) rfl rfl rfl g35 (by kernel_rfl) (PQ.then (PQ.blk (PQ.then PQ.body))) rfl (fun w => run_move rfl) ?_
      refine WD.pureOn (i := 15) dappend_spec_t6 (bt 23 65535) rfl rfl rfl g35 (by kernel_rfl) (PQ.then (PQ.blk (PQ.then PQ.body))) rfl (fun w => run_nilCheck rfl) ?_
      refine WD.pureOn (i := 16) dappend_spec_t6 (bt 23 131071) rfl rfl rfl g35 (by kernel_rfl) (PQ.then (PQ.blk (PQ.then PQ.body))) rfl (fun w => run_fieldAddr (q := ⟨g, 1, none⟩) (show fieldB Tryz.prog 45 1 = some 1 from by kernel_rfl) rfl rfl) ?_
      refine WD.takeOn (i := 17) dappend_spec_t6 (bt 23 262143) s23 rfl rfl rfl g35 (by kernel_rfl) (PQ.then (PQ.blk (PQ.then PQ.body))) rfl (fun w hs => run_load Ty.ag42 rfl ((hs 1).trans rfl)) ?_
      refine WD.one (i := 18) dappend_spec_t6 (bt 23 524287) rfl (by kernel_rfl) ?_
      refine WO.on rfl rfl g35 ?_
      refine WO.val (run_lenMapS 1 hS20 rfl rfl Tryz.underlying42 rfl) rfl rfl rfl ?_
      refine WO.nil ?_
      have s24 : (∀ jz, World.cell? w20 ⟨g, jz, none⟩ = [Value.int .i64 D.room, Value.map (some dx.r1), Value.map (some dx.r2), Value.slice dx.a dx.vs.length dx.cap, Value.bool (wDead D.dead D.left), Value.int .i64 (wLeft D.dead D.left)][jz]?) := hS20.cel_at 0 rfl
      refine NX.held s24 ?_
      refine WD.pureOn (i := 19) dappend_spec_t6 (bt 23 1048575) rfl rfl rfl g35 (by kernel_rfl) (PQ.then (PQ.blk (PQ.then PQ.body))) rfl (fun w => run_eql rfl rfl) ?_
      refine WD.pureOn (i := 20) dappend_spec_t6 (bt 23 2097151) rfl rfl rfl (decide_eq_false g32) (by kernel_rfl) (PQ.then (PQ.blk (PQ.then PQ.body))) rfl (fun w => run_pickT rfl g35 rfl) ?_
      refine WD.pure (i := 21) dappend_spec_t6 (bt 23 4194303) rfl rfl rfl (by kernel_rfl) (PQ.then (PQ.blk (PQ.then PQ.body))) rfl (fun w => run_pickF rfl (decide_eq_false g32) rfl) ?_
      refine WD.pure (i := 22) dappend_spec_t6 (bt 23 8388607) rfl rfl rfl (by kernel_rfl) (PQ.then (PQ.blk (PQ.then PQ.body))) rfl (fun w => run_assign rfl) ?_
      refine WD.done dappend_spec_t6 (by kernel_rfl) ?_
      refine NX.go ?_
      refine WP.condP rfl (fun g21 => ?_) (fun g21 => ?_)
      ·
       refine WP.seq (WP.region rfl ?_)
       refine WO.asg rfl rfl ?_
       refine WO.nil (NX.go (WP.ret (NX.blkRet (NX.thenRet ?_))))
       refine NX.done (l := [.tmp 6]) rfl rfl ?_
       have e : appendD D k s = ({ D with dead := wDead D.dead D.left, left := wLeft D.dead D.left }, 4) := by unfold appendD; rw [onWrite_eq, if_pos (by simpa using g10)]; show append1 _ k s = _; unfold append1; rw [if_neg (by rw [hk]; decide), if_pos (show D.room - ((usedN D.f D.nm : Nat) : Int) < (s.length : Int) ∨ (findN k D.nm = none ∧ D.nm.length = 64) from .inr ⟨hn, by omega⟩)]
       rw [e]
       exact ⟨rfl, St.dk_shut (D := { D with dead := wDead D.dead D.left, left := wLeft D.dead D.left }) ⟨ok.g, ok.p1, ok.p2, ok.v⟩ ((hS20.permT [6, 6, 0, 0, 0, 0, 0, 0] (L' := cel g11 [Value.pointer none] 74 :: cel g2 [str k] 9 :: cel g [Value.int .i64 D.room, Value.map (some dx.r1), Value.map (some dx.r2), Value.slice dx.a dx.vs.length dx.cap, Value.bool (wDead D.dead D.left), Value.int .i64 (wLeft D.dead D.left)] 45 :: mpS dx.r1 dx.e1 :: mpS dx.r2 dx.e2 :: own dx.a dx.vs.length dx.cap 69 1 dx.vs :: chsA dx.gs D.ch dx.vs :: filesA dx.gs D.f :: L) rfl).drop.drop)⟩
      ·
       refine WP.skip (NX.blk (NX.go (WP.seq (WP.seq (WP.region rfl ?_)))))
       refine WO.val (run_load Ty.ag74 rfl ((hS20.cel_at 6 rfl 0).trans rfl)) rfl rfl rfl ?_
       refine WO.val (run_eqlNilP Tryz.underlying74 rfl rfl) rfl rfl rfl ?_
       refine WO.nil (NX.go ?_)
       refine WP.condT rfl rfl ?_
       refine WP.seq (WP.region rfl ?_)
       refine WO.val (run_build (v := Value.agg #[str [], Value.int .i64 0]) rfl (fun w => by kernel_rfl)) rfl rfl rfl ?_
       refine WO.box (l := [str [], Value.int .i64 0]) hS20 rfl rfl rfl (fun g26 w25 lg26 hS25 => ?_)
       clear hS20
       refine WO.store (l' := [Value.pointer (some ⟨g26, 0, none⟩)]) 7 hS25 rfl Ty.sz74 rfl rfl rfl rfl rfl (Nat.le_of_ble_eq_true rfl) rfl (fun w27 (hS27 : St B (cel g26 [str [], Value.int .i64 0] 76 :: cel g [Value.int .i64 D.room, Value.map (some dx.r1), Value.map (some dx.r2), Value.slice dx.a dx.vs.length dx.cap, Value.bool (wDead D.dead D.left), Value.int .i64 (wLeft D.dead D.left)] 45 :: mpS dx.r1 dx.e1 :: mpS dx.r2 dx.e2 :: own dx.a dx.vs.length dx.cap 69 1 dx.vs :: chsA dx.gs D.ch dx.vs :: filesA dx.gs D.f :: cel g11 [Value.pointer (some ⟨g26, 0, none⟩)] 74 :: cel g2 [str k] 9 :: L) w27) => ?_)
       clear hS25
       refine WO.nil (NX.go (WP.region rfl ?_))
       refine WO.mv rfl rfl ?_
       refine WO.val (run_makeFunc rfl rfl) rfl rfl rfl ?_
       have hS28 : St B (cel g26 [str [], Value.int .i64 0] 76 :: cel g [Value.int .i64 D.room, Value.map (some dx.r1), Value.map (some dx.r2), Value.slice dx.a dx.vs.length dx.cap, Value.bool (wDead D.dead D.left), Value.int .i64 (wLeft D.dead D.left)] 45 :: mpS dx.r1 dx.e1 :: mpS dx.r2 dx.e2 :: own dx.a dx.vs.length dx.cap 69 1 dx.vs :: chsA dx.gs D.ch dx.vs :: filesA dx.gs D.f :: scel g11 [Value.pointer (some ⟨g26, 0, none⟩)] 74 :: cel g2 [str k] 9 :: L) w27 := hS27.cel_seal_i 7 rfl rfl
       clear hS27
       have hS29 : St B (cel g26 [str [], Value.int .i64 0] 76 :: cel g [Value.int .i64 D.room, Value.map (some dx.r1), Value.map (some dx.r2), Value.slice dx.a dx.vs.length dx.cap, Value.bool (wDead D.dead D.left), Value.int .i64 (wLeft D.dead D.left)] 45 :: mpS dx.r1 dx.e1 :: mpS dx.r2 dx.e2 :: own dx.a dx.vs.length dx.cap 69 1 dx.vs :: chsA dx.gs D.ch dx.vs :: filesA dx.gs D.f :: scel g11 [Value.pointer (some ⟨g26, 0, none⟩)] 74 :: scel g2 [str k] 9 :: L) w27 := hS28.cel_seal_i 8 rfl rfl
       clear hS28
       have hS30 : St B (chgA (dx.gs ++ [g26]) (Chg.mk [] k D.f.length) (Value.func (.func 46) #[] #[ptrV g11, ptrV g2]) :: scel g11 [Value.pointer (some ⟨g26, 0, none⟩)] 74 :: cel g26 [str [], Value.int .i64 0] 76 :: cel g [Value.int .i64 D.room, Value.map (some dx.r1), Value.map (some dx.r2), Value.slice dx.a dx.vs.length dx.cap, Value.bool (wDead D.dead D.left), Value.int .i64 (wLeft D.dead D.left)] 45 :: mpS dx.r1 dx.e1 :: mpS dx.r2 dx.e2 :: own dx.a dx.vs.length dx.cap 69 1 dx.vs :: chsA dx.gs D.ch dx.vs :: filesA dx.gs D.f :: L) w27 := mk_put (gs := dx.gs ++ [g26]) (c := (Chg.mk [] k D.f.length)) (fileF_ne hk) rfl (getD_new ok.g).symm ((St.dup (scel_pers _ _ _) (hS29.permT [7, 7, 0, 0, 0, 0, 0, 0, 0] (L' := scel g11 [Value.pointer (some ⟨g26, 0, none⟩)] 74 :: scel g2 [str k] 9 :: cel g26 [str [], Value.int .i64 0] 76 :: cel g [Value.int .i64 D.room, Value.map (some dx.r1), Value.map (some dx.r2), Value.slice dx.a dx.vs.length dx.cap, Value.bool (wDead D.dead D.left), Value.int .i64 (wLeft D.dead D.left)] 45 :: mpS dx.r1 dx.e1 :: mpS dx.r2 dx.e2 :: own dx.a dx.vs.length dx.cap 69 1 dx.vs :: chsA dx.gs D.ch dx.vs :: filesA dx.gs D.f :: L) rfl)).permT [1, 1, 0] (L' := scel g11 [Value.pointer (some ⟨g26, 0, none⟩)] 74 :: scel g2 [str k] 9 :: scel g11 [Value.pointer (some ⟨g26, 0, none⟩)] 74 :: cel g26 [str [], Value.int .i64 0] 76 :: cel g [Value.int .i64 D.room, Value.map (some dx.r1), Value.map (some dx.r2), Value.slice dx.a dx.vs.length dx.cap, Value.bool (wDead D.dead D.left), Value.int .i64 (wLeft D.dead D.left)] 45 :: mpS dx.r1 dx.e1 :: mpS dx.r2 dx.e2 :: own dx.a dx.vs.length dx.cap 69 1 dx.vs :: chsA dx.gs D.ch dx.vs :: filesA dx.gs D.f :: L) rfl)
       clear hS29
       have hS31 := hS30.permT [0, 3, 2, 3, 0, 0, 0, 0, 0] (L' := chgA (dx.gs ++ [g26]) (Chg.mk [] k D.f.length) (Value.func (.func 46) #[] #[ptrV g11, ptrV g2]) :: mpS dx.r1 dx.e1 :: cel g [Value.int .i64 D.room, Value.map (some dx.r1), Value.map (some dx.r2), Value.slice dx.a dx.vs.length dx.cap, Value.bool (wDead D.dead D.left), Value.int .i64 (wLeft D.dead D.left)] 45 :: own dx.a dx.vs.length dx.cap 69 1 dx.vs :: scel g11 [Value.pointer (some ⟨g26, 0, none⟩)] 74 :: cel g26 [str [], Value.int .i64 0] 76 :: mpS dx.r2 dx.e2 :: chsA dx.gs D.ch dx.vs :: filesA dx.gs D.f :: L) rfl
       clear hS30
       refine WO.call rfl rfl Ty.hd45 rfl (dchange_spec (gs := dx.gs ++ [g26]) (c := (Chg.mk [] k D.f.length)) (cs := [ptrV g11, ptrV g2]) hvs hS31) (fun v33 w32 pv33 => ?_)
       obtain ⟨a2, c2, rfl, hS32⟩ := pv33
       clear hS31
       refine WO.nil (NX.go (WP.seq (WP.region rfl ?_)))
       refine WO.val (run_load Ty.ag74 rfl ((hS32.scel_at 4 rfl 0).trans rfl)) rfl rfl rfl ?_
       refine WO.val (run_nilCheck rfl) rfl rfl rfl ?_
       refine WO.val (run_fieldAddr (q := ⟨g26, 0, none⟩) (show fieldB Tryz.prog 76 0 = some 0 from by kernel_rfl) rfl rfl) rfl rfl rfl ?_
       refine WO.val (run_load Ty.ag9 rfl ((hS32.cel_at 5 rfl 0).trans rfl)) rfl rfl rfl ?_
       refine WO.mv rfl rfl ?_
       refine WO.val (run_cat rfl rfl (by first | omega | (simp; omega))) rfl rfl rfl ?_
       refine WO.val (run_nilCheck rfl) rfl rfl rfl ?_
       refine WO.val (run_fieldAddr (q := ⟨g26, 0, none⟩) (show fieldB Tryz.prog 76 0 = some 0 from by kernel_rfl) rfl rfl) rfl rfl rfl ?_
       refine WO.store (l' := [str ([] ++ s), Value.int .i64 0]) 5 hS32 rfl Ty.sz9 rfl rfl rfl rfl rfl (Nat.le_of_ble_eq_true rfl) rfl (fun w34 (hS34 : St B (chgA (dx.gs ++ [g26]) (Chg.mk [] k D.f.length) (Value.func (.func 46) #[] #[ptrV g11, ptrV g2]) :: mpS dx.r1 (applyE (dx.gs ++ [g26]) dx.e1 (Chg.mk [] k D.f.length)) :: cel g [Value.int .i64 D.room, Value.map (some dx.r1), Value.map (some dx.r2), Value.slice a2 ((dx.vs ++ [Value.func (.func 46) #[] #[ptrV g11, ptrV g2]]).length) c2, Value.bool (wDead D.dead D.left), Value.int .i64 (wLeft D.dead D.left)] 45 :: own a2 ((dx.vs ++ [Value.func (.func 46) #[] #[ptrV g11, ptrV g2]]).length) c2 69 1 (dx.vs ++ [Value.func (.func 46) #[] #[ptrV g11, ptrV g2]]) :: scel g11 [Value.pointer (some ⟨g26, 0, none⟩)] 74 :: cel g26 [str ([] ++ s), Value.int .i64 0] 76 :: mpS dx.r2 dx.e2 :: chsA dx.gs D.ch dx.vs :: filesA dx.gs D.f :: L) w34) => ?_)
       clear hS32
       refine WO.nil (NX.go (WP.seq (WP.region rfl ?_)))
       refine WO.asg rfl rfl ?_
       refine WO.nil (NX.go (WP.ret ?_))
       have hS35 : St B (chsA (dx.gs ++ [g26]) (D.ch ++ [(Chg.mk [] k D.f.length)]) (dx.vs ++ [Value.func (.func 46) #[] #[ptrV g11, ptrV g2]]) :: mpS dx.r1 (applyE (dx.gs ++ [g26]) dx.e1 (Chg.mk [] k D.f.length)) :: cel g [Value.int .i64 D.room, Value.map (some dx.r1), Value.map (some dx.r2), Value.slice a2 ((dx.vs ++ [Value.func (.func 46) #[] #[ptrV g11, ptrV g2]]).length) c2, Value.bool (wDead D.dead D.left), Value.int .i64 (wLeft D.dead D.left)] 45 :: own a2 ((dx.vs ++ [Value.func (.func 46) #[] #[ptrV g11, ptrV g2]]).length) c2 69 1 (dx.vs ++ [Value.func (.func 46) #[] #[ptrV g11, ptrV g2]]) :: scel g11 [Value.pointer (some ⟨g26, 0, none⟩)] 74 :: cel g26 [str ([] ++ s), Value.int .i64 0] 76 :: mpS dx.r2 dx.e2 :: filesA dx.gs D.f :: L) w34 := by have z := (hS34.permT [7, 0, 0, 0, 0, 0, 0, 0, 0] (L' := chsA dx.gs D.ch dx.vs :: chgA (dx.gs ++ [g26]) (Chg.mk [] k D.f.length) (Value.func (.func 46) #[] #[ptrV g11, ptrV g2]) :: mpS dx.r1 (applyE (dx.gs ++ [g26]) dx.e1 (Chg.mk [] k D.f.length)) :: cel g [Value.int .i64 D.room, Value.map (some dx.r1), Value.map (some dx.r2), Value.slice a2 ((dx.vs ++ [Value.func (.func 46) #[] #[ptrV g11, ptrV g2]]).length) c2, Value.bool (wDead D.dead D.left), Value.int .i64 (wLeft D.dead D.left)] 45 :: own a2 ((dx.vs ++ [Value.func (.func 46) #[] #[ptrV g11, ptrV g2]]).length) c2 69 1 (dx.vs ++ [Value.func (.func 46) #[] #[ptrV g11, ptrV g2]]) :: scel g11 [Value.pointer (some ⟨g26, 0, none⟩)] 74 :: cel g26 [str ([] ++ s), Value.int .i64 0] 76 :: mpS dx.r2 dx.e2 :: filesA dx.gs D.f :: L) rfl); rw [← chsA_grow (g := g26) (by rw [ok.g]; exact hw.ch)] at z; exact chsA_snoc z
       have hS36 : St B (filesA (dx.gs ++ [g26]) (D.f ++ [(s, 0)]) :: chsA (dx.gs ++ [g26]) (D.ch ++ [(Chg.mk [] k D.f.length)]) (dx.vs ++ [Value.func (.func 46) #[] #[ptrV g11, ptrV g2]]) :: mpS dx.r1 (applyE (dx.gs ++ [g26]) dx.e1 (Chg.mk [] k D.f.length)) :: cel g [Value.int .i64 D.room, Value.map (some dx.r1), Value.map (some dx.r2), Value.slice a2 ((dx.vs ++ [Value.func (.func 46) #[] #[ptrV g11, ptrV g2]]).length) c2, Value.bool (wDead D.dead D.left), Value.int .i64 (wLeft D.dead D.left)] 45 :: own a2 ((dx.vs ++ [Value.func (.func 46) #[] #[ptrV g11, ptrV g2]]).length) c2 69 1 (dx.vs ++ [Value.func (.func 46) #[] #[ptrV g11, ptrV g2]]) :: scel g11 [Value.pointer (some ⟨g26, 0, none⟩)] 74 :: mpS dx.r2 dx.e2 :: L) w34 := filesA_snoc (y := (s, 0)) (hS35.permT [7, 5, 0, 0, 0, 0, 0, 0] (L' := filesA dx.gs D.f :: cel g26 [str ([] ++ s), Value.int .i64 0] 76 :: chsA (dx.gs ++ [g26]) (D.ch ++ [(Chg.mk [] k D.f.length)]) (dx.vs ++ [Value.func (.func 46) #[] #[ptrV g11, ptrV g2]]) :: mpS dx.r1 (applyE (dx.gs ++ [g26]) dx.e1 (Chg.mk [] k D.f.length)) :: cel g [Value.int .i64 D.room, Value.map (some dx.r1), Value.map (some dx.r2), Value.slice a2 ((dx.vs ++ [Value.func (.func 46) #[] #[ptrV g11, ptrV g2]]).length) c2, Value.bool (wDead D.dead D.left), Value.int .i64 (wLeft D.dead D.left)] 45 :: own a2 ((dx.vs ++ [Value.func (.func 46) #[] #[ptrV g11, ptrV g2]]).length) c2 69 1 (dx.vs ++ [Value.func (.func 46) #[] #[ptrV g11, ptrV g2]]) :: scel g11 [Value.pointer (some ⟨g26, 0, none⟩)] 74 :: mpS dx.r2 dx.e2 :: L) rfl)
       refine NX.done (l := [.tmp 6]) rfl rfl ?_
       have e : appendD D k s = ({ changeD { D with dead := wDead D.dead D.left, left := wLeft D.dead D.left, f := D.f ++ [([], 0)] } ⟨[], k, D.f.length⟩ with f := D.f ++ [(s, 0)] }, 0) := by unfold appendD; rw [onWrite_eq, if_pos (by simpa using g10)]; show append1 _ k s = _; unfold append1; rw [if_neg (by rw [hk]; decide), if_neg (show ¬ (D.room - ((usedN D.f D.nm : Nat) : Int) < (s.length : Int) ∨ (findN k D.nm = none ∧ D.nm.length = 64)) from fun h => h.elim g32 (fun h => absurd h.2 (by omega))), show findN k (Dk.nm { D with dead := wDead D.dead D.left, left := wLeft D.dead D.left }) = none from hn]
       rw [e]
       exact ⟨rfl, St.dk_shut (D := { changeD { D with dead := wDead D.dead D.left, left := wLeft D.dead D.left, f := D.f ++ [([], 0)] } ⟨[], k, D.f.length⟩ with f := D.f ++ [(s, 0)] }) (append_ok (D1 := { D with dead := wDead D.dead D.left, left := wLeft D.dead D.left }) (gf := g26) (s := s) (a := a2) (cap := c2) (v := Value.func (.func 46) #[] #[ptrV g11, ptrV g2]) ok hw hk rfl rfl rfl rfl) ((hS36.permT [5, 3, 2, 3, 2, 1, 0] (L' := scel g11 [Value.pointer (some ⟨g26, 0, none⟩)] 74 :: cel g [Value.int .i64 D.room, Value.map (some dx.r1), Value.map (some dx.r2), Value.slice a2 ((dx.vs ++ [Value.func (.func 46) #[] #[ptrV g11, ptrV g2]]).length) c2, Value.bool (wDead D.dead D.left), Value.int .i64 (wLeft D.dead D.left)] 45 :: mpS dx.r1 (applyE (dx.gs ++ [g26]) dx.e1 (Chg.mk [] k D.f.length)) :: mpS dx.r2 dx.e2 :: own a2 ((dx.vs ++ [Value.func (.func 46) #[] #[ptrV g11, ptrV g2]]).length) c2 69 1 (dx.vs ++ [Value.func (.func 46) #[] #[ptrV g11, ptrV g2]]) :: chsA (dx.gs ++ [g26]) (D.ch ++ [(Chg.mk [] k D.f.length)]) (dx.vs ++ [Value.func (.func 46) #[] #[ptrV g11, ptrV g2]]) :: filesA (dx.gs ++ [g26]) (D.f ++ [(s, 0)]) :: L) rfl).drop)⟩
     ·
      obtain ⟨i, hi⟩ := findP_some g35
      obtain ⟨q, hq⟩ : ∃ q, q = dx.gs.getD i 0 := ⟨_, rfl⟩
      have hlt := hw.find hi
      have hfl := fileAt_le hb hlt.1
      have hP : findP dx.gs k D.nm = some ⟨q, 0, none⟩ := by unfold findP; rw [hi, hq]; rfl
      rw [hP] at hS20
      refine WD.off (i := 14) dappend_spec_t6 (bt 23 32767) rfl rfl rfl g35 (by kernel_rfl) (PQ.then (PQ.blk (PQ.then PQ.body))) rfl ?_
      refine WD.off (i := 15) dappend_spec_t6 (bt 23 65535) rfl rfl rfl g35 (by kernel_rfl) (PQ.then (PQ.blk (PQ.then PQ.body))) rfl ?_
      refine WD.off (i := 16) dappend_spec_t6 (bt 23 131071) rfl rfl rfl g35 (by kernel_rfl) (PQ.then (PQ.blk (PQ.then PQ.body))) rfl ?_
      refine WD.off (i := 17) dappend_spec_t6 (bt 23 262143) rfl rfl rfl g35 (by kernel_rfl) (PQ.then (PQ.blk (PQ.then PQ.body))) rfl ?_
      refine WD.off (i := 18) dappend_spec_t6 (bt 23 524287) rfl rfl rfl g35 (by kernel_rfl) (PQ.then (PQ.blk (PQ.then PQ.body))) rfl ?_
      refine WD.off (i := 19) dappend_spec_t6 (bt 23 1048575) rfl rfl rfl g35 (by kernel_rfl) (PQ.then (PQ.blk (PQ.then PQ.body))) rfl ?_
      refine WD.pureOn (i := 20) dappend_spec_t6 (bt 23 2097151) rfl rfl rfl (decide_eq_false g32) (by kernel_rfl) (PQ.then (PQ.blk (PQ.then PQ.body))) rfl (fun w => run_pickF rfl g35 rfl) ?_
      refine WD.pure (i := 21) dappend_spec_t6 (bt 23 4194303) rfl rfl rfl (by kernel_rfl) (PQ.then (PQ.blk (PQ.then PQ.body))) rfl (fun w => run_pickF rfl (decide_eq_false g32) rfl) ?_
      refine WD.pure (i := 22) dappend_spec_t6 (bt 23 8388607) rfl rfl rfl (by kernel_rfl) (PQ.then (PQ.blk (PQ.then PQ.body))) rfl (fun w => run_assign rfl) ?_
      refine WD.done dappend_spec_t6 (by kernel_rfl) ?_
      refine NX.go ?_
      refine WP.condF rfl rfl ?_
      refine WP.skip (NX.blk (NX.go (WP.seq (WP.seq (WP.region rfl ?_)))))
      refine WO.val (run_load Ty.ag74 rfl ((hS20.cel_at 6 rfl 0).trans rfl)) rfl rfl rfl ?_
      refine WO.val (run_eqlNilP Tryz.underlying74 rfl rfl) rfl rfl rfl ?_
      refine WO.nil (NX.go ?_)
      refine WP.condF rfl rfl ?_
      refine WP.skip (NX.go (WP.seq ?_))
      have hS37 : St B (cel q [str ((fileAt D.f i).1), Value.int .i64 ((fileAt D.f i).2 : Int)] 76 :: filesBut i dx.gs D.f :: cel g [Value.int .i64 D.room, Value.map (some dx.r1), Value.map (some dx.r2), Value.slice dx.a dx.vs.length dx.cap, Value.bool (wDead D.dead D.left), Value.int .i64 (wLeft D.dead D.left)] 45 :: mpS dx.r1 dx.e1 :: mpS dx.r2 dx.e2 :: own dx.a dx.vs.length dx.cap 69 1 dx.vs :: chsA dx.gs D.ch dx.vs :: cel g11 [Value.pointer (some ⟨q, 0, none⟩)] 74 :: cel g2 [str k] 9 :: L) w20 := by have z := filesA_pick hlt.1 (hS20.permT [5, 0, 0, 0, 0, 0, 0, 0] (L' := filesA dx.gs D.f :: cel g [Value.int .i64 D.room, Value.map (some dx.r1), Value.map (some dx.r2), Value.slice dx.a dx.vs.length dx.cap, Value.bool (wDead D.dead D.left), Value.int .i64 (wLeft D.dead D.left)] 45 :: mpS dx.r1 dx.e1 :: mpS dx.r2 dx.e2 :: own dx.a dx.vs.length dx.cap 69 1 dx.vs :: chsA dx.gs D.ch dx.vs :: cel g11 [Value.pointer (some ⟨q, 0, none⟩)] 74 :: cel g2 [str k] 9 :: L) rfl); rw [← hq] at z; exact z
      clear hS20
      refine WP.region rfl ?_
      refine WO.val (run_load Ty.ag74 rfl ((hS37.cel_at 7 rfl 0).trans rfl)) rfl rfl rfl ?_
      refine WO.val (run_nilCheck rfl) rfl rfl rfl ?_
      refine WO.val (run_fieldAddr (q := ⟨q, 0, none⟩) (show fieldB Tryz.prog 76 0 = some 0 from by kernel_rfl) rfl rfl) rfl rfl rfl ?_
      refine WO.val (run_load Ty.ag9 rfl ((hS37.cel_at 0 rfl 0).trans rfl)) rfl rfl rfl ?_
      refine WO.mv rfl rfl ?_
      refine WO.val (run_cat rfl rfl (by first | omega | (simp; omega))) rfl rfl rfl ?_
      refine WO.val (run_nilCheck rfl) rfl rfl rfl ?_
      refine WO.val (run_fieldAddr (q := ⟨q, 0, none⟩) (show fieldB Tryz.prog 76 0 = some 0 from by kernel_rfl) rfl rfl) rfl rfl rfl ?_
      refine WO.store (l' := [str (((fileAt D.f i).1) ++ s), Value.int .i64 ((fileAt D.f i).2 : Int)]) 0 hS37 rfl Ty.sz9 rfl rfl rfl rfl rfl (Nat.le_of_ble_eq_true rfl) rfl (fun w38 (hS38 : St B (cel q [str (((fileAt D.f i).1) ++ s), Value.int .i64 ((fileAt D.f i).2 : Int)] 76 :: filesBut i dx.gs D.f :: cel g [Value.int .i64 D.room, Value.map (some dx.r1), Value.map (some dx.r2), Value.slice dx.a dx.vs.length dx.cap, Value.bool (wDead D.dead D.left), Value.int .i64 (wLeft D.dead D.left)] 45 :: mpS dx.r1 dx.e1 :: mpS dx.r2 dx.e2 :: own dx.a dx.vs.length dx.cap 69 1 dx.vs :: chsA dx.gs D.ch dx.vs :: cel g11 [Value.pointer (some ⟨q, 0, none⟩)] 74 :: cel g2 [str k] 9 :: L) w38) => ?_)
      clear hS37
      refine WO.nil (NX.go (WP.seq (WP.region rfl ?_)))
      refine WO.asg rfl rfl ?_
      refine WO.nil (NX.go (WP.ret ?_))
      have hS39 : St B (filesA dx.gs (D.f.set i ((fileAt D.f i).1 ++ s, (fileAt D.f i).2)) :: cel g [Value.int .i64 D.room, Value.map (some dx.r1), Value.map (some dx.r2), Value.slice dx.a dx.vs.length dx.cap, Value.bool (wDead D.dead D.left), Value.int .i64 (wLeft D.dead D.left)] 45 :: mpS dx.r1 dx.e1 :: mpS dx.r2 dx.e2 :: own dx.a dx.vs.length dx.cap 69 1 dx.vs :: chsA dx.gs D.ch dx.vs :: cel g11 [Value.pointer (some ⟨q, 0, none⟩)] 74 :: cel g2 [str k] 9 :: L) w38 := filesA_back (y := ((fileAt D.f i).1 ++ s, (fileAt D.f i).2)) (by rw [← hq]; first | exact hS38 | (unfold cutF; rw [← hkq]; exact hS38))
      refine NX.done (l := [.tmp 6]) rfl rfl ?_
      have e : appendD D k s = ({ D with dead := wDead D.dead D.left, left := wLeft D.dead D.left, f := addTo D.f i s }, 0) := by unfold appendD; rw [onWrite_eq, if_pos (by simpa using g10)]; show append1 _ k s = _; unfold append1; rw [if_neg (by rw [hk]; decide), if_neg (show ¬ (D.room - ((usedN D.f D.nm : Nat) : Int) < (s.length : Int) ∨ (findN k D.nm = none ∧ D.nm.length = 64)) from fun h => h.elim g32 (fun h => (by rw [hi] at h; cases h.1))), show findN k (Dk.nm { D with dead := wDead D.dead D.left, left := wLeft D.dead D.left }) = some i from hi]
      rw [e]
      exact ⟨rfl, St.dk_shut (D := { D with dead := wDead D.dead D.left, left := wLeft D.dead D.left, f := addTo D.f i s }) ⟨by show dx.gs.length = (D.f.set i _).length; rw [List.length_set]; exact ok.g, ok.p1, ok.p2, ok.v⟩ ((hS39.permT [6, 6, 1, 1, 1, 1, 1, 0] (L' := cel g11 [Value.pointer (some ⟨q, 0, none⟩)] 74 :: cel g2 [str k] 9 :: cel g [Value.int .i64 D.room, Value.map (some dx.r1), Value.map (some dx.r2), Value.slice dx.a dx.vs.length dx.cap, Value.bool (wDead D.dead D.left), Value.int .i64 (wLeft D.dead D.left)] 45 :: mpS dx.r1 dx.e1 :: mpS dx.r2 dx.e2 :: own dx.a dx.vs.length dx.cap 69 1 dx.vs :: chsA dx.gs D.ch dx.vs :: filesA dx.gs (D.f.set i ((fileAt D.f i).1 ++ s, (fileAt D.f i).2)) :: L) rfl).drop.drop)⟩
  ·
   refine WO.alloc (l := [Value.pointer none]) hS6 Ty.zr74 rfl rfl (fun g41 w40 lg41 hS40 => ?_)
   clear hS6
   refine WO.nil ?_
   have s42 : (∀ jz, World.cell? w40 ⟨g, jz, none⟩ = [Value.int .i64 D.room, Value.map (some dx.r1), Value.map (some dx.r2), Value.slice dx.a dx.vs.length dx.cap, Value.bool (wDead D.dead D.left), Value.int .i64 (wLeft D.dead D.left)][jz]?) ∧ (∀ jz, World.cell? w40 ⟨g2, jz, none⟩ = [str k][jz]?) := ⟨hS40.cel_at 1 rfl, hS40.cel_at 2 rfl⟩
   refine NX.held s42 ?_
   refine WD.one (i := 5) dappend_spec_t3 (bt 8 127) rfl (by kernel_rfl) ?_
   refine WO.val (run_lookupS 3 hS40 rfl Tryz.underlying42 Tryz.underlying9 Ty.zr74 rfl rfl (look_ok ok hw k)) rfl rfl rfl ?_
   refine WO.nil ?_
   have s43 : (∀ jz, World.cell? w40 ⟨g, jz, none⟩ = [Value.int .i64 D.room, Value.map (some dx.r1), Value.map (some dx.r2), Value.slice dx.a dx.vs.length dx.cap, Value.bool (wDead D.dead D.left), Value.int .i64 (wLeft D.dead D.left)][jz]?) ∧ (∀ jz, World.cell? w40 ⟨g2, jz, none⟩ = [str k][jz]?) := ⟨hS40.cel_at 1 rfl, hS40.cel_at 2 rfl⟩
   refine NX.held s43 ?_
   refine WD.one (i := 7) dappend_spec_t3 (bt 8 255) rfl (by kernel_rfl) ?_
   refine WO.store (l' := [Value.pointer (findP dx.gs k D.nm)]) 0 hS40 rfl Ty.sz74 rfl rfl rfl rfl rfl (Nat.le_of_ble_eq_true rfl) rfl (fun w44 (hS44 : St B (cel g41 [Value.pointer (findP dx.gs k D.nm)] 74 :: cel g [Value.int .i64 D.room, Value.map (some dx.r1), Value.map (some dx.r2), Value.slice dx.a dx.vs.length dx.cap, Value.bool (wDead D.dead D.left), Value.int .i64 (wLeft D.dead D.left)] 45 :: cel g2 [str k] 9 :: mpS dx.r1 dx.e1 :: mpS dx.r2 dx.e2 :: own dx.a dx.vs.length dx.cap 69 1 dx.vs :: chsA dx.gs D.ch dx.vs :: filesA dx.gs D.f :: L) w44) => ?_)
   clear hS40
   refine WO.nil ?_
   have s45 : (∀ jz, World.cell? w44 ⟨g, jz, none⟩ = [Value.int .i64 D.room, Value.map (some dx.r1), Value.map (some dx.r2), Value.slice dx.a dx.vs.length dx.cap, Value.bool (wDead D.dead D.left), Value.int .i64 (wLeft D.dead D.left)][jz]?) ∧ (∀ jz, World.cell? w44 ⟨g2, jz, none⟩ = [str k][jz]?) := ⟨hS44.cel_at 1 rfl, hS44.cel_at 2 rfl⟩
   refine NX.held s45 ?_
   refine WD.done dappend_spec_t3 (by kernel_rfl) ?_
   refine NX.go (WP.seq (WP.block (WP.seq (WP.region rfl ?_))))
   refine WO.val (run_load Ty.ag9 rfl ((hS44.cel_at 2 rfl 0).trans rfl)) rfl rfl rfl ?_
   refine WO.call rfl rfl Ty.hd43 rfl (dright_spec k (by omega) hS44) (fun v47 w46 pv47 => ?_)
   obtain ⟨rfl, hS46⟩ := pv47
   clear hS44
   refine WO.val (run_not rfl rfl) rfl rfl rfl ?_
   refine WO.asg rfl rfl ?_
   refine WO.nil (NX.go ?_)
   refine WP.condB rfl (fun g17 => ?_) (fun g17 => ?_)
   ·
    refine WP.seq (WP.region rfl ?_)
    refine WO.asg rfl rfl ?_
    refine WO.nil (NX.go (WP.ret (NX.blkRet (NX.thenRet ?_))))
    refine NX.done (l := [.tmp 6]) rfl rfl ?_
    have e : appendD D k s = ({ D with dead := wDead D.dead D.left, left := wLeft D.dead D.left }, 3) := by unfold appendD; rw [onWrite_eq, if_pos (by simpa using g10)]; show append1 _ k s = _; unfold append1; rw [if_pos (by simpa using g17)]
    rw [e]
    exact ⟨rfl, St.dk_shut (D := { D with dead := wDead D.dead D.left, left := wLeft D.dead D.left }) ⟨ok.g, ok.p1, ok.p2, ok.v⟩ ((hS46.permT [0, 1, 0, 0, 0, 0, 0, 0] (L' := cel g41 [Value.pointer (findP dx.gs k D.nm)] 74 :: cel g2 [str k] 9 :: cel g [Value.int .i64 D.room, Value.map (some dx.r1), Value.map (some dx.r2), Value.slice dx.a dx.vs.length dx.cap, Value.bool (wDead D.dead D.left), Value.int .i64 (wLeft D.dead D.left)] 45 :: mpS dx.r1 dx.e1 :: mpS dx.r2 dx.e2 :: own dx.a dx.vs.length dx.cap 69 1 dx.vs :: chsA dx.gs D.ch dx.vs :: filesA dx.gs D.f :: L) rfl).drop.drop)⟩
   ·
    have hk : fileF k = true := by simpa using g17
    refine WP.seq ?_
    refine WD.start (fun w => (∀ jz, World.cell? w ⟨g, jz, none⟩ = [Value.int .i64 D.room, Value.map (some dx.r1), Value.map (some dx.r2), Value.slice dx.a dx.vs.length dx.cap, Value.bool (wDead D.dead D.left), Value.int .i64 (wLeft D.dead D.left)][jz]?)) [] (bt 23 0) Ty.mo rfl (by kernel_rfl) hS46 (fun _ h => h.cel_at 1 rfl) (fun w48 hS48 s49 => ?_)
    clear hS46
    refine WD.pure (i := 0) dappend_spec_t6 (bt 23 1) rfl rfl rfl (by kernel_rfl) (PQ.then (PQ.blk (PQ.then PQ.body))) rfl (fun w => run_move rfl) ?_
    refine WD.pure (i := 1) dappend_spec_t6 (bt 23 3) rfl rfl rfl (by kernel_rfl) (PQ.then (PQ.blk (PQ.then PQ.body))) rfl (fun w => run_lenS rfl Tryz.underlying9 rfl) ?_
    refine WD.pure (i := 2) dappend_spec_t6 (bt 23 7) rfl rfl rfl (by kernel_rfl) (PQ.then (PQ.blk (PQ.then PQ.body))) rfl (fun w => run_move rfl) ?_
    refine WD.pure (i := 3) dappend_spec_t6 (bt 23 15) rfl rfl rfl (by kernel_rfl) (PQ.then (PQ.blk (PQ.then PQ.body))) rfl (fun w => run_nilCheck rfl) ?_
    refine WD.pure (i := 4) dappend_spec_t6 (bt 23 31) rfl rfl rfl (by kernel_rfl) (PQ.then (PQ.blk (PQ.then PQ.body))) rfl (fun w => run_fieldAddr (q := ⟨g, 0, none⟩) (show fieldB Tryz.prog 45 0 = some 0 from by kernel_rfl) rfl rfl) ?_
    refine WD.take (i := 5) dappend_spec_t6 (bt 23 63) s49 rfl rfl rfl (by kernel_rfl) (PQ.then (PQ.blk (PQ.then PQ.body))) rfl (fun w hs => run_load Ty.ag3 rfl ((hs 0).trans rfl)) ?_
    refine WD.pure (i := 6) dappend_spec_t6 (bt 23 127) rfl rfl rfl (by kernel_rfl) (PQ.then (PQ.blk (PQ.then PQ.body))) rfl (fun w => run_move rfl) ?_
    refine WD.one (i := 7) dappend_spec_t6 (bt 23 255) rfl (by kernel_rfl) ?_
    have hS50 := hS48.permT [1, 2, 2, 2, 2, 2, 0, 0] (L' := cel g [Value.int .i64 D.room, Value.map (some dx.r1), Value.map (some dx.r2), Value.slice dx.a dx.vs.length dx.cap, Value.bool (wDead D.dead D.left), Value.int .i64 (wLeft D.dead D.left)] 45 :: mpS dx.r1 dx.e1 :: mpS dx.r2 dx.e2 :: own dx.a dx.vs.length dx.cap 69 1 dx.vs :: chsA dx.gs D.ch dx.vs :: filesA dx.gs D.f :: cel g41 [Value.pointer (findP dx.gs k D.nm)] 74 :: cel g2 [str k] 9 :: L) rfl
    clear hS48
    refine WO.call rfl rfl Ty.hd44 rfl (dused_open (D := { D with dead := wDead D.dead D.left, left := wLeft D.dead D.left }) (dx := dx) ⟨ok.g, ok.p1, ok.p2, ok.v⟩ hw.w ⟨hb.ch, hb.f, hb.t⟩ ht hS50) (fun v52 w51 pv52 => ?_)
    obtain ⟨rfl, hS51⟩ := pv52
    clear hS50
    refine WO.nil ?_
    have s53 : (∀ jz, World.cell? w51 ⟨g, jz, none⟩ = [Value.int .i64 D.room, Value.map (some dx.r1), Value.map (some dx.r2), Value.slice dx.a dx.vs.length dx.cap, Value.bool (wDead D.dead D.left), Value.int .i64 (wLeft D.dead D.left)][jz]?) := hS51.cel_at 0 rfl
    refine NX.held s53 ?_
    refine WD.pure (i := 8) dappend_spec_t6 (bt 23 511) rfl rfl rfl (by kernel_rfl) (PQ.then (PQ.blk (PQ.then PQ.body))) rfl (fun w => run_sub rfl rfl (IntWalk.i64_in _ (by omega))) ?_
    refine WD.pure (i := 9) dappend_spec_t6 (bt 23 1023) rfl rfl rfl (by kernel_rfl) (PQ.then (PQ.blk (PQ.then PQ.body))) rfl (fun w => run_gtr rfl rfl) ?_
    refine WD.pure (i := 10) dappend_spec_t6 (bt 23 2047) rfl rfl rfl (by kernel_rfl) (PQ.then (PQ.blk (PQ.then PQ.body))) rfl (fun w => run_move rfl) ?_
    by_cases g32 : (D.room - ((usedN D.f D.nm : Nat) : Int)) < (s.length : Int)
    ·
     refine WD.off (i := 11) dappend_spec_t6 (bt 23 4095) rfl rfl rfl (decide_eq_true g32) (by kernel_rfl) (PQ.then (PQ.blk (PQ.then PQ.body))) rfl ?_
     refine WD.off (i := 12) dappend_spec_t6 (bt 23 8191) rfl rfl rfl (decide_eq_true g32) (by kernel_rfl) (PQ.then (PQ.blk (PQ.then PQ.body))) rfl ?_
     refine WD.off (i := 13) dappend_spec_t6 (bt 23 16383) rfl rfl rfl (decide_eq_true g32) (by kernel_rfl) (PQ.then (PQ.blk (PQ.then PQ.body))) rfl ?_
     refine WD.offU (i := 14) dappend_spec_t6 (bt 23 32767) rfl rfl rfl (by kernel_rfl) (PQ.then (PQ.blk (PQ.then PQ.body))) rfl ?_
     refine WD.offU (i := 15) dappend_spec_t6 (bt 23 65535) rfl rfl rfl (by kernel_rfl) (PQ.then (PQ.blk (PQ.then PQ.body))) rfl ?_
     refine WD.offU (i := 16) dappend_spec_t6 (bt 23 131071) rfl rfl rfl (by kernel_rfl) (PQ.then (PQ.blk (PQ.then PQ.body))) rfl ?_
     refine WD.offU (i := 17) dappend_spec_t6 (bt 23 262143) rfl rfl rfl (by kernel_rfl) (PQ.then (PQ.blk (PQ.then PQ.body))) rfl ?_
     refine WD.offU (i := 18) dappend_spec_t6 (bt 23 524287) rfl rfl rfl (by kernel_rfl) (PQ.then (PQ.blk (PQ.then PQ.body))) rfl ?_
     refine WD.offU (i := 19) dappend_spec_t6 (bt 23 1048575) rfl rfl rfl (by kernel_rfl) (PQ.then (PQ.blk (PQ.then PQ.body))) rfl ?_
     refine WD.off (i := 20) dappend_spec_t6 (bt 23 2097151) rfl rfl rfl (decide_eq_true g32) (by kernel_rfl) (PQ.then (PQ.blk (PQ.then PQ.body))) rfl ?_
     refine WD.pure (i := 21) dappend_spec_t6 (bt 23 4194303) rfl rfl rfl (by kernel_rfl) (PQ.then (PQ.blk (PQ.then PQ.body))) rfl (fun w => run_pickT rfl (decide_eq_true g32) rfl) ?_
     refine WD.pure (i := 22) dappend_spec_t6 (bt 23 8388607) rfl rfl rfl (by kernel_rfl) (PQ.then (PQ.blk (PQ.then PQ.body))) rfl (fun w => run_assign rfl) ?_
     refine WD.done dappend_spec_t6 (by kernel_rfl) ?_
     refine NX.go ?_
     refine WP.condT rfl rfl ?_
     refine WP.seq (WP.region rfl ?_)
     refine WO.asg rfl rfl ?_
     refine WO.nil (NX.go (WP.ret (NX.blkRet (NX.thenRet ?_))))
     refine NX.done (l := [.tmp 6]) rfl rfl ?_
     have e : appendD D k s = ({ D with dead := wDead D.dead D.left, left := wLeft D.dead D.left }, 4) := by unfold appendD; rw [onWrite_eq, if_pos (by simpa using g10)]; show append1 _ k s = _; unfold append1; rw [if_neg (by rw [hk]; decide), if_pos (show D.room - ((usedN D.f D.nm : Nat) : Int) < (s.length : Int) ∨ (findN k D.nm = none ∧ D.nm.length = 64) from .inl g32)]
     rw [e]
     exact ⟨rfl, St.dk_shut (D := { D with dead := wDead D.dead D.left, left := wLeft D.dead D.left }) ⟨ok.g, ok.p1, ok.p2, ok.v⟩ ((hS51.permT [6, 6, 0, 0, 0, 0, 0, 0] (L' := cel g41 [Value.pointer (findP dx.gs k D.nm)] 74 :: cel g2 [str k] 9 :: cel g [Value.int .i64 D.room, Value.map (some dx.r1), Value.map (some dx.r2), Value.slice dx.a dx.vs.length dx.cap, Value.bool (wDead D.dead D.left), Value.int .i64 (wLeft D.dead D.left)] 45 :: mpS dx.r1 dx.e1 :: mpS dx.r2 dx.e2 :: own dx.a dx.vs.length dx.cap 69 1 dx.vs :: chsA dx.gs D.ch dx.vs :: filesA dx.gs D.f :: L) rfl).drop.drop)⟩
    ·
     refine WD.one (i := 11) dappend_spec_t6 (bt 23 4095) rfl (by kernel_rfl) ?_
     refine WO.on rfl rfl (decide_eq_false g32) ?_
     refine WO.val (run_load Ty.ag74 rfl ((hS51.cel_at 6 rfl 0).trans rfl)) rfl rfl rfl ?_
     refine WO.nil ?_
     have s54 : (∀ jz, World.cell? w51 ⟨g, jz, none⟩ = [Value.int .i64 D.room, Value.map (some dx.r1), Value.map (some dx.r2), Value.slice dx.a dx.vs.length dx.cap, Value.bool (wDead D.dead D.left), Value.int .i64 (wLeft D.dead D.left)][jz]?) := hS51.cel_at 0 rfl
     refine NX.held s54 ?_
     refine WD.pureOn (i := 12) dappend_spec_t6 (bt 23 8191) rfl rfl rfl (decide_eq_false g32) (by kernel_rfl) (PQ.then (PQ.blk (PQ.then PQ.body))) rfl (fun w => run_eqlNilP Tryz.underlying74 rfl rfl) ?_
     refine WD.pureOn (i := 13) dappend_spec_t6 (bt 23 16383) rfl rfl rfl (decide_eq_false g32) (by kernel_rfl) (PQ.then (PQ.blk (PQ.then PQ.body))) rfl (fun w => run_move rfl) ?_
     rcases Bool.eq_false_or_eq_true ((findP dx.gs k D.nm).isNone) with g35 | g35
     ·
      have hn := findP_none g35
      have hP : findP dx.gs k D.nm = none := by unfold findP; rw [hn]; rfl
      rw [hP] at hS51
      refine WD.pureOn (i := 14) dappend_spec_t6 (bt 23 32767) rfl rfl rfl g35 (by kernel_rfl) (PQ.then (PQ.blk (PQ.then PQ.body))) rfl (fun w => run_move rfl) ?_
      refine WD.pureOn (i := 15) dappend_spec_t6 (bt 23 65535) rfl rfl rfl g35 (by kernel_rfl) (PQ.then (PQ.blk (PQ.then PQ.body))) rfl (fun w => run_nilCheck rfl) ?_
      refine WD.pureOn (i := 16) dappend_spec_t6 (bt 23 131071) rfl rfl rfl g35 (by kernel_rfl) (PQ.then (PQ.blk (PQ.then PQ.body))) rfl (fun w => run_fieldAddr (q := ⟨g, 1, none⟩) (show fieldB Tryz.prog 45 1 = some 1 from by kernel_rfl) rfl rfl) ?_
      refine WD.takeOn (i := 17) dappend_spec_t6 (bt 23 262143) s54 rfl rfl rfl g35 (by kernel_rfl) (PQ.then (PQ.blk (PQ.then PQ.body))) rfl (fun w hs => run_load Ty.ag42 rfl ((hs 1).trans rfl)) ?_
      refine WD.one (i := 18) dappend_spec_t6 (bt 23 524287) rfl (by kernel_rfl) ?_
      refine WO.on rfl rfl g35 ?_
      refine WO.val (run_lenMapS 1 hS51 rfl rfl Tryz.underlying42 rfl) rfl rfl rfl ?_
      refine WO.nil ?_
      have s55 : (∀ jz, World.cell? w51 ⟨g, jz, none⟩ = [Value.int .i64 D.room, Value.map (some dx.r1), Value.map (some dx.r2), Value.slice dx.a dx.vs.length dx.cap, Value.bool (wDead D.dead D.left), Value.int .i64 (wLeft D.dead D.left)][jz]?) := hS51.cel_at 0 rfl
      refine NX.held s55 ?_
      refine WD.pureOn (i := 19) dappend_spec_t6 (bt 23 1048575) rfl rfl rfl g35 (by kernel_rfl) (PQ.then (PQ.blk (PQ.then PQ.body))) rfl (fun w => run_eql rfl rfl) ?_
      refine WD.pureOn (i := 20) dappend_spec_t6 (bt 23 2097151) rfl rfl rfl (decide_eq_false g32) (by kernel_rfl) (PQ.then (PQ.blk (PQ.then PQ.body))) rfl (fun w => run_pickT rfl g35 rfl) ?_
      refine WD.pure (i := 21) dappend_spec_t6 (bt 23 4194303) rfl rfl rfl (by kernel_rfl) (PQ.then (PQ.blk (PQ.then PQ.body))) rfl (fun w => run_pickF rfl (decide_eq_false g32) rfl) ?_
      refine WD.pure (i := 22) dappend_spec_t6 (bt 23 8388607) rfl rfl rfl (by kernel_rfl) (PQ.then (PQ.blk (PQ.then PQ.body))) rfl (fun w => run_assign rfl) ?_
      refine WD.done dappend_spec_t6 (by kernel_rfl) ?_
      refine NX.go ?_
      refine WP.condP rfl (fun g21 => ?_) (fun g21 => ?_)
      ·
       refine WP.seq (WP.region rfl ?_)
       refine WO.asg rfl rfl ?_
       refine WO.nil (NX.go (WP.ret (NX.blkRet (NX.thenRet ?_))))
       refine NX.done (l := [.tmp 6]) rfl rfl ?_
       have e : appendD D k s = ({ D with dead := wDead D.dead D.left, left := wLeft D.dead D.left }, 4) := by unfold appendD; rw [onWrite_eq, if_pos (by simpa using g10)]; show append1 _ k s = _; unfold append1; rw [if_neg (by rw [hk]; decide), if_pos (show D.room - ((usedN D.f D.nm : Nat) : Int) < (s.length : Int) ∨ (findN k D.nm = none ∧ D.nm.length = 64) from .inr ⟨hn, by omega⟩)]
       rw [e]
       exact ⟨rfl, St.dk_shut (D := { D with dead := wDead D.dead D.left, left := wLeft D.dead D.left }) ⟨ok.g, ok.p1, ok.p2, ok.v⟩ ((hS51.permT [6, 6, 0, 0, 0, 0, 0, 0] (L' := cel g41 [Value.pointer none] 74 :: cel g2 [str k] 9 :: cel g [Value.int .i64 D.room, Value.map (some dx.r1), Value.map (some dx.r2), Value.slice dx.a dx.vs.length dx.cap, Value.bool (wDead D.dead D.left), Value.int .i64 (wLeft D.dead D.left)] 45 :: mpS dx.r1 dx.e1 :: mpS dx.r2 dx.e2 :: own dx.a dx.vs.length dx.cap 69 1 dx.vs :: chsA dx.gs D.ch dx.vs :: filesA dx.gs D.f :: L) rfl).drop.drop)⟩
      ·
       refine WP.skip (NX.blk (NX.go (WP.seq (WP.seq (WP.region rfl ?_)))))
       refine WO.val (run_load Ty.ag74 rfl ((hS51.cel_at 6 rfl 0).trans rfl)) rfl rfl rfl ?_
       refine WO.val (run_eqlNilP Tryz.underlying74 rfl rfl) rfl rfl rfl ?_
       refine WO.nil (NX.go ?_)
       refine WP.condT rfl rfl ?_
       refine WP.seq (WP.region rfl ?_)
       refine WO.val (run_build (v := Value.agg #[str [], Value.int .i64 0]) rfl (fun w => by kernel_rfl)) rfl rfl rfl ?_
       refine WO.box (l := [str [], Value.int .i64 0]) hS51 rfl rfl rfl (fun g57 w56 lg57 hS56 => ?_)
       clear hS51
       refine WO.store (l' := [Value.pointer (some ⟨g57, 0, none⟩)]) 7 hS56 rfl Ty.sz74 rfl rfl rfl rfl rfl (Nat.le_of_ble_eq_true rfl) rfl (fun w58 (hS58 : St B (cel g57 [str [], Value.int .i64 0] 76 :: cel g [Value.int .i64 D.room, Value.map (some dx.r1), Value.map (some dx.r2), Value.slice dx.a dx.vs.length dx.cap, Value.bool (wDead D.dead D.left), Value.int .i64 (wLeft D.dead D.left)] 45 :: mpS dx.r1 dx.e1 :: mpS dx.r2 dx.e2 :: own dx.a dx.vs.length dx.cap 69 1 dx.vs :: chsA dx.gs D.ch dx.vs :: filesA dx.gs D.f :: cel g41 [Value.pointer (some ⟨g57, 0, none⟩)] 74 :: cel g2 [str k] 9 :: L) w58) => ?_)
       clear hS56
       refine WO.nil (NX.go (WP.region rfl ?_))
       refine WO.mv rfl rfl ?_
       refine WO.val (run_makeFunc rfl rfl) rfl rfl rfl ?_
       have hS59 : St B (cel g57 [str [], Value.int .i64 0] 76 :: cel g [Value.int .i64 D.room, Value.map (some dx.r1), Value.map (some dx.r2), Value.slice dx.a dx.vs.length dx.cap, Value.bool (wDead D.dead D.left), Value.int .i64 (wLeft D.dead D.left)] 45 :: mpS dx.r1 dx.e1 :: mpS dx.r2 dx.e2 :: own dx.a dx.vs.length dx.cap 69 1 dx.vs :: chsA dx.gs D.ch dx.vs :: filesA dx.gs D.f :: scel g41 [Value.pointer (some ⟨g57, 0, none⟩)] 74 :: cel g2 [str k] 9 :: L) w58 := hS58.cel_seal_i 7 rfl rfl
       clear hS58
       have hS60 : St B (cel g57 [str [], Value.int .i64 0] 76 :: cel g [Value.int .i64 D.room, Value.map (some dx.r1), Value.map (some dx.r2), Value.slice dx.a dx.vs.length dx.cap, Value.bool (wDead D.dead D.left), Value.int .i64 (wLeft D.dead D.left)] 45 :: mpS dx.r1 dx.e1 :: mpS dx.r2 dx.e2 :: own dx.a dx.vs.length dx.cap 69 1 dx.vs :: chsA dx.gs D.ch dx.vs :: filesA dx.gs D.f :: scel g41 [Value.pointer (some ⟨g57, 0, none⟩)] 74 :: scel g2 [str k] 9 :: L) w58 := hS59.cel_seal_i 8 rfl rfl
       clear hS59
       have hS61 : St B (chgA (dx.gs ++ [g57]) (Chg.mk [] k D.f.length) (Value.func (.func 46) #[] #[ptrV g41, ptrV g2]) :: scel g41 [Value.pointer (some ⟨g57, 0, none⟩)] 74 :: cel g57 [str [], Value.int .i64 0] 76 :: cel g [Value.int .i64 D.room, Value.map (some dx.r1), Value.map (some dx.r2), Value.slice dx.a dx.vs.length dx.cap, Value.bool (wDead D.dead D.left), Value.int .i64 (wLeft D.dead D.left)] 45 :: mpS dx.r1 dx.e1 :: mpS dx.r2 dx.e2 :: own dx.a dx.vs.length dx.cap 69 1 dx.vs :: chsA dx.gs D.ch dx.vs :: filesA dx.gs D.f :: L) w58 := mk_put (gs := dx.gs ++ [g57]) (c := (Chg.mk [] k D.f.length)) (fileF_ne hk) rfl (getD_new ok.g).symm ((St.dup (scel_pers _ _ _) (hS60.permT [7, 7, 0, 0, 0, 0, 0, 0, 0] (L' := scel g41 [Value.pointer (some ⟨g57, 0, none⟩)] 74 :: scel g2 [str k] 9 :: cel g57 [str [], Value.int .i64 0] 76 :: cel g [Value.int .i64 D.room, Value.map (some dx.r1), Value.map (some dx.r2), Value.slice dx.a dx.vs.length dx.cap, Value.bool (wDead D.dead D.left), Value.int .i64 (wLeft D.dead D.left)] 45 :: mpS dx.r1 dx.e1 :: mpS dx.r2 dx.e2 :: own dx.a dx.vs.length dx.cap 69 1 dx.vs :: chsA dx.gs D.ch dx.vs :: filesA dx.gs D.f :: L) rfl)).permT [1, 1, 0] (L' := scel g41 [Value.pointer (some ⟨g57, 0, none⟩)] 74 :: scel g2 [str k] 9 :: scel g41 [Value.pointer (some ⟨g57, 0, none⟩)] 74 :: cel g57 [str [], Value.int .i64 0] 76 :: cel g [Value.int .i64 D.room, Value.map (some dx.r1), Value.map (some dx.r2), Value.slice dx.a dx.vs.length dx.cap, Value.bool (wDead D.dead D.left), Value.int .i64 (wLeft D.dead D.left)] 45 :: mpS dx.r1 dx.e1 :: mpS dx.r2 dx.e2 :: own dx.a dx.vs.length dx.cap 69 1 dx.vs :: chsA dx.gs D.ch dx.vs :: filesA dx.gs D.f :: L) rfl)
       clear hS60
       have hS62 := hS61.permT [0, 3, 2, 3, 0, 0, 0, 0, 0] (L' := chgA (dx.gs ++ [g57]) (Chg.mk [] k D.f.length) (Value.func (.func 46) #[] #[ptrV g41, ptrV g2]) :: mpS dx.r1 dx.e1 :: cel g [Value.int .i64 D.room, Value.map (some dx.r1), Value.map (some dx.r2), Value.slice dx.a dx.vs.length dx.cap, Value.bool (wDead D.dead D.left), Value.int .i64 (wLeft D.dead D.left)] 45 :: own dx.a dx.vs.length dx.cap 69 1 dx.vs :: scel g41 [Value.pointer (some ⟨g57, 0, none⟩)] 74 :: cel g57 [str [], Value.int .i64 0] 76 :: mpS dx.r2 dx.e2 :: chsA dx.gs D.ch dx.vs :: filesA dx.gs D.f :: L) rfl
       clear hS61
       refine WO.call rfl rfl Ty.hd45 rfl (dchange_spec (gs := dx.gs ++ [g57]) (c := (Chg.mk [] k D.f.length)) (cs := [ptrV g41, ptrV g2]) hvs hS62) (fun v64 w63 pv64 => ?_)
       obtain ⟨a2, c2, rfl, hS63⟩ := pv64
       clear hS62
       refine WO.nil (NX.go (WP.seq (WP.region rfl ?_)))
       refine WO.val (run_load Ty.ag74 rfl ((hS63.scel_at 4 rfl 0).trans rfl)) rfl rfl rfl ?_
       refine WO.val (run_nilCheck rfl) rfl rfl rfl ?_
       refine WO.val (run_fieldAddr (q := ⟨g57, 0, none⟩) (show fieldB Tryz.prog 76 0 = some 0 from by kernel_rfl) rfl rfl) rfl rfl rfl ?_
       refine WO.val (run_load Ty.ag9 rfl ((hS63.cel_at 5 rfl 0).trans rfl)) rfl rfl rfl ?_
       refine WO.mv rfl rfl ?_
       refine WO.val (run_cat rfl rfl (by first | omega | (simp; omega))) rfl rfl rfl ?_
       refine WO.val (run_nilCheck rfl) rfl rfl rfl ?_
       refine WO.val (run_fieldAddr (q := ⟨g57, 0, none⟩) (show fieldB Tryz.prog 76 0 = some 0 from by kernel_rfl) rfl rfl) rfl rfl rfl ?_
       refine WO.store (l' := [str ([] ++ s), Value.int .i64 0]) 5 hS63 rfl Ty.sz9 rfl rfl rfl rfl rfl (Nat.le_of_ble_eq_true rfl) rfl (fun w65 (hS65 : St B (chgA (dx.gs ++ [g57]) (Chg.mk [] k D.f.length) (Value.func (.func 46) #[] #[ptrV g41, ptrV g2]) :: mpS dx.r1 (applyE (dx.gs ++ [g57]) dx.e1 (Chg.mk [] k D.f.length)) :: cel g [Value.int .i64 D.room, Value.map (some dx.r1), Value.map (some dx.r2), Value.slice a2 ((dx.vs ++ [Value.func (.func 46) #[] #[ptrV g41, ptrV g2]]).length) c2, Value.bool (wDead D.dead D.left), Value.int .i64 (wLeft D.dead D.left)] 45 :: own a2 ((dx.vs ++ [Value.func (.func 46) #[] #[ptrV g41, ptrV g2]]).length) c2 69 1 (dx.vs ++ [Value.func (.func 46) #[] #[ptrV g41, ptrV g2]]) :: scel g41 [Value.pointer (some ⟨g57, 0, none⟩)] 74 :: cel g57 [str ([] ++ s), Value.int .i64 0] 76 :: mpS dx.r2 dx.e2 :: chsA dx.gs D.ch dx.vs :: filesA dx.gs D.f :: L) w65) => ?_)
       clear hS63
       refine WO.nil (NX.go (WP.seq (WP.region rfl ?_)))
       refine WO.asg rfl rfl ?_
       refine WO.nil (NX.go (WP.ret ?_))
       have hS66 : St B (chsA (dx.gs ++ [g57]) (D.ch ++ [(Chg.mk [] k D.f.length)]) (dx.vs ++ [Value.func (.func 46) #[] #[ptrV g41, ptrV g2]]) :: mpS dx.r1 (applyE (dx.gs ++ [g57]) dx.e1 (Chg.mk [] k D.f.length)) :: cel g [Value.int .i64 D.room, Value.map (some dx.r1), Value.map (some dx.r2), Value.slice a2 ((dx.vs ++ [Value.func (.func 46) #[] #[ptrV g41, ptrV g2]]).length) c2, Value.bool (wDead D.dead D.left), Value.int .i64 (wLeft D.dead D.left)] 45 :: own a2 ((dx.vs ++ [Value.func (.func 46) #[] #[ptrV g41, ptrV g2]]).length) c2 69 1 (dx.vs ++ [Value.func (.func 46) #[] #[ptrV g41, ptrV g2]]) :: scel g41 [Value.pointer (some ⟨g57, 0, none⟩)] 74 :: cel g57 [str ([] ++ s), Value.int .i64 0] 76 :: mpS dx.r2 dx.e2 :: filesA dx.gs D.f :: L) w65 := by have z := (hS65.permT [7, 0, 0, 0, 0, 0, 0, 0, 0] (L' := chsA dx.gs D.ch dx.vs :: chgA (dx.gs ++ [g57]) (Chg.mk [] k D.f.length) (Value.func (.func 46) #[] #[ptrV g41, ptrV g2]) :: mpS dx.r1 (applyE (dx.gs ++ [g57]) dx.e1 (Chg.mk [] k D.f.length)) :: cel g [Value.int .i64 D.room, Value.map (some dx.r1), Value.map (some dx.r2), Value.slice a2 ((dx.vs ++ [Value.func (.func 46) #[] #[ptrV g41, ptrV g2]]).length) c2, Value.bool (wDead D.dead D.left), Value.int .i64 (wLeft D.dead D.left)] 45 :: own a2 ((dx.vs ++ [Value.func (.func 46) #[] #[ptrV g41, ptrV g2]]).length) c2 69 1 (dx.vs ++ [Value.func (.func 46) #[] #[ptrV g41, ptrV g2]]) :: scel g41 [Value.pointer (some ⟨g57, 0, none⟩)] 74 :: cel g57 [str ([] ++ s), Value.int .i64 0] 76 :: mpS dx.r2 dx.e2 :: filesA dx.gs D.f :: L) rfl); rw [← chsA_grow (g := g57) (by rw [ok.g]; exact hw.ch)] at z; exact chsA_snoc z
       have hS67 : St B (filesA (dx.gs ++ [g57]) (D.f ++ [(s, 0)]) :: chsA (dx.gs ++ [g57]) (D.ch ++ [(Chg.mk [] k D.f.length)]) (dx.vs ++ [Value.func (.func 46) #[] #[ptrV g41, ptrV g2]]) :: mpS dx.r1 (applyE (dx.gs ++ [g57]) dx.e1 (Chg.mk [] k D.f.length)) :: cel g [Value.int .i64 D.room, Value.map (some dx.r1), Value.map (some dx.r2), Value.slice a2 ((dx.vs ++ [Value.func (.func 46) #[] #[ptrV g41, ptrV g2]]).length) c2, Value.bool (wDead D.dead D.left), Value.int .i64 (wLeft D.dead D.left)] 45 :: own a2 ((dx.vs ++ [Value.func (.func 46) #[] #[ptrV g41, ptrV g2]]).length) c2 69 1 (dx.vs ++ [Value.func (.func 46) #[] #[ptrV g41, ptrV g2]]) :: scel g41 [Value.pointer (some ⟨g57, 0, none⟩)] 74 :: mpS dx.r2 dx.e2 :: L) w65 := filesA_snoc (y := (s, 0)) (hS66.permT [7, 5, 0, 0, 0, 0, 0, 0] (L' := filesA dx.gs D.f :: cel g57 [str ([] ++ s), Value.int .i64 0] 76 :: chsA (dx.gs ++ [g57]) (D.ch ++ [(Chg.mk [] k D.f.length)]) (dx.vs ++ [Value.func (.func 46) #[] #[ptrV g41, ptrV g2]]) :: mpS dx.r1 (applyE (dx.gs ++ [g57]) dx.e1 (Chg.mk [] k D.f.length)) :: cel g [Value.int .i64 D.room, Value.map (some dx.r1), Value.map (some dx.r2), Value.slice a2 ((dx.vs ++ [Value.func (.func 46) #[] #[ptrV g41, ptrV g2]]).length) c2, Value.bool (wDead D.dead D.left), Value.int .i64 (wLeft D.dead D.left)] 45 :: own a2 ((dx.vs ++ [Value.func (.func 46) #[] #[ptrV g41, ptrV g2]]).length) c2 69 1 (dx.vs ++ [Value.func (.func 46) #[] #[ptrV g41, ptrV g2]]) :: scel g41 [Value.pointer (some ⟨g57, 0, none⟩)] 74 :: mpS dx.r2 dx.e2 :: L) rfl)
       refine NX.done (l := [.tmp 6]) rfl rfl ?_
       have e : appendD D k s = ({ changeD { D with dead := wDead D.dead D.left, left := wLeft D.dead D.left, f := D.f ++ [([], 0)] } ⟨[], k, D.f.length⟩ with f := D.f ++ [(s, 0)] }, 0) := by unfold appendD; rw [onWrite_eq, if_pos (by simpa using g10)]; show append1 _ k s = _; unfold append1; rw [if_neg (by rw [hk]; decide), if_neg (show ¬ (D.room - ((usedN D.f D.nm : Nat) : Int) < (s.length : Int) ∨ (findN k D.nm = none ∧ D.nm.length = 64)) from fun h => h.elim g32 (fun h => absurd h.2 (by omega))), show findN k (Dk.nm { D with dead := wDead D.dead D.left, left := wLeft D.dead D.left }) = none from hn]
       rw [e]
       exact ⟨rfl, St.dk_shut (D := { changeD { D with dead := wDead D.dead D.left, left := wLeft D.dead D.left, f := D.f ++ [([], 0)] } ⟨[], k, D.f.length⟩ with f := D.f ++ [(s, 0)] }) (append_ok (D1 := { D with dead := wDead D.dead D.left, left := wLeft D.dead D.left }) (gf := g57) (s := s) (a := a2) (cap := c2) (v := Value.func (.func 46) #[] #[ptrV g41, ptrV g2]) ok hw hk rfl rfl rfl rfl) ((hS67.permT [5, 3, 2, 3, 2, 1, 0] (L' := scel g41 [Value.pointer (some ⟨g57, 0, none⟩)] 74 :: cel g [Value.int .i64 D.room, Value.map (some dx.r1), Value.map (some dx.r2), Value.slice a2 ((dx.vs ++ [Value.func (.func 46) #[] #[ptrV g41, ptrV g2]]).length) c2, Value.bool (wDead D.dead D.left), Value.int .i64 (wLeft D.dead D.left)] 45 :: mpS dx.r1 (applyE (dx.gs ++ [g57]) dx.e1 (Chg.mk [] k D.f.length)) :: mpS dx.r2 dx.e2 :: own a2 ((dx.vs ++ [Value.func (.func 46) #[] #[ptrV g41, ptrV g2]]).length) c2 69 1 (dx.vs ++ [Value.func (.func 46) #[] #[ptrV g41, ptrV g2]]) :: chsA (dx.gs ++ [g57]) (D.ch ++ [(Chg.mk [] k D.f.length)]) (dx.vs ++ [Value.func (.func 46) #[] #[ptrV g41, ptrV g2]]) :: filesA (dx.gs ++ [g57]) (D.f ++ [(s, 0)]) :: L) rfl).drop)⟩
     ·
      obtain ⟨i, hi⟩ := findP_some g35
      obtain ⟨q, hq⟩ : ∃ q, q = dx.gs.getD i 0 := ⟨_, rfl⟩
      have hlt := hw.find hi
      have hfl := fileAt_le hb hlt.1
      have hP : findP dx.gs k D.nm = some ⟨q, 0, none⟩ := by unfold findP; rw [hi, hq]; rfl
      rw [hP] at hS51
      refine WD.off (i := 14) dappend_spec_t6 (bt 23 32767) rfl rfl rfl g35 (by kernel_rfl) (PQ.then (PQ.blk (PQ.then PQ.body))) rfl ?_
      refine WD.off (i := 15) dappend_spec_t6 (bt 23 65535) rfl rfl rfl g35 (by kernel_rfl) (PQ.then (PQ.blk (PQ.then PQ.body))) rfl ?_
      refine WD.off (i := 16) dappend_spec_t6 (bt 23 131071) rfl rfl rfl g35 (by kernel_rfl) (PQ.then (PQ.blk (PQ.then PQ.body))) rfl ?_
      refine WD.off (i := 17) dappend_spec_t6 (bt 23 262143) rfl rfl rfl g35 (by kernel_rfl) (PQ.then (PQ.blk (PQ.then PQ.body))) rfl ?_
      refine WD.off (i := 18) dappend_spec_t6 (bt 23 524287) rfl rfl rfl g35 (by kernel_rfl) (PQ.then (PQ.blk (PQ.then PQ.body))) rfl ?_
      refine WD.off (i := 19) dappend_spec_t6 (bt 23 1048575) rfl rfl rfl g35 (by kernel_rfl) (PQ.then (PQ.blk (PQ.then PQ.body))) rfl ?_
      refine WD.pureOn (i := 20) dappend_spec_t6 (bt 23 2097151) rfl rfl rfl (decide_eq_false g32) (by kernel_rfl) (PQ.then (PQ.blk (PQ.then PQ.body))) rfl (fun w => run_pickF rfl g35 rfl) ?_
      refine WD.pure (i := 21) dappend_spec_t6 (bt 23 4194303) rfl rfl rfl (by kernel_rfl) (PQ.then (PQ.blk (PQ.then PQ.body))) rfl (fun w => run_pickF rfl (decide_eq_false g32) rfl) ?_
      refine WD.pure (i := 22) dappend_spec_t6 (bt 23 8388607) rfl rfl rfl (by kernel_rfl) (PQ.then (PQ.blk (PQ.then PQ.body))) rfl (fun w => run_assign rfl) ?_
      refine WD.done dappend_spec_t6 (by kernel_rfl) ?_
      refine NX.go ?_
      refine WP.condF rfl rfl ?_
      refine WP.skip (NX.blk (NX.go (WP.seq (WP.seq (WP.region rfl ?_)))))
      refine WO.val (run_load Ty.ag74 rfl ((hS51.cel_at 6 rfl 0).trans rfl)) rfl rfl rfl ?_
      refine WO.val (run_eqlNilP Tryz.underlying74 rfl rfl) rfl rfl rfl ?_
      refine WO.nil (NX.go ?_)
      refine WP.condF rfl rfl ?_
      refine WP.skip (NX.go (WP.seq ?_))
      have hS68 : St B (cel q [str ((fileAt D.f i).1), Value.int .i64 ((fileAt D.f i).2 : Int)] 76 :: filesBut i dx.gs D.f :: cel g [Value.int .i64 D.room, Value.map (some dx.r1), Value.map (some dx.r2), Value.slice dx.a dx.vs.length dx.cap, Value.bool (wDead D.dead D.left), Value.int .i64 (wLeft D.dead D.left)] 45 :: mpS dx.r1 dx.e1 :: mpS dx.r2 dx.e2 :: own dx.a dx.vs.length dx.cap 69 1 dx.vs :: chsA dx.gs D.ch dx.vs :: cel g41 [Value.pointer (some ⟨q, 0, none⟩)] 74 :: cel g2 [str k] 9 :: L) w51 := by have z := filesA_pick hlt.1 (hS51.permT [5, 0, 0, 0, 0, 0, 0, 0] (L' := filesA dx.gs D.f :: cel g [Value.int .i64 D.room, Value.map (some dx.r1), Value.map (some dx.r2), Value.slice dx.a dx.vs.length dx.cap, Value.bool (wDead D.dead D.left), Value.int .i64 (wLeft D.dead D.left)] 45 :: mpS dx.r1 dx.e1 :: mpS dx.r2 dx.e2 :: own dx.a dx.vs.length dx.cap 69 1 dx.vs :: chsA dx.gs D.ch dx.vs :: cel g41 [Value.pointer (some ⟨q, 0, none⟩)] 74 :: cel g2 [str k] 9 :: L) rfl); rw [← hq] at z; exact z
      clear hS51
      refine WP.region rfl ?_
      refine WO.val (run_load Ty.ag74 rfl ((hS68.cel_at 7 rfl 0).trans rfl)) rfl rfl rfl ?_
      refine WO.val (run_nilCheck rfl) rfl rfl rfl ?_
      refine WO.val (run_fieldAddr (q := ⟨q, 0, none⟩) (show fieldB Tryz.prog 76 0 = some 0 from by kernel_rfl) rfl rfl) rfl rfl rfl ?_
      refine WO.val (run_load Ty.ag9 rfl ((hS68.cel_at 0 rfl 0).trans rfl)) rfl rfl rfl ?_
      refine WO.mv rfl rfl ?_
      refine WO.val (run_cat rfl rfl (by first | omega | (simp; omega))) rfl rfl rfl ?_
      refine WO.val (run_nilCheck rfl) rfl rfl rfl ?_
      refine WO.val (run_fieldAddr (q := ⟨q, 0, none⟩) (show fieldB Tryz.prog 76 0 = some 0 from by kernel_rfl) rfl rfl) rfl rfl rfl ?_
      refine WO.store (l' := [str (((fileAt D.f i).1) ++ s), Value.int .i64 ((fileAt D.f i).2 : Int)]) 0 hS68 rfl Ty.sz9 rfl rfl rfl rfl rfl (Nat.le_of_ble_eq_true rfl) rfl (fun w69 (hS69 : St B (cel q [str (((fileAt D.f i).1) ++ s), Value.int .i64 ((fileAt D.f i).2 : Int)] 76 :: filesBut i dx.gs D.f :: cel g [Value.int .i64 D.room, Value.map (some dx.r1), Value.map (some dx.r2), Value.slice dx.a dx.vs.length dx.cap, Value.bool (wDead D.dead D.left), Value.int .i64 (wLeft D.dead D.left)] 45 :: mpS dx.r1 dx.e1 :: mpS dx.r2 dx.e2 :: own dx.a dx.vs.length dx.cap 69 1 dx.vs :: chsA dx.gs D.ch dx.vs :: cel g41 [Value.pointer (some ⟨q, 0, none⟩)] 74 :: cel g2 [str k] 9 :: L) w69) => ?_)
      clear hS68
      refine WO.nil (NX.go (WP.seq (WP.region rfl ?_)))
      refine WO.asg rfl rfl ?_
      refine WO.nil (NX.go (WP.ret ?_))
      have hS70 : St B (filesA dx.gs (D.f.set i ((fileAt D.f i).1 ++ s, (fileAt D.f i).2)) :: cel g [Value.int .i64 D.room, Value.map (some dx.r1), Value.map (some dx.r2), Value.slice dx.a dx.vs.length dx.cap, Value.bool (wDead D.dead D.left), Value.int .i64 (wLeft D.dead D.left)] 45 :: mpS dx.r1 dx.e1 :: mpS dx.r2 dx.e2 :: own dx.a dx.vs.length dx.cap 69 1 dx.vs :: chsA dx.gs D.ch dx.vs :: cel g41 [Value.pointer (some ⟨q, 0, none⟩)] 74 :: cel g2 [str k] 9 :: L) w69 := filesA_back (y := ((fileAt D.f i).1 ++ s, (fileAt D.f i).2)) (by rw [← hq]; first | exact hS69 | (unfold cutF; rw [← hkq]; exact hS69))
      refine NX.done (l := [.tmp 6]) rfl rfl ?_
      have e : appendD D k s = ({ D with dead := wDead D.dead D.left, left := wLeft D.dead D.left, f := addTo D.f i s }, 0) := by unfold appendD; rw [onWrite_eq, if_pos (by simpa using g10)]; show append1 _ k s = _; unfold append1; rw [if_neg (by rw [hk]; decide), if_neg (show ¬ (D.room - ((usedN D.f D.nm : Nat) : Int) < (s.length : Int) ∨ (findN k D.nm = none ∧ D.nm.length = 64)) from fun h => h.elim g32 (fun h => (by rw [hi] at h; cases h.1))), show findN k (Dk.nm { D with dead := wDead D.dead D.left, left := wLeft D.dead D.left }) = some i from hi]
      rw [e]
      exact ⟨rfl, St.dk_shut (D := { D with dead := wDead D.dead D.left, left := wLeft D.dead D.left, f := addTo D.f i s }) ⟨by show dx.gs.length = (D.f.set i _).length; rw [List.length_set]; exact ok.g, ok.p1, ok.p2, ok.v⟩ ((hS70.permT [6, 6, 1, 1, 1, 1, 1, 0] (L' := cel g41 [Value.pointer (some ⟨q, 0, none⟩)] 74 :: cel g2 [str k] 9 :: cel g [Value.int .i64 D.room, Value.map (some dx.r1), Value.map (some dx.r2), Value.slice dx.a dx.vs.length dx.cap, Value.bool (wDead D.dead D.left), Value.int .i64 (wLeft D.dead D.left)] 45 :: mpS dx.r1 dx.e1 :: mpS dx.r2 dx.e2 :: own dx.a dx.vs.length dx.cap 69 1 dx.vs :: chsA dx.gs D.ch dx.vs :: filesA dx.gs (D.f.set i ((fileAt D.f i).1 ++ s, (fileAt D.f i).2)) :: L) rfl).drop.drop)⟩
end Go.Proofs.YtiggkfaonnnjoaaGreatDoor.SL

/- A disk: other names. -/
namespace Go.Proofs.YtiggkfaonnnjoaaGreatDoor.SL
open Go.RowKit Go.Proofs.YtiggkfaonnnjoaaGreatDoor
open Go.Proofs.YtiggkfaonnnjoaaGreatDoorW.PrintLast (rtab opsOf)
set_option linter.unusedVariables false
set_option linter.unusedSimpArgs false

theorem change_ok {dx : DkX} {D D1 : Dk} {c : Chg} {a : Option Addr} {cap : Nat} {v : Value} (ok : OkX dx D) (hw : WFD D) (hc : OkC D.f.length c) (h1 : D1.f = D.f) (h2 : D1.nm = D.nm) (h3 : D1.last = D.last) (h4 : D1.ch = D.ch) :
    OkX ⟨dx.gs, dx.r1, applyE dx.gs dx.e1 c, dx.r2, dx.e2, a, cap, dx.vs ++ [v]⟩ (changeD D1 c) := by
  refine ⟨?_, ?_, ?_, ?_⟩
  · show dx.gs.length = D1.f.length
    rw [h1]; exact ok.g
  · show (applyE dx.gs dx.e1 c).Perm (esOf dx.gs (applyN D1.nm c))
    rw [h2]; exact applyE_perm ok.p1 hw.good hc
  · show dx.e2.Perm (esOf dx.gs D1.last)
    rw [h3]; exact ok.p2
  · show (D1.ch ++ [_]).length = (dx.vs ++ [v]).length
    rw [List.length_append, List.length_append, h4, ok.v]; rfl
theorem drename_spec {B w : World} {L : List HP} {g : Nat} {D : Dk} {n t : Nat} (hw : WFD D) (hb : Bnd D n t) (hn1 : n ≤ 1000000000) (k u : List UInt8) (hul : u.length ≤ 140737488355328) (hS : St B (dkA g D :: L) w) : Does Tryz.prog 52 [Value.pointer (some ⟨g, 0, none⟩), str k, str u] w (fun v w1 => v = .int .i64 (renameD D k u).2 ∧ St B (dkA g (renameD D k u).1 :: L) w1) := by
 obtain ⟨dx, ok, h0⟩ := hS.dk_open
 clear hS
 have hvs : dx.vs.length ≤ 1099511627776 := by have := ok.v; have := hb.ch; omega
 refine enter (n := 26) Tryz.func52 rfl rfl [Value.pointer (some ⟨g, 0, none⟩), str k, str u] rfl ?_
 refine WP.seq (WP.region rfl ?_)
 refine WO.box (l := [str k]) h0 rfl rfl rfl (fun g2 w1 lg2 hS1 => ?_)
 clear h0
 refine WO.box (l := [str u]) hS1 rfl rfl rfl (fun g4 w3 lg4 hS3 => ?_)
 clear hS1
 refine WO.asg rfl rfl ?_
 refine WO.nil (NX.go (WP.seq (WP.region rfl ?_)))
 refine WO.mv rfl rfl ?_
 refine WO.val (run_load Ty.ag9 rfl ((hS3.cel_at 1 rfl 0).trans rfl)) rfl rfl rfl ?_
 have hS5 := hS3.permT [2, 2, 0, 0, 0, 0, 0, 0] (L' := cel g [Value.int .i64 D.room, Value.map (some dx.r1), Value.map (some dx.r2), Value.slice dx.a dx.vs.length dx.cap, Value.bool D.dead, Value.int .i64 D.left] 45 :: mpS dx.r1 dx.e1 :: cel g4 [str u] 9 :: cel g2 [str k] 9 :: mpS dx.r2 dx.e2 :: own dx.a dx.vs.length dx.cap 69 1 dx.vs :: chsA dx.gs D.ch dx.vs :: filesA dx.gs D.f :: L) rfl
 clear hS3
 refine WO.call rfl rfl Ty.hd47 rfl (dfind_spec hw.left hw.lrng k (look_ok ok hw k) hS5) (fun v7 w6 pv7 => ?_)
 obtain ⟨rfl, hS6⟩ := pv7
 clear hS5
 refine WO.mv rfl rfl ?_
 refine WO.val (run_extract rfl rfl) rfl rfl rfl ?_
 refine WO.val (run_extract rfl rfl) rfl rfl rfl ?_
 refine WO.alloc (l := [Value.pointer none]) hS6 Ty.zr74 rfl rfl (fun g9 w8 lg9 hS8 => ?_)
 clear hS6
 refine WO.store (l' := [Value.pointer (fdP D.dead D.left (findP dx.gs k D.nm))]) 0 hS8 rfl Ty.sz74 rfl rfl rfl rfl rfl (Nat.le_of_ble_eq_true rfl) rfl (fun w10 (hS10 : St B (cel g9 [Value.pointer (fdP D.dead D.left (findP dx.gs k D.nm))] 74 :: cel g [Value.int .i64 D.room, Value.map (some dx.r1), Value.map (some dx.r2), Value.slice dx.a dx.vs.length dx.cap, Value.bool (wDead D.dead D.left), Value.int .i64 (wLeft D.dead D.left)] 45 :: mpS dx.r1 dx.e1 :: cel g4 [str u] 9 :: cel g2 [str k] 9 :: mpS dx.r2 dx.e2 :: own dx.a dx.vs.length dx.cap 69 1 dx.vs :: chsA dx.gs D.ch dx.vs :: filesA dx.gs D.f :: L) w10) => ?_)
 clear hS8
 refine WO.asg rfl rfl ?_
 refine WO.nil (NX.go (WP.seq (WP.block (WP.seq (WP.region rfl ?_)))))
 refine WO.mv rfl rfl ?_
 refine WO.val (run_neq rfl rfl) rfl rfl rfl ?_
 refine WO.asg rfl rfl ?_
 refine WO.nil (NX.go ?_)
 refine WP.condP rfl (fun g15 => ?_) (fun g15 => ?_)
 ·
  refine WP.seq (WP.region rfl ?_)
  refine WO.mv rfl rfl ?_
  refine WO.asg rfl rfl ?_
  refine WO.nil (NX.go (WP.ret (NX.blkRet (NX.thenRet ?_))))
  refine NX.done (l := [.tmp 6]) rfl rfl ?_
  rcases fd_err (by first | exact g15 | exact g14) with ⟨h1, h2, h3⟩ | ⟨h1, h3⟩
  · have e : renameD D k u = ({ D with dead := wDead D.dead D.left, left := wLeft D.dead D.left }, 12) := (by unfold renameD; rw [onWrite_eq, if_pos h1]; show rename1 _ k u = _; unfold rename1; rw [show findN k (Dk.nm { D with dead := wDead D.dead D.left, left := wLeft D.dead D.left }) = none from h2]); rw [e, h3]; exact ⟨rfl, St.dk_shut (D := { D with dead := wDead D.dead D.left, left := wLeft D.dead D.left }) ⟨ok.g, ok.p1, ok.p2, ok.v⟩ ((hS10.permT [0, 2, 2, 0, 0, 0, 0, 0, 0] (L' := cel g9 [Value.pointer (fdP D.dead D.left (findP dx.gs k D.nm))] 74 :: cel g4 [str u] 9 :: cel g2 [str k] 9 :: cel g [Value.int .i64 D.room, Value.map (some dx.r1), Value.map (some dx.r2), Value.slice dx.a dx.vs.length dx.cap, Value.bool (wDead D.dead D.left), Value.int .i64 (wLeft D.dead D.left)] 45 :: mpS dx.r1 dx.e1 :: mpS dx.r2 dx.e2 :: own dx.a dx.vs.length dx.cap 69 1 dx.vs :: chsA dx.gs D.ch dx.vs :: filesA dx.gs D.f :: L) rfl).drop.drop.drop)⟩
  · have e : renameD D k u = ({ D with dead := wDead D.dead D.left, left := wLeft D.dead D.left }, 11) := (by unfold renameD; rw [onWrite_eq, if_neg (by rw [h1]; decide)]); rw [e, h3]; exact ⟨rfl, St.dk_shut (D := { D with dead := wDead D.dead D.left, left := wLeft D.dead D.left }) ⟨ok.g, ok.p1, ok.p2, ok.v⟩ ((hS10.permT [0, 2, 2, 0, 0, 0, 0, 0, 0] (L' := cel g9 [Value.pointer (fdP D.dead D.left (findP dx.gs k D.nm))] 74 :: cel g4 [str u] 9 :: cel g2 [str k] 9 :: cel g [Value.int .i64 D.room, Value.map (some dx.r1), Value.map (some dx.r2), Value.slice dx.a dx.vs.length dx.cap, Value.bool (wDead D.dead D.left), Value.int .i64 (wLeft D.dead D.left)] 45 :: mpS dx.r1 dx.e1 :: mpS dx.r2 dx.e2 :: own dx.a dx.vs.length dx.cap 69 1 dx.vs :: chsA dx.gs D.ch dx.vs :: filesA dx.gs D.f :: L) rfl).drop.drop.drop)⟩
 ·
  obtain ⟨hok, i, hi⟩ := fd_ok (Decidable.of_not_not g15)
  obtain ⟨q, hq⟩ : ∃ q, q = dx.gs.getD i 0 := ⟨_, rfl⟩
  have hlt := hw.find hi
  rw [fdP_eq hok hi hq] at hS10
  refine WP.seq (WP.region rfl ?_)
  refine WO.val (run_load Ty.ag9 rfl ((hS10.cel_at 3 rfl 0).trans rfl)) rfl rfl rfl ?_
  refine WO.call rfl rfl Ty.hd43 rfl (dright_spec u (by omega) hS10) (fun v12 w11 pv12 => ?_)
  obtain ⟨rfl, hS11⟩ := pv12
  clear hS10
  refine WO.val (run_not rfl rfl) rfl rfl rfl ?_
  refine WO.asg rfl rfl ?_
  refine WO.nil (NX.go ?_)
  refine WP.condB rfl (fun g19 => ?_) (fun g19 => ?_)
  ·
   refine WP.seq (WP.region rfl ?_)
   refine WO.asg rfl rfl ?_
   refine WO.nil (NX.go (WP.ret (NX.blkRet (NX.thenRet ?_))))
   refine NX.done (l := [.tmp 6]) rfl rfl ?_
   have e : renameD D k u = ({ D with dead := wDead D.dead D.left, left := wLeft D.dead D.left }, 3) := by unfold renameD; rw [onWrite_eq, if_pos hok]; show rename1 _ k u = _; unfold rename1; rw [show findN k (Dk.nm { D with dead := wDead D.dead D.left, left := wLeft D.dead D.left }) = some i from hi]; exact if_pos (by simpa using g19)
   rw [e]
   exact ⟨rfl, St.dk_shut (D := { D with dead := wDead D.dead D.left, left := wLeft D.dead D.left }) ⟨ok.g, ok.p1, ok.p2, ok.v⟩ ((hS11.permT [0, 2, 2, 0, 0, 0, 0, 0, 0] (L' := cel g9 [Value.pointer (some ⟨q, 0, none⟩)] 74 :: cel g4 [str u] 9 :: cel g2 [str k] 9 :: cel g [Value.int .i64 D.room, Value.map (some dx.r1), Value.map (some dx.r2), Value.slice dx.a dx.vs.length dx.cap, Value.bool (wDead D.dead D.left), Value.int .i64 (wLeft D.dead D.left)] 45 :: mpS dx.r1 dx.e1 :: mpS dx.r2 dx.e2 :: own dx.a dx.vs.length dx.cap 69 1 dx.vs :: chsA dx.gs D.ch dx.vs :: filesA dx.gs D.f :: L) rfl).drop.drop.drop)⟩
  ·
   have hu : fileF u = true := by simpa using g19
   refine WP.skip (NX.blk (NX.go (WP.seq (WP.region rfl ?_))))
   refine WO.mv rfl rfl ?_
   refine WO.val (run_makeFunc rfl rfl) rfl rfl rfl ?_
   have hS13 : St B (cel g9 [Value.pointer (some ⟨q, 0, none⟩)] 74 :: cel g [Value.int .i64 D.room, Value.map (some dx.r1), Value.map (some dx.r2), Value.slice dx.a dx.vs.length dx.cap, Value.bool (wDead D.dead D.left), Value.int .i64 (wLeft D.dead D.left)] 45 :: mpS dx.r1 dx.e1 :: cel g4 [str u] 9 :: scel g2 [str k] 9 :: mpS dx.r2 dx.e2 :: own dx.a dx.vs.length dx.cap 69 1 dx.vs :: chsA dx.gs D.ch dx.vs :: filesA dx.gs D.f :: L) w11 := hS11.cel_seal_i 4 rfl rfl
   clear hS11
   have hS14 : St B (scel g9 [Value.pointer (some ⟨q, 0, none⟩)] 74 :: cel g [Value.int .i64 D.room, Value.map (some dx.r1), Value.map (some dx.r2), Value.slice dx.a dx.vs.length dx.cap, Value.bool (wDead D.dead D.left), Value.int .i64 (wLeft D.dead D.left)] 45 :: mpS dx.r1 dx.e1 :: cel g4 [str u] 9 :: scel g2 [str k] 9 :: mpS dx.r2 dx.e2 :: own dx.a dx.vs.length dx.cap 69 1 dx.vs :: chsA dx.gs D.ch dx.vs :: filesA dx.gs D.f :: L) w11 := hS13.cel_seal_i 0 rfl rfl
   clear hS13
   have hS15 : St B (scel g9 [Value.pointer (some ⟨q, 0, none⟩)] 74 :: cel g [Value.int .i64 D.room, Value.map (some dx.r1), Value.map (some dx.r2), Value.slice dx.a dx.vs.length dx.cap, Value.bool (wDead D.dead D.left), Value.int .i64 (wLeft D.dead D.left)] 45 :: mpS dx.r1 dx.e1 :: scel g4 [str u] 9 :: scel g2 [str k] 9 :: mpS dx.r2 dx.e2 :: own dx.a dx.vs.length dx.cap 69 1 dx.vs :: chsA dx.gs D.ch dx.vs :: filesA dx.gs D.f :: L) w11 := hS14.cel_seal_i 3 rfl rfl
   clear hS14
   have hS16 : St B (chgA dx.gs (Chg.mk k u i) (Value.func (.func 61) #[] #[ptrV g2, ptrV g9, ptrV g4]) :: cel g [Value.int .i64 D.room, Value.map (some dx.r1), Value.map (some dx.r2), Value.slice dx.a dx.vs.length dx.cap, Value.bool (wDead D.dead D.left), Value.int .i64 (wLeft D.dead D.left)] 45 :: mpS dx.r1 dx.e1 :: mpS dx.r2 dx.e2 :: own dx.a dx.vs.length dx.cap 69 1 dx.vs :: chsA dx.gs D.ch dx.vs :: filesA dx.gs D.f :: L) w11 := mk_mov (c := (Chg.mk k u i)) (fileF_ne hu) (fileF_ne hlt.2) hq (hS15.permT [4, 0, 2, 0, 0, 0, 0, 0, 0] (L' := scel g2 [str k] 9 :: scel g9 [Value.pointer (some ⟨q, 0, none⟩)] 74 :: scel g4 [str u] 9 :: cel g [Value.int .i64 D.room, Value.map (some dx.r1), Value.map (some dx.r2), Value.slice dx.a dx.vs.length dx.cap, Value.bool (wDead D.dead D.left), Value.int .i64 (wLeft D.dead D.left)] 45 :: mpS dx.r1 dx.e1 :: mpS dx.r2 dx.e2 :: own dx.a dx.vs.length dx.cap 69 1 dx.vs :: chsA dx.gs D.ch dx.vs :: filesA dx.gs D.f :: L) rfl)
   clear hS15
   have hS17 := hS16.permT [0, 1, 0, 1, 0, 0, 0] (L' := chgA dx.gs (Chg.mk k u i) (Value.func (.func 61) #[] #[ptrV g2, ptrV g9, ptrV g4]) :: mpS dx.r1 dx.e1 :: cel g [Value.int .i64 D.room, Value.map (some dx.r1), Value.map (some dx.r2), Value.slice dx.a dx.vs.length dx.cap, Value.bool (wDead D.dead D.left), Value.int .i64 (wLeft D.dead D.left)] 45 :: own dx.a dx.vs.length dx.cap 69 1 dx.vs :: mpS dx.r2 dx.e2 :: chsA dx.gs D.ch dx.vs :: filesA dx.gs D.f :: L) rfl
   clear hS16
   refine WO.call rfl rfl Ty.hd45 rfl (dchange_spec (gs := dx.gs) (c := (Chg.mk k u i)) (cs := [ptrV g2, ptrV g9, ptrV g4]) hvs hS17) (fun v19 w18 pv19 => ?_)
   obtain ⟨a2, c2, rfl, hS18⟩ := pv19
   clear hS17
   refine WO.nil (NX.go (WP.seq (WP.region rfl ?_)))
   refine WO.asg rfl rfl ?_
   refine WO.nil (NX.go (WP.ret ?_))
   have hS20 : St B (chsA dx.gs (D.ch ++ [(Chg.mk k u i)]) (dx.vs ++ [Value.func (.func 61) #[] #[ptrV g2, ptrV g9, ptrV g4]]) :: mpS dx.r1 (applyE dx.gs dx.e1 (Chg.mk k u i)) :: cel g [Value.int .i64 D.room, Value.map (some dx.r1), Value.map (some dx.r2), Value.slice a2 ((dx.vs ++ [Value.func (.func 61) #[] #[ptrV g2, ptrV g9, ptrV g4]]).length) c2, Value.bool (wDead D.dead D.left), Value.int .i64 (wLeft D.dead D.left)] 45 :: own a2 ((dx.vs ++ [Value.func (.func 61) #[] #[ptrV g2, ptrV g9, ptrV g4]]).length) c2 69 1 (dx.vs ++ [Value.func (.func 61) #[] #[ptrV g2, ptrV g9, ptrV g4]]) :: mpS dx.r2 dx.e2 :: filesA dx.gs D.f :: L) w18 := chsA_snoc (hS18.permT [5, 0, 0, 0, 0, 0, 0] (L' := chsA dx.gs D.ch dx.vs :: chgA dx.gs (Chg.mk k u i) (Value.func (.func 61) #[] #[ptrV g2, ptrV g9, ptrV g4]) :: mpS dx.r1 (applyE dx.gs dx.e1 (Chg.mk k u i)) :: cel g [Value.int .i64 D.room, Value.map (some dx.r1), Value.map (some dx.r2), Value.slice a2 ((dx.vs ++ [Value.func (.func 61) #[] #[ptrV g2, ptrV g9, ptrV g4]]).length) c2, Value.bool (wDead D.dead D.left), Value.int .i64 (wLeft D.dead D.left)] 45 :: own a2 ((dx.vs ++ [Value.func (.func 61) #[] #[ptrV g2, ptrV g9, ptrV g4]]).length) c2 69 1 (dx.vs ++ [Value.func (.func 61) #[] #[ptrV g2, ptrV g9, ptrV g4]]) :: mpS dx.r2 dx.e2 :: filesA dx.gs D.f :: L) rfl)
   refine NX.done (l := [.tmp 6]) rfl rfl ?_
   have e : renameD D k u = ((changeD { D with dead := wDead D.dead D.left, left := wLeft D.dead D.left } (Chg.mk k u i)), 0) := by unfold renameD; rw [onWrite_eq, if_pos hok]; show rename1 _ k u = _; unfold rename1; rw [show findN k (Dk.nm { D with dead := wDead D.dead D.left, left := wLeft D.dead D.left }) = some i from hi]; exact if_neg (by rw [hu]; decide)
   rw [e]
   exact ⟨rfl, St.dk_shut (D := (changeD { D with dead := wDead D.dead D.left, left := wLeft D.dead D.left } (Chg.mk k u i))) (change_ok (D1 := { D with dead := wDead D.dead D.left, left := wLeft D.dead D.left }) (a := a2) (cap := c2) (v := Value.func (.func 61) #[] #[ptrV g2, ptrV g9, ptrV g4]) ok hw (.inr ⟨hu, hlt.1, .inr hlt.2⟩) rfl rfl rfl rfl) ((hS20.permT [2, 1, 2, 1, 0, 0] (L' := cel g [Value.int .i64 D.room, Value.map (some dx.r1), Value.map (some dx.r2), Value.slice a2 ((dx.vs ++ [Value.func (.func 61) #[] #[ptrV g2, ptrV g9, ptrV g4]]).length) c2, Value.bool (wDead D.dead D.left), Value.int .i64 (wLeft D.dead D.left)] 45 :: mpS dx.r1 (applyE dx.gs dx.e1 (Chg.mk k u i)) :: mpS dx.r2 dx.e2 :: own a2 ((dx.vs ++ [Value.func (.func 61) #[] #[ptrV g2, ptrV g9, ptrV g4]]).length) c2 69 1 (dx.vs ++ [Value.func (.func 61) #[] #[ptrV g2, ptrV g9, ptrV g4]]) :: chsA dx.gs (D.ch ++ [(Chg.mk k u i)]) (dx.vs ++ [Value.func (.func 61) #[] #[ptrV g2, ptrV g9, ptrV g4]]) :: filesA dx.gs D.f :: L) rfl))⟩
theorem dremove_spec {B w : World} {L : List HP} {g : Nat} {D : Dk} {n t : Nat} (hw : WFD D) (hb : Bnd D n t) (hn1 : n ≤ 1000000000) (k : List UInt8) (hS : St B (dkA g D :: L) w) : Does Tryz.prog 29 [Value.pointer (some ⟨g, 0, none⟩), str k] w (fun v w1 => v = .int .i64 (removeD D k).2 ∧ St B (dkA g (removeD D k).1 :: L) w1) := by
 obtain ⟨dx, ok, h0⟩ := hS.dk_open
 clear hS
 have hvs : dx.vs.length ≤ 1099511627776 := by have := ok.v; have := hb.ch; omega
 refine enter (n := 19) Tryz.func29 rfl rfl [Value.pointer (some ⟨g, 0, none⟩), str k] rfl ?_
 refine WP.seq (WP.region rfl ?_)
 refine WO.box (l := [str k]) h0 rfl rfl rfl (fun g2 w1 lg2 hS1 => ?_)
 clear h0
 refine WO.asg rfl rfl ?_
 refine WO.nil (NX.go (WP.seq (WP.region rfl ?_)))
 refine WO.mv rfl rfl ?_
 refine WO.val (run_load Ty.ag9 rfl ((hS1.cel_at 0 rfl 0).trans rfl)) rfl rfl rfl ?_
 have hS3 := hS1.permT [1, 1, 0, 0, 0, 0, 0] (L' := cel g [Value.int .i64 D.room, Value.map (some dx.r1), Value.map (some dx.r2), Value.slice dx.a dx.vs.length dx.cap, Value.bool D.dead, Value.int .i64 D.left] 45 :: mpS dx.r1 dx.e1 :: cel g2 [str k] 9 :: mpS dx.r2 dx.e2 :: own dx.a dx.vs.length dx.cap 69 1 dx.vs :: chsA dx.gs D.ch dx.vs :: filesA dx.gs D.f :: L) rfl
 clear hS1
 refine WO.call rfl rfl Ty.hd47 rfl (dfind_spec hw.left hw.lrng k (look_ok ok hw k) hS3) (fun v5 w4 pv5 => ?_)
 obtain ⟨rfl, hS4⟩ := pv5
 clear hS3
 refine WO.mv rfl rfl ?_
 refine WO.val (run_extract rfl rfl) rfl rfl rfl ?_
 refine WO.val (run_extract rfl rfl) rfl rfl rfl ?_
 refine WO.asg rfl rfl ?_
 refine WO.asg rfl rfl ?_
 refine WO.nil (NX.go (WP.seq (WP.seq (WP.region rfl ?_))))
 refine WO.mv rfl rfl ?_
 refine WO.val (run_eql rfl rfl) rfl rfl rfl ?_
 refine WO.nil (NX.go ?_)
 refine WP.condP rfl (fun g14 => ?_) (fun g14 => ?_)
 ·
  obtain ⟨hok, i, hi⟩ := fd_ok g14
  have hlt := hw.find hi
  refine WP.region rfl ?_
  refine WO.mv rfl rfl ?_
  refine WO.val (run_makeFunc rfl rfl) rfl rfl rfl ?_
  have hS6 : St B (cel g [Value.int .i64 D.room, Value.map (some dx.r1), Value.map (some dx.r2), Value.slice dx.a dx.vs.length dx.cap, Value.bool (wDead D.dead D.left), Value.int .i64 (wLeft D.dead D.left)] 45 :: mpS dx.r1 dx.e1 :: scel g2 [str k] 9 :: mpS dx.r2 dx.e2 :: own dx.a dx.vs.length dx.cap 69 1 dx.vs :: chsA dx.gs D.ch dx.vs :: filesA dx.gs D.f :: L) w4 := hS4.cel_seal_i 2 rfl rfl
  clear hS4
  have hS7 : St B (chgA dx.gs (Chg.mk k [] 0) (Value.func (.func 48) #[] #[ptrV g2]) :: cel g [Value.int .i64 D.room, Value.map (some dx.r1), Value.map (some dx.r2), Value.slice dx.a dx.vs.length dx.cap, Value.bool (wDead D.dead D.left), Value.int .i64 (wLeft D.dead D.left)] 45 :: mpS dx.r1 dx.e1 :: mpS dx.r2 dx.e2 :: own dx.a dx.vs.length dx.cap 69 1 dx.vs :: chsA dx.gs D.ch dx.vs :: filesA dx.gs D.f :: L) w4 := mk_del (c := (Chg.mk k [] 0)) rfl (hS6.permT [2, 0, 0, 0, 0, 0, 0] (L' := scel g2 [str k] 9 :: cel g [Value.int .i64 D.room, Value.map (some dx.r1), Value.map (some dx.r2), Value.slice dx.a dx.vs.length dx.cap, Value.bool (wDead D.dead D.left), Value.int .i64 (wLeft D.dead D.left)] 45 :: mpS dx.r1 dx.e1 :: mpS dx.r2 dx.e2 :: own dx.a dx.vs.length dx.cap 69 1 dx.vs :: chsA dx.gs D.ch dx.vs :: filesA dx.gs D.f :: L) rfl)
  clear hS6
  have hS8 := hS7.permT [0, 1, 0, 1, 0, 0, 0] (L' := chgA dx.gs (Chg.mk k [] 0) (Value.func (.func 48) #[] #[ptrV g2]) :: mpS dx.r1 dx.e1 :: cel g [Value.int .i64 D.room, Value.map (some dx.r1), Value.map (some dx.r2), Value.slice dx.a dx.vs.length dx.cap, Value.bool (wDead D.dead D.left), Value.int .i64 (wLeft D.dead D.left)] 45 :: own dx.a dx.vs.length dx.cap 69 1 dx.vs :: mpS dx.r2 dx.e2 :: chsA dx.gs D.ch dx.vs :: filesA dx.gs D.f :: L) rfl
  clear hS7
  refine WO.call rfl rfl Ty.hd45 rfl (dchange_spec (gs := dx.gs) (c := (Chg.mk k [] 0)) (cs := [ptrV g2]) hvs hS8) (fun v10 w9 pv10 => ?_)
  obtain ⟨a2, c2, rfl, hS9⟩ := pv10
  clear hS8
  refine WO.nil (NX.go (WP.seq (WP.region rfl ?_)))
  refine WO.mv rfl rfl ?_
  refine WO.asg rfl rfl ?_
  refine WO.nil (NX.go (WP.ret ?_))
  have hS11 : St B (chsA dx.gs (D.ch ++ [(Chg.mk k [] 0)]) (dx.vs ++ [Value.func (.func 48) #[] #[ptrV g2]]) :: mpS dx.r1 (applyE dx.gs dx.e1 (Chg.mk k [] 0)) :: cel g [Value.int .i64 D.room, Value.map (some dx.r1), Value.map (some dx.r2), Value.slice a2 ((dx.vs ++ [Value.func (.func 48) #[] #[ptrV g2]]).length) c2, Value.bool (wDead D.dead D.left), Value.int .i64 (wLeft D.dead D.left)] 45 :: own a2 ((dx.vs ++ [Value.func (.func 48) #[] #[ptrV g2]]).length) c2 69 1 (dx.vs ++ [Value.func (.func 48) #[] #[ptrV g2]]) :: mpS dx.r2 dx.e2 :: filesA dx.gs D.f :: L) w9 := chsA_snoc (hS9.permT [5, 0, 0, 0, 0, 0, 0] (L' := chsA dx.gs D.ch dx.vs :: chgA dx.gs (Chg.mk k [] 0) (Value.func (.func 48) #[] #[ptrV g2]) :: mpS dx.r1 (applyE dx.gs dx.e1 (Chg.mk k [] 0)) :: cel g [Value.int .i64 D.room, Value.map (some dx.r1), Value.map (some dx.r2), Value.slice a2 ((dx.vs ++ [Value.func (.func 48) #[] #[ptrV g2]]).length) c2, Value.bool (wDead D.dead D.left), Value.int .i64 (wLeft D.dead D.left)] 45 :: own a2 ((dx.vs ++ [Value.func (.func 48) #[] #[ptrV g2]]).length) c2 69 1 (dx.vs ++ [Value.func (.func 48) #[] #[ptrV g2]]) :: mpS dx.r2 dx.e2 :: filesA dx.gs D.f :: L) rfl)
  refine NX.done (l := [.tmp 4]) rfl rfl ?_
  rw [g14]
  have e : removeD D k = ((changeD { D with dead := wDead D.dead D.left, left := wLeft D.dead D.left } (Chg.mk k [] 0)), 0) := by unfold removeD; rw [onWrite_eq, if_pos hok]; show remove1 _ k = _; unfold remove1; rw [show findN k (Dk.nm { D with dead := wDead D.dead D.left, left := wLeft D.dead D.left }) = some i from hi]
  rw [e]
  exact ⟨rfl, St.dk_shut (D := (changeD { D with dead := wDead D.dead D.left, left := wLeft D.dead D.left } (Chg.mk k [] 0))) (change_ok (D1 := { D with dead := wDead D.dead D.left, left := wLeft D.dead D.left }) (a := a2) (cap := c2) (v := Value.func (.func 48) #[] #[ptrV g2]) ok hw (.inl ⟨rfl, hlt.2⟩) rfl rfl rfl rfl) ((hS11.permT [2, 1, 2, 1, 0, 0] (L' := cel g [Value.int .i64 D.room, Value.map (some dx.r1), Value.map (some dx.r2), Value.slice a2 ((dx.vs ++ [Value.func (.func 48) #[] #[ptrV g2]]).length) c2, Value.bool (wDead D.dead D.left), Value.int .i64 (wLeft D.dead D.left)] 45 :: mpS dx.r1 (applyE dx.gs dx.e1 (Chg.mk k [] 0)) :: mpS dx.r2 dx.e2 :: own a2 ((dx.vs ++ [Value.func (.func 48) #[] #[ptrV g2]]).length) c2 69 1 (dx.vs ++ [Value.func (.func 48) #[] #[ptrV g2]]) :: chsA dx.gs (D.ch ++ [(Chg.mk k [] 0)]) (dx.vs ++ [Value.func (.func 48) #[] #[ptrV g2]]) :: filesA dx.gs D.f :: L) rfl))⟩
 ·
  refine WP.skip (NX.go (WP.seq (WP.region rfl ?_)))
  refine WO.mv rfl rfl ?_
  refine WO.asg rfl rfl ?_
  refine WO.nil (NX.go (WP.ret ?_))
  refine NX.done (l := [.tmp 4]) rfl rfl ?_
  rcases fd_err (by first | exact g15 | exact g14) with ⟨h1, h2, h3⟩ | ⟨h1, h3⟩
  · have e : removeD D k = ({ D with dead := wDead D.dead D.left, left := wLeft D.dead D.left }, 12) := (by unfold removeD; rw [onWrite_eq, if_pos h1]; show remove1 _ k = _; unfold remove1; rw [show findN k (Dk.nm { D with dead := wDead D.dead D.left, left := wLeft D.dead D.left }) = none from h2]); rw [e, h3]; exact ⟨rfl, St.dk_shut (D := { D with dead := wDead D.dead D.left, left := wLeft D.dead D.left }) ⟨ok.g, ok.p1, ok.p2, ok.v⟩ ((hS4.permT [2, 0, 0, 0, 0, 0, 0] (L' := cel g2 [str k] 9 :: cel g [Value.int .i64 D.room, Value.map (some dx.r1), Value.map (some dx.r2), Value.slice dx.a dx.vs.length dx.cap, Value.bool (wDead D.dead D.left), Value.int .i64 (wLeft D.dead D.left)] 45 :: mpS dx.r1 dx.e1 :: mpS dx.r2 dx.e2 :: own dx.a dx.vs.length dx.cap 69 1 dx.vs :: chsA dx.gs D.ch dx.vs :: filesA dx.gs D.f :: L) rfl).drop)⟩
  · have e : removeD D k = ({ D with dead := wDead D.dead D.left, left := wLeft D.dead D.left }, 11) := (by unfold removeD; rw [onWrite_eq, if_neg (by rw [h1]; decide)]); rw [e, h3]; exact ⟨rfl, St.dk_shut (D := { D with dead := wDead D.dead D.left, left := wLeft D.dead D.left }) ⟨ok.g, ok.p1, ok.p2, ok.v⟩ ((hS4.permT [2, 0, 0, 0, 0, 0, 0] (L' := cel g2 [str k] 9 :: cel g [Value.int .i64 D.room, Value.map (some dx.r1), Value.map (some dx.r2), Value.slice dx.a dx.vs.length dx.cap, Value.bool (wDead D.dead D.left), Value.int .i64 (wLeft D.dead D.left)] 45 :: mpS dx.r1 dx.e1 :: mpS dx.r2 dx.e2 :: own dx.a dx.vs.length dx.cap 69 1 dx.vs :: chsA dx.gs D.ch dx.vs :: filesA dx.gs D.f :: L) rfl).drop)⟩
end Go.Proofs.YtiggkfaonnnjoaaGreatDoor.SL

/- A disk: what is kept. -/
namespace Go.Proofs.YtiggkfaonnnjoaaGreatDoor.SL
open Go.RowKit Go.Proofs.YtiggkfaonnnjoaaGreatDoor
open Go.Proofs.YtiggkfaonnnjoaaGreatDoorW.PrintLast (rtab opsOf)
set_option linter.unusedVariables false
set_option linter.unusedSimpArgs false

theorem keptF_drop (zs : List Int) (j i n : Nat) : keptF (zs.drop j) i n = keptF zs (j + i) n := by unfold keptF; rw [List.getElem?_drop]
theorem keptF_le (zs : List Int) (i n : Nat) : keptF zs i n ≤ n := by
  unfold keptF
  split
  · exact Nat.zero_le _
  · rename_i x _
    have h1 := Int.emod_lt_of_pos (x % 18446744073709551616) (show (0 : Int) < (n : Int) + 1 by omega)
    omega
theorem keptF_nil (n : Nat) : keptF [] 0 n = 0 := rfl
theorem keptF_cons (z : Int) (zs : List Int) (n : Nat) : ((z % 18446744073709551616) % ((n : Int) + 1)) = ((keptF (z :: zs) 0 n : Nat) : Int) := by
  have h1 := Int.emod_nonneg (z % 18446744073709551616) (show (n : Int) + 1 ≠ 0 by omega)
  show _ = ((((z % 18446744073709551616) % ((n : Int) + 1)).toNat : Nat) : Int)
  omega
def cutOne (f : List (List UInt8 × Nat)) (zs : List Int) (j i : Nat) : List (List UInt8 × Nat) := f.set i (cutF zs j (fileAt f i))
theorem crashF_step {zs : List Int} {j : Nat} {l : Nm} {e : List UInt8 × Nat} {f : List (List UInt8 × Nat)} (h : l[j]? = some e) : crashF zs (j + 1) (l.drop j) f = crashF zs (j + 1 + 1) (l.drop (j + 1)) (cutOne f zs (j + 1) e.2) := by
  obtain ⟨hj, he⟩ := List.getElem?_eq_some_iff.1 h
  rw [List.drop_eq_getElem_cons hj, he]; rfl
theorem crashF_len {zs : List Int} : ∀ (l : Nm) (j : Nat) (f : List (List UInt8 × Nat)), (crashF zs j l f).length = f.length
  | [], _, f => rfl
  | e :: l, j, f => by
    show (crashF zs (j + 1) l (f.set e.2 _)).length = _
    rw [crashF_len l (j + 1)]; exact List.length_set
theorem cut_ok {f : List (List UInt8 × Nat)} {zs : List Int} {j i t : Nat} (hi : i < f.length) (h1 : ∀ x ∈ f, x.2 ≤ x.1.length) (h2 : ∀ x ∈ f, x.1.length ≤ t) : (∀ x ∈ cutOne f zs j i, x.2 ≤ x.1.length) ∧ (∀ x ∈ cutOne f zs j i, x.1.length ≤ t) := by
  have hm := fileAt_mem hi
  have hk := keptF_le zs j ((fileAt f i).1.length - (fileAt f i).2)
  have a1 := h1 _ hm
  have a2 := h2 _ hm
  refine ⟨fun x hx => ?_, fun x hx => ?_⟩
  · rcases List.mem_or_eq_of_mem_set hx with hx | rfl
    · exact h1 x hx
    · unfold cutF; simp only [List.length_take]; omega
  · rcases List.mem_or_eq_of_mem_set hx with hx | rfl
    · exact h2 x hx
    · unfold cutF; simp only [List.length_take]; omega
theorem applyL_take {cs : List Chg} {l : Nm} {i : Nat} {c : Chg} (h : cs[i]? = some c) : applyL l (cs.take (i + 1)) = applyN (applyL l (cs.take i)) c := by
  rw [List.take_add_one, h, Option.toList_some, applyL_snoc]

theorem getS_at {gs : List Nat} {es : List (List UInt8 × Value)} {l : Nm} {e : List UInt8 × Nat} {q : Nat} (hp : es.Perm (esOf gs l)) (hs : SortedN l) (h : e ∈ l) (hq : q = gs.getD e.2 0) : (getS es e.1).getD (.pointer none) = .pointer (some ⟨q, 0, none⟩) := by
  have hm : (e.1, ptrV (gs.getD e.2 0)) ∈ esOf gs l := List.mem_map.2 ⟨e, h, rfl⟩
  rw [getS_perm hp (by rw [esOf_keys]; exact hs.nodup), getS_some (by rw [esOf_keys]; exact hs.nodup) hm, hq]; rfl
theorem dnext_spec {B w : World} {L : List HP} {X : HP} {gk c : Nat} {a : Option Addr} {zs : List Int} (hX : ∀ {L : List HP} {w : World}, St B (X :: L) w → Rd w a zs.length 1 (ri zs)) (hc : zs.length ≤ c) (hc2 : zs.length ≤ 9223372036854775807) (n : Nat) (hn : n ≤ 4611686018427387904) (hS : St B (cel gk [Value.slice a zs.length c] 22 :: X :: L) w) : Does Tryz.prog 32 [Value.int .i64 (n : Int), Value.pointer (some ⟨gk, 0, none⟩)] w (fun v w1 => ∃ a2 c2, v = .int .i64 ((keptF zs 0 n : Nat) : Int) ∧ (∀ {L : List HP} {w : World}, St B (X :: L) w → Rd w a2 (zs.drop 1).length 1 (ri (zs.drop 1))) ∧ (zs.drop 1).length ≤ c2 ∧ St B (cel gk [Value.slice a2 ((zs.drop 1).length) c2] 22 :: X :: L) w1) := by
 refine enter (n := 20) Tryz.func32 rfl rfl [Value.int .i64 (n : Int), Value.pointer (some ⟨gk, 0, none⟩)] rfl ?_
 refine WP.seq (WP.region rfl ?_)
 refine WO.asg rfl rfl ?_
 refine WO.nil (NX.go (WP.seq (WP.seq (WP.region rfl ?_))))
 refine WO.val (run_load Ty.ag22 rfl ((hS.cel_at 0 rfl 0).trans rfl)) rfl rfl rfl ?_
 refine WO.val (run_len rfl Tryz.underlying22 rfl) rfl rfl rfl ?_
 refine WO.val (run_eql rfl rfl) rfl rfl rfl ?_
 refine WO.nil (NX.go ?_)
 refine WP.condP rfl (fun g7 => ?_) (fun g7 => ?_)
 ·
  refine WP.seq (WP.region rfl ?_)
  refine WO.asg rfl rfl ?_
  refine WO.nil (NX.go (WP.ret (NX.thenRet ?_)))
  refine NX.done (l := [.tmp 3]) rfl rfl ?_
  have hz : zs = [] := List.length_eq_zero_iff.1 (by omega)
  subst hz
  exact ⟨a, c, rfl, hX, hc, hS⟩
 ·
  refine WP.skip (NX.go (WP.seq (WP.region rfl ?_)))
  refine WO.val (run_load Ty.ag22 rfl ((hS.cel_at 0 rfl 0).trans rfl)) rfl rfl rfl ?_
  refine WO.val (run_indexAddr (q := adr a 0) Tryz.underlying22 Ty.sz3 rfl rfl (by omega) (by omega) ((hX (hS.focus 1 rfl)).2.1 (by omega)) (by simp)) rfl rfl rfl ?_
  obtain ⟨z, zs2, hz0⟩ : ∃ z zs2, zs = z :: zs2 := by cases zs with | nil => exact absurd rfl g7 | cons z l => exact ⟨z, l, rfl⟩
  refine WO.val (run_load Ty.ag3 rfl ((hX (hS.focus 1 rfl)).cell (by rw [hz0]; rfl))) rfl rfl rfl ?_
  refine WO.val (run_convI Tryz.underlying24 (by kernel_rfl) rfl (IntKind.wrap_u64 _)) rfl rfl rfl ?_
  refine WO.mv rfl rfl ?_
  refine WO.val (run_add rfl rfl (IntWalk.i64_in _ (by omega))) rfl rfl rfl ?_
  refine WO.val (run_convI Tryz.underlying24 (by kernel_rfl) rfl (IntWalk.u64_in _ (by omega))) rfl rfl rfl ?_
  refine WO.val (run_rem rfl rfl (by omega) (IntWalk.rem_in _ _ (by omega))) rfl rfl rfl ?_
  refine WO.val (run_convI Tryz.underlying3 (by kernel_rfl) rfl (show IntKind.i64.wrap ((z % 18446744073709551616) % ((n : Int) + 1)) = ((keptF zs 0 n : Nat) : Int) by rw [hz0, keptF_cons]; have := keptF_le (z :: zs2) 0 n; exact IntWalk.i64_in _ (by omega))) rfl rfl rfl ?_
  refine WO.asg rfl rfl ?_
  refine WO.nil (NX.go (WP.seq (WP.region rfl ?_)))
  refine WO.val (run_load Ty.ag22 rfl ((hS.cel_at 0 rfl 0).trans rfl)) rfl rfl rfl ?_
  refine WO.val (run_sliceL (i := 1) (j := zs.length) Tryz.underlying22 Ty.sz3 rfl ⟨_, rfl⟩ rfl (by omega) (by omega)) rfl rfl rfl ?_
  refine WO.store (l' := [Value.slice (if c = 1 then a else a.map (·.add (1 * 1))) (zs.length - 1) (c - 1)]) 0 hS rfl Ty.sz22 rfl rfl rfl rfl rfl (Nat.le_of_ble_eq_true rfl) rfl (fun w1 (hS1 : St B (cel gk [Value.slice (if c = 1 then a else a.map (·.add (1 * 1))) (zs.length - 1) (c - 1)] 22 :: X :: L) w1) => ?_)
  clear hS
  refine WO.nil (NX.go (WP.seq (WP.region rfl ?_)))
  refine WO.mv rfl rfl ?_
  refine WO.asg rfl rfl ?_
  refine WO.nil (NX.go (WP.ret ?_))
  refine NX.done (l := [.tmp 3]) rfl rfl ?_
  refine ⟨(if c = 1 then a else a.map (·.add (1 * 1))), c - 1, ?_, fun {L} {w} h => ?_, ?_, ?_⟩
  · rfl
  · have := (hX h).drop1 (i := 1) (c := c) (by omega) hc; rw [List.length_drop]; unfold ri at this ⊢; rw [List.map_drop]; exact this
  · rw [List.length_drop]; omega
  · rw [List.length_drop]; exact hS1
theorem dcrash_spec_t3 : rtab .any (opsOf Tryz.f11 3) = (true, [([], []), ([0], [0]), ([1], [1]), ([2], [2]), ([], []), ([], []), ([5], [5]), ([6], [6]), ([7], [7]), ([8], [8]), ([4, 9], [4, 9]), ([3, 10], [3, 10]), ([11], [11]), ([], [])]) := by kernel_rfl
theorem dcrash_spec_t12 : rtab .any (opsOf Tryz.f11 12) = (true, [([], []), ([0], [0]), ([1], [1]), ([2], [2]), ([], []), ([], []), ([5], [5]), ([6], [6]), ([7], [7]), ([8], [8]), ([], []), ([10], [10]), ([11], [11]), ([12], [12]), ([9, 13], [9, 13]), ([4, 14], [4, 14]), ([3, 15], [3, 15]), ([0, 0, 1, 2, 3, 4, 5, 6, 7, 8, 9, 10, 11, 12, 13, 14, 15, 16], [0]), ([17, 0, 1, 2, 3, 4, 5, 6, 7, 8, 9, 10, 11, 12, 13, 14, 15, 16], [17]), ([18, 16, 15, 0, 1, 2, 3, 4, 5, 6, 7, 8, 9, 10, 11, 12, 13, 14, 15, 16], [16, 18])]) := by kernel_rfl
theorem dcrash_spec_t13 : rtab .any (opsOf Tryz.f11 13) = (true, [([], []), ([], []), ([1], [1]), ([2], [2]), ([3], [3]), ([], []), ([5], [5]), ([6], [6]), ([7], [7]), ([4, 8], [4, 8]), ([0, 0, 1, 2, 3, 4, 5, 6, 7, 8, 9], [0]), ([10, 0, 1, 2, 3, 4, 5, 6, 7, 8, 9], [10]), ([11, 9, 0, 1, 2, 3, 4, 5, 6, 7, 8, 9], [9, 11])]) := by kernel_rfl
theorem dcrash_spec_t15 : rtab .any (opsOf Tryz.f11 15) = (true, [([], []), ([], []), ([1], [1]), ([2], [2]), ([3], [3]), ([], []), ([], []), ([6], [6]), ([4, 5, 7], [4, 5, 7]), ([0, 0, 1, 2, 3, 4, 5, 6, 7, 8], [0]), ([9, 8, 7, 0, 1, 2, 3, 4, 5, 6, 7, 8], [8, 9])]) := by kernel_rfl
theorem dcrash_spec {B w : World} {L : List HP} {X : HP} {g kc : Nat} {ka : Option Addr} {D : Dk} {n t : Nat} {zs : List Int} (hw : WFD D) (hb : Bnd D n t) (hn1 : n ≤ 1000000000) (ht : t ≤ 1099511627776) (hX : ∀ {L : List HP} {w : World}, St B (X :: L) w → Rd w ka zs.length 1 (ri zs)) (hc : zs.length ≤ kc) (hc2m : zs.length ≤ 9223372036854775807) (hS : St B (dkA g D :: X :: L) w) : Does Tryz.prog 11 [Value.pointer (some ⟨g, 0, none⟩), Value.slice ka zs.length kc] w (fun v w1 => v = .tuple #[] ∧ St B (dkA g (crashD D zs) :: X :: L) w1) := by
 obtain ⟨dx, ok, h0⟩ := hS.dk_open
 clear hS
 have hlch := ok.v
 have hcap := h0.own_le_i 3 rfl
 have hnb := hb.ch
 have hpk := keptF_le zs 0 D.ch.length
 refine enter (n := 90) Tryz.func11 rfl rfl [Value.pointer (some ⟨g, 0, none⟩), Value.slice ka zs.length kc] rfl ?_
 refine WP.seq (WP.region rfl ?_)
 refine WO.box (l := [Value.slice ka zs.length kc]) h0 rfl rfl rfl (fun g2 w1 lg2 hS1 => ?_)
 clear h0
 refine WO.nil (NX.go (WP.seq (WP.region rfl ?_)))
 refine WO.val (run_makeFunc rfl rfl) rfl rfl rfl ?_
 refine WO.asg rfl rfl ?_
 refine WO.nil (NX.go (WP.seq (WP.region rfl ?_)))
 refine WO.mv rfl rfl ?_
 refine WO.val (run_nilCheck rfl) rfl rfl rfl ?_
 refine WO.val (run_fieldAddr (q := ⟨g, 2, none⟩) (show fieldB Tryz.prog 45 2 = some 2 from by kernel_rfl) rfl rfl) rfl rfl rfl ?_
 refine WO.val (run_load Ty.ag42 rfl ((hS1.cel_at 1 rfl 2).trans rfl)) rfl rfl rfl ?_
 refine WO.asg rfl rfl ?_
 refine WO.nil (NX.go (WP.seq (WP.seq ?_)))
 refine WD.start (fun w => (∀ jz, World.cell? w ⟨g, jz, none⟩ = [Value.int .i64 D.room, Value.map (some dx.r1), Value.map (some dx.r2), Value.slice dx.a dx.vs.length dx.cap, Value.bool D.dead, Value.int .i64 D.left][jz]?)) [] (bt 14 0) Ty.mo rfl (by kernel_rfl) hS1 (fun _ h => h.cel_at 1 rfl) (fun w3 hS3 s4 => ?_)
 clear hS1
 refine WD.pure (i := 0) dcrash_spec_t3 (bt 14 1) rfl rfl rfl (by kernel_rfl) (PQ.then (PQ.then PQ.body)) rfl (fun w => run_move rfl) ?_
 refine WD.pure (i := 1) dcrash_spec_t3 (bt 14 3) rfl rfl rfl (by kernel_rfl) (PQ.then (PQ.then PQ.body)) rfl (fun w => run_nilCheck rfl) ?_
 refine WD.pure (i := 2) dcrash_spec_t3 (bt 14 7) rfl rfl rfl (by kernel_rfl) (PQ.then (PQ.then PQ.body)) rfl (fun w => run_fieldAddr (q := ⟨g, 3, none⟩) (show fieldB Tryz.prog 45 3 = some 3 from by kernel_rfl) rfl rfl) ?_
 refine WD.take (i := 3) dcrash_spec_t3 (bt 14 15) s4 rfl rfl rfl (by kernel_rfl) (PQ.then (PQ.then PQ.body)) rfl (fun w hs => run_load Ty.ag43 rfl ((hs 3).trans rfl)) ?_
 refine WD.pure (i := 4) dcrash_spec_t3 (bt 14 31) rfl rfl rfl (by kernel_rfl) (PQ.then (PQ.then PQ.body)) rfl (fun w => run_move rfl) ?_
 refine WD.pure (i := 5) dcrash_spec_t3 (bt 14 63) rfl rfl rfl (by kernel_rfl) (PQ.then (PQ.then PQ.body)) rfl (fun w => run_move rfl) ?_
 refine WD.pure (i := 6) dcrash_spec_t3 (bt 14 127) rfl rfl rfl (by kernel_rfl) (PQ.then (PQ.then PQ.body)) rfl (fun w => run_nilCheck rfl) ?_
 refine WD.pure (i := 7) dcrash_spec_t3 (bt 14 255) rfl rfl rfl (by kernel_rfl) (PQ.then (PQ.then PQ.body)) rfl (fun w => run_fieldAddr (q := ⟨g, 3, none⟩) (show fieldB Tryz.prog 45 3 = some 3 from by kernel_rfl) rfl rfl) ?_
 refine WD.take (i := 8) dcrash_spec_t3 (bt 14 511) s4 rfl rfl rfl (by kernel_rfl) (PQ.then (PQ.then PQ.body)) rfl (fun w hs => run_load Ty.ag43 rfl ((hs 3).trans rfl)) ?_
 refine WD.pure (i := 9) dcrash_spec_t3 (bt 14 1023) rfl rfl rfl (by kernel_rfl) (PQ.then (PQ.then PQ.body)) rfl (fun w => run_len rfl Tryz.underlying43 rfl) ?_
 refine WD.pure (i := 13) dcrash_spec_t3 (bt 14 9215) rfl rfl rfl (by kernel_rfl) (PQ.then (PQ.then PQ.body)) rfl (fun w => run_move rfl) ?_
 refine WD.one (i := 10) dcrash_spec_t3 (bt 14 10239) rfl (by kernel_rfl) ?_
 have hS5 := hS3.permT [0, 6, 0, 0, 0, 0, 0, 0] (L' := cel g2 [Value.slice ka zs.length kc] 22 :: X :: cel g [Value.int .i64 D.room, Value.map (some dx.r1), Value.map (some dx.r2), Value.slice dx.a dx.vs.length dx.cap, Value.bool D.dead, Value.int .i64 D.left] 45 :: mpS dx.r1 dx.e1 :: mpS dx.r2 dx.e2 :: own dx.a dx.vs.length dx.cap 69 1 dx.vs :: chsA dx.gs D.ch dx.vs :: filesA dx.gs D.f :: L) rfl
 clear hS3
 refine WO.callV (us := []) (cs := [Value.pointer (some ⟨g2, 0, none⟩)]) rfl rfl Ty.hd32 rfl (dnext_spec hX hc hc2m dx.vs.length (by omega) hS5) (fun v7 w6 pv7 => ?_)
 obtain ⟨a2, c2, hv2, hX2, hc2, hS6⟩ := pv7
 clear hS5
 rw [← hlch] at hv2
 subst hv2
 refine WO.nil ?_
 have s8 : (∀ jz, World.cell? w6 ⟨g, jz, none⟩ = [Value.int .i64 D.room, Value.map (some dx.r1), Value.map (some dx.r2), Value.slice dx.a dx.vs.length dx.cap, Value.bool D.dead, Value.int .i64 D.left][jz]?) := hS6.cel_at 2 rfl
 refine NX.held s8 ?_
 refine WD.pure (i := 11) dcrash_spec_t3 (bt 14 12287) rfl rfl rfl (by kernel_rfl) (PQ.then (PQ.then PQ.body)) rfl (fun w => run_sliceTo (j := (keptF zs 0 D.ch.length)) Tryz.underlying43 Ty.sz69 rfl ⟨_, rfl⟩ (by omega)) ?_
 refine WD.pure (i := 12) dcrash_spec_t3 (bt 14 16383) rfl rfl rfl (by kernel_rfl) (PQ.then (PQ.then PQ.body)) rfl (fun w => run_len rfl Tryz.underlying43 rfl) ?_
 refine WD.done dcrash_spec_t3 (by kernel_rfl) ?_
 refine NX.go (WP.block ?_)
 refine WP.loop (α := Nat × List (List UInt8 × Value)) (fun x => match x with | ⟨i, es⟩ => [(0, Value.pointer (some ⟨g, 0, none⟩)), (3, Value.pointer (some ⟨g2, 0, none⟩)), (4, Value.func (.func 32) #[] #[Value.pointer (some ⟨g2, 0, none⟩)]), (5, Value.map (some dx.r2)), (27, Value.slice dx.a (keptF zs 0 D.ch.length) dx.cap), (28, Value.int .i64 (((keptF zs 0 D.ch.length) : Nat) : Int)), (29, Value.int .i64 (i : Int))]) (fun x w => match x with | ⟨i, es⟩ => (i ≤ (keptF zs 0 D.ch.length) ∧ es.Perm (esOf dx.gs (applyL D.last (D.ch.take i)))) ∧ St B (cel g2 [Value.slice a2 ((zs.drop 1).length) c2] 22 :: X :: cel g [Value.int .i64 D.room, Value.map (some dx.r1), Value.map (some dx.r2), Value.slice dx.a dx.vs.length dx.cap, Value.bool D.dead, Value.int .i64 D.left] 45 :: mpS dx.r1 dx.e1 :: mpS dx.r2 es :: own dx.a dx.vs.length dx.cap 69 1 dx.vs :: chsA dx.gs D.ch dx.vs :: filesA dx.gs D.f :: L) w) (fun x => match x with | ⟨i, es⟩ => (keptF zs 0 D.ch.length) - i) (0, dx.e2) ⟨⟨Nat.zero_le _, ok.p2⟩, hS6⟩ (Sub.cons rfl (Sub.cons rfl (Sub.cons rfl (Sub.cons rfl (Sub.cons rfl (Sub.cons rfl (Sub.consE rfl (by first | rfl | first | rfl | (congr 1; omega) | (simp; done) | (simp; omega)) (Sub.nil _)))))))) ?_
 rintro ⟨i, es⟩ w9 ⟨⟨hi, hes⟩, hS9⟩
 clear hS6
 refine WP.seq (WP.region rfl ?_)
 refine WO.val (run_lss rfl rfl) rfl rfl rfl ?_
 refine WO.nil (NX.go (WP.seq ?_))
 refine WP.condP rfl (fun g30 => ?_) (fun g30 => ?_)
 ·
  refine WP.skip (NX.go (WP.seq (WP.block (WP.seq (WP.region rfl ?_)))))
  have hich : i < D.ch.length := by omega
  obtain ⟨c, hc0⟩ : ∃ c, D.ch[i]? = some c := ⟨_, List.getElem?_eq_getElem hich⟩
  obtain ⟨v0, hv0, hS10⟩ := chsA_at hc0 (hS9.permT [6, 0, 0, 0, 0, 0, 0, 0] (L' := chsA dx.gs D.ch dx.vs :: cel g2 [Value.slice a2 ((zs.drop 1).length) c2] 22 :: X :: cel g [Value.int .i64 D.room, Value.map (some dx.r1), Value.map (some dx.r2), Value.slice dx.a dx.vs.length dx.cap, Value.bool D.dead, Value.int .i64 D.left] 45 :: mpS dx.r1 dx.e1 :: mpS dx.r2 es :: own dx.a dx.vs.length dx.cap 69 1 dx.vs :: filesA dx.gs D.f :: L) rfl)
  obtain ⟨f0, cs0, rfl⟩ := chg_form hS10
  clear hS9
  replace hS10 : St B (chgA dx.gs c (Value.func (.func f0) #[] cs0.toArray) :: chsA dx.gs D.ch dx.vs :: cel g2 [Value.slice a2 ((zs.drop 1).length) c2] 22 :: X :: cel g [Value.int .i64 D.room, Value.map (some dx.r1), Value.map (some dx.r2), Value.slice dx.a dx.vs.length dx.cap, Value.bool D.dead, Value.int .i64 D.left] 45 :: mpS dx.r1 dx.e1 :: mpS dx.r2 es :: own dx.a dx.vs.length dx.cap 69 1 dx.vs :: filesA dx.gs D.f :: L) w9 := hS10
  refine WO.val (run_indexAddr (q := adr dx.a i) Tryz.underlying43 Ty.sz69 rfl rfl (by omega) (by omega) ((hS10.own_rd_i 7 rfl).2.1 (by omega)) (by simp)) rfl rfl rfl ?_
  refine WO.val (run_load Ty.ag69 rfl ((hS10.own_rd_i 7 rfl).cell hv0)) rfl rfl rfl ?_
  refine WO.asg rfl rfl ?_
  refine WO.nil (NX.go (WP.region rfl ?_))
  refine WO.mv rfl rfl ?_
  refine WO.mv rfl rfl ?_
  obtain ⟨hF, hD⟩ := chg_call rfl (hS10.permT [0, 5, 0, 0, 0, 0, 0, 0, 0] (L' := chgA dx.gs c (Value.func (.func f0) #[] cs0.toArray) :: mpS dx.r2 es :: chsA dx.gs D.ch dx.vs :: cel g2 [Value.slice a2 ((zs.drop 1).length) c2] 22 :: X :: cel g [Value.int .i64 D.room, Value.map (some dx.r1), Value.map (some dx.r2), Value.slice dx.a dx.vs.length dx.cap, Value.bool D.dead, Value.int .i64 D.left] 45 :: mpS dx.r1 dx.e1 :: own dx.a dx.vs.length dx.cap 69 1 dx.vs :: filesA dx.gs D.f :: L) rfl)
  refine WO.callV (us := []) (cs := cs0) rfl rfl hF rfl hD (fun v12 w11 hS11 => ?_)
  clear hS10
  refine WO.nil (NX.blk (NX.go (WP.region rfl ?_)))
  refine WO.val (run_add rfl rfl (IntWalk.i64_in _ (by omega))) rfl rfl rfl ?_
  refine WO.mv rfl rfl ?_
  refine WO.nil ?_
  exact NX.again (i + 1, applyE dx.gs es c) ⟨⟨by omega, by rw [applyL_take hc0]; exact applyE_perm hes (applyL_good hw.last fun d hd => hw.ch d (List.mem_of_mem_take hd)) (hw.ch c (List.mem_of_getElem? hc0))⟩, (hS11.permT [0, 2, 2, 2, 2, 0, 1, 0, 0] (L' := chgA dx.gs c (Value.func (.func f0) #[] cs0.toArray) :: cel g2 [Value.slice a2 ((zs.drop 1).length) c2] 22 :: X :: cel g [Value.int .i64 D.room, Value.map (some dx.r1), Value.map (some dx.r2), Value.slice dx.a dx.vs.length dx.cap, Value.bool D.dead, Value.int .i64 D.left] 45 :: mpS dx.r1 dx.e1 :: mpS dx.r2 (applyE dx.gs es c) :: own dx.a dx.vs.length dx.cap 69 1 dx.vs :: chsA dx.gs D.ch dx.vs :: filesA dx.gs D.f :: L) rfl).drop⟩ (by show (keptF zs 0 D.ch.length) - (i + 1) < (keptF zs 0 D.ch.length) - i; omega) (Sub.cons rfl (Sub.cons rfl (Sub.cons rfl (Sub.cons rfl (Sub.cons rfl (Sub.cons rfl (Sub.consE rfl (by congr 1) (Sub.nil _))))))))
 ·
  refine WP.exit (NX.thenExit (NX.thenExit ?_))
  refine NX.blkExit ?_
  refine NX.go (WP.seq (WP.seq ?_))
  have hpi : i = (keptF zs 0 D.ch.length) := by omega
  subst hpi
  obtain ⟨KS, hKS⟩ : ∃ KS : List (List UInt8), KS = (applyL D.last (D.ch.take (keptF zs 0 D.ch.length))).map (·.1) := ⟨_, rfl⟩
  have hKl : KS.length = (applyL D.last (D.ch.take (keptF zs 0 D.ch.length))).length := by rw [hKS]; exact List.length_map _
  have hKe : KS.length ≤ 4294967296 := by have := hw.few (keptF zs 0 D.ch.length); omega
  have hLg := applyL_good hw.last (cs := D.ch.take (keptF zs 0 D.ch.length)) fun d hd => hw.ch d (List.mem_of_mem_take hd)
  have hen : (es.map (·.1)).Nodup := by have := (hes.map (·.1)); rw [esOf_keys] at this; exact this.nodup_iff.2 hLg.s.nodup
  have hec : es.length ≤ 4294967296 := by have := hes.length_eq; unfold esOf at this; rw [List.length_map] at this; have := hw.few (keptF zs 0 D.ch.length); omega
  have hel : ∀ p ∈ es, p.1.length ≤ 4294967296 := fun p hp => by obtain ⟨e, he, h2⟩ := List.mem_map.1 (hes.mem_iff.1 hp); have := fileF_len (hLg.f e he).1; rw [← h2]; show e.1.length ≤ _; omega
  refine WP.region rfl ?_
  refine WO.mv rfl rfl ?_
  refine WO.call rfl rfl Ty.hd34 rfl (keys34_spec dx.r2 hS9) (fun v14 w13 pv14 => ?_)
  obtain ⟨gk, rfl, hK, hS13⟩ := pv14
  clear hS9
  have hS15 := hS13.permT [4, 0, 0, 0, 0, 0, 0, 0] (L' := mpS dx.r2 es :: cel g2 [Value.slice a2 ((zs.drop 1).length) c2] 22 :: X :: cel g [Value.int .i64 D.room, Value.map (some dx.r1), Value.map (some dx.r2), Value.slice dx.a dx.vs.length dx.cap, Value.bool D.dead, Value.int .i64 D.left] 45 :: mpS dx.r1 dx.e1 :: own dx.a dx.vs.length dx.cap 69 1 dx.vs :: chsA dx.gs D.ch dx.vs :: filesA dx.gs D.f :: L) rfl
  clear hS13
  refine WO.call rfl rfl Ty.hd33 rfl (sorted34_spec hK (ks := KS) (by have := hes.map (·.1); rw [esOf_keys, ← hKS] at this; exact this) (show List.Pairwise (fun a b => strLt a b = true) KS by rw [hKS]; exact List.pairwise_map.2 hLg.s) hen (fun p hp => hel p hp) hec hS15) (fun v17 w16 pv17 => ?_)
  obtain ⟨a3, c3, rfl, hS16⟩ := pv17
  clear hS15
  refine WO.val (run_len rfl Tryz.underlying50 rfl) rfl rfl rfl ?_
  refine WO.mv rfl rfl ?_
  refine WO.nil (NX.go (WP.block ?_))
  refine WP.loop (α := Nat × List (List UInt8 × Nat) × Option Addr × Nat) (fun x => match x with | ⟨j, f, a, c⟩ => [(0, Value.pointer (some ⟨g, 0, none⟩)), (3, Value.pointer (some ⟨g2, 0, none⟩)), (4, Value.func (.func 32) #[] #[Value.pointer (some ⟨g2, 0, none⟩)]), (5, Value.map (some dx.r2)), (39, Value.slice a3 KS.length c3), (40, Value.int .i64 ((KS.length : Nat) : Int)), (41, Value.int .i64 (j : Int))]) (fun x w => match x with | ⟨j, f, a, c⟩ => (j ≤ (applyL D.last (D.ch.take (keptF zs 0 D.ch.length))).length ∧ crashF zs (j + 1) ((applyL D.last (D.ch.take (keptF zs 0 D.ch.length))).drop j) f = crashF zs 1 (applyL D.last (D.ch.take (keptF zs 0 D.ch.length))) D.f ∧ f.length = D.f.length ∧ (∀ x ∈ f, x.2 ≤ x.1.length) ∧ (∀ x ∈ f, x.1.length ≤ t) ∧ (∀ {L : List HP} {w : World}, St B (X :: L) w → Rd w a (zs.drop (j + 1)).length 1 (ri (zs.drop (j + 1)))) ∧ (zs.drop (j + 1)).length ≤ c) ∧ St B (own a3 KS.length c3 9 1 (KS.map str) :: mpS dx.r2 es :: cel g2 [Value.slice a ((zs.drop (j + 1)).length) c] 22 :: X :: cel g [Value.int .i64 D.room, Value.map (some dx.r1), Value.map (some dx.r2), Value.slice dx.a dx.vs.length dx.cap, Value.bool D.dead, Value.int .i64 D.left] 45 :: mpS dx.r1 dx.e1 :: own dx.a dx.vs.length dx.cap 69 1 dx.vs :: chsA dx.gs D.ch dx.vs :: filesA dx.gs f :: L) w) (fun x => match x with | ⟨j, f, a, c⟩ => (applyL D.last (D.ch.take (keptF zs 0 D.ch.length))).length - j) (0, D.f, a2, c2) ⟨⟨Nat.zero_le _, rfl, rfl, hw.lasts, hb.t, hX2, hc2⟩, hS16⟩ (Sub.cons rfl (Sub.cons rfl (Sub.cons rfl (Sub.cons rfl (Sub.cons rfl (Sub.cons rfl (Sub.consE rfl (by first | rfl | first | rfl | (congr 1; omega) | (simp; done) | (simp; omega)) (Sub.nil _)))))))) ?_
  rintro ⟨j, f, a, c⟩ w18 ⟨⟨hj, hcr, hfl, hfx, hft, hXj, hcj⟩, hS18⟩
  clear hS16
  refine WP.seq (WP.region rfl ?_)
  refine WO.val (run_lss rfl rfl) rfl rfl rfl ?_
  refine WO.nil (NX.go (WP.seq ?_))
  refine WP.condP rfl (fun g42 => ?_) (fun g42 => ?_)
  ·
   refine WP.skip (NX.go (WP.seq (WP.block (WP.seq (WP.region rfl ?_)))))
   obtain ⟨e, he0⟩ : ∃ e, (applyL D.last (D.ch.take (keptF zs 0 D.ch.length)))[j]? = some e := ⟨_, List.getElem?_eq_getElem (by omega)⟩
   have hem := List.mem_of_getElem? he0
   have hlt : e.2 < f.length := by rw [hfl]; exact (hLg.f e hem).2
   obtain ⟨q, hq⟩ : ∃ q, q = dx.gs.getD e.2 0 := ⟨_, rfl⟩
   have hx2 := hfx _ (fileAt_mem hlt)
   have hxt := hft _ (fileAt_mem hlt)
   refine WO.val (run_indexAddr (q := adr a3 j) Tryz.underlying50 Ty.sz9 rfl rfl (by omega) (by omega) ((hS18.own_rd_i 0 rfl).2.1 (by omega)) (by simp)) rfl rfl rfl ?_
   refine WO.val (run_load Ty.ag9 rfl ((hS18.own_rd_i 0 rfl).cell (show (KS.map str)[j]? = some (str e.1) by rw [hKS, List.getElem?_map, List.getElem?_map, he0]; rfl))) rfl rfl rfl ?_
   refine WO.asg rfl rfl ?_
   refine WO.nil (NX.go (WP.seq (WP.region rfl ?_)))
   refine WO.mv rfl rfl ?_
   refine WO.mv rfl rfl ?_
   refine WO.val (run_lookupS 1 hS18 rfl Tryz.underlying42 Tryz.underlying9 Ty.zr74 rfl rfl (getS_at hes hLg.s hem hq)) rfl rfl rfl ?_
   refine WO.asg rfl rfl ?_
   refine WO.nil (NX.go (WP.seq ?_))
   have hS19 : St B (cel q [str ((fileAt f e.2).1), Value.int .i64 ((fileAt f e.2).2 : Int)] 76 :: filesBut e.2 dx.gs f :: own a3 KS.length c3 9 1 (KS.map str) :: mpS dx.r2 es :: cel g2 [Value.slice a ((zs.drop (j + 1)).length) c] 22 :: X :: cel g [Value.int .i64 D.room, Value.map (some dx.r1), Value.map (some dx.r2), Value.slice dx.a dx.vs.length dx.cap, Value.bool D.dead, Value.int .i64 D.left] 45 :: mpS dx.r1 dx.e1 :: own dx.a dx.vs.length dx.cap 69 1 dx.vs :: chsA dx.gs D.ch dx.vs :: L) w18 := by have z := filesA_pick hlt (hS18.permT [8, 0, 0, 0, 0, 0, 0, 0, 0] (L' := filesA dx.gs f :: own a3 KS.length c3 9 1 (KS.map str) :: mpS dx.r2 es :: cel g2 [Value.slice a ((zs.drop (j + 1)).length) c] 22 :: X :: cel g [Value.int .i64 D.room, Value.map (some dx.r1), Value.map (some dx.r2), Value.slice dx.a dx.vs.length dx.cap, Value.bool D.dead, Value.int .i64 D.left] 45 :: mpS dx.r1 dx.e1 :: own dx.a dx.vs.length dx.cap 69 1 dx.vs :: chsA dx.gs D.ch dx.vs :: L) rfl); rw [← hq] at z; exact z
   clear hS18
   obtain ⟨kq, hkq⟩ : ∃ kq, kq = keptF zs (j + 1) ((fileAt f e.2).1.length - (fileAt f e.2).2) := ⟨_, rfl⟩
   have hkl : kq ≤ ((fileAt f e.2).1.length - (fileAt f e.2).2) := by rw [hkq]; exact keptF_le zs (j + 1) ((fileAt f e.2).1.length - (fileAt f e.2).2)
   refine WD.start (fun w => (∀ jz, World.cell? w ⟨q, jz, none⟩ = [str ((fileAt f e.2).1), Value.int .i64 ((fileAt f e.2).2 : Int)][jz]?)) [19] (bt 20 0) Ty.mo rfl (by kernel_rfl) hS19 (fun _ h => h.cel_at 0 rfl) (fun w20 hS20 s21 => ?_)
   clear hS19
   refine WD.pure (i := 0) dcrash_spec_t12 (bt 20 1) rfl rfl rfl (by kernel_rfl) (PQ.then (PQ.blk (PQ.then (PQ.then (PQ.blk (PQ.then PQ.body)))))) rfl (fun w => run_move rfl) ?_
   refine WD.pure (i := 1) dcrash_spec_t12 (bt 20 3) rfl rfl rfl (by kernel_rfl) (PQ.then (PQ.blk (PQ.then (PQ.then (PQ.blk (PQ.then PQ.body)))))) rfl (fun w => run_nilCheck rfl) ?_
   refine WD.pure (i := 2) dcrash_spec_t12 (bt 20 7) rfl rfl rfl (by kernel_rfl) (PQ.then (PQ.blk (PQ.then (PQ.then (PQ.blk (PQ.then PQ.body)))))) rfl (fun w => run_fieldAddr (q := ⟨q, 1, none⟩) (show fieldB Tryz.prog 76 1 = some 1 from by kernel_rfl) rfl rfl) ?_
   refine WD.take (i := 3) dcrash_spec_t12 (bt 20 15) s21 rfl rfl rfl (by kernel_rfl) (PQ.then (PQ.blk (PQ.then (PQ.then (PQ.blk (PQ.then PQ.body)))))) rfl (fun w hs => run_load Ty.ag3 rfl ((hs 1).trans rfl)) ?_
   refine WD.pure (i := 4) dcrash_spec_t12 (bt 20 31) rfl rfl rfl (by kernel_rfl) (PQ.then (PQ.blk (PQ.then (PQ.then (PQ.blk (PQ.then PQ.body)))))) rfl (fun w => run_move rfl) ?_
   refine WD.pure (i := 5) dcrash_spec_t12 (bt 20 63) rfl rfl rfl (by kernel_rfl) (PQ.then (PQ.blk (PQ.then (PQ.then (PQ.blk (PQ.then PQ.body)))))) rfl (fun w => run_move rfl) ?_
   refine WD.pure (i := 6) dcrash_spec_t12 (bt 20 127) rfl rfl rfl (by kernel_rfl) (PQ.then (PQ.blk (PQ.then (PQ.then (PQ.blk (PQ.then PQ.body)))))) rfl (fun w => run_nilCheck rfl) ?_
   refine WD.pure (i := 7) dcrash_spec_t12 (bt 20 255) rfl rfl rfl (by kernel_rfl) (PQ.then (PQ.blk (PQ.then (PQ.then (PQ.blk (PQ.then PQ.body)))))) rfl (fun w => run_fieldAddr (q := ⟨q, 0, none⟩) (show fieldB Tryz.prog 76 0 = some 0 from by kernel_rfl) rfl rfl) ?_
   refine WD.take (i := 8) dcrash_spec_t12 (bt 20 511) s21 rfl rfl rfl (by kernel_rfl) (PQ.then (PQ.blk (PQ.then (PQ.then (PQ.blk (PQ.then PQ.body)))))) rfl (fun w hs => run_load Ty.ag9 rfl ((hs 0).trans rfl)) ?_
   refine WD.pure (i := 9) dcrash_spec_t12 (bt 20 1023) rfl rfl rfl (by kernel_rfl) (PQ.then (PQ.blk (PQ.then (PQ.then (PQ.blk (PQ.then PQ.body)))))) rfl (fun w => run_lenS rfl Tryz.underlying9 rfl) ?_
   refine WD.pure (i := 10) dcrash_spec_t12 (bt 20 2047) rfl rfl rfl (by kernel_rfl) (PQ.then (PQ.blk (PQ.then (PQ.then (PQ.blk (PQ.then PQ.body)))))) rfl (fun w => run_move rfl) ?_
   refine WD.pure (i := 11) dcrash_spec_t12 (bt 20 4095) rfl rfl rfl (by kernel_rfl) (PQ.then (PQ.blk (PQ.then (PQ.then (PQ.blk (PQ.then PQ.body)))))) rfl (fun w => run_nilCheck rfl) ?_
   refine WD.pure (i := 12) dcrash_spec_t12 (bt 20 8191) rfl rfl rfl (by kernel_rfl) (PQ.then (PQ.blk (PQ.then (PQ.then (PQ.blk (PQ.then PQ.body)))))) rfl (fun w => run_fieldAddr (q := ⟨q, 1, none⟩) (show fieldB Tryz.prog 76 1 = some 1 from by kernel_rfl) rfl rfl) ?_
   refine WD.take (i := 13) dcrash_spec_t12 (bt 20 16383) s21 rfl rfl rfl (by kernel_rfl) (PQ.then (PQ.blk (PQ.then (PQ.then (PQ.blk (PQ.then PQ.body)))))) rfl (fun w hs => run_load Ty.ag3 rfl ((hs 1).trans rfl)) ?_
   refine WD.pure (i := 14) dcrash_spec_t12 (bt 20 32767) rfl rfl rfl (by kernel_rfl) (PQ.then (PQ.blk (PQ.then (PQ.then (PQ.blk (PQ.then PQ.body)))))) rfl (fun w => run_sub rfl rfl (show IntKind.i64.wrap (((fileAt f e.2).1.length : Int) - ((fileAt f e.2).2 : Int)) = ((((fileAt f e.2).1.length - (fileAt f e.2).2) : Nat) : Int) by rw [IntWalk.i64_in _ (by omega)]; omega)) ?_
   refine WD.one (i := 15) dcrash_spec_t12 (bt 20 65535) rfl (by kernel_rfl) ?_
   have hS22 := hS20.permT [4, 4, 0, 0, 0, 0, 0, 0, 0, 0] (L' := cel g2 [Value.slice a ((zs.drop (j + 1)).length) c] 22 :: X :: cel q [str ((fileAt f e.2).1), Value.int .i64 ((fileAt f e.2).2 : Int)] 76 :: filesBut e.2 dx.gs f :: own a3 KS.length c3 9 1 (KS.map str) :: mpS dx.r2 es :: cel g [Value.int .i64 D.room, Value.map (some dx.r1), Value.map (some dx.r2), Value.slice dx.a dx.vs.length dx.cap, Value.bool D.dead, Value.int .i64 D.left] 45 :: mpS dx.r1 dx.e1 :: own dx.a dx.vs.length dx.cap 69 1 dx.vs :: chsA dx.gs D.ch dx.vs :: L) rfl
   clear hS20
   refine WO.callV (us := []) (cs := [Value.pointer (some ⟨g2, 0, none⟩)]) rfl rfl Ty.hd32 rfl (dnext_spec hXj hcj (by rw [List.length_drop]; omega) ((fileAt f e.2).1.length - (fileAt f e.2).2) (by omega) hS22) (fun v24 w23 pv24 => ?_)
   obtain ⟨a4, c4, hv4, hX4, hc4, hS23⟩ := pv24
   clear hS22
   rw [List.drop_drop] at hX4 hc4
   rw [keptF_drop] at hv4
   rw [← hkq] at hv4
   subst hv4
   rw [List.drop_drop] at hS23
   replace hS23 : St B (cel g2 [Value.slice a4 ((zs.drop (j + 1 + 1)).length) c4] 22 :: X :: cel q [str ((fileAt f e.2).1), Value.int .i64 ((fileAt f e.2).2 : Int)] 76 :: filesBut e.2 dx.gs f :: own a3 KS.length c3 9 1 (KS.map str) :: mpS dx.r2 es :: cel g [Value.int .i64 D.room, Value.map (some dx.r1), Value.map (some dx.r2), Value.slice dx.a dx.vs.length dx.cap, Value.bool D.dead, Value.int .i64 D.left] 45 :: mpS dx.r1 dx.e1 :: own dx.a dx.vs.length dx.cap 69 1 dx.vs :: chsA dx.gs D.ch dx.vs :: L) w23 := hS23
   refine WO.nil ?_
   have s25 : (∀ jz, World.cell? w23 ⟨q, jz, none⟩ = [str ((fileAt f e.2).1), Value.int .i64 ((fileAt f e.2).2 : Int)][jz]?) := hS23.cel_at 2 rfl
   refine NX.held s25 ?_
   refine WD.pure (i := 16) dcrash_spec_t12 (bt 20 131071) rfl rfl rfl (by kernel_rfl) (PQ.then (PQ.blk (PQ.then (PQ.then (PQ.blk (PQ.then PQ.body)))))) rfl (fun w => run_add rfl rfl (show IntKind.i64.wrap (((fileAt f e.2).2 : Int) + (kq : Int)) = (((fileAt f e.2).2 + kq : Nat) : Int) by rw [IntWalk.i64_in _ (by omega)]; omega)) ?_
   refine WD.pure (i := 17) dcrash_spec_t12 (bt 20 262143) rfl rfl rfl (by kernel_rfl) (PQ.then (PQ.blk (PQ.then (PQ.then (PQ.blk (PQ.then PQ.body)))))) rfl (fun w => run_nilCheck rfl) ?_
   refine WD.pure (i := 18) dcrash_spec_t12 (bt 20 524287) rfl rfl rfl (by kernel_rfl) (PQ.then (PQ.blk (PQ.then (PQ.then (PQ.blk (PQ.then PQ.body)))))) rfl (fun w => run_fieldAddr (q := ⟨q, 1, none⟩) (show fieldB Tryz.prog 76 1 = some 1 from by kernel_rfl) rfl rfl) ?_
   refine WD.one (i := 19) dcrash_spec_t12 (bt 20 1048575) rfl (by kernel_rfl) ?_
   refine WO.store (l' := [str ((fileAt f e.2).1), Value.int .i64 (((fileAt f e.2).2 + kq : Nat) : Int)]) 2 hS23 rfl Ty.sz3 rfl rfl rfl rfl rfl (Nat.le_of_ble_eq_true rfl) rfl (fun w26 (hS26 : St B (cel g2 [Value.slice a4 ((zs.drop (j + 1 + 1)).length) c4] 22 :: X :: cel q [str ((fileAt f e.2).1), Value.int .i64 (((fileAt f e.2).2 + kq : Nat) : Int)] 76 :: filesBut e.2 dx.gs f :: own a3 KS.length c3 9 1 (KS.map str) :: mpS dx.r2 es :: cel g [Value.int .i64 D.room, Value.map (some dx.r1), Value.map (some dx.r2), Value.slice dx.a dx.vs.length dx.cap, Value.bool D.dead, Value.int .i64 D.left] 45 :: mpS dx.r1 dx.e1 :: own dx.a dx.vs.length dx.cap 69 1 dx.vs :: chsA dx.gs D.ch dx.vs :: L) w26) => ?_)
   clear hS23
   refine WO.nil ?_
   refine NX.last (by decide) ?_
   refine WD.done dcrash_spec_t12 (by kernel_rfl) ?_
   refine NX.go ?_
   refine WD.start (fun w => (∀ jz, World.cell? w ⟨q, jz, none⟩ = [str ((fileAt f e.2).1), Value.int .i64 (((fileAt f e.2).2 + kq : Nat) : Int)][jz]?)) [12] (bt 13 0) Ty.mo rfl (by kernel_rfl) hS26 (fun _ h => h.cel_at 2 rfl) (fun w27 hS27 s28 => ?_)
   clear hS26
   refine WD.pure (i := 0) dcrash_spec_t13 (bt 13 1) rfl rfl rfl (by kernel_rfl) (PQ.blk (PQ.then (PQ.then (PQ.blk (PQ.then PQ.body))))) rfl (fun w => run_move rfl) ?_
   refine WD.pure (i := 1) dcrash_spec_t13 (bt 13 3) rfl rfl rfl (by kernel_rfl) (PQ.blk (PQ.then (PQ.then (PQ.blk (PQ.then PQ.body))))) rfl (fun w => run_move rfl) ?_
   refine WD.pure (i := 2) dcrash_spec_t13 (bt 13 7) rfl rfl rfl (by kernel_rfl) (PQ.blk (PQ.then (PQ.then (PQ.blk (PQ.then PQ.body))))) rfl (fun w => run_nilCheck rfl) ?_
   refine WD.pure (i := 3) dcrash_spec_t13 (bt 13 15) rfl rfl rfl (by kernel_rfl) (PQ.blk (PQ.then (PQ.then (PQ.blk (PQ.then PQ.body))))) rfl (fun w => run_fieldAddr (q := ⟨q, 0, none⟩) (show fieldB Tryz.prog 76 0 = some 0 from by kernel_rfl) rfl rfl) ?_
   refine WD.take (i := 4) dcrash_spec_t13 (bt 13 31) s28 rfl rfl rfl (by kernel_rfl) (PQ.blk (PQ.then (PQ.then (PQ.blk (PQ.then PQ.body))))) rfl (fun w hs => run_load Ty.ag9 rfl ((hs 0).trans rfl)) ?_
   refine WD.pure (i := 5) dcrash_spec_t13 (bt 13 63) rfl rfl rfl (by kernel_rfl) (PQ.blk (PQ.then (PQ.then (PQ.blk (PQ.then PQ.body))))) rfl (fun w => run_move rfl) ?_
   refine WD.pure (i := 6) dcrash_spec_t13 (bt 13 127) rfl rfl rfl (by kernel_rfl) (PQ.blk (PQ.then (PQ.then (PQ.blk (PQ.then PQ.body))))) rfl (fun w => run_nilCheck rfl) ?_
   refine WD.pure (i := 7) dcrash_spec_t13 (bt 13 255) rfl rfl rfl (by kernel_rfl) (PQ.blk (PQ.then (PQ.then (PQ.blk (PQ.then PQ.body))))) rfl (fun w => run_fieldAddr (q := ⟨q, 1, none⟩) (show fieldB Tryz.prog 76 1 = some 1 from by kernel_rfl) rfl rfl) ?_
   refine WD.take (i := 8) dcrash_spec_t13 (bt 13 511) s28 rfl rfl rfl (by kernel_rfl) (PQ.blk (PQ.then (PQ.then (PQ.blk (PQ.then PQ.body))))) rfl (fun w hs => run_load Ty.ag3 rfl ((hs 1).trans rfl)) ?_
   refine WD.pure (i := 9) dcrash_spec_t13 (bt 13 1023) rfl rfl rfl (by kernel_rfl) (PQ.blk (PQ.then (PQ.then (PQ.blk (PQ.then PQ.body))))) rfl (fun w => run_sliceS (i := 0) (j := (fileAt f e.2).2 + kq) Tryz.underlying9 rfl rfl ⟨_, rfl⟩ (Nat.zero_le _) (by omega) (List.drop_zero)) ?_
   refine WD.pure (i := 10) dcrash_spec_t13 (bt 13 2047) rfl rfl rfl (by kernel_rfl) (PQ.blk (PQ.then (PQ.then (PQ.blk (PQ.then PQ.body))))) rfl (fun w => run_nilCheck rfl) ?_
   refine WD.pure (i := 11) dcrash_spec_t13 (bt 13 4095) rfl rfl rfl (by kernel_rfl) (PQ.blk (PQ.then (PQ.then (PQ.blk (PQ.then PQ.body))))) rfl (fun w => run_fieldAddr (q := ⟨q, 0, none⟩) (show fieldB Tryz.prog 76 0 = some 0 from by kernel_rfl) rfl rfl) ?_
   refine WD.one (i := 12) dcrash_spec_t13 (bt 13 8191) rfl (by kernel_rfl) ?_
   refine WO.store (l' := [str (((fileAt f e.2).1).take ((fileAt f e.2).2 + kq)), Value.int .i64 (((fileAt f e.2).2 + kq : Nat) : Int)]) 2 hS27 rfl Ty.sz9 rfl rfl rfl rfl rfl (Nat.le_of_ble_eq_true rfl) rfl (fun w29 (hS29 : St B (cel g2 [Value.slice a4 ((zs.drop (j + 1 + 1)).length) c4] 22 :: X :: cel q [str (((fileAt f e.2).1).take ((fileAt f e.2).2 + kq)), Value.int .i64 (((fileAt f e.2).2 + kq : Nat) : Int)] 76 :: filesBut e.2 dx.gs f :: own a3 KS.length c3 9 1 (KS.map str) :: mpS dx.r2 es :: cel g [Value.int .i64 D.room, Value.map (some dx.r1), Value.map (some dx.r2), Value.slice dx.a dx.vs.length dx.cap, Value.bool D.dead, Value.int .i64 D.left] 45 :: mpS dx.r1 dx.e1 :: own dx.a dx.vs.length dx.cap 69 1 dx.vs :: chsA dx.gs D.ch dx.vs :: L) w29) => ?_)
   clear hS27
   refine WO.nil ?_
   refine NX.last (by decide) ?_
   refine WD.done dcrash_spec_t13 (by kernel_rfl) ?_
   refine NX.blk (NX.go (WP.region rfl ?_))
   refine WO.val (run_add rfl rfl (IntWalk.i64_in _ (by omega))) rfl rfl rfl ?_
   refine WO.mv rfl rfl ?_
   refine WO.nil ?_
   have hS30 : St B (filesA dx.gs (cutOne f zs (j + 1) e.2) :: cel g2 [Value.slice a4 ((zs.drop (j + 1 + 1)).length) c4] 22 :: X :: own a3 KS.length c3 9 1 (KS.map str) :: mpS dx.r2 es :: cel g [Value.int .i64 D.room, Value.map (some dx.r1), Value.map (some dx.r2), Value.slice dx.a dx.vs.length dx.cap, Value.bool D.dead, Value.int .i64 D.left] 45 :: mpS dx.r1 dx.e1 :: own dx.a dx.vs.length dx.cap 69 1 dx.vs :: chsA dx.gs D.ch dx.vs :: L) w29 := filesA_back (y := (cutF zs (j + 1) (fileAt f e.2))) (by rw [← hq]; first | exact (hS29.permT [2, 2, 0, 0, 0, 0, 0, 0, 0, 0] (L' := cel q [str (((fileAt f e.2).1).take ((fileAt f e.2).2 + kq)), Value.int .i64 (((fileAt f e.2).2 + kq : Nat) : Int)] 76 :: filesBut e.2 dx.gs f :: cel g2 [Value.slice a4 ((zs.drop (j + 1 + 1)).length) c4] 22 :: X :: own a3 KS.length c3 9 1 (KS.map str) :: mpS dx.r2 es :: cel g [Value.int .i64 D.room, Value.map (some dx.r1), Value.map (some dx.r2), Value.slice dx.a dx.vs.length dx.cap, Value.bool D.dead, Value.int .i64 D.left] 45 :: mpS dx.r1 dx.e1 :: own dx.a dx.vs.length dx.cap 69 1 dx.vs :: chsA dx.gs D.ch dx.vs :: L) rfl) | (unfold cutF; rw [← hkq]; exact (hS29.permT [2, 2, 0, 0, 0, 0, 0, 0, 0, 0] (L' := cel q [str (((fileAt f e.2).1).take ((fileAt f e.2).2 + kq)), Value.int .i64 (((fileAt f e.2).2 + kq : Nat) : Int)] 76 :: filesBut e.2 dx.gs f :: cel g2 [Value.slice a4 ((zs.drop (j + 1 + 1)).length) c4] 22 :: X :: own a3 KS.length c3 9 1 (KS.map str) :: mpS dx.r2 es :: cel g [Value.int .i64 D.room, Value.map (some dx.r1), Value.map (some dx.r2), Value.slice dx.a dx.vs.length dx.cap, Value.bool D.dead, Value.int .i64 D.left] 45 :: mpS dx.r1 dx.e1 :: own dx.a dx.vs.length dx.cap 69 1 dx.vs :: chsA dx.gs D.ch dx.vs :: L) rfl)))
   exact NX.again (j + 1, cutOne f zs (j + 1) e.2, a4, c4) ⟨⟨by omega, by rw [← hcr, crashF_step he0], by rw [← hfl]; exact List.length_set, (cut_ok hlt hfx hft).1, (cut_ok hlt hfx hft).2, hX4, hc4⟩, (hS30.permT [3, 3, 1, 1, 1, 1, 1, 1, 0] (L' := own a3 KS.length c3 9 1 (KS.map str) :: mpS dx.r2 es :: cel g2 [Value.slice a4 ((zs.drop (j + 1 + 1)).length) c4] 22 :: X :: cel g [Value.int .i64 D.room, Value.map (some dx.r1), Value.map (some dx.r2), Value.slice dx.a dx.vs.length dx.cap, Value.bool D.dead, Value.int .i64 D.left] 45 :: mpS dx.r1 dx.e1 :: own dx.a dx.vs.length dx.cap 69 1 dx.vs :: chsA dx.gs D.ch dx.vs :: filesA dx.gs (cutOne f zs (j + 1) e.2) :: L) rfl)⟩ (by show (applyL D.last (D.ch.take (keptF zs 0 D.ch.length))).length - (j + 1) < (applyL D.last (D.ch.take (keptF zs 0 D.ch.length))).length - j; omega) (Sub.cons rfl (Sub.cons rfl (Sub.cons rfl (Sub.cons rfl (Sub.cons rfl (Sub.cons rfl (Sub.consE rfl (by congr 1) (Sub.nil _))))))))
  ·
   refine WP.exit (NX.thenExit (NX.thenExit ?_))
   refine NX.blkExit ?_
   refine NX.go ?_
   refine WD.start (fun w => (∀ jz, World.cell? w ⟨g, jz, none⟩ = [Value.int .i64 D.room, Value.map (some dx.r1), Value.map (some dx.r2), Value.slice dx.a dx.vs.length dx.cap, Value.bool D.dead, Value.int .i64 D.left][jz]?)) [10] (bt 11 0) Ty.mo rfl (by kernel_rfl) hS18 (fun _ h => h.cel_at 4 rfl) (fun w31 hS31 s32 => ?_)
   clear hS18
   refine WD.pure (i := 0) dcrash_spec_t15 (bt 11 1) rfl rfl rfl (by kernel_rfl) PQ.body rfl (fun w => run_move rfl) ?_
   refine WD.pure (i := 1) dcrash_spec_t15 (bt 11 3) rfl rfl rfl (by kernel_rfl) PQ.body rfl (fun w => run_move rfl) ?_
   refine WD.pure (i := 2) dcrash_spec_t15 (bt 11 7) rfl rfl rfl (by kernel_rfl) PQ.body rfl (fun w => run_nilCheck rfl) ?_
   refine WD.pure (i := 3) dcrash_spec_t15 (bt 11 15) rfl rfl rfl (by kernel_rfl) PQ.body rfl (fun w => run_fieldAddr (q := ⟨g, 0, none⟩) (show fieldB Tryz.prog 45 0 = some 0 from by kernel_rfl) rfl rfl) ?_
   refine WD.take (i := 4) dcrash_spec_t15 (bt 11 31) s32 rfl rfl rfl (by kernel_rfl) PQ.body rfl (fun w hs => run_load Ty.ag3 rfl ((hs 0).trans rfl)) ?_
   refine WD.pure (i := 5) dcrash_spec_t15 (bt 11 63) rfl rfl rfl (by kernel_rfl) PQ.body rfl (fun w => run_move rfl) ?_
   refine WD.pure (i := 6) dcrash_spec_t15 (bt 11 127) rfl rfl rfl (by kernel_rfl) PQ.body rfl (fun w => run_move rfl) ?_
   refine WD.one (i := 7) dcrash_spec_t15 (bt 11 255) rfl (by kernel_rfl) ?_
   have hS33 := hS31.permT [1, 0, 0, 0, 0, 0, 0, 0, 0] (L' := mpS dx.r2 es :: own a3 KS.length c3 9 1 (KS.map str) :: cel g2 [Value.slice a ((zs.drop (j + 1)).length) c] 22 :: X :: cel g [Value.int .i64 D.room, Value.map (some dx.r1), Value.map (some dx.r2), Value.slice dx.a dx.vs.length dx.cap, Value.bool D.dead, Value.int .i64 D.left] 45 :: mpS dx.r1 dx.e1 :: own dx.a dx.vs.length dx.cap 69 1 dx.vs :: chsA dx.gs D.ch dx.vs :: filesA dx.gs f :: L) rfl
   clear hS31
   refine WO.call rfl rfl Ty.hd35 rfl (clone35_spec hS33) (fun v35 w34 pv35 => ?_)
   obtain ⟨r3, rfl, hS34⟩ := pv35
   clear hS33
   refine WO.nil ?_
   have s36 : (∀ jz, World.cell? w34 ⟨g, jz, none⟩ = [Value.int .i64 D.room, Value.map (some dx.r1), Value.map (some dx.r2), Value.slice dx.a dx.vs.length dx.cap, Value.bool D.dead, Value.int .i64 D.left][jz]?) := hS34.cel_at 5 rfl
   refine NX.held s36 ?_
   refine WD.pure (i := 8) dcrash_spec_t15 (bt 11 511) rfl rfl rfl (by kernel_rfl) PQ.body rfl (fun w => run_build (v := Value.agg #[Value.int .i64 D.room, Value.map (some dx.r2), Value.map (some r3), Value.slice none 0 0, Value.bool false, Value.int .i64 (-1)]) rfl (fun w => by kernel_rfl)) ?_
   refine WD.pure (i := 9) dcrash_spec_t15 (bt 11 1023) rfl rfl rfl (by kernel_rfl) PQ.body rfl (fun w => run_nilCheck rfl) ?_
   refine WD.one (i := 10) dcrash_spec_t15 (bt 11 2047) rfl (by kernel_rfl) ?_
   refine WO.store (l' := [Value.int .i64 D.room, Value.map (some dx.r2), Value.map (some r3), Value.slice none 0 0, Value.bool false, Value.int .i64 (-1)]) 5 hS34 rfl Ty.sz45 rfl rfl rfl rfl rfl (Nat.le_of_ble_eq_true rfl) rfl (fun w37 (hS37 : St B (mpS r3 es :: mpS dx.r2 es :: own a3 KS.length c3 9 1 (KS.map str) :: cel g2 [Value.slice a ((zs.drop (j + 1)).length) c] 22 :: X :: cel g [Value.int .i64 D.room, Value.map (some dx.r2), Value.map (some r3), Value.slice none 0 0, Value.bool false, Value.int .i64 (-1)] 45 :: mpS dx.r1 dx.e1 :: own dx.a dx.vs.length dx.cap 69 1 dx.vs :: chsA dx.gs D.ch dx.vs :: filesA dx.gs f :: L) w37) => ?_)
   clear hS34
   refine WO.nil ?_
   refine NX.last (by decide) ?_
   refine WD.done dcrash_spec_t15 (by kernel_rfl) ?_
   have hcf : f = crashF zs 1 (applyL D.last (D.ch.take (keptF zs 0 D.ch.length))) D.f := by rw [← hcr, List.drop_of_length_le (by omega)]; rfl
   rw [hcf] at hS37
   have hn1 := (hS37.addPure (p := True) trivial).own_nil 69 1
   refine NX.ended (l := []) rfl rfl ?_
   exact ⟨rfl, St.dk_shut (dx := ⟨dx.gs, dx.r2, es, r3, es, none, 0, []⟩) (D := crashD D zs) ⟨by show dx.gs.length = (crashF zs 1 (applyL D.last (D.ch.take (keptF zs 0 D.ch.length))) D.f).length; rw [crashF_len]; exact ok.g, hes, hes, rfl⟩ ((hn1.permT [4, 4, 6, 6, 6, 5, 3, 2, 0, 0, 1, 0] (L' := own a3 KS.length c3 9 1 (KS.map str) :: cel g2 [Value.slice a ((zs.drop (j + 1)).length) c] 22 :: mpS dx.r1 dx.e1 :: own dx.a dx.vs.length dx.cap 69 1 dx.vs :: chsA dx.gs D.ch dx.vs :: cel g [Value.int .i64 D.room, Value.map (some dx.r2), Value.map (some r3), Value.slice none 0 0, Value.bool false, Value.int .i64 (-1)] 45 :: mpS dx.r2 es :: mpS r3 es :: own none 0 0 69 1 [] :: .pure True :: filesA dx.gs (crashF zs 1 (applyL D.last (D.ch.take (keptF zs 0 D.ch.length))) D.f) :: X :: L) rfl).drop.drop.drop.drop.drop)⟩
end Go.Proofs.YtiggkfaonnnjoaaGreatDoor.SL
