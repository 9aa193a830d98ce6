/- A disk in memory. -/
import Derived.Test.YtcehlnpbdffdhaaDoorDk
namespace Go.Proofs.YtcehlnpbdffdhaaDoor.SL
open Go.RowKit Go.Proofs.YtcehlnpbdffdhaaDoor
open Go.Proofs.YtcehlnpbdffdhaaDoorW.PrintLast (rtab opsOf)
set_option linter.unusedVariables false
set_option linter.unusedSimpArgs false

def chgA (gs : List Nat) (c : Chg) (v : Value) : HP :=
  if c.tn = [] then .ex fun k : Nat => .sep (.pure (v = .func (.func 101) #[] #[ptrV k])) (scel k [str c.fr] 9)
  else if c.fr = [] then .ex fun k : Nat × Nat => .sep (.pure (v = .func (.func 62) #[] #[ptrV k.1, ptrV k.2])) (.sep (scel k.1 [ptrV (gs.getD c.fi 0)] 104) (scel k.2 [str c.tn] 9))
  else .ex fun k : Nat × Nat × Nat => .sep (.pure (v = .func (.func 68) #[] #[ptrV k.1, ptrV k.2.1, ptrV k.2.2])) (.sep (scel k.1 [str c.fr] 9) (.sep (scel k.2.1 [ptrV (gs.getD c.fi 0)] 104) (scel k.2.2 [str c.tn] 9)))
theorem chgA_pers (gs : List Nat) (c : Chg) (v : Value) : (chgA gs c v).Pers := by
  unfold chgA
  split
  · exact HP.pers_ex fun k => HP.pers_sep (HP.pers_pure _) (scel_pers _ _ _)
  · split
    · exact HP.pers_ex fun k => HP.pers_sep (HP.pers_pure _) (HP.pers_sep (scel_pers _ _ _) (scel_pers _ _ _))
    · exact HP.pers_ex fun k => HP.pers_sep (HP.pers_pure _) (HP.pers_sep (scel_pers _ _ _) (HP.pers_sep (scel_pers _ _ _) (scel_pers _ _ _)))
def chsA (gs : List Nat) : List Chg → List Value → HP
  | [], [] => .pure True
  | c :: cs, v :: vs => .sep (chgA gs c v) (chsA gs cs vs)
  | _, _ => .pure False
theorem chsA_pers (gs : List Nat) : ∀ (cs : List Chg) (vs : List Value), (chsA gs cs vs).Pers
  | [], [] => HP.pers_pure _
  | c :: cs, v :: vs => HP.pers_sep (chgA_pers gs c v) (chsA_pers gs cs vs)
  | [], _ :: _ => HP.pers_pure _
  | _ :: _, [] => HP.pers_pure _
theorem chsA_len {gs : List Nat} {B w : World} : ∀ {cs : List Chg} {vs : List Value} {L : List HP}, St B (chsA gs cs vs :: L) w → cs.length = vs.length
  | [], [], _, _ => rfl
  | c :: cs, v :: vs, L, h => by rw [List.length_cons, List.length_cons, chsA_len (cs := cs) (vs := vs) h.sep.drop]
  | [], _ :: _, _, h => h.pure.1.elim
  | _ :: _, [], _, h => h.pure.1.elim
theorem chsA_snoc {gs : List Nat} {B w : World} {c : Chg} {v : Value} : ∀ {cs : List Chg} {vs : List Value} {L : List HP}, St B (chsA gs cs vs :: chgA gs c v :: L) w → St B (chsA gs (cs ++ [c]) (vs ++ [v]) :: L) w
  | [], [], L, h => (h.permT [1, 0] (L' := chgA gs c v :: chsA gs [] [] :: L) rfl).join
  | d :: cs, u :: vs, L, h => by
    have h1 := h.sep.permT [1, 1, 0] (L' := chsA gs cs vs :: chgA gs c v :: chgA gs d u :: L) rfl
    have h2 := chsA_snoc (cs := cs) (vs := vs) h1
    exact (h2.permT [1, 0] (L' := chgA gs d u :: chsA gs (cs ++ [c]) (vs ++ [v]) :: L) rfl).join
  | [], _ :: _, _, h => h.pure.1.elim
  | _ :: _, [], _, h => h.pure.1.elim
theorem chsA_at {gs : List Nat} {B w : World} : ∀ {cs : List Chg} {vs : List Value} {i : Nat} {c : Chg} {L : List HP}, cs[i]? = some c → St B (chsA gs cs vs :: L) w → ∃ v, vs[i]? = some v ∧ St B (chgA gs c v :: chsA gs cs vs :: L) w
  | [], _, i, c, L, hi, _ => by simp at hi
  | d :: cs, [], i, c, L, _, h => h.pure.1.elim
  | d :: cs, v :: vs, 0, c, L, hi, h => by
    simp at hi; subst hi
    have h1 := (St.dup (chgA_pers gs d v) h.sep).permT [0, 0, 0] (L' := chgA gs d v :: chgA gs d v :: chsA gs cs vs :: L) rfl
    exact ⟨v, rfl, (h1.permT [1, 1, 0] (L' := chgA gs d v :: chsA gs cs vs :: chgA gs d v :: L) rfl).join.permT [1, 0] (L' := chgA gs d v :: chsA gs (d :: cs) (v :: vs) :: L) rfl⟩
  | d :: cs, v :: vs, i + 1, c, L, hi, h => by
    obtain ⟨u, hu, h1⟩ := chsA_at (cs := cs) (vs := vs) (i := i) (by simpa using hi) (h.sep.permT [1, 0] (L' := chsA gs cs vs :: chgA gs d v :: L) rfl)
    exact ⟨u, by simpa using hu, (h1.permT [2, 1, 0] (L' := chgA gs d v :: chsA gs cs vs :: chgA gs c u :: L) rfl).join.permT [1, 0] (L' := chgA gs c u :: chsA gs (d :: cs) (v :: vs) :: L) rfl⟩
theorem getD_grow {gs : List Nat} {g i : Nat} (h : i < gs.length) : (gs ++ [g]).getD i 0 = gs.getD i 0 := by
  rw [List.getD_eq_getElem?_getD, List.getD_eq_getElem?_getD, List.getElem?_append_left h]
theorem chsA_grow {gs : List Nat} {g : Nat} : ∀ {cs : List Chg} {vs : List Value}, (∀ c ∈ cs, OkC gs.length c) → chsA (gs ++ [g]) cs vs = chsA gs cs vs
  | [], [], _ => rfl
  | c :: cs, v :: vs, h => by
    have e1 : chgA (gs ++ [g]) c v = chgA gs c v := by
      unfold chgA
      rcases h c (List.mem_cons_self ..) with hc | ⟨_, hi, _⟩
      · rw [if_pos hc.1, if_pos hc.1]
      · rw [getD_grow hi]
    show HP.sep (chgA (gs ++ [g]) c v) (chsA (gs ++ [g]) cs vs) = .sep (chgA gs c v) (chsA gs cs vs)
    rw [e1, chsA_grow (cs := cs) (vs := vs) fun d hd => h d (List.mem_cons_of_mem _ hd)]
  | [], _ :: _, _ => rfl
  | _ :: _, [], _ => rfl
def fileA (g : Nat) (x : List UInt8 × Nat) : HP := cel g [str x.1, .int .i64 (x.2 : Int)] 106
def filesA : List Nat → List (List UInt8 × Nat) → HP
  | [], [] => .pure True
  | g :: gs, x :: f => .sep (fileA g x) (filesA gs f)
  | _, _ => .pure False
def filesBut : Nat → List Nat → List (List UInt8 × Nat) → HP
  | 0, _ :: gs, _ :: f => filesA gs f
  | i + 1, g :: gs, x :: f => .sep (fileA g x) (filesBut i gs f)
  | _, _, _ => .pure False
theorem filesA_len {B w : World} : ∀ {gs : List Nat} {f : List (List UInt8 × Nat)} {L : List HP}, St B (filesA gs f :: L) w → gs.length = f.length
  | [], [], _, _ => rfl
  | g :: gs, x :: f, L, h => by rw [List.length_cons, List.length_cons, filesA_len (gs := gs) (f := f) h.sep.drop]
  | [], _ :: _, _, h => h.pure.1.elim
  | _ :: _, [], _, h => h.pure.1.elim
theorem filesA_pick {B w : World} : ∀ {gs : List Nat} {f : List (List UInt8 × Nat)} {i : Nat} {L : List HP}, i < f.length → St B (filesA gs f :: L) w → St B (fileA (gs.getD i 0) (fileAt f i) :: filesBut i gs f :: L) w
  | [], [], i, L, hi, _ => by simp at hi
  | g :: gs, x :: f, 0, L, _, h => h.sep
  | g :: gs, x :: f, i + 1, L, hi, h => by
    have h1 := filesA_pick (gs := gs) (f := f) (i := i) (by simpa using hi) (h.sep.permT [1, 0] (L' := filesA gs f :: fileA g x :: L) rfl)
    exact ((h1.permT [2, 1, 0] (L' := fileA g x :: filesBut i gs f :: fileA (gs.getD i 0) (fileAt f i) :: L) rfl).join).permT [1, 0] rfl
  | [], _ :: _, _, _, _, h => h.pure.1.elim
  | _ :: _, [], _, _, _, h => h.pure.1.elim
theorem filesA_back {B w : World} {y : List UInt8 × Nat} : ∀ {gs : List Nat} {f : List (List UInt8 × Nat)} {i : Nat} {L : List HP}, St B (fileA (gs.getD i 0) y :: filesBut i gs f :: L) w → St B (filesA gs (f.set i y) :: L) w
  | g :: gs, x :: f, 0, L, h => h.join
  | g :: gs, x :: f, i + 1, L, h => by
    have h0 := (h.permT [1, 0] (L' := filesBut (i + 1) (g :: gs) (x :: f) :: fileA (gs.getD i 0) y :: L) rfl).sep
    have h1 := filesA_back (gs := gs) (f := f) (i := i) (h0.permT [2, 1, 0] (L' := fileA (gs.getD i 0) y :: filesBut i gs f :: fileA g x :: L) rfl)
    exact (h1.permT [1, 0] (L' := fileA g x :: filesA gs (f.set i y) :: L) rfl).join
  | [], _, i, L, h => (by cases i <;> exact h.drop.pure.1.elim)
  | _ :: _, [], i, L, h => (by cases i <;> exact h.drop.pure.1.elim)
theorem filesA_snoc {B w : World} {g : Nat} {y : List UInt8 × Nat} : ∀ {gs : List Nat} {f : List (List UInt8 × Nat)} {L : List HP}, St B (filesA gs f :: fileA g y :: L) w → St B (filesA (gs ++ [g]) (f ++ [y]) :: L) w
  | [], [], L, h => (h.permT [1, 0] (L' := fileA g y :: filesA [] [] :: L) rfl).join
  | q :: gs, x :: f, L, h => by
    have h1 := h.sep.permT [1, 1, 0] (L' := filesA gs f :: fileA g y :: fileA q x :: L) rfl
    have h2 := filesA_snoc (gs := gs) (f := f) h1
    exact (h2.permT [1, 0] (L' := fileA q x :: filesA (gs ++ [g]) (f ++ [y]) :: L) rfl).join
  | [], _ :: _, _, h => h.pure.1.elim
  | _ :: _, [], _, h => h.pure.1.elim
structure DkX where
  gs : List Nat
  r1 : Nat
  e1 : List (List UInt8 × Value)
  r2 : Nat
  e2 : List (List UInt8 × Value)
  a : Option Addr
  cap : Nat
  vs : List Value
structure OkX (dx : DkX) (D : Dk) : Prop where
  g : dx.gs.length = D.f.length
  p1 : dx.e1.Perm (esOf dx.gs D.nm)
  p2 : dx.e2.Perm (esOf dx.gs D.last)
  v : D.ch.length = dx.vs.length
def dkA (g : Nat) (D : Dk) : HP := .ex fun dx : DkX => .sep (.pure (OkX dx D)) (.sep (cel g [Value.int .i64 D.room, Value.map (some dx.r1), Value.map (some dx.r2), Value.slice dx.a dx.vs.length dx.cap, Value.bool D.dead, Value.int .i64 D.left] 103) (.sep (mpS dx.r1 dx.e1) (.sep (mpS dx.r2 dx.e2) (.sep (own dx.a dx.vs.length dx.cap 108 1 dx.vs) (.sep (chsA dx.gs D.ch dx.vs) (filesA dx.gs D.f))))))
theorem St.dk_open {B w : World} {L : List HP} {g : Nat} {D : Dk} (h : St B (dkA g D :: L) w) : ∃ dx : DkX, OkX dx D ∧ St B (cel g [Value.int .i64 D.room, Value.map (some dx.r1), Value.map (some dx.r2), Value.slice dx.a dx.vs.length dx.cap, Value.bool D.dead, Value.int .i64 D.left] 103 :: mpS dx.r1 dx.e1 :: mpS dx.r2 dx.e2 :: own dx.a dx.vs.length dx.cap 108 1 dx.vs :: chsA dx.gs D.ch dx.vs :: filesA dx.gs D.f :: L) w := by
  obtain ⟨dx, h1⟩ := h.ex
  obtain ⟨h2, h3⟩ := h1.sep.pure
  have a1 := h3.sep
  have a2 := (a1.permT [1, 0] rfl).sep
  have a3 := (a2.permT [1, 1, 0] (L' := _ :: _ :: _ :: L) rfl).sep
  have a4 := (a3.permT [1, 2, 1, 0] (L' := _ :: _ :: _ :: _ :: L) rfl).sep
  have a5 := (a4.permT [1, 3, 2, 1, 0] (L' := _ :: _ :: _ :: _ :: _ :: L) rfl).sep
  exact ⟨dx, h2, a5.permT [3, 3, 2, 2, 0, 0] rfl⟩
theorem St.dk_shut {B w : World} {L : List HP} {g : Nat} {D : Dk} {dx : DkX} (ok : OkX dx D) (h : St B (cel g [Value.int .i64 D.room, Value.map (some dx.r1), Value.map (some dx.r2), Value.slice dx.a dx.vs.length dx.cap, Value.bool D.dead, Value.int .i64 D.left] 103 :: mpS dx.r1 dx.e1 :: mpS dx.r2 dx.e2 :: own dx.a dx.vs.length dx.cap 108 1 dx.vs :: chsA dx.gs D.ch dx.vs :: filesA dx.gs D.f :: L) w) : St B (dkA g D :: L) w := by
  have a5 := (h.permT [4, 4, 3, 2, 1, 0] (L' := chsA dx.gs D.ch dx.vs :: filesA dx.gs D.f :: own dx.a dx.vs.length dx.cap 108 1 dx.vs :: mpS dx.r2 dx.e2 :: mpS dx.r1 dx.e1 :: cel g [Value.int .i64 D.room, Value.map (some dx.r1), Value.map (some dx.r2), Value.slice dx.a dx.vs.length dx.cap, Value.bool D.dead, Value.int .i64 D.left] 103 :: L) rfl).join
  have a4 := (a5.permT [1, 0] (L' := own dx.a dx.vs.length dx.cap 108 1 dx.vs :: .sep (chsA dx.gs D.ch dx.vs) (filesA dx.gs D.f) :: mpS dx.r2 dx.e2 :: mpS dx.r1 dx.e1 :: cel g [Value.int .i64 D.room, Value.map (some dx.r1), Value.map (some dx.r2), Value.slice dx.a dx.vs.length dx.cap, Value.bool D.dead, Value.int .i64 D.left] 103 :: L) rfl).join
  have a3 := (a4.permT [1, 0] (L' := mpS dx.r2 dx.e2 :: .sep (own dx.a dx.vs.length dx.cap 108 1 dx.vs) (.sep (chsA dx.gs D.ch dx.vs) (filesA dx.gs D.f)) :: mpS dx.r1 dx.e1 :: cel g [Value.int .i64 D.room, Value.map (some dx.r1), Value.map (some dx.r2), Value.slice dx.a dx.vs.length dx.cap, Value.bool D.dead, Value.int .i64 D.left] 103 :: L) rfl).join
  have a2 := (a3.permT [1, 0] (L' := mpS dx.r1 dx.e1 :: .sep (mpS dx.r2 dx.e2) (.sep (own dx.a dx.vs.length dx.cap 108 1 dx.vs) (.sep (chsA dx.gs D.ch dx.vs) (filesA dx.gs D.f))) :: cel g [Value.int .i64 D.room, Value.map (some dx.r1), Value.map (some dx.r2), Value.slice dx.a dx.vs.length dx.cap, Value.bool D.dead, Value.int .i64 D.left] 103 :: L) rfl).join
  have a1 := (a2.permT [1, 0] (L' := cel g [Value.int .i64 D.room, Value.map (some dx.r1), Value.map (some dx.r2), Value.slice dx.a dx.vs.length dx.cap, Value.bool D.dead, Value.int .i64 D.left] 103 :: .sep (mpS dx.r1 dx.e1) (.sep (mpS dx.r2 dx.e2) (.sep (own dx.a dx.vs.length dx.cap 108 1 dx.vs) (.sep (chsA dx.gs D.ch dx.vs) (filesA dx.gs D.f)))) :: L) rfl).join
  exact (St.join (a1.addPure ok)).give dx
end Go.Proofs.YtcehlnpbdffdhaaDoor.SL
