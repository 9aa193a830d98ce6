/- A disk: a change of names. -/
import Derived.Test.YtcehlnpbdffdhaaDoorDr4
namespace Go.Proofs.YtcehlnpbdffdhaaDoor.SL
open Go.RowKit Go.Proofs.YtcehlnpbdffdhaaDoor
open Go.Proofs.YtcehlnpbdffdhaaDoorW.PrintLast (rtab opsOf)
set_option linter.unusedVariables false
set_option linter.unusedSimpArgs false
theorem put_spec1 {B w : World} {L : List HP} {r kf kn q : Nat} {nm : List UInt8} {es : List (List UInt8 × Value)} (hS : St B (scel kf [Value.pointer (some ⟨q, 0, none⟩)] 104 :: scel kn [str nm] 9 :: mpS r es :: L) w) : Does Tryd.prog 62 [Value.map (some r), Value.pointer (some ⟨kf, 0, none⟩), Value.pointer (some ⟨kn, 0, none⟩)] w (fun v w1 => v = .tuple #[] ∧ St B (scel kf [Value.pointer (some ⟨q, 0, none⟩)] 104 :: scel kn [str nm] 9 :: mpS r (putS es nm (ptrV q)) :: L) w1) := by
 refine enter (n := 7) Tryd.func62 rfl rfl [Value.map (some r), Value.pointer (some ⟨kf, 0, none⟩), Value.pointer (some ⟨kn, 0, none⟩)] rfl ?_
 refine WP.region rfl ?_
 refine WO.val (run_move rfl) rfl rfl rfl ?_
 refine WO.val (run_load Ty.ag9 rfl ((hS.scel_at 1 rfl 0).trans rfl)) rfl rfl rfl ?_
 refine WO.val (run_load Ty.ag104 rfl ((hS.scel_at 0 rfl 0).trans rfl)) rfl rfl rfl ?_
 refine WO.mapUpdateS 2 hS rfl Tryd.underlying100 Tryd.underlying9 rfl rfl rfl (fun w1 hS1 => ?_)
 replace hS1 : St B (scel kf [Value.pointer (some ⟨q, 0, none⟩)] 104 :: scel kn [str nm] 9 :: mpS r (putS es nm (Value.pointer (some ⟨q, 0, none⟩))) :: L) w1 := hS1
 clear hS
 refine WO.nil ?_
 refine NX.ended (l := []) rfl rfl ?_
 exact ⟨rfl, hS1⟩
theorem mov_spec1 {B w : World} {L : List HP} {r k1 kf kn q : Nat} {fr nm : List UInt8} {es : List (List UInt8 × Value)} (hS : St B (scel k1 [str fr] 9 :: scel kf [Value.pointer (some ⟨q, 0, none⟩)] 104 :: scel kn [str nm] 9 :: mpS r es :: L) w) : Does Tryd.prog 68 [Value.map (some r), Value.pointer (some ⟨k1, 0, none⟩), Value.pointer (some ⟨kf, 0, none⟩), Value.pointer (some ⟨kn, 0, none⟩)] w (fun v w1 => v = .tuple #[] ∧ St B (scel k1 [str fr] 9 :: scel kf [Value.pointer (some ⟨q, 0, none⟩)] 104 :: scel kn [str nm] 9 :: mpS r (putS (delS es fr) nm (ptrV q)) :: L) w1) := by
 refine enter (n := 10) Tryd.func68 rfl rfl [Value.map (some r), Value.pointer (some ⟨k1, 0, none⟩), Value.pointer (some ⟨kf, 0, none⟩), Value.pointer (some ⟨kn, 0, none⟩)] rfl ?_
 refine WP.seq ?_
 refine WP.region rfl ?_
 refine WO.val (run_move rfl) rfl rfl rfl ?_
 refine WO.val (run_load Ty.ag9 rfl ((hS.scel_at 0 rfl 0).trans rfl)) rfl rfl rfl ?_
 refine WO.deleteS 3 hS rfl rfl Tryd.underlying100 Tryd.underlying9 rfl rfl (fun w1 hS1 => ?_)
 replace hS1 : St B (scel k1 [str fr] 9 :: scel kf [Value.pointer (some ⟨q, 0, none⟩)] 104 :: scel kn [str nm] 9 :: mpS r (delS es fr) :: L) w1 := hS1
 clear hS
 refine WO.nil ?_
 refine NX.go ?_
 refine WP.region rfl ?_
 refine WO.val (run_move rfl) rfl rfl rfl ?_
 refine WO.val (run_load Ty.ag9 rfl ((hS1.scel_at 2 rfl 0).trans rfl)) rfl rfl rfl ?_
 refine WO.val (run_load Ty.ag104 rfl ((hS1.scel_at 1 rfl 0).trans rfl)) rfl rfl rfl ?_
 refine WO.mapUpdateS 3 hS1 rfl Tryd.underlying100 Tryd.underlying9 rfl rfl rfl (fun w2 hS2 => ?_)
 replace hS2 : St B (scel k1 [str fr] 9 :: scel kf [Value.pointer (some ⟨q, 0, none⟩)] 104 :: scel kn [str nm] 9 :: mpS r (putS (delS es fr) nm (Value.pointer (some ⟨q, 0, none⟩))) :: L) w2 := hS2
 clear hS1
 refine WO.nil ?_
 refine NX.ended (l := []) rfl rfl ?_
 exact ⟨rfl, hS2⟩
theorem del_spec1 {B w : World} {L : List HP} {r k1 : Nat} {fr : List UInt8} {es : List (List UInt8 × Value)} (hS : St B (scel k1 [str fr] 9 :: mpS r es :: L) w) : Does Tryd.prog 101 [Value.map (some r), Value.pointer (some ⟨k1, 0, none⟩)] w (fun v w1 => v = .tuple #[] ∧ St B (scel k1 [str fr] 9 :: mpS r (delS es fr) :: L) w1) := by
 refine enter (n := 5) Tryd.func101 rfl rfl [Value.map (some r), Value.pointer (some ⟨k1, 0, none⟩)] rfl ?_
 refine WP.region rfl ?_
 refine WO.val (run_move rfl) rfl rfl rfl ?_
 refine WO.val (run_load Ty.ag9 rfl ((hS.scel_at 0 rfl 0).trans rfl)) rfl rfl rfl ?_
 refine WO.deleteS 1 hS rfl rfl Tryd.underlying100 Tryd.underlying9 rfl rfl (fun w1 hS1 => ?_)
 replace hS1 : St B (scel k1 [str fr] 9 :: mpS r (delS es fr) :: L) w1 := hS1
 clear hS
 refine WO.nil ?_
 refine NX.ended (l := []) rfl rfl ?_
 exact ⟨rfl, hS1⟩

/-- A change is done by the function value that was laid aside. -/
theorem chg_call {B w : World} {L : List HP} {gs : List Nat} {c : Chg} {v : Value} {r f : Nat} {es : List (List UInt8 × Value)} {cs : List Value} (hv : v = .func (.func f) #[] cs.toArray) (h : St B (chgA gs c v :: mpS r es :: L) w) :
    Has Tryd.prog f ∧ Does Tryd.prog f ([.map (some r)] ++ cs) w (fun _ w1 => St B (chgA gs c v :: mpS r (applyE gs es c) :: L) w1) := by
  unfold chgA applyE at *
  split at h
  · rename_i ht
    simp only [if_pos ht]
    obtain ⟨k1, h1⟩ := h.ex
    obtain ⟨rfl, h2⟩ := h1.sep.pure
    cases hv
    refine ⟨Ty.hd101, (del_spec1 (h2)).mono fun _ w' ⟨_, h5⟩ => ?_⟩
    refine ((h5.addPure (p := Value.func (.func 101) #[] #[ptrV k1] = .func (.func 101) #[] #[ptrV k1]) rfl).join.give k1)
  · rename_i ht
    split at h
    · rename_i hf
      simp only [if_neg ht, if_pos hf]
      obtain ⟨⟨kf, kn⟩, h1⟩ := h.ex
      obtain ⟨rfl, h2⟩ := h1.sep.pure
      cases hv
      refine ⟨Ty.hd62, (put_spec1 (h2.sep)).mono fun _ w' ⟨_, h5⟩ => ?_⟩
      exact ((h5.join.addPure (p := Value.func (.func 62) #[] #[ptrV kf, ptrV kn] = .func (.func 62) #[] #[ptrV kf, ptrV kn]) rfl).join.give (kf, kn))
    · rename_i hf
      simp only [if_neg ht, if_neg hf]
      obtain ⟨⟨k1, kf, kn⟩, h1⟩ := h.ex
      obtain ⟨rfl, h2⟩ := h1.sep.pure
      cases hv
      have h3 := ((h2.sep.permT [1, 0] rfl).sep.permT [2, 0, 0] (L' := scel k1 [str c.fr] 9 :: scel kf [ptrV (gs.getD c.fi 0)] 104 :: scel kn [str c.tn] 9 :: mpS r es :: L) rfl)
      refine ⟨Ty.hd68, (mov_spec1 h3).mono fun _ w' ⟨_, h5⟩ => ?_⟩
      have h6 := (h5.permT [1, 1, 0] rfl).join.permT [1, 0] (L' := scel k1 [str c.fr] 9 :: .sep (scel kf [ptrV (gs.getD c.fi 0)] 104) (scel kn [str c.tn] 9) :: mpS r (putS (delS es c.fr) c.tn (ptrV (gs.getD c.fi 0))) :: L) rfl
      exact ((h6.join.addPure (p := Value.func (.func 68) #[] #[ptrV k1, ptrV kf, ptrV kn] = .func (.func 68) #[] #[ptrV k1, ptrV kf, ptrV kn]) rfl).join.give (k1, kf, kn))
theorem chg_form {B w : World} {L : List HP} {gs : List Nat} {c : Chg} {v : Value} (h : St B (chgA gs c v :: L) w) : ∃ f cs, v = .func (.func f) #[] (List.toArray cs) := by
  unfold chgA at h
  split at h
  · obtain ⟨k1, h1⟩ := h.ex; obtain ⟨rfl, h2⟩ := h1.sep.pure; exact ⟨_, [ptrV k1], rfl⟩
  · split at h
    · obtain ⟨⟨kf, kn⟩, h1⟩ := h.ex; obtain ⟨rfl, h2⟩ := h1.sep.pure; exact ⟨_, [ptrV kf, ptrV kn], rfl⟩
    · obtain ⟨⟨k1, kf, kn⟩, h1⟩ := h.ex; obtain ⟨rfl, h2⟩ := h1.sep.pure; exact ⟨_, [ptrV k1, ptrV kf, ptrV kn], rfl⟩
theorem mk_put {B w : World} {L : List HP} {gs : List Nat} {c : Chg} {kf kn q : Nat} (ht : ¬ c.tn = []) (hf : c.fr = []) (hq : q = gs.getD c.fi 0) (h : St B (scel kf [ptrV q] 104 :: scel kn [str c.tn] 9 :: L) w) : St B (chgA gs c (.func (.func 62) #[] #[ptrV kf, ptrV kn]) :: L) w := by
  unfold chgA
  rw [if_neg ht, if_pos hf, ← hq]
  exact ((h.join.addPure (p := Value.func (.func 62) #[] #[ptrV kf, ptrV kn] = .func (.func 62) #[] #[ptrV kf, ptrV kn]) rfl).join.give (kf, kn))

theorem mk_mov {B w : World} {L : List HP} {gs : List Nat} {c : Chg} {k1 kf kn q : Nat} (ht : ¬ c.tn = []) (hf : ¬ c.fr = []) (hq : q = gs.getD c.fi 0) (h : St B (scel k1 [str c.fr] 9 :: scel kf [ptrV q] 104 :: scel kn [str c.tn] 9 :: L) w) : St B (chgA gs c (.func (.func 68) #[] #[ptrV k1, ptrV kf, ptrV kn]) :: L) w := by
  unfold chgA
  rw [if_neg ht, if_neg hf, ← hq]
  have h6 := (h.permT [1, 1, 0] rfl).join.permT [1, 0] (L' := scel k1 [str c.fr] 9 :: .sep (scel kf [ptrV q] 104) (scel kn [str c.tn] 9) :: L) rfl
  exact ((h6.join.addPure (p := Value.func (.func 68) #[] #[ptrV k1, ptrV kf, ptrV kn] = .func (.func 68) #[] #[ptrV k1, ptrV kf, ptrV kn]) rfl).join.give (k1, kf, kn))

theorem mk_del {B w : World} {L : List HP} {gs : List Nat} {c : Chg} {k1 : Nat} (ht : c.tn = []) (h : St B (scel k1 [str c.fr] 9 :: L) w) : St B (chgA gs c (.func (.func 101) #[] #[ptrV k1]) :: L) w := by
  unfold chgA
  rw [if_pos ht]
  exact ((h.addPure (p := Value.func (.func 101) #[] #[ptrV k1] = .func (.func 101) #[] #[ptrV k1]) rfl).join.give k1)
theorem dchange_spec {B w : World} {L : List HP} {g r1 r2 cap f : Nat} {room left : Int} {a : Option Addr} {dead : Bool} {gs : List Nat} {c : Chg} {es : List (List UInt8 × Value)} {vs cs : List Value} (hvs : vs.length ≤ 1099511627776) (hS : St B (chgA gs c (Value.func (.func f) #[] cs.toArray) :: mpS r1 es :: cel g [Value.int .i64 room, Value.map (some r1), Value.map (some r2), Value.slice a vs.length cap, Value.bool dead, Value.int .i64 left] 103 :: own a vs.length cap 108 1 vs :: L) w) : Does Tryd.prog 61 [Value.pointer (some ⟨g, 0, none⟩), Value.func (.func f) #[] cs.toArray] w (fun v w1 => ∃ a2 c2, v = .tuple #[] ∧ St B (chgA gs c (Value.func (.func f) #[] cs.toArray) :: mpS r1 (applyE gs es c) :: cel g [Value.int .i64 room, Value.map (some r1), Value.map (some r2), Value.slice a2 ((vs ++ [Value.func (.func f) #[] cs.toArray]).length) c2, Value.bool dead, Value.int .i64 left] 103 :: own a2 ((vs ++ [Value.func (.func f) #[] cs.toArray]).length) c2 108 1 (vs ++ [Value.func (.func f) #[] cs.toArray]) :: L) w1) := by
 refine enter (n := 20) Tryd.func61 rfl rfl [Value.pointer (some ⟨g, 0, none⟩), Value.func (.func f) #[] cs.toArray] rfl ?_
 refine WP.seq ?_
 refine WP.region rfl ?_
 refine WO.val (run_move rfl) rfl rfl rfl ?_
 refine WO.val (run_move rfl) rfl rfl rfl ?_
 refine WO.val (run_nilCheck rfl) rfl rfl rfl ?_
 refine WO.val (run_fieldAddr (q := ⟨g, 1, none⟩) (show fieldB Tryd.prog 103 1 = some 1 from by kernel_rfl) rfl rfl) rfl rfl rfl ?_
 refine WO.val (run_load Ty.ag100 rfl ((hS.cel_at 2 rfl 1).trans rfl)) rfl rfl rfl ?_
 obtain ⟨hF, hD⟩ := chg_call rfl hS
 refine WO.callV (us := []) (cs := cs) rfl rfl hF rfl hD (fun v2 w1 hS1 => ?_)
 clear hS
 refine WO.nil ?_
 refine NX.go ?_
 refine WP.region rfl ?_
 refine WO.val (run_move rfl) rfl rfl rfl ?_
 refine WO.val (run_move rfl) rfl rfl rfl ?_
 refine WO.val (run_nilCheck rfl) rfl rfl rfl ?_
 refine WO.val (run_fieldAddr (q := ⟨g, 3, none⟩) (show fieldB Tryd.prog 103 3 = some 3 from by kernel_rfl) rfl rfl) rfl rfl rfl ?_
 refine WO.val (run_load Ty.ag101 rfl ((hS1.cel_at 2 rfl 3).trans rfl)) rfl rfl rfl ?_
 refine WO.val (run_move rfl) rfl rfl rfl ?_
 refine WO.buildSlice (l := [Value.func (.func f) #[] cs.toArray]) hS1 Tryd.underlying101 rfl (fun w => by kernel_rfl) rfl (fun g4 w3 lg4 hS3 => ?_)
 clear hS1
 have hS3 := hS3.own_of_cel (m := 1) (k := 1) rfl
 refine WO.append (news := [Value.func (.func f) #[] cs.toArray]) 4 rfl Tryd.underlying101 Tryd.underlying101 (fun _ h => by cases h) Ty.sz108 (by decide) Ty.by108 Ty.zr108 rfl rfl rfl rfl hS3 rfl ((hS3.own_rd_i 0 rfl).src) rfl (by omega) (by omega) (fun a6 c7 w5 hS5 => ?_)
 replace hS5 : St B (own (some ⟨g4, 0, none⟩) 1 1 108 1 [Value.func (.func f) #[] cs.toArray] :: chgA gs c (Value.func (.func f) #[] cs.toArray) :: mpS r1 (applyE gs es c) :: cel g [Value.int .i64 room, Value.map (some r1), Value.map (some r2), Value.slice a vs.length cap, Value.bool dead, Value.int .i64 left] 103 :: own a6 ((vs ++ [Value.func (.func f) #[] cs.toArray]).length) c7 108 1 (vs ++ [Value.func (.func f) #[] cs.toArray]) :: L) w5 := (by rw [List.length_append]; exact hS5)
 refine WO.as (d := 17) (v := Value.slice a6 ((vs ++ [Value.func (.func f) #[] cs.toArray]).length) c7) rfl (by simp) ?_
 clear hS3
 refine WO.val (run_nilCheck rfl) rfl rfl rfl ?_
 refine WO.val (run_fieldAddr (q := ⟨g, 3, none⟩) (show fieldB Tryd.prog 103 3 = some 3 from by kernel_rfl) rfl rfl) rfl rfl rfl ?_
 refine WO.store (l' := [Value.int .i64 room, Value.map (some r1), Value.map (some r2), Value.slice a6 ((vs ++ [Value.func (.func f) #[] cs.toArray]).length) c7, Value.bool dead, Value.int .i64 left]) 3 hS5 rfl Ty.sz101 rfl rfl rfl rfl rfl (Nat.le_of_ble_eq_true rfl) rfl (fun w8 (hS8 : St B (own (some ⟨g4, 0, none⟩) 1 1 108 1 [Value.func (.func f) #[] cs.toArray] :: chgA gs c (Value.func (.func f) #[] cs.toArray) :: mpS r1 (applyE gs es c) :: cel g [Value.int .i64 room, Value.map (some r1), Value.map (some r2), Value.slice a6 ((vs ++ [Value.func (.func f) #[] cs.toArray]).length) c7, Value.bool dead, Value.int .i64 left] 103 :: own a6 ((vs ++ [Value.func (.func f) #[] cs.toArray]).length) c7 108 1 (vs ++ [Value.func (.func f) #[] cs.toArray]) :: L) w8) => ?_)
 clear hS5
 refine WO.nil ?_
 refine NX.ended (l := []) rfl rfl ?_
 exact ⟨a6, c7, rfl, hS8.drop⟩
end Go.Proofs.YtcehlnpbdffdhaaDoor.SL
