import Derived.Test.YtcehlnpbdffdhaaGreatDoorKt
import Derived.Test.YtcehlnpbdffdhaaGreatDoorNmf
import Derived.Test.YtcehlnpbdffdhaaGreatDoorSl11
import Derived.Test.YtcehlnpbdffdhaaGreatDoorShelf
import Derived.Test.YtcehlnpbdffdhaaGreatDoorTy
import Derived.Test.YtcehlnpbdffdhaaGreatDoorKwM
import Derived.Test.YtcehlnpbdffdhaaGreatDoorKg
/- Names of files, by the library's Trim. -/
namespace Go.Proofs.YtcehlnpbdffdhaaGreatDoor.SL
open Go.RowKit Go.Proofs.YtcehlnpbdffdhaaGreatDoor
open Go.Proofs.YtcehlnpbdffdhaaGreatDoorW.PrintLast (rtab opsOf)
set_option linter.unusedVariables false
set_option linter.unusedSimpArgs false
def signsF : List UInt8 := [97, 98, 99, 100, 101, 102, 103, 104, 105, 106, 107, 108, 109, 110, 111, 112, 113, 114, 115, 116, 117, 118, 119, 120, 121, 122, 48, 49, 50, 51, 52, 53, 54, 55, 56, 57, 46, 45]
theorem dropWhile_nil {p : UInt8 → Bool} : ∀ {l : List UInt8}, l.dropWhile p = [] ↔ ∀ b ∈ l, p b = true
  | [] => by simp
  | b :: l => by
    by_cases h : p b = true
    · rw [List.dropWhile_cons_of_pos h, dropWhile_nil]; simp [h]
    · rw [List.dropWhile_cons_of_neg h]; simp [h]
theorem trimA_nil {s cs : List UInt8} : trimA s cs = [] ↔ ∀ b ∈ s, cs.contains b = true := by
  have hR : trimR s cs = [] ↔ ∀ b ∈ s, cs.contains b = true := by
    unfold trimR; rw [List.reverse_eq_nil_iff, dropWhile_nil]; simp
  unfold trimA
  constructor
  · intro h
    rw [← hR]
    rcases List.eq_nil_or_concat (trimR s cs) with e | ⟨z, c, e⟩
    · exact e
    · have hc : cs.contains c = true := by
        unfold trimL at h
        rw [e, List.concat_eq_append, dropWhile_nil] at h
        exact h c (by simp)
      exfalso
      have h2 : (s.reverse.dropWhile (cs.contains ·)) = c :: z.reverse := by
        have := congrArg List.reverse e
        unfold trimR at this
        rw [List.reverse_reverse, List.concat_eq_append, List.reverse_append] at this
        exact this
      have h3 := List.head?_dropWhile_not (cs.contains ·) s.reverse
      rw [h2] at h3
      simp only [List.head?_cons] at h3
      rw [hc] at h3; cases h3
  · intro h; rw [hR.2 h]; rfl
theorem signs_file : ∀ b : UInt8, signsF.contains b = true ↔ fileB b := by
  intro b
  have key : ∀ n : Fin 256, signsF.contains (UInt8.ofNat n.val) = decide (97 ≤ n.val ∧ n.val ≤ 122 ∨ 48 ≤ n.val ∧ n.val ≤ 57 ∨ n.val = 46 ∨ n.val = 45) := by decide +kernel
  have h := key ⟨b.toNat, UInt8.toNat_lt b⟩
  simp only [UInt8.ofNat_toNat] at h
  rw [h, decide_eq_true_iff]; rfl
theorem file_trim (s : List UInt8) : (trimA s signsF = []) ↔ ∀ b ∈ s, fileB b := by
  rw [trimA_nil]
  exact ⟨fun h b hb => (signs_file b).1 (h b hb), fun h b hb => (signs_file b).2 (h b hb)⟩
theorem signsF_ascii : Ascii signsF := by
  intro j b h
  have hm := List.mem_of_getElem? h
  have : ∀ b ∈ signsF, b.toNat < 128 := by decide
  exact this b hm
theorem dright_spec {B w : World} {L : List HP} (s : List UInt8) (hs : s.length ≤ 9223372036854775807) (hS : St B L w) : Does Tryz.prog 60 [str s] w (fun v w1 => v = .bool (fileF s) ∧ St B L w1) := by
 refine enter (n := 15) Tryz.func60 rfl rfl [str s] rfl ?_
 refine WP.seq (WP.region rfl ?_)
 refine WO.asg rfl rfl ?_
 refine WO.nil (NX.go (WP.seq (WP.region rfl ?_)))
 refine WO.mv rfl rfl ?_
 refine WO.val (run_neqS rfl rfl) rfl rfl rfl ?_
 refine WO.mv rfl rfl ?_
 by_cases g5 : ¬ s = []
 ·
  refine WO.on rfl rfl (decide_eq_true g5) ?_
  refine WO.mv rfl rfl ?_
  refine WO.on rfl rfl (decide_eq_true g5) ?_
  refine WO.val (run_lenS rfl Tryz.underlying9 rfl) rfl rfl rfl ?_
  refine WO.on rfl rfl (decide_eq_true g5) ?_
  refine WO.val (run_leq rfl rfl) rfl rfl rfl ?_
  refine WO.val (run_pickT rfl (decide_eq_true g5) rfl) rfl rfl rfl ?_
  refine WO.mv rfl rfl ?_
  by_cases g10 : (s.length : Int) ≤ 32
  ·
   refine WO.on rfl rfl (decide_eq_true g10) ?_
   refine WO.mv rfl rfl ?_
   refine WO.on rfl rfl (decide_eq_true g10) ?_
   refine WO.call rfl rfl Ty.hd93 rfl (trim_spec (cs := signsF) s hs (by decide) (by decide) signsF_ascii hS) (fun v2 w1 pv2 => ?_)
   obtain ⟨rfl, hS1⟩ := pv2
   clear hS
   refine WO.on rfl rfl (decide_eq_true g10) ?_
   refine WO.val (run_eqlS rfl rfl) rfl rfl rfl ?_
   refine WO.val (run_pickT rfl (decide_eq_true g10) rfl) rfl rfl rfl ?_
   refine WO.asg rfl rfl ?_
   refine WO.nil (NX.go (WP.ret ?_))
   refine NX.done (l := [.tmp 2]) rfl rfl ?_
   exact ⟨congrArg Value.bool (decide_eq_decide.2 ((file_trim s).trans ⟨fun h => ⟨g5, by omega, h⟩, fun h => h.2.2⟩)), hS1⟩
  ·
   refine WO.off rfl rfl (decide_eq_false g10) rfl ?_
   refine WO.off rfl rfl (decide_eq_false g10) rfl ?_
   refine WO.off rfl rfl (decide_eq_false g10) rfl ?_
   refine WO.val (run_pickF rfl (decide_eq_false g10) rfl) rfl rfl rfl ?_
   refine WO.asg rfl rfl ?_
   refine WO.nil (NX.go (WP.ret ?_))
   refine NX.done (l := [.tmp 2]) rfl rfl ?_
   exact ⟨congrArg Value.bool (decide_eq_false (fun h => absurd h.2.1 (by omega))).symm, hS⟩
 ·
  refine WO.off rfl rfl (decide_eq_false g5) rfl ?_
  refine WO.off rfl rfl (decide_eq_false g5) rfl ?_
  refine WO.off rfl rfl (decide_eq_false g5) rfl ?_
  refine WO.val (run_pickF rfl (decide_eq_false g5) rfl) rfl rfl rfl ?_
  refine WO.mv rfl rfl ?_
  refine WO.off rfl rfl rfl rfl ?_
  refine WO.off rfl rfl rfl rfl ?_
  refine WO.off rfl rfl rfl rfl ?_
  refine WO.val (run_pickF rfl rfl rfl) rfl rfl rfl ?_
  refine WO.asg rfl rfl ?_
  refine WO.nil (NX.go (WP.ret ?_))
  refine NX.done (l := [.tmp 2]) rfl rfl ?_
  exact ⟨congrArg Value.bool (decide_eq_false (fun h => absurd h.1 (by simpa using g5))).symm, hS⟩
theorem mname_spec {B w : World} {L : List HP} (s : List UInt8) (hs : s.length ≤ 9223372036854775807) (hS : St B L w) : Does Tryz.prog 76 [str s] w (fun v w1 => v = .bool (fileF s) ∧ St B L w1) := by
 refine enter (n := 15) Tryz.func76 rfl rfl [str s] rfl ?_
 refine WP.seq (WP.region rfl ?_)
 refine WO.asg rfl rfl ?_
 refine WO.nil (NX.go (WP.seq (WP.region rfl ?_)))
 refine WO.mv rfl rfl ?_
 refine WO.val (run_neqS rfl rfl) rfl rfl rfl ?_
 refine WO.mv rfl rfl ?_
 by_cases g5 : ¬ s = []
 ·
  refine WO.on rfl rfl (decide_eq_true g5) ?_
  refine WO.mv rfl rfl ?_
  refine WO.on rfl rfl (decide_eq_true g5) ?_
  refine WO.val (run_lenS rfl Tryz.underlying9 rfl) rfl rfl rfl ?_
  refine WO.on rfl rfl (decide_eq_true g5) ?_
  refine WO.val (run_leq rfl rfl) rfl rfl rfl ?_
  refine WO.val (run_pickT rfl (decide_eq_true g5) rfl) rfl rfl rfl ?_
  refine WO.mv rfl rfl ?_
  by_cases g10 : (s.length : Int) ≤ 32
  ·
   refine WO.on rfl rfl (decide_eq_true g10) ?_
   refine WO.mv rfl rfl ?_
   refine WO.on rfl rfl (decide_eq_true g10) ?_
   refine WO.call rfl rfl Ty.hd93 rfl (trim_spec (cs := signsF) s hs (by decide) (by decide) signsF_ascii hS) (fun v2 w1 pv2 => ?_)
   obtain ⟨rfl, hS1⟩ := pv2
   clear hS
   refine WO.on rfl rfl (decide_eq_true g10) ?_
   refine WO.val (run_eqlS rfl rfl) rfl rfl rfl ?_
   refine WO.val (run_pickT rfl (decide_eq_true g10) rfl) rfl rfl rfl ?_
   refine WO.asg rfl rfl ?_
   refine WO.nil (NX.go (WP.ret ?_))
   refine NX.done (l := [.tmp 2]) rfl rfl ?_
   exact ⟨congrArg Value.bool (decide_eq_decide.2 ((file_trim s).trans ⟨fun h => ⟨g5, by omega, h⟩, fun h => h.2.2⟩)), hS1⟩
  ·
   refine WO.off rfl rfl (decide_eq_false g10) rfl ?_
   refine WO.off rfl rfl (decide_eq_false g10) rfl ?_
   refine WO.off rfl rfl (decide_eq_false g10) rfl ?_
   refine WO.val (run_pickF rfl (decide_eq_false g10) rfl) rfl rfl rfl ?_
   refine WO.asg rfl rfl ?_
   refine WO.nil (NX.go (WP.ret ?_))
   refine NX.done (l := [.tmp 2]) rfl rfl ?_
   exact ⟨congrArg Value.bool (decide_eq_false (fun h => absurd h.2.1 (by omega))).symm, hS⟩
 ·
  refine WO.off rfl rfl (decide_eq_false g5) rfl ?_
  refine WO.off rfl rfl (decide_eq_false g5) rfl ?_
  refine WO.off rfl rfl (decide_eq_false g5) rfl ?_
  refine WO.val (run_pickF rfl (decide_eq_false g5) rfl) rfl rfl rfl ?_
  refine WO.mv rfl rfl ?_
  refine WO.off rfl rfl rfl rfl ?_
  refine WO.off rfl rfl rfl rfl ?_
  refine WO.off rfl rfl rfl rfl ?_
  refine WO.val (run_pickF rfl rfl rfl) rfl rfl rfl ?_
  refine WO.asg rfl rfl ?_
  refine WO.nil (NX.go (WP.ret ?_))
  refine NX.done (l := [.tmp 2]) rfl rfl ?_
  exact ⟨congrArg Value.bool (decide_eq_false (fun h => absurd h.1 (by simpa using g5))).symm, hS⟩
end Go.Proofs.YtcehlnpbdffdhaaGreatDoor.SL

/- strings.Join at no separator. -/
namespace Go.Proofs.YtcehlnpbdffdhaaGreatDoor.SL
open Go.RowKit Go.Proofs.YtcehlnpbdffdhaaGreatDoor
open Go.Proofs.YtcehlnpbdffdhaaGreatDoorW.PrintLast (rtab opsOf)
set_option linter.unusedVariables false
set_option linter.unusedSimpArgs false
open Go.Lib

theorem join_flat : ∀ (l : List (List UInt8)), Lib.join l [] = l.flatten
  | [] => rfl
  | x :: l => by
    rw [Lib.join_cons]
    unfold Lib.joinTail
    simp
theorem join_spec {B w : World} {L : List HP} {a : Option Addr} {c : Nat} {t : TypeId} {xs : List (List UInt8)} (hN : xs.length ≤ 140737488355328) (hl : xs.flatten.length ≤ 140737488355328) (hS : St B (own a xs.length c t 1 (xs.map str) :: L) w) :
    Does Tryz.prog 40 [.slice a xs.length c, str []] w (fun v w1 => v = str xs.flatten ∧ St B (own a xs.length c t 1 (xs.map str) :: L) w1) := by
  obtain ⟨hrd, hcap⟩ := hS.own_rd
  rcases Nat.eq_zero_or_pos xs.length with e | e
  · have hx : xs = [] := List.length_eq_zero_iff.1 e
    subst hx
    exact Calls.mono (Tryz.strings_Join_none a c (bs []) w) fun e w' ⟨he, hw⟩ => ⟨_, he, rfl, hw ▸ hS⟩
  · obtain ⟨⟨bk, o, sp⟩, rfl, hsp⟩ := hrd.2.1 e
    simp only at hsp; subst hsp
    have hc : ∀ (j : Nat) x, (xs.map bs)[j]? = some x → w.cell? ⟨bk, o + j, none⟩ = some (.string x) := fun j x hx => by
      rw [List.getElem?_map] at hx
      obtain ⟨y, hy, rfl⟩ := Option.map_eq_some_iff.1 hx
      exact hrd.cell (j := j) (by rw [List.getElem?_map, hy]; rfl)
    have hbk : bk < w.heap.size := by
      obtain ⟨y, hy⟩ : ∃ y, xs[0]? = some y := ⟨_, List.getElem?_eq_getElem e⟩
      have h0 := hc 0 (bs y) (by rw [List.getElem?_map, hy]; rfl)
      rcases Nat.lt_or_ge bk w.heap.size with h | h
      · exact h
      · exfalso
        have hn : w.heap[bk]? = none := Array.getElem?_eq_none h
        simp [World.cell?, hn] at h0
    have hm : ((xs.map bs).map fun b : ByteArray => b.data.toList) = xs := by
      rw [List.map_map]; exact (List.map_congr_left (fun x _ => rfl)).trans (List.map_id xs)
    have h := Tryz.strings_Join bk o c (xs.map bs) (bs []) w hc hbk (by rw [List.length_map]; exact hN) (by rw [List.length_map]; exact hcap) (by rw [hm, show (bs []).data.toList = [] from rfl, join_flat]; exact hl)
    rw [hm, show (bs []).data.toList = [] from rfl, join_flat, List.length_map] at h
    exact Calls.mono h fun e w' ⟨he, hb⟩ => ⟨_, he, rfl, hS.grown hb⟩
end Go.Proofs.YtcehlnpbdffdhaaGreatDoor.SL

/- Manifests: what is wrong with one. -/
namespace Go.Proofs.YtcehlnpbdffdhaaGreatDoor.SL
open Go.RowKit Go.Proofs.YtcehlnpbdffdhaaGreatDoor
open Go.Proofs.YtcehlnpbdffdhaaGreatDoorW.PrintLast (rtab opsOf)
set_option linter.unusedVariables false
set_option linter.unusedSimpArgs false

/-- The four numbers, by their places. -/
def nthM (m : Man) : Nat → Int
  | 0 => m.e
  | 1 => m.b
  | 2 => m.p
  | _ => m.c
theorem chk_next {m : Man} {i : Nat} {x : Int} (hi : i ≤ 4) (h4 : i < 4) (hx : nthM m i = x) (h1 : 0 ≤ x) (h2 : x ≤ 99999999) (h3 : ¬ m.e = 0) (h : (0 < i → inM m.e ∧ ¬ m.e = 0) ∧ (1 < i → inM m.b) ∧ (2 < i → inM m.p) ∧ (3 < i → inM m.c)) :
    i + 1 ≤ 4 ∧ (0 < i + 1 → inM m.e ∧ ¬ m.e = 0) ∧ (1 < i + 1 → inM m.b) ∧ (2 < i + 1 → inM m.p) ∧ (3 < i + 1 → inM m.c) := by
  obtain ⟨q0, q1, q2, q3⟩ := h
  match i, hx, h4 with
  | 0, hx, _ => exact ⟨by decide, fun _ => ⟨⟨by rw [show m.e = x from hx]; exact h1, by rw [show m.e = x from hx]; exact h2⟩, h3⟩, fun h => absurd h (by decide), fun h => absurd h (by decide), fun h => absurd h (by decide)⟩
  | 1, hx, _ => exact ⟨by decide, fun _ => q0 (by decide), fun _ => ⟨by rw [show m.b = x from hx]; exact h1, by rw [show m.b = x from hx]; exact h2⟩, fun h => absurd h (by decide), fun h => absurd h (by decide)⟩
  | 2, hx, _ => exact ⟨by decide, fun _ => q0 (by decide), fun _ => q1 (by decide), fun _ => ⟨by rw [show m.p = x from hx]; exact h1, by rw [show m.p = x from hx]; exact h2⟩, fun h => absurd h (by decide)⟩
  | 3, hx, _ => exact ⟨by decide, fun _ => q0 (by decide), fun _ => q1 (by decide), fun _ => q2 (by decide), fun _ => ⟨by rw [show m.c = x from hx]; exact h1, by rw [show m.c = x from hx]; exact h2⟩⟩
theorem chk_bad {m : Man} {i : Nat} {x : Int} (hx : nthM m i = x) (h : x < 0 ∨ 99999999 < x ∨ m.e = 0) : ¬ (inM m.e ∧ inM m.b ∧ inM m.p ∧ inM m.c ∧ ¬ m.e = 0) := by
  rintro ⟨⟨a1, a2⟩, ⟨b1, b2⟩, ⟨c1, c2⟩, ⟨d1, d2⟩, e⟩
  match i, hx with
  | 0, hx => have : m.e = x := hx
             omega
  | 1, hx => have : m.b = x := hx
             omega
  | 2, hx => have : m.p = x := hx
             omega
  | n + 3, hx => have : m.c = x := hx
                 omega
theorem run_at4 {n : Nat} {D : List Deferred} {T : Tm} {w : World} {dst : Option Nat} {ty : TypeId} {pos : String} {aft : Array Edge} {x y : Operand} {m : Man} {i : Nat} (hx : ev T x = some (.agg #[.int .i64 m.e, .int .i64 m.b, .int .i64 m.p, .int .i64 m.c])) (hy : ev T y = some (.int .i64 (i : Int))) (h : i < 4) :
    Run Tryz.prog n D T w ⟨dst, .index 117 x y, ty, pos, aft, none⟩ (.int .i64 (nthM m i)) w := by
  match i, h with
  | 0, _ => exact run_indexA hx hy (fun w => by kernel_rfl)
  | 1, _ => exact run_indexA hx hy (fun w => by kernel_rfl)
  | 2, _ => exact run_indexA hx hy (fun w => by kernel_rfl)
  | 3, _ => exact run_indexA hx hy (fun w => by kernel_rfl)
theorem checkM_spec {B w : World} {L : List HP} {X : HP} {a : Option Addr} {cap : Nat} {m : Man} (hX : ∀ {L : List HP} {w : World}, St B (X :: L) w → Rd w a m.bl.length 1 (m.bl.map str)) (hr : RngM m) (hS : St B (X :: L) w) : Does Tryz.prog 34 [Value.agg #[Value.int .i64 m.e, Value.int .i64 m.b, Value.int .i64 m.p, Value.int .i64 m.k, Value.int .i64 m.c, Value.slice a m.bl.length cap]] w (fun v w1 => v = .int .i64 (checkM m) ∧ St B (X :: L) w1) := by
 refine enter (n := 53) Tryz.func34 rfl rfl [Value.agg #[Value.int .i64 m.e, Value.int .i64 m.b, Value.int .i64 m.p, Value.int .i64 m.k, Value.int .i64 m.c, Value.slice a m.bl.length cap]] rfl ?_
 refine WP.seq (WP.region rfl ?_)
 refine WO.box (l := [Value.int .i64 m.e, Value.int .i64 m.b, Value.int .i64 m.p, Value.int .i64 m.k, Value.int .i64 m.c, Value.slice a m.bl.length cap]) hS rfl rfl rfl (fun g2 w1 lg2 hS1 => ?_)
 clear hS
 refine WO.asg rfl rfl ?_
 refine WO.nil (NX.go (WP.seq (WP.seq (WP.region rfl ?_))))
 refine WO.val (run_fieldAddr (q := ⟨g2, 0, none⟩) (show fieldB Tryz.prog 30 0 = some 0 from by kernel_rfl) rfl rfl) rfl rfl rfl ?_
 refine WO.val (run_load Ty.ag3 rfl ((hS1.cel_at 0 rfl 0).trans rfl)) rfl rfl rfl ?_
 refine WO.val (run_fieldAddr (q := ⟨g2, 1, none⟩) (show fieldB Tryz.prog 30 1 = some 1 from by kernel_rfl) rfl rfl) rfl rfl rfl ?_
 refine WO.val (run_load Ty.ag3 rfl ((hS1.cel_at 0 rfl 1).trans rfl)) rfl rfl rfl ?_
 refine WO.val (run_fieldAddr (q := ⟨g2, 2, none⟩) (show fieldB Tryz.prog 30 2 = some 2 from by kernel_rfl) rfl rfl) rfl rfl rfl ?_
 refine WO.val (run_load Ty.ag3 rfl ((hS1.cel_at 0 rfl 2).trans rfl)) rfl rfl rfl ?_
 refine WO.val (run_fieldAddr (q := ⟨g2, 4, none⟩) (show fieldB Tryz.prog 30 4 = some 4 from by kernel_rfl) rfl rfl) rfl rfl rfl ?_
 refine WO.val (run_load Ty.ag3 rfl ((hS1.cel_at 0 rfl 4).trans rfl)) rfl rfl rfl ?_
 refine WO.val (run_build (v := Value.agg #[Value.int .i64 m.e, Value.int .i64 m.b, Value.int .i64 m.p, Value.int .i64 m.c]) rfl (fun w => by kernel_rfl)) rfl rfl rfl ?_
 refine WO.mv rfl rfl ?_
 refine WO.nil (NX.go (WP.block ?_))
 refine WP.loop (α := Nat) (fun x => match x with | i => [(1, Value.pointer (some ⟨g2, 0, none⟩)), (15, Value.agg #[Value.int .i64 m.e, Value.int .i64 m.b, Value.int .i64 m.p, Value.int .i64 m.c]), (16, Value.int .i64 (i : Int))]) (fun x w => match x with | i => (i ≤ 4 ∧ (0 < i → inM m.e ∧ ¬ m.e = 0) ∧ (1 < i → inM m.b) ∧ (2 < i → inM m.p) ∧ (3 < i → inM m.c)) ∧ St B (cel g2 [Value.int .i64 m.e, Value.int .i64 m.b, Value.int .i64 m.p, Value.int .i64 m.k, Value.int .i64 m.c, Value.slice a m.bl.length cap] 30 :: X :: L) w) (fun x => match x with | i => 4 - i) 0 ⟨⟨by decide, fun h => absurd h (by decide), fun h => absurd h (by decide), fun h => absurd h (by decide), fun h => absurd h (by decide)⟩, hS1⟩ (Sub.cons rfl (Sub.cons rfl (Sub.consE rfl (by first | rfl | first | rfl | (congr 1; omega) | (simp; done) | (simp; omega)) (Sub.nil _)))) ?_
 rintro i w3 ⟨⟨hi, q0, q1, q2, q3⟩, hS3⟩
 clear hS1
 refine WP.seq (WP.region rfl ?_)
 refine WO.val (run_lss rfl rfl) rfl rfl rfl ?_
 refine WO.nil (NX.go (WP.seq ?_))
 refine WP.condP rfl (fun g17 => ?_) (fun g17 => ?_)
 ·
  refine WP.skip (NX.go (WP.seq (WP.block (WP.seq (WP.region rfl ?_)))))
  have hxi : nthM m i = nthM m i := rfl
  refine WO.val (run_at4 (i := i) rfl rfl (by omega)) rfl rfl rfl ?_
  refine WO.asg rfl rfl ?_
  refine WO.nil (NX.go (WP.seq (WP.region rfl ?_)))
  refine WO.mv rfl rfl ?_
  refine WO.val (run_lss rfl rfl) rfl rfl rfl ?_
  refine WO.mv rfl rfl ?_
  by_cases g21 : (nthM m i) < 0
  ·
   refine WO.off rfl rfl (decide_eq_true g21) rfl ?_
   refine WO.off rfl rfl (decide_eq_true g21) rfl ?_
   refine WO.val (run_pickT rfl (decide_eq_true g21) rfl) rfl rfl rfl ?_
   refine WO.mv rfl rfl ?_
   refine WO.off rfl rfl rfl rfl ?_
   refine WO.off rfl rfl rfl rfl ?_
   refine WO.off rfl rfl rfl rfl ?_
   refine WO.val (run_pickT rfl rfl rfl) rfl rfl rfl ?_
   refine WO.nil (NX.go ?_)
   refine WP.condT rfl rfl ?_
   refine WP.seq (WP.region rfl ?_)
   refine WO.asg rfl rfl ?_
   refine WO.nil (NX.go (WP.ret (NX.blkRet (NX.thenRet (NX.thenRet (NX.blkRet (NX.thenRet ?_)))))))
   refine NX.done (l := [.tmp 2]) rfl rfl ?_
   exact ⟨congrArg (Value.int .i64) (by rw [checkM, if_pos (fun h => chk_bad hxi (by omega) h)]), hS3.drop⟩
  ·
   refine WO.on rfl rfl (decide_eq_false g21) ?_
   refine WO.mv rfl rfl ?_
   refine WO.on rfl rfl (decide_eq_false g21) ?_
   refine WO.val (run_gtr rfl rfl) rfl rfl rfl ?_
   refine WO.val (run_pickF rfl (decide_eq_false g21) rfl) rfl rfl rfl ?_
   refine WO.mv rfl rfl ?_
   by_cases g25 : 99999999 < (nthM m i)
   ·
    refine WO.off rfl rfl (decide_eq_true g25) rfl ?_
    refine WO.off rfl rfl (decide_eq_true g25) rfl ?_
    refine WO.off rfl rfl (decide_eq_true g25) rfl ?_
    refine WO.val (run_pickT rfl (decide_eq_true g25) rfl) rfl rfl rfl ?_
    refine WO.nil (NX.go ?_)
    refine WP.condT rfl rfl ?_
    refine WP.seq (WP.region rfl ?_)
    refine WO.asg rfl rfl ?_
    refine WO.nil (NX.go (WP.ret (NX.blkRet (NX.thenRet (NX.thenRet (NX.blkRet (NX.thenRet ?_)))))))
    refine NX.done (l := [.tmp 2]) rfl rfl ?_
    exact ⟨congrArg (Value.int .i64) (by rw [checkM, if_pos (fun h => chk_bad hxi (by omega) h)]), hS3.drop⟩
   ·
    refine WO.on rfl rfl (decide_eq_false g25) ?_
    refine WO.val (run_fieldAddr (q := ⟨g2, 0, none⟩) (show fieldB Tryz.prog 30 0 = some 0 from by kernel_rfl) rfl rfl) rfl rfl rfl ?_
    refine WO.on rfl rfl (decide_eq_false g25) ?_
    refine WO.val (run_load Ty.ag3 rfl ((hS3.cel_at 0 rfl 0).trans rfl)) rfl rfl rfl ?_
    refine WO.on rfl rfl (decide_eq_false g25) ?_
    refine WO.val (run_eql rfl rfl) rfl rfl rfl ?_
    refine WO.val (run_pickF rfl (decide_eq_false g25) rfl) rfl rfl rfl ?_
    refine WO.nil (NX.go ?_)
    refine WP.condP rfl (fun g29 => ?_) (fun g29 => ?_)
    ·
     refine WP.seq (WP.region rfl ?_)
     refine WO.asg rfl rfl ?_
     refine WO.nil (NX.go (WP.ret (NX.blkRet (NX.thenRet (NX.thenRet (NX.blkRet (NX.thenRet ?_)))))))
     refine NX.done (l := [.tmp 2]) rfl rfl ?_
     exact ⟨congrArg (Value.int .i64) (by rw [checkM, if_pos (fun h => chk_bad hxi (by omega) h)]), hS3.drop⟩
    ·
     refine WP.skip (NX.blk (NX.go (WP.region rfl ?_)))
     refine WO.val (run_add rfl rfl (IntWalk.i64_in _ (by omega))) rfl rfl rfl ?_
     refine WO.mv rfl rfl ?_
     refine WO.nil ?_
     exact NX.again (i + 1) ⟨chk_next hi (by omega) hxi (by omega) (by omega) (by omega) ⟨q0, q1, q2, q3⟩, hS3⟩ (by show 4 - (i + 1) < 4 - i; omega) (Sub.cons rfl (Sub.cons rfl (Sub.consE rfl (by congr 1) (Sub.nil _))))
 ·
  refine WP.exit (NX.thenExit (NX.thenExit ?_))
  refine NX.blkExit ?_
  refine NX.go (WP.seq (WP.block (WP.seq ?_)))
  have hall : ¬ ¬ (inM m.e ∧ inM m.b ∧ inM m.p ∧ inM m.c ∧ ¬ m.e = 0) := fun h => h ⟨(q0 (by omega)).1, q1 (by omega), q2 (by omega), q3 (by omega), (q0 (by omega)).2⟩
  refine WP.region rfl ?_
  refine WO.val (run_fieldAddr (q := ⟨g2, 2, none⟩) (show fieldB Tryz.prog 30 2 = some 2 from by kernel_rfl) rfl rfl) rfl rfl rfl ?_
  refine WO.val (run_load Ty.ag3 rfl ((hS3.cel_at 0 rfl 2).trans rfl)) rfl rfl rfl ?_
  refine WO.val (run_fieldAddr (q := ⟨g2, 0, none⟩) (show fieldB Tryz.prog 30 0 = some 0 from by kernel_rfl) rfl rfl) rfl rfl rfl ?_
  refine WO.val (run_load Ty.ag3 rfl ((hS3.cel_at 0 rfl 0).trans rfl)) rfl rfl rfl ?_
  refine WO.val (run_lss rfl rfl) rfl rfl rfl ?_
  refine WO.asg rfl rfl ?_
  refine WO.nil (NX.go ?_)
  refine WP.condP rfl (fun g31 => ?_) (fun g31 => ?_)
  ·
   refine WP.seq (WP.region rfl ?_)
   refine WO.asg rfl rfl ?_
   refine WO.nil (NX.go (WP.ret (NX.blkRet (NX.thenRet ?_))))
   refine NX.done (l := [.tmp 2]) rfl rfl ?_
   exact ⟨congrArg (Value.int .i64) (by rw [checkM, if_neg hall, if_pos (by omega)]), hS3.drop⟩
  ·
   refine WP.seq (WP.region rfl ?_)
   refine WO.val (run_fieldAddr (q := ⟨g2, 5, none⟩) (show fieldB Tryz.prog 30 5 = some 5 from by kernel_rfl) rfl rfl) rfl rfl rfl ?_
   refine WO.val (run_load Ty.ag22 rfl ((hS3.cel_at 0 rfl 5).trans rfl)) rfl rfl rfl ?_
   refine WO.val (run_len rfl Tryz.underlying22 rfl) rfl rfl rfl ?_
   refine WO.val (run_gtr rfl rfl) rfl rfl rfl ?_
   refine WO.asg rfl rfl ?_
   refine WO.nil (NX.go ?_)
   refine WP.condP rfl (fun g37 => ?_) (fun g37 => ?_)
   ·
    refine WP.seq (WP.region rfl ?_)
    refine WO.asg rfl rfl ?_
    refine WO.nil (NX.go (WP.ret (NX.blkRet (NX.thenRet ?_))))
    refine NX.done (l := [.tmp 2]) rfl rfl ?_
    exact ⟨congrArg (Value.int .i64) (by rw [checkM, if_neg hall, if_neg (by omega), if_pos (by omega)]), hS3.drop⟩
   ·
    refine WP.skip (NX.blk (NX.go (WP.seq (WP.seq ?_))))
    have hn := hr.n
    refine WP.region rfl ?_
    refine WO.val (run_fieldAddr (q := ⟨g2, 5, none⟩) (show fieldB Tryz.prog 30 5 = some 5 from by kernel_rfl) rfl rfl) rfl rfl rfl ?_
    refine WO.val (run_load Ty.ag22 rfl ((hS3.cel_at 0 rfl 5).trans rfl)) rfl rfl rfl ?_
    refine WO.val (run_len rfl Tryz.underlying22 rfl) rfl rfl rfl ?_
    refine WO.mv rfl rfl ?_
    refine WO.nil (NX.go (WP.block ?_))
    refine WP.loop (α := Nat) (fun x => match x with | i => [(1, Value.pointer (some ⟨g2, 0, none⟩)), (43, Value.slice a m.bl.length cap), (44, Value.int .i64 ((m.bl.length : Nat) : Int)), (45, Value.int .i64 (i : Int))]) (fun x w => match x with | i => (i ≤ m.bl.length ∧ (m.bl.take i).all fileF = true) ∧ St B (cel g2 [Value.int .i64 m.e, Value.int .i64 m.b, Value.int .i64 m.p, Value.int .i64 m.k, Value.int .i64 m.c, Value.slice a m.bl.length cap] 30 :: X :: L) w) (fun x => match x with | i => m.bl.length - i) 0 ⟨⟨Nat.zero_le _, rfl⟩, hS3⟩ (Sub.cons rfl (Sub.cons rfl (Sub.cons rfl (Sub.consE rfl (by first | rfl | first | rfl | (congr 1; omega) | (simp; done) | (simp; omega)) (Sub.nil _))))) ?_
    rintro i w4 ⟨⟨hi, hok⟩, hS4⟩
    clear hS3
    refine WP.seq (WP.region rfl ?_)
    refine WO.val (run_lss rfl rfl) rfl rfl rfl ?_
    refine WO.nil (NX.go (WP.seq ?_))
    refine WP.condP rfl (fun g46 => ?_) (fun g46 => ?_)
    ·
     refine WP.skip (NX.go (WP.seq (WP.block (WP.seq (WP.region rfl ?_)))))
     obtain ⟨t, ht⟩ : ∃ t, m.bl[i]? = some t := ⟨_, List.getElem?_eq_getElem (by omega)⟩
     refine WO.val (run_indexAddr (q := adr a i) Tryz.underlying22 Ty.sz9 rfl rfl (by omega) (by omega) ((hX (hS4.focus 1 rfl)).2.1 (by omega)) (by simp)) rfl rfl rfl ?_
     refine WO.val (run_load Ty.ag9 rfl ((hX (hS4.focus 1 rfl)).cell (str_at ht))) rfl rfl rfl ?_
     refine WO.asg rfl rfl ?_
     refine WO.nil (NX.go (WP.seq (WP.region rfl ?_)))
     refine WO.mv rfl rfl ?_
     refine WO.call rfl rfl Ty.hd76 rfl (mname_spec t (by have := hr.t t (List.mem_of_getElem? ht); omega) hS4) (fun v6 w5 pv6 => ?_)
     obtain ⟨rfl, hS5⟩ := pv6
     clear hS4
     refine WO.val (run_not rfl rfl) rfl rfl rfl ?_
     refine WO.nil (NX.go ?_)
     refine WP.condB rfl (fun g51 => ?_) (fun g51 => ?_)
     ·
      refine WP.seq (WP.region rfl ?_)
      refine WO.asg rfl rfl ?_
      refine WO.nil (NX.go (WP.ret (NX.blkRet (NX.thenRet (NX.thenRet (NX.blkRet (NX.thenRet ?_)))))))
      refine NX.done (l := [.tmp 2]) rfl rfl ?_
      exact ⟨congrArg (Value.int .i64) (by rw [checkM, if_neg hall, if_neg (by omega), if_neg (by omega), if_neg (all_not ht (by simpa using g51))]), hS5.drop⟩
     ·
      refine WP.skip (NX.blk (NX.go (WP.region rfl ?_)))
      refine WO.val (run_add rfl rfl (IntWalk.i64_in _ (by omega))) rfl rfl rfl ?_
      refine WO.mv rfl rfl ?_
      refine WO.nil ?_
      exact NX.again (i + 1) ⟨⟨by omega, all_next hok ht (by simpa using g51)⟩, hS5⟩ (by show m.bl.length - (i + 1) < m.bl.length - i; omega) (Sub.cons rfl (Sub.cons rfl (Sub.cons rfl (Sub.consE rfl (by congr 1) (Sub.nil _)))))
    ·
     refine WP.exit (NX.thenExit (NX.thenExit ?_))
     refine NX.blkExit ?_
     refine NX.go (WP.seq (WP.region rfl ?_))
     refine WO.asg rfl rfl ?_
     refine WO.nil (NX.go (WP.ret ?_))
     refine NX.done (l := [.tmp 2]) rfl rfl ?_
     exact ⟨congrArg (Value.int .i64) (by rw [checkM, if_neg hall, if_neg (by omega), if_neg (by omega), if_pos (by rw [List.take_of_length_le (by omega)] at hok; exact hok)]), hS4.drop⟩
end Go.Proofs.YtcehlnpbdffdhaaGreatDoor.SL

/- Manifests: the bytes. -/
namespace Go.Proofs.YtcehlnpbdffdhaaGreatDoor.SL
open Go.RowKit Go.Proofs.YtcehlnpbdffdhaaGreatDoor
open Go.Proofs.YtcehlnpbdffdhaaGreatDoorW.PrintLast (rtab opsOf)
set_option linter.unusedVariables false
set_option linter.unusedSimpArgs false
theorem mnum_spec {B w : World} {L : List HP} (n : Int) (h0 : 0 ≤ n) (h1 : n ≤ 9223372036854775807) (hS : St B L w) : Does Tryz.prog 35 [Value.int .i64 n] w (fun v w1 => v = str (numB n.toNat) ∧ St B L w1) := by
 refine enter (n := 6) Tryz.func35 rfl rfl [Value.int .i64 n] rfl ?_
 refine WP.seq (WP.region rfl ?_)
 refine WO.asg rfl rfl ?_
 refine WO.nil (NX.go (WP.seq (WP.region rfl ?_)))
 refine WO.mv rfl rfl ?_
 refine WO.val (run_convI Tryz.underlying43 (by kernel_rfl) rfl (show IntKind.u64.wrap n = ((n.toNat : Nat) : Int) by rw [IntWalk.u64_in _ (by omega)]; omega)) rfl rfl rfl ?_
 refine WO.call rfl rfl Ty.hd36 rfl (num_spec n.toNat (by omega) hS) (fun v2 w1 pv2 => ?_)
 obtain ⟨rfl, hS1⟩ := pv2
 clear hS
 refine WO.asg rfl rfl ?_
 refine WO.nil (NX.go (WP.ret ?_))
 refine NX.done (l := [.tmp 2]) rfl rfl ?_
 exact ⟨rfl, hS1⟩

def nums6 (m : Man) : List (List UInt8) := [numB m.e.toNat, numB m.b.toNat, numB m.p.toNat, numB (zig m.k), numB m.c.toNat, numB m.bl.length]
theorem flat_data (m : Man) : (nums6 m ++ m.bl.map textB).flatten = dataM m := by
  unfold nums6 dataM; simp [List.flatMap_def]
theorem flat_len6 {m : Man} (h : ∀ t ∈ m.bl, t.length ≤ 32) (hl : m.bl.length ≤ 16) (k1 : (numB m.e.toNat).length ≤ 9) (k2 : (numB m.b.toNat).length ≤ 9) (k3 : (numB m.p.toNat).length ≤ 9) (k4 : (numB (zig m.k)).length ≤ 9) (k5 : (numB m.c.toNat).length ≤ 9) (k6 : (numB m.bl.length).length ≤ 9) : (nums6 m ++ m.bl.map textB).flatten.length ≤ 1000 := by
  have key : ∀ l : List (List UInt8), (∀ t ∈ l, t.length ≤ 32) → (l.map textB).flatten.length ≤ 41 * l.length := by
    intro l
    induction l with
    | nil => intro _; simp
    | cons t l ih =>
      intro h
      have h1 := textB_le (t := t) (by have := h t (List.mem_cons_self ..); omega)
      have h2 := ih fun t ht => h t (List.mem_cons_of_mem _ ht)
      have h3 := h t (List.mem_cons_self ..)
      rw [List.map_cons, List.flatten_cons, List.length_append, List.length_cons]; omega
  have := key m.bl h
  rw [List.flatten_append, List.length_append]
  unfold nums6
  simp only [List.flatten_cons, List.length_append, List.flatten_nil, List.length_nil]
  omega
theorem map_next {α β : Type} {f : α → β} {l : List α} {i : Nat} {x : α} (h : l[i]? = some x) : (l.take (i + 1)).map f = (l.take i).map f ++ [f x] := by
  rw [List.take_add_one, h, Option.toList_some, List.map_append]; rfl
theorem encM_spec_t5 : rtab .any (opsOf Tryz.f10 5) = (true, [([], []), ([], []), ([1], [1]), ([0, 2], [0, 2]), ([], []), ([], []), ([5], [5]), ([4, 6, 3], [4, 6]), ([], []), ([], []), ([9], [9]), ([8, 10, 7], [8, 10]), ([], []), ([12], [12]), ([13, 11], [13]), ([], []), ([], []), ([16], [16]), ([15, 17, 14], [15, 17]), ([], []), ([], []), ([20], [20]), ([21], [21]), ([19, 22, 18], [19, 22]), ([3, 7, 11, 14, 18, 23], [3, 7, 11, 14, 18, 23]), ([24, 23, 0, 1, 2, 3, 4, 5, 6, 7, 8, 9, 10, 11, 12, 13, 14, 15, 16, 17, 18, 19, 20, 21, 22, 23, 24], [24])]) := by kernel_rfl
theorem encM_spec {B w : World} {L : List HP} {X : HP} {a : Option Addr} {cap : Nat} {m : Man} (hX : ∀ {L : List HP} {w : World}, St B (X :: L) w → Rd w a m.bl.length 1 (m.bl.map str)) (hr : RngM m) (hS : St B (X :: L) w) : Does Tryz.prog 10 [Value.agg #[Value.int .i64 m.e, Value.int .i64 m.b, Value.int .i64 m.p, Value.int .i64 m.k, Value.int .i64 m.c, Value.slice a m.bl.length cap]] w (fun v w1 => v = .tuple #[str (encM m).1, .int .i64 (encM m).2] ∧ St B (X :: L) w1) := by
 refine enter (n := 58) Tryz.func10 rfl rfl [Value.agg #[Value.int .i64 m.e, Value.int .i64 m.b, Value.int .i64 m.p, Value.int .i64 m.k, Value.int .i64 m.c, Value.slice a m.bl.length cap]] rfl ?_
 refine WP.seq (WP.region rfl ?_)
 refine WO.box (l := [Value.int .i64 m.e, Value.int .i64 m.b, Value.int .i64 m.p, Value.int .i64 m.k, Value.int .i64 m.c, Value.slice a m.bl.length cap]) hS rfl rfl rfl (fun g2 w1 lg2 hS1 => ?_)
 clear hS
 refine WO.asg rfl rfl ?_
 refine WO.asg rfl rfl ?_
 refine WO.nil (NX.go (WP.seq (WP.seq (WP.region rfl ?_))))
 refine WO.val (run_loadAgg (vs := [Value.int .i64 m.e, Value.int .i64 m.b, Value.int .i64 m.p, Value.int .i64 m.k, Value.int .i64 m.c, Value.slice a m.bl.length cap]) Ty.ag30 Ty.sz30 rfl rfl (cell_all (hS1.cel_at 0 rfl) 0 rfl)) rfl rfl rfl ?_
 have hS3 := hS1.permT [1, 0] (L' := X :: cel g2 [Value.int .i64 m.e, Value.int .i64 m.b, Value.int .i64 m.p, Value.int .i64 m.k, Value.int .i64 m.c, Value.slice a m.bl.length cap] 30 :: L) rfl
 clear hS1
 refine WO.call rfl rfl Ty.hd34 rfl (checkM_spec hX hr hS3) (fun v5 w4 pv5 => ?_)
 obtain ⟨rfl, hS4⟩ := pv5
 clear hS3
 refine WO.asg rfl rfl ?_
 refine WO.nil (NX.go (WP.seq (WP.region rfl ?_)))
 refine WO.mv rfl rfl ?_
 refine WO.val (run_neq rfl rfl) rfl rfl rfl ?_
 refine WO.nil (NX.go ?_)
 refine WP.condP rfl (fun g12 => ?_) (fun g12 => ?_)
 ·
  refine WP.seq (WP.region rfl ?_)
  refine WO.mv rfl rfl ?_
  refine WO.asg rfl rfl ?_
  refine WO.asg rfl rfl ?_
  refine WO.nil (NX.go (WP.ret (NX.thenRet ?_)))
  refine NX.done (l := [.tmp 2, .tmp 3]) rfl rfl ?_
  exact ⟨by rw [encM, if_neg g12]; rfl, (hS4.permT [1, 0] (L' := cel g2 [Value.int .i64 m.e, Value.int .i64 m.b, Value.int .i64 m.p, Value.int .i64 m.k, Value.int .i64 m.c, Value.slice a m.bl.length cap] 30 :: X :: L) rfl).drop⟩
 ·
  refine WP.skip (NX.go (WP.seq (WP.region rfl ?_)))
  refine WO.asg rfl rfl ?_
  refine WO.nil (NX.go (WP.seq ?_))
  obtain ⟨ie, ib, ip, ic, hl16, ht32, _, _⟩ := checkM_zero g12
  have h1 : m.e.toNat ≤ 99999999 ∧ m.b.toNat ≤ 99999999 ∧ m.p.toNat ≤ 99999999 ∧ m.c.toNat ≤ 99999999 := by unfold inM at ie ib ip ic; omega
  have k1 := numB_len (n := m.e.toNat) (by omega)
  have k2 := numB_len (n := m.b.toNat) (by omega)
  have k3 := numB_len (n := m.p.toNat) (by omega)
  have k4 := numB_len (n := zig m.k) (zig_lt hr.k.1 hr.k.2)
  have k5 := numB_len (n := m.c.toNat) (by omega)
  have k6 := numB_len (n := m.bl.length) (by omega)
  refine WD.start (fun w => Rd w a m.bl.length 1 (m.bl.map str) ∧ (∀ j, World.cell? w ⟨g2, j, none⟩ = [Value.int .i64 m.e, Value.int .i64 m.b, Value.int .i64 m.p, Value.int .i64 m.k, Value.int .i64 m.c, Value.slice a m.bl.length cap][j]?)) [] (bt 26 0) Ty.mo rfl (by kernel_rfl) hS4 (fun _ h => ⟨(hX (h.focus 0 rfl)), h.cel_at 1 rfl⟩) (fun w6 hS6 s7 => ?_)
  clear hS4
  refine WD.pure (i := 0) encM_spec_t5 (bt 26 1) rfl rfl rfl (by kernel_rfl) (PQ.then PQ.body) rfl (fun w => run_move rfl) ?_
  refine WD.pure (i := 1) encM_spec_t5 (bt 26 3) rfl rfl rfl (by kernel_rfl) (PQ.then PQ.body) rfl (fun w => run_fieldAddr (q := ⟨g2, 0, none⟩) (show fieldB Tryz.prog 30 0 = some 0 from by kernel_rfl) rfl rfl) ?_
  refine WD.take (i := 2) encM_spec_t5 (bt 26 7) s7 rfl rfl rfl (by kernel_rfl) (PQ.then PQ.body) rfl (fun w hs => run_load Ty.ag3 rfl ((hs.2 0).trans rfl)) ?_
  refine WD.pure (i := 4) encM_spec_t5 (bt 26 23) rfl rfl rfl (by kernel_rfl) (PQ.then PQ.body) rfl (fun w => run_move rfl) ?_
  refine WD.pure (i := 5) encM_spec_t5 (bt 26 55) rfl rfl rfl (by kernel_rfl) (PQ.then PQ.body) rfl (fun w => run_fieldAddr (q := ⟨g2, 1, none⟩) (show fieldB Tryz.prog 30 1 = some 1 from by kernel_rfl) rfl rfl) ?_
  refine WD.take (i := 6) encM_spec_t5 (bt 26 119) s7 rfl rfl rfl (by kernel_rfl) (PQ.then PQ.body) rfl (fun w hs => run_load Ty.ag3 rfl ((hs.2 1).trans rfl)) ?_
  refine WD.pure (i := 8) encM_spec_t5 (bt 26 375) rfl rfl rfl (by kernel_rfl) (PQ.then PQ.body) rfl (fun w => run_move rfl) ?_
  refine WD.pure (i := 9) encM_spec_t5 (bt 26 887) rfl rfl rfl (by kernel_rfl) (PQ.then PQ.body) rfl (fun w => run_fieldAddr (q := ⟨g2, 2, none⟩) (show fieldB Tryz.prog 30 2 = some 2 from by kernel_rfl) rfl rfl) ?_
  refine WD.take (i := 10) encM_spec_t5 (bt 26 1911) s7 rfl rfl rfl (by kernel_rfl) (PQ.then PQ.body) rfl (fun w hs => run_load Ty.ag3 rfl ((hs.2 2).trans rfl)) ?_
  refine WD.pure (i := 12) encM_spec_t5 (bt 26 6007) rfl rfl rfl (by kernel_rfl) (PQ.then PQ.body) rfl (fun w => run_fieldAddr (q := ⟨g2, 3, none⟩) (show fieldB Tryz.prog 30 3 = some 3 from by kernel_rfl) rfl rfl) ?_
  refine WD.take (i := 13) encM_spec_t5 (bt 26 14199) s7 rfl rfl rfl (by kernel_rfl) (PQ.then PQ.body) rfl (fun w hs => run_load Ty.ag2 rfl ((hs.2 3).trans rfl)) ?_
  refine WD.pure (i := 15) encM_spec_t5 (bt 26 46967) rfl rfl rfl (by kernel_rfl) (PQ.then PQ.body) rfl (fun w => run_move rfl) ?_
  refine WD.pure (i := 16) encM_spec_t5 (bt 26 112503) rfl rfl rfl (by kernel_rfl) (PQ.then PQ.body) rfl (fun w => run_fieldAddr (q := ⟨g2, 4, none⟩) (show fieldB Tryz.prog 30 4 = some 4 from by kernel_rfl) rfl rfl) ?_
  refine WD.take (i := 17) encM_spec_t5 (bt 26 243575) s7 rfl rfl rfl (by kernel_rfl) (PQ.then PQ.body) rfl (fun w hs => run_load Ty.ag3 rfl ((hs.2 4).trans rfl)) ?_
  refine WD.pure (i := 19) encM_spec_t5 (bt 26 767863) rfl rfl rfl (by kernel_rfl) (PQ.then PQ.body) rfl (fun w => run_move rfl) ?_
  refine WD.pure (i := 20) encM_spec_t5 (bt 26 1816439) rfl rfl rfl (by kernel_rfl) (PQ.then PQ.body) rfl (fun w => run_fieldAddr (q := ⟨g2, 5, none⟩) (show fieldB Tryz.prog 30 5 = some 5 from by kernel_rfl) rfl rfl) ?_
  refine WD.take (i := 21) encM_spec_t5 (bt 26 3913591) s7 rfl rfl rfl (by kernel_rfl) (PQ.then PQ.body) rfl (fun w hs => run_load Ty.ag22 rfl ((hs.2 5).trans rfl)) ?_
  refine WD.pure (i := 22) encM_spec_t5 (bt 26 8107895) rfl rfl rfl (by kernel_rfl) (PQ.then PQ.body) rfl (fun w => run_len rfl Tryz.underlying22 rfl) ?_
  refine WD.one (i := 3) encM_spec_t5 (bt 26 8107903) rfl (by kernel_rfl) ?_
  refine WO.call rfl rfl Ty.hd35 rfl (mnum_spec m.e (by first | exact ie.1 | omega) (by first | (have := ie.2; omega) | omega) hS6) (fun v9 w8 pv9 => ?_)
  obtain ⟨rfl, hS8⟩ := pv9
  clear hS6
  refine WO.nil ?_
  have s10 : Rd w8 a m.bl.length 1 (m.bl.map str) ∧ (∀ j, World.cell? w8 ⟨g2, j, none⟩ = [Value.int .i64 m.e, Value.int .i64 m.b, Value.int .i64 m.p, Value.int .i64 m.k, Value.int .i64 m.c, Value.slice a m.bl.length cap][j]?) := ⟨(hX (hS8.focus 0 rfl)), hS8.cel_at 1 rfl⟩
  refine NX.held s10 ?_
  refine WD.one (i := 7) encM_spec_t5 (bt 26 8108031) rfl (by kernel_rfl) ?_
  refine WO.call rfl rfl Ty.hd35 rfl (mnum_spec m.b (by first | exact ib.1 | omega) (by first | (have := ib.2; omega) | omega) hS8) (fun v12 w11 pv12 => ?_)
  obtain ⟨rfl, hS11⟩ := pv12
  clear hS8
  refine WO.nil ?_
  have s13 : Rd w11 a m.bl.length 1 (m.bl.map str) ∧ (∀ j, World.cell? w11 ⟨g2, j, none⟩ = [Value.int .i64 m.e, Value.int .i64 m.b, Value.int .i64 m.p, Value.int .i64 m.k, Value.int .i64 m.c, Value.slice a m.bl.length cap][j]?) := ⟨(hX (hS11.focus 0 rfl)), hS11.cel_at 1 rfl⟩
  refine NX.held s13 ?_
  refine WD.one (i := 11) encM_spec_t5 (bt 26 8110079) rfl (by kernel_rfl) ?_
  refine WO.call rfl rfl Ty.hd35 rfl (mnum_spec m.p (by first | exact ip.1 | omega) (by first | (have := ip.2; omega) | omega) hS11) (fun v15 w14 pv15 => ?_)
  obtain ⟨rfl, hS14⟩ := pv15
  clear hS11
  refine WO.nil ?_
  have s16 : Rd w14 a m.bl.length 1 (m.bl.map str) ∧ (∀ j, World.cell? w14 ⟨g2, j, none⟩ = [Value.int .i64 m.e, Value.int .i64 m.b, Value.int .i64 m.p, Value.int .i64 m.k, Value.int .i64 m.c, Value.slice a m.bl.length cap][j]?) := ⟨(hX (hS14.focus 0 rfl)), hS14.cel_at 1 rfl⟩
  refine NX.held s16 ?_
  refine WD.one (i := 14) encM_spec_t5 (bt 26 8126463) rfl (by kernel_rfl) ?_
  refine WO.call rfl rfl Ty.hd37 rfl (signed_spec m.k hr.k.1 hr.k.2 hS14) (fun v18 w17 pv18 => ?_)
  obtain ⟨rfl, hS17⟩ := pv18
  clear hS14
  refine WO.nil ?_
  have s19 : Rd w17 a m.bl.length 1 (m.bl.map str) ∧ (∀ j, World.cell? w17 ⟨g2, j, none⟩ = [Value.int .i64 m.e, Value.int .i64 m.b, Value.int .i64 m.p, Value.int .i64 m.k, Value.int .i64 m.c, Value.slice a m.bl.length cap][j]?) := ⟨(hX (hS17.focus 0 rfl)), hS17.cel_at 1 rfl⟩
  refine NX.held s19 ?_
  refine WD.one (i := 18) encM_spec_t5 (bt 26 8388607) rfl (by kernel_rfl) ?_
  refine WO.call rfl rfl Ty.hd35 rfl (mnum_spec m.c (by first | exact ic.1 | omega) (by first | (have := ic.2; omega) | omega) hS17) (fun v21 w20 pv21 => ?_)
  obtain ⟨rfl, hS20⟩ := pv21
  clear hS17
  refine WO.nil ?_
  have s22 : Rd w20 a m.bl.length 1 (m.bl.map str) ∧ (∀ j, World.cell? w20 ⟨g2, j, none⟩ = [Value.int .i64 m.e, Value.int .i64 m.b, Value.int .i64 m.p, Value.int .i64 m.k, Value.int .i64 m.c, Value.slice a m.bl.length cap][j]?) := ⟨(hX (hS20.focus 0 rfl)), hS20.cel_at 1 rfl⟩
  refine NX.held s22 ?_
  refine WD.one (i := 23) encM_spec_t5 (bt 26 16777215) rfl (by kernel_rfl) ?_
  refine WO.call rfl rfl Ty.hd35 rfl (mnum_spec ((m.bl.length : Nat) : Int) (by omega) (by omega) hS20) (fun v24 w23 pv24 => ?_)
  obtain ⟨rfl, hS23⟩ := pv24
  clear hS20
  refine WO.nil ?_
  have s25 : Rd w23 a m.bl.length 1 (m.bl.map str) ∧ (∀ j, World.cell? w23 ⟨g2, j, none⟩ = [Value.int .i64 m.e, Value.int .i64 m.b, Value.int .i64 m.p, Value.int .i64 m.k, Value.int .i64 m.c, Value.slice a m.bl.length cap][j]?) := ⟨(hX (hS23.focus 0 rfl)), hS23.cel_at 1 rfl⟩
  refine NX.held s25 ?_
  refine WD.one (i := 24) encM_spec_t5 (bt 26 33554431) rfl (by kernel_rfl) ?_
  refine WO.buildSlice (l := [str (numB (m.e.toNat)), str (numB (m.b.toNat)), str (numB (m.p.toNat)), str (numB (zig m.k)), str (numB (m.c.toNat)), str (numB m.bl.length)]) hS23 Tryz.underlying22 rfl (fun w => by kernel_rfl) rfl (fun g27 w26 lg27 hS26 => ?_)
  clear hS23
  have hS26 := hS26.own_of_cel (m := 6) (k := 1) rfl
  replace hS26 : St B (own (some ⟨g27, 0, none⟩) 6 6 9 1 ((nums6 m).map str) :: X :: cel g2 [Value.int .i64 m.e, Value.int .i64 m.b, Value.int .i64 m.p, Value.int .i64 m.k, Value.int .i64 m.c, Value.slice a m.bl.length cap] 30 :: L) w26 := hS26
  refine WO.nil ?_
  have s28 : Rd w26 a m.bl.length 1 (m.bl.map str) ∧ (∀ j, World.cell? w26 ⟨g2, j, none⟩ = [Value.int .i64 m.e, Value.int .i64 m.b, Value.int .i64 m.p, Value.int .i64 m.k, Value.int .i64 m.c, Value.slice a m.bl.length cap][j]?) := ⟨(hX (hS26.focus 1 rfl)), hS26.cel_at 2 rfl⟩
  refine NX.held s28 ?_
  refine WD.pure (i := 25) encM_spec_t5 (bt 26 67108863) rfl rfl rfl (by kernel_rfl) (PQ.then PQ.body) rfl (fun w => run_assign rfl) ?_
  refine WD.done encM_spec_t5 (by kernel_rfl) ?_
  refine NX.go (WP.seq (WP.seq (WP.region rfl ?_)))
  refine WO.val (run_fieldAddr (q := ⟨g2, 5, none⟩) (show fieldB Tryz.prog 30 5 = some 5 from by kernel_rfl) rfl rfl) rfl rfl rfl ?_
  refine WO.val (run_load Ty.ag22 rfl ((hS26.cel_at 2 rfl 5).trans rfl)) rfl rfl rfl ?_
  refine WO.val (run_len rfl Tryz.underlying22 rfl) rfl rfl rfl ?_
  refine WO.mv rfl rfl ?_
  refine WO.nil (NX.go (WP.block ?_))
  refine WP.loop (α := Nat × List (List UInt8) × Option Addr × Nat) (fun x => match x with | ⟨i, xs, b, cp⟩ => [(1, Value.pointer (some ⟨g2, 0, none⟩)), (6, Value.slice b xs.length cp), (40, Value.slice a m.bl.length cap), (41, Value.int .i64 ((m.bl.length : Nat) : Int)), (42, Value.int .i64 (i : Int))]) (fun x w => match x with | ⟨i, xs, b, cp⟩ => (i ≤ m.bl.length ∧ xs = nums6 m ++ (m.bl.take i).map textB ∧ xs.length = 6 + i) ∧ St B (own b xs.length cp 9 1 (xs.map str) :: X :: cel g2 [Value.int .i64 m.e, Value.int .i64 m.b, Value.int .i64 m.p, Value.int .i64 m.k, Value.int .i64 m.c, Value.slice a m.bl.length cap] 30 :: L) w) (fun x => match x with | ⟨i, xs, b, cp⟩ => m.bl.length - i) (0, nums6 m, some ⟨g27, 0, none⟩, 6) ⟨⟨Nat.zero_le _, by simp, rfl⟩, hS26⟩ (Sub.cons rfl (Sub.consE rfl (by first | rfl | first | rfl | (congr 1; omega) | (simp; done) | (simp; omega)) (Sub.cons rfl (Sub.cons rfl (Sub.consE rfl (by first | rfl | first | rfl | (congr 1; omega) | (simp; done) | (simp; omega)) (Sub.nil _)))))) ?_
  rintro ⟨i, xs, b, cp⟩ w29 ⟨⟨hi, hxs, hxl⟩, hS29⟩
  clear hS26
  refine WP.seq (WP.region rfl ?_)
  refine WO.val (run_lss rfl rfl) rfl rfl rfl ?_
  refine WO.nil (NX.go (WP.seq ?_))
  refine WP.condP rfl (fun g43 => ?_) (fun g43 => ?_)
  ·
   refine WP.skip (NX.go (WP.seq (WP.block (WP.seq (WP.region rfl ?_)))))
   obtain ⟨t, ht⟩ : ∃ t, m.bl[i]? = some t := ⟨_, List.getElem?_eq_getElem (by omega)⟩
   refine WO.val (run_indexAddr (q := adr a i) Tryz.underlying22 Ty.sz9 rfl rfl (by omega) (by omega) ((hX (hS29.focus 1 rfl)).2.1 (by omega)) (by simp)) rfl rfl rfl ?_
   refine WO.val (run_load Ty.ag9 rfl ((hX (hS29.focus 1 rfl)).cell (str_at ht))) rfl rfl rfl ?_
   refine WO.asg rfl rfl ?_
   refine WO.nil (NX.go (WP.region rfl ?_))
   refine WO.mv rfl rfl ?_
   refine WO.mv rfl rfl ?_
   have htl := ht32 t (List.mem_of_getElem? ht)
   refine WO.call rfl rfl Ty.hd38 rfl (text_spec t (by omega) hS29) (fun v31 w30 pv31 => ?_)
   obtain ⟨rfl, hS30⟩ := pv31
   clear hS29
   refine WO.buildSlice (l := [str (textB t)]) hS30 Tryz.underlying22 rfl (fun w => by kernel_rfl) rfl (fun g33 w32 lg33 hS32 => ?_)
   clear hS30
   have hS32 := hS32.own_of_cel (m := 1) (k := 1) rfl
   replace hS32 : St B (own (some ⟨g33, 0, none⟩) 1 1 9 1 ([textB t].map str) :: own b xs.length cp 9 1 (xs.map str) :: X :: cel g2 [Value.int .i64 m.e, Value.int .i64 m.b, Value.int .i64 m.p, Value.int .i64 m.k, Value.int .i64 m.c, Value.slice a m.bl.length cap] 30 :: L) w32 := hS32
   refine WO.append (news := ([textB t].map str)) 1 rfl Tryz.underlying22 Tryz.underlying22 (fun _ h => by cases h) Ty.sz9 (by decide) Ty.by9 Ty.zr9 rfl rfl rfl rfl hS32 rfl ((hS32.own_rd_i 0 rfl).src) rfl (by omega) (by omega) (fun a35 c36 w34 hS34 => ?_)
   replace hS34 : St B (own (some ⟨g33, 0, none⟩) 1 1 9 1 ([textB t].map str) :: own a35 ((xs ++ [textB t]).length) c36 9 1 ((xs ++ [textB t]).map str) :: X :: cel g2 [Value.int .i64 m.e, Value.int .i64 m.b, Value.int .i64 m.p, Value.int .i64 m.k, Value.int .i64 m.c, Value.slice a m.bl.length cap] 30 :: L) w34 := (by rw [List.map_append, List.length_append]; exact hS34)
   refine WO.as (d := 50) (v := Value.slice a35 ((xs ++ [textB t]).length) c36) rfl (by simp) ?_
   clear hS32
   refine WO.asg rfl rfl ?_
   refine WO.nil (NX.blk (NX.go (WP.region rfl ?_)))
   refine WO.val (run_add rfl rfl (IntWalk.i64_in _ (by omega))) rfl rfl rfl ?_
   refine WO.mv rfl rfl ?_
   refine WO.nil ?_
   exact NX.again (i + 1, xs ++ [textB t], a35, c36) ⟨⟨by omega, by rw [hxs, map_next ht, List.append_assoc], by rw [List.length_append, hxl]; rfl⟩, hS34.drop⟩ (by show m.bl.length - (i + 1) < m.bl.length - i; omega) (Sub.cons rfl (Sub.consE rfl rfl (Sub.cons rfl (Sub.cons rfl (Sub.consE rfl (by congr 1) (Sub.nil _))))))
  ·
   refine WP.exit (NX.thenExit (NX.thenExit ?_))
   refine NX.blkExit ?_
   refine NX.go (WP.seq ?_)
   have hxs2 : xs = nums6 m ++ m.bl.map textB := by rw [hxs, List.take_of_length_le (by omega)]
   have hfd : xs.flatten = dataM m := by rw [hxs2, flat_data]
   have hfl : xs.flatten.length ≤ 1000 := by rw [hxs2]; exact flat_len6 ht32 hl16 k1 k2 k3 k4 k5 k6
   refine WP.region rfl ?_
   refine WO.mv rfl rfl ?_
   refine WO.call rfl rfl Ty.hd40 rfl (join_spec (xs := xs) (by omega) (by omega) hS29) (fun v38 w37 pv38 => ?_)
   obtain ⟨hv, hS37⟩ := pv38
   clear hS29
   replace hv : v38 = str (dataM m) := (by rw [hv, hfd])
   subst hv
   replace hS37 : St B (own b xs.length cp 9 1 (xs.map str) :: X :: cel g2 [Value.int .i64 m.e, Value.int .i64 m.b, Value.int .i64 m.p, Value.int .i64 m.k, Value.int .i64 m.c, Value.slice a m.bl.length cap] 30 :: L) w37 := hS37
   refine WO.val (run_build (v := Value.agg #[Value.int .i64 6, str (dataM m)]) rfl (fun w => by kernel_rfl)) rfl rfl rfl ?_
   refine WO.call rfl rfl Ty.hd39 rfl (put_spec 6 (dataM m) (by decide) (by decide) (by rw [hfd] at hfl; omega) hS37) (fun v40 w39 pv40 => ?_)
   obtain ⟨rfl, hS39⟩ := pv40
   clear hS37
   refine WO.val (run_extract rfl rfl) rfl rfl rfl ?_
   refine WO.val (run_extract rfl rfl) rfl rfl rfl ?_
   refine WO.asg rfl rfl ?_
   refine WO.asg rfl rfl ?_
   refine WO.nil (NX.go (WP.ret ?_))
   refine NX.done (l := [.tmp 2, .tmp 3]) rfl rfl ?_
   exact ⟨by rw [encM, if_pos (Decidable.of_not_not g12)]; rfl, (hS39.permT [0, 1, 0] (L' := own b xs.length cp 9 1 (xs.map str) :: cel g2 [Value.int .i64 m.e, Value.int .i64 m.b, Value.int .i64 m.p, Value.int .i64 m.k, Value.int .i64 m.c, Value.slice a m.bl.length cap] 30 :: X :: L) rfl).drop.drop⟩
end Go.Proofs.YtcehlnpbdffdhaaGreatDoor.SL

/- Manifests: read of data. -/
namespace Go.Proofs.YtcehlnpbdffdhaaGreatDoor.SL
open Go.RowKit Go.Proofs.YtcehlnpbdffdhaaGreatDoor
open Go.Proofs.YtcehlnpbdffdhaaGreatDoorW.PrintLast (rtab opsOf)
set_option linter.unusedVariables false
set_option linter.unusedSimpArgs false

theorem nx_len (s : List UInt8) : (nx s).length ≤ s.length := by unfold nx; rw [List.length_drop]; omega
theorem pnum_spec {B w : World} {L : List HP} (g k : Nat) (s : List UInt8) (ok : Bool) (hs : s.length ≤ 140737488355328) (hS : St B (cel g [str s] 9 :: cel k [Value.bool ok] 4 :: L) w) : Does Tryz.prog 83 [Value.pointer (some ⟨g, 0, none⟩), Value.pointer (some ⟨k, 0, none⟩)] w (fun v w1 => v = .int .i64 (i64w (getNum s).1) ∧ St B (cel g [str (nx s)] 9 :: cel k [Value.bool (ok && decide (okN s))] 4 :: L) w1) := by
 refine enter (n := 26) Tryz.func83 rfl rfl [Value.pointer (some ⟨g, 0, none⟩), Value.pointer (some ⟨k, 0, none⟩)] rfl ?_
 refine WP.seq (WP.region rfl ?_)
 refine WO.asg rfl rfl ?_
 refine WO.nil (NX.go (WP.seq (WP.region rfl ?_)))
 refine WO.val (run_load Ty.ag9 rfl ((hS.cel_at 0 rfl 0).trans rfl)) rfl rfl rfl ?_
 refine WO.call rfl rfl Ty.hd84 rfl (getNum_spec s hs hS) (fun v2 w1 pv2 => ?_)
 obtain ⟨rfl, hS1⟩ := pv2
 clear hS
 refine WO.mv rfl rfl ?_
 refine WO.val (run_extract rfl rfl) rfl rfl rfl ?_
 refine WO.val (run_extract rfl rfl) rfl rfl rfl ?_
 refine WO.val (run_extract rfl rfl) rfl rfl rfl ?_
 refine WO.asg rfl rfl ?_
 refine WO.asg rfl rfl ?_
 refine WO.asg rfl rfl ?_
 refine WO.nil (NX.go (WP.seq ?_))
 refine WP.meet (α := Unit) (fun x => match x with | _ => [(0, Value.pointer (some ⟨g, 0, none⟩)), (1, Value.pointer (some ⟨k, 0, none⟩)), (3, Value.int .u64 ((getNum s).1 : Int)), (4, Value.int .i64 ((getNum s).2.1 : Int)), (5, Value.int .i64 ((getNum s).2.2))]) (fun x w => match x with | _ => St B (cel g [str s] 9 :: cel k [Value.bool (ok && decide (okN s))] 4 :: L) w) ?_ (fun K3 => ?_)
 ·
  rintro _ w4 hS4
  clear hS1
  refine NX.go (WP.seq ?_)
  have hle := getNum_le s
  refine WP.region rfl ?_
  refine WO.val (run_load Ty.ag9 rfl ((hS4.cel_at 0 rfl 0).trans rfl)) rfl rfl rfl ?_
  refine WO.mv rfl rfl ?_
  refine WO.val (run_sliceS (i := (getNum s).2.1) (j := s.length) Tryz.underlying9 rfl ⟨_, rfl⟩ rfl (by omega) (Nat.le_refl _) (by rw [List.take_length])) rfl rfl rfl ?_
  refine WO.store (l' := [str (s.drop ((getNum s).2.1))]) 0 hS4 rfl Ty.sz9 rfl rfl rfl rfl rfl (Nat.le_of_ble_eq_true rfl) rfl (fun w5 (hS5 : St B (cel g [str (s.drop ((getNum s).2.1))] 9 :: cel k [Value.bool (ok && decide (okN s))] 4 :: L) w5) => ?_)
  clear hS4
  refine WO.nil (NX.go (WP.seq (WP.region rfl ?_)))
  refine WO.mv rfl rfl ?_
  refine WO.val (run_convI Tryz.underlying3 (by kernel_rfl) rfl rfl) rfl rfl rfl ?_
  refine WO.asg rfl rfl ?_
  refine WO.nil (NX.go (WP.ret ?_))
  refine NX.done (l := [.tmp 2]) rfl rfl ?_
  exact ⟨rfl, hS5⟩
 ·
  refine WP.region rfl ?_
  refine WO.val (run_load Ty.ag4 rfl ((hS1.cel_at 1 rfl 0).trans rfl)) rfl rfl rfl ?_
  refine WO.mv rfl rfl ?_
  rcases Bool.eq_false_or_eq_true ok with g13 | g13
  ·
   refine WO.on rfl rfl g13 ?_
   refine WO.mv rfl rfl ?_
   refine WO.on rfl rfl g13 ?_
   refine WO.val (run_eql rfl rfl) rfl rfl rfl ?_
   refine WO.val (run_pickT rfl g13 rfl) rfl rfl rfl ?_
   refine WO.mv rfl rfl ?_
   by_cases g17 : ((getNum s).2.2) = 0
   ·
    refine WO.on rfl rfl (decide_eq_true g17) ?_
    refine WO.mv rfl rfl ?_
    refine WO.on rfl rfl (decide_eq_true g17) ?_
    refine WO.val (run_leq rfl rfl) rfl rfl rfl ?_
    refine WO.val (run_pickT rfl (decide_eq_true g17) rfl) rfl rfl rfl ?_
    refine WO.store (l' := [Value.bool (decide (((getNum s).1 : Int) ≤ 99999999))]) 1 hS1 rfl Ty.sz4 rfl rfl rfl rfl rfl (Nat.le_of_ble_eq_true rfl) rfl (fun w6 (hS6 : St B (cel g [str s] 9 :: cel k [Value.bool (decide (((getNum s).1 : Int) ≤ 99999999))] 4 :: L) w6) => ?_)
    clear hS1
    refine WO.nil ?_
    exact K3 () _ _ (by have e : decide (((getNum s).1 : Int) ≤ 99999999) = (ok && decide (okN s)) := (by rw [g13, Bool.true_and]; exact decide_eq_decide.2 ⟨fun h => ⟨g17, by omega⟩, fun h => by have := h.2; omega⟩); rw [e] at hS6; exact hS6) (Sub.cons rfl (Sub.cons rfl (Sub.cons rfl (Sub.cons rfl (Sub.cons rfl (Sub.nil _))))))
   ·
    refine WO.off rfl rfl (decide_eq_false g17) rfl ?_
    refine WO.off rfl rfl (decide_eq_false g17) rfl ?_
    refine WO.val (run_pickF rfl (decide_eq_false g17) rfl) rfl rfl rfl ?_
    refine WO.store (l' := [Value.bool false]) 1 hS1 rfl Ty.sz4 rfl rfl rfl rfl rfl (Nat.le_of_ble_eq_true rfl) rfl (fun w7 (hS7 : St B (cel g [str s] 9 :: cel k [Value.bool false] 4 :: L) w7) => ?_)
    clear hS1
    refine WO.nil ?_
    exact K3 () _ _ (by have e : false = (ok && decide (okN s)) := (by rw [g13]; exact (decide_eq_false (fun h => g17 h.1)).symm); rw [e] at hS7; exact hS7) (Sub.cons rfl (Sub.cons rfl (Sub.cons rfl (Sub.cons rfl (Sub.cons rfl (Sub.nil _))))))
  ·
   refine WO.off rfl rfl g13 rfl ?_
   refine WO.off rfl rfl g13 rfl ?_
   refine WO.val (run_pickF rfl g13 rfl) rfl rfl rfl ?_
   refine WO.mv rfl rfl ?_
   refine WO.off rfl rfl rfl rfl ?_
   refine WO.off rfl rfl rfl rfl ?_
   refine WO.val (run_pickF rfl rfl rfl) rfl rfl rfl ?_
   refine WO.store (l' := [Value.bool false]) 1 hS1 rfl Ty.sz4 rfl rfl rfl rfl rfl (Nat.le_of_ble_eq_true rfl) rfl (fun w8 (hS8 : St B (cel g [str s] 9 :: cel k [Value.bool false] 4 :: L) w8) => ?_)
   clear hS1
   refine WO.nil ?_
   exact K3 () _ _ (by have e : false = (ok && decide (okN s)) := (by rw [g13]; rfl); rw [e] at hS8; exact hS8) (Sub.cons rfl (Sub.cons rfl (Sub.cons rfl (Sub.cons rfl (Sub.cons rfl (Sub.nil _))))))

theorem parse_no {d : List UInt8} (h : ¬ ok6 d) : parseM d = none := by unfold parseM; rw [if_neg h]
theorem parse_yes {d : List UInt8} (h : ok6 d) {bl : List (List UInt8)} {r : List UInt8} (hb : blkP (getNum (nx (nx (nx (nx (nx d)))))).1 (nx (nx (nx (nx (nx (nx d)))))) [] = some (bl, r)) : parseM d = if r = [] then some (head6 d bl) else none := by
  unfold parseM; rw [if_pos h, hb]
  cases r with
  | nil => rfl
  | cons a r => rfl
theorem parse_none {d : List UInt8} (hb : blkP (getNum (nx (nx (nx (nx (nx d)))))).1 (nx (nx (nx (nx (nx (nx d)))))) [] = none) : parseM d = none := by
  unfold parseM; rw [hb]; split <;> rfl
theorem head6_rng {d : List UInt8} (h : ok6 d) {bl : List (List UInt8)} (hl : bl.length ≤ 17) (ht : ∀ t ∈ bl, t.length ≤ 140737488355328) : RngM (head6 d bl) := by
  obtain ⟨a, b, c, _, e, _⟩ := h
  have a := a.2; have b := b.2; have c := c.2; have e := e.2
  exact ⟨by show _ ≤ ((getNum d).1 : Int) ∧ ((getNum d).1 : Int) ≤ _; omega, by show _ ≤ ((getNum (nx d)).1 : Int) ∧ ((getNum (nx d)).1 : Int) ≤ _; omega, by show _ ≤ ((getNum (nx (nx d))).1 : Int) ∧ ((getNum (nx (nx d))).1 : Int) ≤ _; omega, zag_rng (getNum_lt _), by show _ ≤ ((getNum (nx (nx (nx (nx d))))).1 : Int) ∧ ((getNum (nx (nx (nx (nx d))))).1 : Int) ≤ _; omega, by show bl.length ≤ _; omega, ht⟩
/-- What the walk of 'parse' has in its cells. -/
def cellsP (d : List UInt8) (bl : List (List UInt8)) : Man := ⟨i64w (getNum d).1, i64w (getNum (nx d)).1, i64w (getNum (nx (nx d))).1, zag (getNum (nx (nx (nx d)))).1, i64w (getNum (nx (nx (nx (nx d))))).1, bl⟩
theorem cellsP_ok {d : List UInt8} (h : ok6 d) (bl : List (List UInt8)) : cellsP d bl = head6 d bl := by
  obtain ⟨a, b, c, _, e, _⟩ := h
  unfold cellsP head6
  rw [i64w_small a.2, i64w_small b.2, i64w_small c.2, i64w_small e.2]
theorem getText_got (s : List UInt8) (m : Int) : (getText s m).1.length ≤ s.length := by
  unfold getText
  split
  · simp
  · split
    · simp
    · split
      · simp
      · simp only [List.length_take, List.length_drop]; omega
/-- The flag behind the six numbers. -/
def flag6 (d : List UInt8) : Bool := ((((((true && decide (okN d)) && decide (okN (nx d))) && decide (okN (nx (nx d)))) && decide ((getNum (nx (nx (nx d)))).2.2 = 0)) && decide (okN (nx (nx (nx (nx d)))))) && decide (okN (nx (nx (nx (nx (nx d)))))))
theorem flag6_iff (d : List UInt8) : flag6 d = decide (ok6 d) := by
  unfold flag6 ok6
  by_cases a : okN d <;> by_cases b : okN (nx d) <;> by_cases c : okN (nx (nx d)) <;> by_cases e : (getNum (nx (nx (nx d)))).2.2 = 0 <;> by_cases f : okN (nx (nx (nx (nx d)))) <;> by_cases g : okN (nx (nx (nx (nx (nx d))))) <;> simp [a, b, c, e, f, g]

theorem parse_next {d s2 : List UInt8} {b b2 : Bool} {i : Nat} {acc : List (List UInt8)} (hb : b = true) (h1 : b = true → ok6 d ∧ i ≤ (getNum (nx (nx (nx (nx (nx d)))))).1 ∧ blkP ((getNum (nx (nx (nx (nx (nx d)))))).1 - i) s2 acc = blkP (getNum (nx (nx (nx (nx (nx d)))))).1 (nx (nx (nx (nx (nx (nx d)))))) [] ∧ acc.length ≤ 16) (hi : (i : Int) < i64w (getNum (nx (nx (nx (nx (nx d)))))).1)
    (h2 : b2 = decide ((getText s2 32).2.2 = 0 ∧ acc.length < 16)) (hs : s2.length ≤ 140737488355328) (hat : ∀ t ∈ acc, t.length ≤ 140737488355328) :
    (b2 = true → ok6 d ∧ i + 1 ≤ (getNum (nx (nx (nx (nx (nx d)))))).1 ∧ blkP ((getNum (nx (nx (nx (nx (nx d)))))).1 - (i + 1)) (s2.drop (getText s2 32).2.1) (acc ++ [(getText s2 32).1]) = blkP (getNum (nx (nx (nx (nx (nx d)))))).1 (nx (nx (nx (nx (nx (nx d)))))) [] ∧ (acc ++ [(getText s2 32).1]).length ≤ 16) ∧ (b2 = false → parseM d = none) ∧ (acc ++ [(getText s2 32).1]).length ≤ 17 ∧ (s2.drop (getText s2 32).2.1).length ≤ 140737488355328 ∧ ∀ t ∈ acc ++ [(getText s2 32).1], t.length ≤ 140737488355328 := by
  obtain ⟨k1, k2, k3, k4⟩ := h1 hb
  have hw := i64w_small k1.2.2.2.2.2.2
  rw [hw] at hi
  have hsub : (getNum (nx (nx (nx (nx (nx d)))))).1 - i = ((getNum (nx (nx (nx (nx (nx d)))))).1 - (i + 1)) + 1 := by omega
  rw [hsub, show ∀ n, blkP (n + 1) s2 acc = if (getText s2 32).2.2 = 0 ∧ acc.length < 16 then blkP n (s2.drop (getText s2 32).2.1) (acc ++ [(getText s2 32).1]) else none from fun n => rfl] at k3
  refine ⟨fun h => ?_, fun h => ?_, by rw [List.length_append, List.length_singleton]; omega, by rw [List.length_drop]; omega, all_snoc hat (Nat.le_trans (getText_got s2 32) hs)⟩
  · have hc := of_decide_eq_true (h2.symm.trans h)
    rw [if_pos hc] at k3
    exact ⟨k1, by omega, k3, by rw [List.length_append, List.length_singleton]; omega⟩
  · have hc := of_decide_eq_false (h2.symm.trans h)
    rw [if_neg hc] at k3
    exact parse_none k3.symm
theorem parseM_spec_t6 : rtab .any (opsOf Tryz.f42 6) = (true, [([], []), ([], []), ([], []), ([1, 2], [1, 2]), ([0], []), ([4, 0, 0], [0, 4]), ([3, 5, 0, 1, 2, 3, 4, 5], [3])]) := by kernel_rfl
theorem parseM_spec_t14 : rtab .any (opsOf Tryz.f42 14) = (true, [([], []), ([0], [0]), ([], []), ([2], [2]), ([1, 3], [1, 3]), ([], []), ([], []), ([5, 6], [5, 6]), ([0, 1, 2, 3, 4], []), ([8, 4, 4, 0, 1, 2, 3, 4], [4, 8]), ([7, 9, 0, 1, 2, 3, 4, 5, 6, 7, 8, 9], [7])]) := by kernel_rfl
theorem parseM_spec_t16 : rtab .any (opsOf Tryz.f42 16) = (true, [([], []), ([], []), ([1], [1]), ([2], [2]), ([3, 2], [2, 3]), ([2, 4], [2, 4]), ([0, 2, 0], [0]), ([5, 6, 0, 1, 2, 3, 4, 5, 6], [5])]) := by kernel_rfl
theorem parseM_spec {B w : World} {L : List HP} (d : List UInt8) (hd : d.length ≤ 140737488355328) (hS : St B L w) : Does Tryz.prog 42 [str d] w (fun v w1 => ∃ (m : Man) (a : Option Addr) (cap : Nat) (b : Bool), v = .tuple #[manV m a cap, .bool b] ∧ (b = true → parseM d = some m ∧ RngM m) ∧ (b = false → parseM d = none) ∧ St B (own a m.bl.length cap 9 1 (m.bl.map str) :: L) w1) := by
 refine enter (n := 77) Tryz.func42 rfl rfl [str d] rfl ?_
 refine WP.seq (WP.region rfl ?_)
 refine WO.box (l := [str d]) hS rfl rfl rfl (fun g2 w1 lg2 hS1 => ?_)
 clear hS
 refine WO.alloc (l := [Value.int .i64 0, Value.int .i64 0, Value.int .i64 0, Value.int .i64 0, Value.int .i64 0, Value.slice none 0 0]) hS1 Ty.zr30 rfl rfl (fun g4 w3 lg4 hS3 => ?_)
 clear hS1
 refine WO.alloc (l := [Value.bool false]) hS3 Ty.zr4 rfl rfl (fun g6 w5 lg6 hS5 => ?_)
 clear hS3
 refine WO.nil (NX.go (WP.seq (WP.region rfl ?_)))
 refine WO.val (run_makeFunc rfl rfl) rfl rfl rfl ?_
 refine WO.asg rfl rfl ?_
 refine WO.nil (NX.go (WP.seq (WP.region rfl ?_)))
 refine WO.store (l' := [Value.bool true]) 0 hS5 rfl Ty.sz4 rfl rfl rfl rfl rfl (Nat.le_of_ble_eq_true rfl) rfl (fun w7 (hS7 : St B (cel g6 [Value.bool true] 4 :: cel g4 [Value.int .i64 0, Value.int .i64 0, Value.int .i64 0, Value.int .i64 0, Value.int .i64 0, Value.slice none 0 0] 30 :: cel g2 [str d] 9 :: L) w7) => ?_)
 clear hS5
 refine WO.nil (NX.go (WP.seq (WP.region rfl ?_)))
 refine WO.mv rfl rfl ?_
 have hS8 := hS7.permT [2, 0, 0] (L' := cel g2 [str d] 9 :: cel g6 [Value.bool true] 4 :: cel g4 [Value.int .i64 0, Value.int .i64 0, Value.int .i64 0, Value.int .i64 0, Value.int .i64 0, Value.slice none 0 0] 30 :: L) rfl
 clear hS7
 refine WO.callV (us := []) (cs := [Value.pointer (some ⟨g2, 0, none⟩), Value.pointer (some ⟨g6, 0, none⟩)]) rfl rfl Ty.hd83 rfl (pnum_spec g2 g6 d true (by omega) hS8) (fun v10 w9 pv10 => ?_)
 obtain ⟨rfl, hS9⟩ := pv10
 clear hS8
 have hx1 : (nx d).length ≤ 140737488355328 := Nat.le_trans (nx_len _) (by omega)
 refine WO.mv rfl rfl ?_
 refine WO.callV (us := []) (cs := [Value.pointer (some ⟨g2, 0, none⟩), Value.pointer (some ⟨g6, 0, none⟩)]) rfl rfl Ty.hd83 rfl (pnum_spec g2 g6 (nx d) (true && decide (okN d)) (by omega) hS9) (fun v12 w11 pv12 => ?_)
 obtain ⟨rfl, hS11⟩ := pv12
 clear hS9
 have hx2 : (nx (nx d)).length ≤ 140737488355328 := Nat.le_trans (nx_len _) (by omega)
 refine WO.mv rfl rfl ?_
 refine WO.callV (us := []) (cs := [Value.pointer (some ⟨g2, 0, none⟩), Value.pointer (some ⟨g6, 0, none⟩)]) rfl rfl Ty.hd83 rfl (pnum_spec g2 g6 (nx (nx d)) ((true && decide (okN d)) && decide (okN (nx d))) (by omega) hS11) (fun v14 w13 pv14 => ?_)
 obtain ⟨rfl, hS13⟩ := pv14
 clear hS11
 have hx3 : (nx (nx (nx d))).length ≤ 140737488355328 := Nat.le_trans (nx_len _) (by omega)
 refine WO.val (run_fieldAddr (q := ⟨g4, 0, none⟩) (show fieldB Tryz.prog 30 0 = some 0 from by kernel_rfl) rfl rfl) rfl rfl rfl ?_
 refine WO.store (l' := [Value.int .i64 (i64w (getNum d).1), Value.int .i64 0, Value.int .i64 0, Value.int .i64 0, Value.int .i64 0, Value.slice none 0 0]) 2 hS13 rfl Ty.sz3 rfl rfl rfl rfl rfl (Nat.le_of_ble_eq_true rfl) rfl (fun w15 (hS15 : St B (cel g2 [str (nx (nx (nx d)))] 9 :: cel g6 [Value.bool (((true && decide (okN d)) && decide (okN (nx d))) && decide (okN (nx (nx d))))] 4 :: cel g4 [Value.int .i64 (i64w (getNum d).1), Value.int .i64 0, Value.int .i64 0, Value.int .i64 0, Value.int .i64 0, Value.slice none 0 0] 30 :: L) w15) => ?_)
 clear hS13
 refine WO.val (run_fieldAddr (q := ⟨g4, 1, none⟩) (show fieldB Tryz.prog 30 1 = some 1 from by kernel_rfl) rfl rfl) rfl rfl rfl ?_
 refine WO.store (l' := [Value.int .i64 (i64w (getNum d).1), Value.int .i64 (i64w (getNum (nx d)).1), Value.int .i64 0, Value.int .i64 0, Value.int .i64 0, Value.slice none 0 0]) 2 hS15 rfl Ty.sz3 rfl rfl rfl rfl rfl (Nat.le_of_ble_eq_true rfl) rfl (fun w16 (hS16 : St B (cel g2 [str (nx (nx (nx d)))] 9 :: cel g6 [Value.bool (((true && decide (okN d)) && decide (okN (nx d))) && decide (okN (nx (nx d))))] 4 :: cel g4 [Value.int .i64 (i64w (getNum d).1), Value.int .i64 (i64w (getNum (nx d)).1), Value.int .i64 0, Value.int .i64 0, Value.int .i64 0, Value.slice none 0 0] 30 :: L) w16) => ?_)
 clear hS15
 refine WO.val (run_fieldAddr (q := ⟨g4, 2, none⟩) (show fieldB Tryz.prog 30 2 = some 2 from by kernel_rfl) rfl rfl) rfl rfl rfl ?_
 refine WO.store (l' := [Value.int .i64 (i64w (getNum d).1), Value.int .i64 (i64w (getNum (nx d)).1), Value.int .i64 (i64w (getNum (nx (nx d))).1), Value.int .i64 0, Value.int .i64 0, Value.slice none 0 0]) 2 hS16 rfl Ty.sz3 rfl rfl rfl rfl rfl (Nat.le_of_ble_eq_true rfl) rfl (fun w17 (hS17 : St B (cel g2 [str (nx (nx (nx d)))] 9 :: cel g6 [Value.bool (((true && decide (okN d)) && decide (okN (nx d))) && decide (okN (nx (nx d))))] 4 :: cel g4 [Value.int .i64 (i64w (getNum d).1), Value.int .i64 (i64w (getNum (nx d)).1), Value.int .i64 (i64w (getNum (nx (nx d))).1), Value.int .i64 0, Value.int .i64 0, Value.slice none 0 0] 30 :: L) w17) => ?_)
 clear hS16
 refine WO.nil (NX.go (WP.seq (WP.region rfl ?_)))
 refine WO.val (run_load Ty.ag9 rfl ((hS17.cel_at 0 rfl 0).trans rfl)) rfl rfl rfl ?_
 refine WO.call rfl rfl Ty.hd85 rfl (getSigned_spec (nx (nx (nx d))) (by omega) hS17) (fun v19 w18 pv19 => ?_)
 obtain ⟨rfl, hS18⟩ := pv19
 clear hS17
 have hx4 : (nx (nx (nx (nx d)))).length ≤ 140737488355328 := Nat.le_trans (nx_len _) (by omega)
 refine WO.mv rfl rfl ?_
 refine WO.val (run_extract rfl rfl) rfl rfl rfl ?_
 refine WO.val (run_extract rfl rfl) rfl rfl rfl ?_
 refine WO.val (run_extract rfl rfl) rfl rfl rfl ?_
 refine WO.asg rfl rfl ?_
 refine WO.asg rfl rfl ?_
 refine WO.asg rfl rfl ?_
 refine WO.nil (NX.go (WP.seq ?_))
 refine WP.meet (α := Unit) (fun x => match x with | _ => [(1, Value.pointer (some ⟨g2, 0, none⟩)), (2, Value.pointer (some ⟨g4, 0, none⟩)), (3, Value.pointer (some ⟨g6, 0, none⟩)), (4, Value.func (.func 83) #[] #[Value.pointer (some ⟨g2, 0, none⟩), Value.pointer (some ⟨g6, 0, none⟩)]), (5, Value.int .i64 (zag (getNum (nx (nx (nx d)))).1)), (6, Value.int .i64 ((getNum (nx (nx (nx d)))).2.1 : Int))]) (fun x w => match x with | _ => St B (cel g2 [str (nx (nx (nx d)))] 9 :: cel g6 [Value.bool ((((true && decide (okN d)) && decide (okN (nx d))) && decide (okN (nx (nx d)))) && decide ((getNum (nx (nx (nx d)))).2.2 = 0))] 4 :: cel g4 [Value.int .i64 (i64w (getNum d).1), Value.int .i64 (i64w (getNum (nx d)).1), Value.int .i64 (i64w (getNum (nx (nx d))).1), Value.int .i64 0, Value.int .i64 0, Value.slice none 0 0] 30 :: L) w) ?_ (fun K20 => ?_)
 ·
  rintro _ w21 hS21
  clear hS18
  refine NX.go (WP.seq ?_)
  have hle3 := getNum_le (nx (nx (nx d)))
  refine WD.start (fun w => (∀ j, World.cell? w ⟨g2, j, none⟩ = [str (nx (nx (nx d)))][j]?)) [6] (bt 7 0) Ty.mo rfl (by kernel_rfl) hS21 (fun _ h => h.cel_at 0 rfl) (fun w22 hS22 s23 => ?_)
  clear hS21
  refine WD.pure (i := 0) parseM_spec_t6 (bt 7 1) rfl rfl rfl (by kernel_rfl) (PQ.then PQ.body) rfl (fun w => run_move rfl) ?_
  refine WD.take (i := 1) parseM_spec_t6 (bt 7 3) s23 rfl rfl rfl (by kernel_rfl) (PQ.then PQ.body) rfl (fun w hs => run_load Ty.ag9 rfl ((hs 0).trans rfl)) ?_
  refine WD.pure (i := 2) parseM_spec_t6 (bt 7 7) rfl rfl rfl (by kernel_rfl) (PQ.then PQ.body) rfl (fun w => run_move rfl) ?_
  refine WD.pure (i := 3) parseM_spec_t6 (bt 7 15) rfl rfl rfl (by kernel_rfl) (PQ.then PQ.body) rfl (fun w => run_sliceS (i := (getNum (nx (nx (nx d)))).2.1) (j := (nx (nx (nx d))).length) Tryz.underlying9 rfl ⟨_, rfl⟩ rfl (by omega) (Nat.le_refl _) (by rw [List.take_length])) ?_
  refine WD.pure (i := 4) parseM_spec_t6 (bt 7 31) rfl rfl rfl (by kernel_rfl) (PQ.then PQ.body) rfl (fun w => run_fieldAddr (q := ⟨g4, 3, none⟩) (show fieldB Tryz.prog 30 3 = some 3 from by kernel_rfl) rfl rfl) ?_
  refine WD.one (i := 5) parseM_spec_t6 (bt 7 63) rfl (by kernel_rfl) ?_
  refine WO.store (l' := [Value.int .i64 (i64w (getNum d).1), Value.int .i64 (i64w (getNum (nx d)).1), Value.int .i64 (i64w (getNum (nx (nx d))).1), Value.int .i64 (zag (getNum (nx (nx (nx d)))).1), Value.int .i64 0, Value.slice none 0 0]) 2 hS22 rfl Ty.sz2 rfl rfl rfl rfl rfl (Nat.le_of_ble_eq_true rfl) rfl (fun w24 (hS24 : St B (cel g2 [str (nx (nx (nx d)))] 9 :: cel g6 [Value.bool ((((true && decide (okN d)) && decide (okN (nx d))) && decide (okN (nx (nx d)))) && decide ((getNum (nx (nx (nx d)))).2.2 = 0))] 4 :: cel g4 [Value.int .i64 (i64w (getNum d).1), Value.int .i64 (i64w (getNum (nx d)).1), Value.int .i64 (i64w (getNum (nx (nx d))).1), Value.int .i64 (zag (getNum (nx (nx (nx d)))).1), Value.int .i64 0, Value.slice none 0 0] 30 :: L) w24) => ?_)
  clear hS22
  refine WO.nil ?_
  have s25 : (∀ j, World.cell? w24 ⟨g2, j, none⟩ = [str (nx (nx (nx d)))][j]?) := hS24.cel_at 0 rfl
  refine NX.held s25 ?_
  refine WD.one (i := 6) parseM_spec_t6 (bt 7 127) rfl (by kernel_rfl) ?_
  refine WO.store (l' := [str ((nx (nx (nx d))).drop ((getNum (nx (nx (nx d)))).2.1))]) 0 hS24 rfl Ty.sz9 rfl rfl rfl rfl rfl (Nat.le_of_ble_eq_true rfl) rfl (fun w26 (hS26 : St B (cel g2 [str ((nx (nx (nx d))).drop ((getNum (nx (nx (nx d)))).2.1))] 9 :: cel g6 [Value.bool ((((true && decide (okN d)) && decide (okN (nx d))) && decide (okN (nx (nx d)))) && decide ((getNum (nx (nx (nx d)))).2.2 = 0))] 4 :: cel g4 [Value.int .i64 (i64w (getNum d).1), Value.int .i64 (i64w (getNum (nx d)).1), Value.int .i64 (i64w (getNum (nx (nx d))).1), Value.int .i64 (zag (getNum (nx (nx (nx d)))).1), Value.int .i64 0, Value.slice none 0 0] 30 :: L) w26) => ?_)
  clear hS24
  refine WO.nil ?_
  refine NX.last (by decide) ?_
  refine WD.done parseM_spec_t6 (by kernel_rfl) ?_
  refine NX.go (WP.seq (WP.region rfl ?_))
  refine WO.mv rfl rfl ?_
  refine WO.callV (us := []) (cs := [Value.pointer (some ⟨g2, 0, none⟩), Value.pointer (some ⟨g6, 0, none⟩)]) rfl rfl Ty.hd83 rfl (pnum_spec g2 g6 (nx (nx (nx (nx d)))) ((((true && decide (okN d)) && decide (okN (nx d))) && decide (okN (nx (nx d)))) && decide ((getNum (nx (nx (nx d)))).2.2 = 0)) (by omega) hS26) (fun v28 w27 pv28 => ?_)
  obtain ⟨rfl, hS27⟩ := pv28
  clear hS26
  have hx5 : (nx (nx (nx (nx (nx d))))).length ≤ 140737488355328 := Nat.le_trans (nx_len _) (by omega)
  refine WO.val (run_fieldAddr (q := ⟨g4, 4, none⟩) (show fieldB Tryz.prog 30 4 = some 4 from by kernel_rfl) rfl rfl) rfl rfl rfl ?_
  refine WO.store (l' := [Value.int .i64 (i64w (getNum d).1), Value.int .i64 (i64w (getNum (nx d)).1), Value.int .i64 (i64w (getNum (nx (nx d))).1), Value.int .i64 (zag (getNum (nx (nx (nx d)))).1), Value.int .i64 (i64w (getNum (nx (nx (nx (nx d))))).1), Value.slice none 0 0]) 2 hS27 rfl Ty.sz3 rfl rfl rfl rfl rfl (Nat.le_of_ble_eq_true rfl) rfl (fun w29 (hS29 : St B (cel g2 [str (nx (nx (nx (nx (nx d)))))] 9 :: cel g6 [Value.bool (((((true && decide (okN d)) && decide (okN (nx d))) && decide (okN (nx (nx d)))) && decide ((getNum (nx (nx (nx d)))).2.2 = 0)) && decide (okN (nx (nx (nx (nx d))))))] 4 :: cel g4 [Value.int .i64 (i64w (getNum d).1), Value.int .i64 (i64w (getNum (nx d)).1), Value.int .i64 (i64w (getNum (nx (nx d))).1), Value.int .i64 (zag (getNum (nx (nx (nx d)))).1), Value.int .i64 (i64w (getNum (nx (nx (nx (nx d))))).1), Value.slice none 0 0] 30 :: L) w29) => ?_)
  clear hS27
  refine WO.nil (NX.go (WP.seq (WP.seq (WP.region rfl ?_))))
  refine WO.mv rfl rfl ?_
  refine WO.callV (us := []) (cs := [Value.pointer (some ⟨g2, 0, none⟩), Value.pointer (some ⟨g6, 0, none⟩)]) rfl rfl Ty.hd83 rfl (pnum_spec g2 g6 (nx (nx (nx (nx (nx d))))) (((((true && decide (okN d)) && decide (okN (nx d))) && decide (okN (nx (nx d)))) && decide ((getNum (nx (nx (nx d)))).2.2 = 0)) && decide (okN (nx (nx (nx (nx d)))))) (by omega) hS29) (fun v31 w30 pv31 => ?_)
  obtain ⟨rfl, hS30⟩ := pv31
  clear hS29
  have hx6 : (nx (nx (nx (nx (nx (nx d)))))).length ≤ 140737488355328 := Nat.le_trans (nx_len _) (by omega)
  refine WO.mv rfl rfl ?_
  refine WO.nil (NX.go (WP.block ?_))
  have hS32 := hS30.own_nil 9 1
  clear hS30
  refine WP.loop (α := Nat × Bool × List UInt8 × List (List UInt8) × Option Addr × Nat) (fun x => match x with | ⟨i, b, s2, acc, a, cap⟩ => [(1, Value.pointer (some ⟨g2, 0, none⟩)), (2, Value.pointer (some ⟨g4, 0, none⟩)), (3, Value.pointer (some ⟨g6, 0, none⟩)), (4, Value.func (.func 83) #[] #[Value.pointer (some ⟨g2, 0, none⟩), Value.pointer (some ⟨g6, 0, none⟩)]), (41, Value.int .i64 (i64w (getNum (nx (nx (nx (nx (nx d)))))).1)), (42, Value.int .i64 (i : Int))]) (fun x w => match x with | ⟨i, b, s2, acc, a, cap⟩ => ((b = true → ok6 d ∧ i ≤ (getNum (nx (nx (nx (nx (nx d)))))).1 ∧ blkP ((getNum (nx (nx (nx (nx (nx d)))))).1 - i) s2 acc = blkP (getNum (nx (nx (nx (nx (nx d)))))).1 (nx (nx (nx (nx (nx (nx d)))))) [] ∧ acc.length ≤ 16) ∧ (b = false → parseM d = none) ∧ acc.length ≤ 17 ∧ s2.length ≤ 140737488355328 ∧ ∀ t ∈ acc, t.length ≤ 140737488355328) ∧ St B (own a acc.length cap 9 1 (acc.map str) :: cel g2 [str s2] 9 :: cel g6 [Value.bool b] 4 :: cel g4 [Value.int .i64 (i64w (getNum d).1), Value.int .i64 (i64w (getNum (nx d)).1), Value.int .i64 (i64w (getNum (nx (nx d))).1), Value.int .i64 (zag (getNum (nx (nx (nx d)))).1), Value.int .i64 (i64w (getNum (nx (nx (nx (nx d))))).1), Value.slice a acc.length cap] 30 :: L) w) (fun x => match x with | ⟨i, b, s2, acc, a, cap⟩ => (i64w (getNum (nx (nx (nx (nx (nx d)))))).1).toNat - i) (0, ((((((true && decide (okN d)) && decide (okN (nx d))) && decide (okN (nx (nx d)))) && decide ((getNum (nx (nx (nx d)))).2.2 = 0)) && decide (okN (nx (nx (nx (nx d)))))) && decide (okN (nx (nx (nx (nx (nx d))))))), (nx (nx (nx (nx (nx (nx d)))))), [], none, 0) ⟨⟨fun h => ⟨of_decide_eq_true ((flag6_iff d).symm.trans h), Nat.zero_le _, rfl, by decide⟩, fun h => parse_no (of_decide_eq_false ((flag6_iff d).symm.trans h)), by decide, hx6, fun t h => (by cases h)⟩, hS32⟩ (Sub.cons rfl (Sub.cons rfl (Sub.cons rfl (Sub.cons rfl (Sub.cons rfl (Sub.consE rfl (by first | rfl | first | rfl | (congr 1; omega) | (simp; done) | (simp; omega)) (Sub.nil _))))))) ?_
  rintro ⟨i, b, s2, acc, a, cap⟩ w33 ⟨⟨hb1, hb0, ha17, hs2, hat⟩, hS33⟩
  clear hS32
  have hwB := (i64w_rng (getNum (nx (nx (nx (nx (nx d)))))).1).2
  refine WP.seq (WP.region rfl ?_)
  refine WO.val (run_lss rfl rfl) rfl rfl rfl ?_
  refine WO.nil (NX.go (WP.seq ?_))
  refine WP.condP rfl (fun g43 => ?_) (fun g43 => ?_)
  ·
   refine WP.skip (NX.go (WP.seq (WP.block (WP.seq (WP.seq (WP.region rfl ?_))))))
   refine WO.val (run_load Ty.ag4 rfl ((hS33.cel_at 2 rfl 0).trans rfl)) rfl rfl rfl ?_
   refine WO.val (run_not rfl rfl) rfl rfl rfl ?_
   refine WO.nil (NX.go ?_)
   refine WP.condB rfl (fun g45 => ?_) (fun g45 => ?_)
   ·
    refine WP.seq (WP.region rfl ?_)
    refine WO.val (run_loadAgg (vs := [Value.int .i64 (i64w (getNum d).1), Value.int .i64 (i64w (getNum (nx d)).1), Value.int .i64 (i64w (getNum (nx (nx d))).1), Value.int .i64 (zag (getNum (nx (nx (nx d)))).1), Value.int .i64 (i64w (getNum (nx (nx (nx (nx d))))).1), Value.slice a acc.length cap]) Ty.ag30 Ty.sz30 rfl rfl (cell_all (hS33.cel_at 3 rfl) 0 rfl)) rfl rfl rfl ?_
    refine WO.store (l' := [Value.int .i64 (i64w (getNum d).1), Value.int .i64 (i64w (getNum (nx d)).1), Value.int .i64 (i64w (getNum (nx (nx d))).1), Value.int .i64 (zag (getNum (nx (nx (nx d)))).1), Value.int .i64 (i64w (getNum (nx (nx (nx (nx d))))).1), Value.slice a acc.length cap]) 3 hS33 rfl Ty.sz30 rfl rfl rfl rfl rfl (Nat.le_of_ble_eq_true rfl) rfl (fun w34 (hS34 : St B (own a acc.length cap 9 1 (acc.map str) :: cel g2 [str s2] 9 :: cel g6 [Value.bool b] 4 :: cel g4 [Value.int .i64 (i64w (getNum d).1), Value.int .i64 (i64w (getNum (nx d)).1), Value.int .i64 (i64w (getNum (nx (nx d))).1), Value.int .i64 (zag (getNum (nx (nx (nx d)))).1), Value.int .i64 (i64w (getNum (nx (nx (nx (nx d))))).1), Value.slice a acc.length cap] 30 :: L) w34) => ?_)
    clear hS33
    refine WO.store (l' := [Value.bool false]) 2 hS34 rfl Ty.sz4 rfl rfl rfl rfl rfl (Nat.le_of_ble_eq_true rfl) rfl (fun w35 (hS35 : St B (own a acc.length cap 9 1 (acc.map str) :: cel g2 [str s2] 9 :: cel g6 [Value.bool false] 4 :: cel g4 [Value.int .i64 (i64w (getNum d).1), Value.int .i64 (i64w (getNum (nx d)).1), Value.int .i64 (i64w (getNum (nx (nx d))).1), Value.int .i64 (zag (getNum (nx (nx (nx d)))).1), Value.int .i64 (i64w (getNum (nx (nx (nx (nx d))))).1), Value.slice a acc.length cap] 30 :: L) w35) => ?_)
    clear hS34
    refine WO.nil (NX.go (WP.ret (NX.thenRet (NX.blkRet (NX.thenRet (NX.thenRet (NX.blkRet (NX.thenRet ?_))))))))
    refine NX.doneC (l := [.cell 2 30, .cell 3 4]) rfl (.cons (.cell rfl (loadVar_agg (vs := [Value.int .i64 (i64w (getNum d).1), Value.int .i64 (i64w (getNum (nx d)).1), Value.int .i64 (i64w (getNum (nx (nx d))).1), Value.int .i64 (zag (getNum (nx (nx (nx d)))).1), Value.int .i64 (i64w (getNum (nx (nx (nx (nx d))))).1), Value.slice a acc.length cap]) Ty.ag30 Ty.sz30 rfl (cell_all (hS35.cel_at 3 rfl) 0 rfl))) (.cons (.cell rfl (loadVar_one Ty.ag4 ((hS35.cel_at 2 rfl 0).trans rfl))) .nil)) ?_
    exact ⟨cellsP d acc, a, cap, false, rfl, fun h => (by cases h), fun _ => hb0 (by simpa using g45), (hS35.permT [1, 1, 1, 0] (L' := cel g2 [str s2] 9 :: cel g6 [Value.bool false] 4 :: cel g4 [Value.int .i64 (i64w (getNum d).1), Value.int .i64 (i64w (getNum (nx d)).1), Value.int .i64 (i64w (getNum (nx (nx d))).1), Value.int .i64 (zag (getNum (nx (nx (nx d)))).1), Value.int .i64 (i64w (getNum (nx (nx (nx (nx d))))).1), Value.slice a acc.length cap] 30 :: own a acc.length cap 9 1 (acc.map str) :: L) rfl).drop.drop.drop⟩
   ·
    refine WP.skip (NX.go (WP.seq ?_))
    have hle := getText_le s2 32
    refine WP.region rfl ?_
    refine WO.val (run_load Ty.ag9 rfl ((hS33.cel_at 1 rfl 0).trans rfl)) rfl rfl rfl ?_
    refine WO.call rfl rfl Ty.hd82 rfl (getText_spec s2 32 hs2 (by decide) hS33) (fun v37 w36 pv37 => ?_)
    obtain ⟨rfl, hS36⟩ := pv37
    clear hS33
    refine WO.mv rfl rfl ?_
    refine WO.val (run_extract rfl rfl) rfl rfl rfl ?_
    refine WO.val (run_extract rfl rfl) rfl rfl rfl ?_
    refine WO.val (run_extract rfl rfl) rfl rfl rfl ?_
    refine WO.asg rfl rfl ?_
    refine WO.asg rfl rfl ?_
    refine WO.asg rfl rfl ?_
    refine WO.nil (NX.go (WP.seq ?_))
    refine WP.meet (α := Bool) (fun x => match x with | b2 => [(1, Value.pointer (some ⟨g2, 0, none⟩)), (2, Value.pointer (some ⟨g4, 0, none⟩)), (3, Value.pointer (some ⟨g6, 0, none⟩)), (4, Value.func (.func 83) #[] #[Value.pointer (some ⟨g2, 0, none⟩), Value.pointer (some ⟨g6, 0, none⟩)]), (8, str ((getText s2 32).1)), (9, Value.int .i64 ((getText s2 32).2.1 : Int)), (10, Value.int .i64 ((getText s2 32).2.2)), (41, Value.int .i64 (i64w (getNum (nx (nx (nx (nx (nx d)))))).1)), (42, Value.int .i64 (i : Int))]) (fun x w => match x with | b2 => (b2 = decide ((getText s2 32).2.2 = 0 ∧ acc.length < 16)) ∧ St B (cel g6 [Value.bool b2] 4 :: own a acc.length cap 9 1 (acc.map str) :: cel g2 [str s2] 9 :: cel g4 [Value.int .i64 (i64w (getNum d).1), Value.int .i64 (i64w (getNum (nx d)).1), Value.int .i64 (i64w (getNum (nx (nx d))).1), Value.int .i64 (zag (getNum (nx (nx (nx d)))).1), Value.int .i64 (i64w (getNum (nx (nx (nx (nx d))))).1), Value.slice a acc.length cap] 30 :: L) w) ?_ (fun K38 => ?_)
    ·
     rintro b2 w39 ⟨hb2, hS39⟩
     clear hS36
     refine NX.go ?_
     refine WD.start (fun w => (∀ j, World.cell? w ⟨g2, j, none⟩ = [str s2][j]?)) [10] (bt 11 0) Ty.mo rfl (by kernel_rfl) hS39 (fun _ h => h.cel_at 2 rfl) (fun w40 hS40 s41 => ?_)
     clear hS39
     refine WD.pure (i := 0) parseM_spec_t14 (bt 11 1) rfl rfl rfl (by kernel_rfl) (PQ.blk (PQ.then (PQ.then (PQ.blk (PQ.then PQ.body))))) rfl (fun w => run_fieldAddr (q := ⟨g4, 5, none⟩) (show fieldB Tryz.prog 30 5 = some 5 from by kernel_rfl) rfl rfl) ?_
     refine WD.pure (i := 2) parseM_spec_t14 (bt 11 5) rfl rfl rfl (by kernel_rfl) (PQ.blk (PQ.then (PQ.then (PQ.blk (PQ.then PQ.body))))) rfl (fun w => run_move rfl) ?_
     refine WD.take (i := 5) parseM_spec_t14 (bt 11 37) s41 rfl rfl rfl (by kernel_rfl) (PQ.blk (PQ.then (PQ.then (PQ.blk (PQ.then PQ.body))))) rfl (fun w hs => run_load Ty.ag9 rfl ((hs 0).trans rfl)) ?_
     refine WD.pure (i := 6) parseM_spec_t14 (bt 11 101) rfl rfl rfl (by kernel_rfl) (PQ.blk (PQ.then (PQ.then (PQ.blk (PQ.then PQ.body))))) rfl (fun w => run_move rfl) ?_
     refine WD.pure (i := 7) parseM_spec_t14 (bt 11 229) rfl rfl rfl (by kernel_rfl) (PQ.blk (PQ.then (PQ.then (PQ.blk (PQ.then PQ.body))))) rfl (fun w => run_sliceS (i := (getText s2 32).2.1) (j := s2.length) Tryz.underlying9 rfl ⟨_, rfl⟩ rfl (by omega) (Nat.le_refl _) (by rw [List.take_length])) ?_
     refine WD.two (i := 1) (k := 3) parseM_spec_t14 (bt 11 231) (bt 11 237) rfl rfl (by kernel_rfl) ?_ ?_
     ·
      refine WO.val (run_load Ty.ag22 rfl ((hS40.cel_at 3 rfl 5).trans rfl)) rfl rfl rfl ?_
      refine WO.nil ?_
      have s42 : (∀ j, World.cell? w40 ⟨g2, j, none⟩ = [str s2][j]?) := hS40.cel_at 2 rfl
      refine NX.held s42 ?_
      refine WD.one (i := 3) parseM_spec_t14 (bt 11 239) rfl (by kernel_rfl) ?_
      refine WO.buildSlice (l := [str ((getText s2 32).1)]) hS40 Tryz.underlying22 rfl (fun w => by kernel_rfl) rfl (fun g44 w43 lg44 hS43 => ?_)
      clear hS40
      have hS43 := hS43.own_of_cel (m := 1) (k := 1) rfl
      replace hS43 : St B (own (some ⟨g44, 0, none⟩) 1 1 9 1 ([(getText s2 32).1].map str) :: cel g6 [Value.bool b2] 4 :: own a acc.length cap 9 1 (acc.map str) :: cel g2 [str s2] 9 :: cel g4 [Value.int .i64 (i64w (getNum d).1), Value.int .i64 (i64w (getNum (nx d)).1), Value.int .i64 (i64w (getNum (nx (nx d))).1), Value.int .i64 (zag (getNum (nx (nx (nx d)))).1), Value.int .i64 (i64w (getNum (nx (nx (nx (nx d))))).1), Value.slice a acc.length cap] 30 :: L) w43 := hS43
      refine WO.nil ?_
      have s45 : (∀ j, World.cell? w43 ⟨g2, j, none⟩ = [str s2][j]?) := hS43.cel_at 3 rfl
      refine NX.held s45 ?_
      refine WD.one (i := 4) parseM_spec_t14 (bt 11 255) rfl (by kernel_rfl) ?_
      refine WO.append (news := ([(getText s2 32).1].map str)) 2 rfl Tryz.underlying22 Tryz.underlying22 (fun _ h => by cases h) Ty.sz9 (by decide) Ty.by9 Ty.zr9 rfl rfl rfl rfl hS43 rfl ((hS43.own_rd_i 0 rfl).src) rfl (by omega) (by omega) (fun a47 c48 w46 hS46 => ?_)
      replace hS46 : St B (own (some ⟨g44, 0, none⟩) 1 1 9 1 ([(getText s2 32).1].map str) :: cel g6 [Value.bool b2] 4 :: own a47 ((acc ++ [(getText s2 32).1]).length) c48 9 1 ((acc ++ [(getText s2 32).1]).map str) :: cel g2 [str s2] 9 :: cel g4 [Value.int .i64 (i64w (getNum d).1), Value.int .i64 (i64w (getNum (nx d)).1), Value.int .i64 (i64w (getNum (nx (nx d))).1), Value.int .i64 (zag (getNum (nx (nx (nx d)))).1), Value.int .i64 (i64w (getNum (nx (nx (nx (nx d))))).1), Value.slice a acc.length cap] 30 :: L) w46 := (by rw [List.map_append, List.length_append]; exact hS46)
      refine WO.as (d := 65) (v := Value.slice a47 ((acc ++ [(getText s2 32).1]).length) c48) rfl (by simp) ?_
      clear hS43
      refine WO.nil ?_
      have s49 : (∀ j, World.cell? w46 ⟨g2, j, none⟩ = [str s2][j]?) := hS46.cel_at 3 rfl
      refine NX.held s49 ?_
      refine WD.pure (i := 8) parseM_spec_t14 (bt 11 511) rfl rfl rfl (by kernel_rfl) (PQ.blk (PQ.then (PQ.then (PQ.blk (PQ.then PQ.body))))) rfl (fun w => run_fieldAddr (q := ⟨g4, 5, none⟩) (show fieldB Tryz.prog 30 5 = some 5 from by kernel_rfl) rfl rfl) ?_
      refine WD.one (i := 9) parseM_spec_t14 (bt 11 1023) rfl (by kernel_rfl) ?_
      refine WO.store (l' := [Value.int .i64 (i64w (getNum d).1), Value.int .i64 (i64w (getNum (nx d)).1), Value.int .i64 (i64w (getNum (nx (nx d))).1), Value.int .i64 (zag (getNum (nx (nx (nx d)))).1), Value.int .i64 (i64w (getNum (nx (nx (nx (nx d))))).1), Value.slice a47 ((acc ++ [(getText s2 32).1]).length) c48]) 4 hS46 rfl Ty.sz22 rfl rfl rfl rfl rfl (Nat.le_of_ble_eq_true rfl) rfl (fun w50 (hS50 : St B (own (some ⟨g44, 0, none⟩) 1 1 9 1 ([(getText s2 32).1].map str) :: cel g6 [Value.bool b2] 4 :: own a47 ((acc ++ [(getText s2 32).1]).length) c48 9 1 ((acc ++ [(getText s2 32).1]).map str) :: cel g2 [str s2] 9 :: cel g4 [Value.int .i64 (i64w (getNum d).1), Value.int .i64 (i64w (getNum (nx d)).1), Value.int .i64 (i64w (getNum (nx (nx d))).1), Value.int .i64 (zag (getNum (nx (nx (nx d)))).1), Value.int .i64 (i64w (getNum (nx (nx (nx (nx d))))).1), Value.slice a47 ((acc ++ [(getText s2 32).1]).length) c48] 30 :: L) w50) => ?_)
      clear hS46
      refine WO.nil ?_
      have s51 : (∀ j, World.cell? w50 ⟨g2, j, none⟩ = [str s2][j]?) := hS50.cel_at 3 rfl
      refine NX.held s51 ?_
      refine WD.one (i := 10) parseM_spec_t14 (bt 11 2047) rfl (by kernel_rfl) ?_
      refine WO.store (l' := [str (s2.drop ((getText s2 32).2.1))]) 3 hS50 rfl Ty.sz9 rfl rfl rfl rfl rfl (Nat.le_of_ble_eq_true rfl) rfl (fun w52 (hS52 : St B (own (some ⟨g44, 0, none⟩) 1 1 9 1 ([(getText s2 32).1].map str) :: cel g6 [Value.bool b2] 4 :: own a47 ((acc ++ [(getText s2 32).1]).length) c48 9 1 ((acc ++ [(getText s2 32).1]).map str) :: cel g2 [str (s2.drop ((getText s2 32).2.1))] 9 :: cel g4 [Value.int .i64 (i64w (getNum d).1), Value.int .i64 (i64w (getNum (nx d)).1), Value.int .i64 (i64w (getNum (nx (nx d))).1), Value.int .i64 (zag (getNum (nx (nx (nx d)))).1), Value.int .i64 (i64w (getNum (nx (nx (nx (nx d))))).1), Value.slice a47 ((acc ++ [(getText s2 32).1]).length) c48] 30 :: L) w52) => ?_)
      clear hS50
      refine WO.nil ?_
      refine NX.last (by decide) ?_
      refine WD.done parseM_spec_t14 (by kernel_rfl) ?_
      refine NX.blk (NX.go (WP.region rfl ?_))
      refine WO.val (run_add rfl rfl (IntWalk.i64_in _ (by omega))) rfl rfl rfl ?_
      refine WO.mv rfl rfl ?_
      refine WO.nil ?_
      exact NX.again (i + 1, b2, s2.drop (getText s2 32).2.1, acc ++ [(getText s2 32).1], a47, c48) ⟨parse_next (by simpa using g45) hb1 (by omega) hb2 hs2 hat, (hS52.permT [0, 1, 1, 0, 0] (L' := own (some ⟨g44, 0, none⟩) 1 1 9 1 ([(getText s2 32).1].map str) :: own a47 ((acc ++ [(getText s2 32).1]).length) c48 9 1 ((acc ++ [(getText s2 32).1]).map str) :: cel g2 [str (s2.drop ((getText s2 32).2.1))] 9 :: cel g6 [Value.bool b2] 4 :: cel g4 [Value.int .i64 (i64w (getNum d).1), Value.int .i64 (i64w (getNum (nx d)).1), Value.int .i64 (i64w (getNum (nx (nx d))).1), Value.int .i64 (zag (getNum (nx (nx (nx d)))).1), Value.int .i64 (i64w (getNum (nx (nx (nx (nx d))))).1), Value.slice a47 ((acc ++ [(getText s2 32).1]).length) c48] 30 :: L) rfl).drop⟩ (by show (i64w (getNum (nx (nx (nx (nx (nx d)))))).1).toNat - (i + 1) < (i64w (getNum (nx (nx (nx (nx (nx d)))))).1).toNat - i; omega) (Sub.cons rfl (Sub.cons rfl (Sub.cons rfl (Sub.cons rfl (Sub.cons rfl (Sub.consE rfl (by congr 1) (Sub.nil _)))))))
     ·
      refine WO.buildSlice (l := [str ((getText s2 32).1)]) hS40 Tryz.underlying22 rfl (fun w => by kernel_rfl) rfl (fun g54 w53 lg54 hS53 => ?_)
      clear hS40
      have hS53 := hS53.own_of_cel (m := 1) (k := 1) rfl
      replace hS53 : St B (own (some ⟨g54, 0, none⟩) 1 1 9 1 ([(getText s2 32).1].map str) :: cel g6 [Value.bool b2] 4 :: own a acc.length cap 9 1 (acc.map str) :: cel g2 [str s2] 9 :: cel g4 [Value.int .i64 (i64w (getNum d).1), Value.int .i64 (i64w (getNum (nx d)).1), Value.int .i64 (i64w (getNum (nx (nx d))).1), Value.int .i64 (zag (getNum (nx (nx (nx d)))).1), Value.int .i64 (i64w (getNum (nx (nx (nx (nx d))))).1), Value.slice a acc.length cap] 30 :: L) w53 := hS53
      refine WO.nil ?_
      have s55 : (∀ j, World.cell? w53 ⟨g2, j, none⟩ = [str s2][j]?) := hS53.cel_at 3 rfl
      refine NX.held s55 ?_
      refine WD.one (i := 1) parseM_spec_t14 (bt 11 239) rfl (by kernel_rfl) ?_
      refine WO.val (run_load Ty.ag22 rfl ((hS53.cel_at 4 rfl 5).trans rfl)) rfl rfl rfl ?_
      refine WO.nil ?_
      have s56 : (∀ j, World.cell? w53 ⟨g2, j, none⟩ = [str s2][j]?) := hS53.cel_at 3 rfl
      refine NX.held s56 ?_
      refine WD.one (i := 4) parseM_spec_t14 (bt 11 255) rfl (by kernel_rfl) ?_
      refine WO.append (news := ([(getText s2 32).1].map str)) 2 rfl Tryz.underlying22 Tryz.underlying22 (fun _ h => by cases h) Ty.sz9 (by decide) Ty.by9 Ty.zr9 rfl rfl rfl rfl hS53 rfl ((hS53.own_rd_i 0 rfl).src) rfl (by omega) (by omega) (fun a58 c59 w57 hS57 => ?_)
      replace hS57 : St B (own (some ⟨g54, 0, none⟩) 1 1 9 1 ([(getText s2 32).1].map str) :: cel g6 [Value.bool b2] 4 :: own a58 ((acc ++ [(getText s2 32).1]).length) c59 9 1 ((acc ++ [(getText s2 32).1]).map str) :: cel g2 [str s2] 9 :: cel g4 [Value.int .i64 (i64w (getNum d).1), Value.int .i64 (i64w (getNum (nx d)).1), Value.int .i64 (i64w (getNum (nx (nx d))).1), Value.int .i64 (zag (getNum (nx (nx (nx d)))).1), Value.int .i64 (i64w (getNum (nx (nx (nx (nx d))))).1), Value.slice a acc.length cap] 30 :: L) w57 := (by rw [List.map_append, List.length_append]; exact hS57)
      refine WO.as (d := 65) (v := Value.slice a58 ((acc ++ [(getText s2 32).1]).length) c59) rfl (by simp) ?_
      clear hS53
      refine WO.nil ?_
      have s60 : (∀ j, World.cell? w57 ⟨g2, j, none⟩ = [str s2][j]?) := hS57.cel_at 3 rfl
      refine NX.held s60 ?_
      refine WD.pure (i := 8) parseM_spec_t14 (bt 11 511) rfl rfl rfl (by kernel_rfl) (PQ.blk (PQ.then (PQ.then (PQ.blk (PQ.then PQ.body))))) rfl (fun w => run_fieldAddr (q := ⟨g4, 5, none⟩) (show fieldB Tryz.prog 30 5 = some 5 from by kernel_rfl) rfl rfl) ?_
      refine WD.one (i := 9) parseM_spec_t14 (bt 11 1023) rfl (by kernel_rfl) ?_
      refine WO.store (l' := [Value.int .i64 (i64w (getNum d).1), Value.int .i64 (i64w (getNum (nx d)).1), Value.int .i64 (i64w (getNum (nx (nx d))).1), Value.int .i64 (zag (getNum (nx (nx (nx d)))).1), Value.int .i64 (i64w (getNum (nx (nx (nx (nx d))))).1), Value.slice a58 ((acc ++ [(getText s2 32).1]).length) c59]) 4 hS57 rfl Ty.sz22 rfl rfl rfl rfl rfl (Nat.le_of_ble_eq_true rfl) rfl (fun w61 (hS61 : St B (own (some ⟨g54, 0, none⟩) 1 1 9 1 ([(getText s2 32).1].map str) :: cel g6 [Value.bool b2] 4 :: own a58 ((acc ++ [(getText s2 32).1]).length) c59 9 1 ((acc ++ [(getText s2 32).1]).map str) :: cel g2 [str s2] 9 :: cel g4 [Value.int .i64 (i64w (getNum d).1), Value.int .i64 (i64w (getNum (nx d)).1), Value.int .i64 (i64w (getNum (nx (nx d))).1), Value.int .i64 (zag (getNum (nx (nx (nx d)))).1), Value.int .i64 (i64w (getNum (nx (nx (nx (nx d))))).1), Value.slice a58 ((acc ++ [(getText s2 32).1]).length) c59] 30 :: L) w61) => ?_)
      clear hS57
      refine WO.nil ?_
      have s62 : (∀ j, World.cell? w61 ⟨g2, j, none⟩ = [str s2][j]?) := hS61.cel_at 3 rfl
      refine NX.held s62 ?_
      refine WD.one (i := 10) parseM_spec_t14 (bt 11 2047) rfl (by kernel_rfl) ?_
      refine WO.store (l' := [str (s2.drop ((getText s2 32).2.1))]) 3 hS61 rfl Ty.sz9 rfl rfl rfl rfl rfl (Nat.le_of_ble_eq_true rfl) rfl (fun w63 (hS63 : St B (own (some ⟨g54, 0, none⟩) 1 1 9 1 ([(getText s2 32).1].map str) :: cel g6 [Value.bool b2] 4 :: own a58 ((acc ++ [(getText s2 32).1]).length) c59 9 1 ((acc ++ [(getText s2 32).1]).map str) :: cel g2 [str (s2.drop ((getText s2 32).2.1))] 9 :: cel g4 [Value.int .i64 (i64w (getNum d).1), Value.int .i64 (i64w (getNum (nx d)).1), Value.int .i64 (i64w (getNum (nx (nx d))).1), Value.int .i64 (zag (getNum (nx (nx (nx d)))).1), Value.int .i64 (i64w (getNum (nx (nx (nx (nx d))))).1), Value.slice a58 ((acc ++ [(getText s2 32).1]).length) c59] 30 :: L) w63) => ?_)
      clear hS61
      refine WO.nil ?_
      refine NX.last (by decide) ?_
      refine WD.done parseM_spec_t14 (by kernel_rfl) ?_
      refine NX.blk (NX.go (WP.region rfl ?_))
      refine WO.val (run_add rfl rfl (IntWalk.i64_in _ (by omega))) rfl rfl rfl ?_
      refine WO.mv rfl rfl ?_
      refine WO.nil ?_
      exact NX.again (i + 1, b2, s2.drop (getText s2 32).2.1, acc ++ [(getText s2 32).1], a58, c59) ⟨parse_next (by simpa using g45) hb1 (by omega) hb2 hs2 hat, (hS63.permT [0, 1, 1, 0, 0] (L' := own (some ⟨g54, 0, none⟩) 1 1 9 1 ([(getText s2 32).1].map str) :: own a58 ((acc ++ [(getText s2 32).1]).length) c59 9 1 ((acc ++ [(getText s2 32).1]).map str) :: cel g2 [str (s2.drop ((getText s2 32).2.1))] 9 :: cel g6 [Value.bool b2] 4 :: cel g4 [Value.int .i64 (i64w (getNum d).1), Value.int .i64 (i64w (getNum (nx d)).1), Value.int .i64 (i64w (getNum (nx (nx d))).1), Value.int .i64 (zag (getNum (nx (nx (nx d)))).1), Value.int .i64 (i64w (getNum (nx (nx (nx (nx d))))).1), Value.slice a58 ((acc ++ [(getText s2 32).1]).length) c59] 30 :: L) rfl).drop⟩ (by show (i64w (getNum (nx (nx (nx (nx (nx d)))))).1).toNat - (i + 1) < (i64w (getNum (nx (nx (nx (nx (nx d)))))).1).toNat - i; omega) (Sub.cons rfl (Sub.cons rfl (Sub.cons rfl (Sub.cons rfl (Sub.cons rfl (Sub.consE rfl (by congr 1) (Sub.nil _)))))))
    ·
     refine WP.region rfl ?_
     refine WO.mv rfl rfl ?_
     refine WO.val (run_eql rfl rfl) rfl rfl rfl ?_
     refine WO.mv rfl rfl ?_
     by_cases g55 : ((getText s2 32).2.2) = 0
     ·
      refine WO.on rfl rfl (decide_eq_true g55) ?_
      refine WO.val (run_fieldAddr (q := ⟨g4, 5, none⟩) (show fieldB Tryz.prog 30 5 = some 5 from by kernel_rfl) rfl rfl) rfl rfl rfl ?_
      refine WO.on rfl rfl (decide_eq_true g55) ?_
      refine WO.val (run_load Ty.ag22 rfl ((hS36.cel_at 3 rfl 5).trans rfl)) rfl rfl rfl ?_
      refine WO.on rfl rfl (decide_eq_true g55) ?_
      refine WO.val (run_len rfl Tryz.underlying22 rfl) rfl rfl rfl ?_
      refine WO.on rfl rfl (decide_eq_true g55) ?_
      refine WO.val (run_lss rfl rfl) rfl rfl rfl ?_
      refine WO.val (run_pickT rfl (decide_eq_true g55) rfl) rfl rfl rfl ?_
      refine WO.store (l' := [Value.bool (decide (((acc.length : Nat) : Int) < 16))]) 2 hS36 rfl Ty.sz4 rfl rfl rfl rfl rfl (Nat.le_of_ble_eq_true rfl) rfl (fun w64 (hS64 : St B (own a acc.length cap 9 1 (acc.map str) :: cel g2 [str s2] 9 :: cel g6 [Value.bool (decide (((acc.length : Nat) : Int) < 16))] 4 :: cel g4 [Value.int .i64 (i64w (getNum d).1), Value.int .i64 (i64w (getNum (nx d)).1), Value.int .i64 (i64w (getNum (nx (nx d))).1), Value.int .i64 (zag (getNum (nx (nx (nx d)))).1), Value.int .i64 (i64w (getNum (nx (nx (nx (nx d))))).1), Value.slice a acc.length cap] 30 :: L) w64) => ?_)
      clear hS36
      refine WO.nil ?_
      exact K38 (decide (((acc.length : Nat) : Int) < 16)) _ _ ⟨decide_eq_decide.2 ⟨fun h => ⟨g55, by omega⟩, fun h => by have := h.2; omega⟩, (hS64.permT [2, 0, 0, 0] (L' := cel g6 [Value.bool (decide (((acc.length : Nat) : Int) < 16))] 4 :: own a acc.length cap 9 1 (acc.map str) :: cel g2 [str s2] 9 :: cel g4 [Value.int .i64 (i64w (getNum d).1), Value.int .i64 (i64w (getNum (nx d)).1), Value.int .i64 (i64w (getNum (nx (nx d))).1), Value.int .i64 (zag (getNum (nx (nx (nx d)))).1), Value.int .i64 (i64w (getNum (nx (nx (nx (nx d))))).1), Value.slice a acc.length cap] 30 :: L) rfl)⟩ (Sub.cons rfl (Sub.cons rfl (Sub.cons rfl (Sub.cons rfl (Sub.cons rfl (Sub.cons rfl (Sub.cons rfl (Sub.cons rfl (Sub.cons rfl (Sub.nil _))))))))))
     ·
      refine WO.off rfl rfl (decide_eq_false g55) rfl ?_
      refine WO.off rfl rfl (decide_eq_false g55) rfl ?_
      refine WO.off rfl rfl (decide_eq_false g55) rfl ?_
      refine WO.off rfl rfl (decide_eq_false g55) rfl ?_
      refine WO.val (run_pickF rfl (decide_eq_false g55) rfl) rfl rfl rfl ?_
      refine WO.store (l' := [Value.bool false]) 2 hS36 rfl Ty.sz4 rfl rfl rfl rfl rfl (Nat.le_of_ble_eq_true rfl) rfl (fun w65 (hS65 : St B (own a acc.length cap 9 1 (acc.map str) :: cel g2 [str s2] 9 :: cel g6 [Value.bool false] 4 :: cel g4 [Value.int .i64 (i64w (getNum d).1), Value.int .i64 (i64w (getNum (nx d)).1), Value.int .i64 (i64w (getNum (nx (nx d))).1), Value.int .i64 (zag (getNum (nx (nx (nx d)))).1), Value.int .i64 (i64w (getNum (nx (nx (nx (nx d))))).1), Value.slice a acc.length cap] 30 :: L) w65) => ?_)
      clear hS36
      refine WO.nil ?_
      exact K38 false _ _ ⟨(decide_eq_false (fun h => g55 h.1)).symm, (hS65.permT [2, 0, 0, 0] (L' := cel g6 [Value.bool false] 4 :: own a acc.length cap 9 1 (acc.map str) :: cel g2 [str s2] 9 :: cel g4 [Value.int .i64 (i64w (getNum d).1), Value.int .i64 (i64w (getNum (nx d)).1), Value.int .i64 (i64w (getNum (nx (nx d))).1), Value.int .i64 (zag (getNum (nx (nx (nx d)))).1), Value.int .i64 (i64w (getNum (nx (nx (nx (nx d))))).1), Value.slice a acc.length cap] 30 :: L) rfl)⟩ (Sub.cons rfl (Sub.cons rfl (Sub.cons rfl (Sub.cons rfl (Sub.cons rfl (Sub.cons rfl (Sub.cons rfl (Sub.cons rfl (Sub.cons rfl (Sub.nil _))))))))))
  ·
   refine WP.exit (NX.thenExit (NX.thenExit ?_))
   refine NX.blkExit ?_
   refine NX.go (WP.seq ?_)
   refine WD.start (fun w => (∀ j, World.cell? w ⟨g2, j, none⟩ = [str s2][j]?) ∧ (∀ j, World.cell? w ⟨g6, j, none⟩ = [Value.bool b][j]?)) [7] (bt 8 0) Ty.mo rfl (by kernel_rfl) hS33 (fun _ h => ⟨h.cel_at 1 rfl, h.cel_at 2 rfl⟩) (fun w66 hS66 s67 => ?_)
   clear hS33
   refine WD.take (i := 1) parseM_spec_t16 (bt 8 2) s67 rfl rfl rfl (by kernel_rfl) (PQ.then PQ.body) rfl (fun w hs => run_load Ty.ag4 rfl ((hs.2 0).trans rfl)) ?_
   refine WD.pure (i := 2) parseM_spec_t16 (bt 8 6) rfl rfl rfl (by kernel_rfl) (PQ.then PQ.body) rfl (fun w => run_move rfl) ?_
   rcases Bool.eq_false_or_eq_true b with g73 | g73
   ·
    refine WD.takeOn (i := 3) parseM_spec_t16 (bt 8 14) s67 rfl rfl rfl g73 (by kernel_rfl) (PQ.then PQ.body) rfl (fun w hs => run_load Ty.ag9 rfl ((hs.1 0).trans rfl)) ?_
    refine WD.pureOn (i := 4) parseM_spec_t16 (bt 8 30) rfl rfl rfl g73 (by kernel_rfl) (PQ.then PQ.body) rfl (fun w => run_eqlS rfl rfl) ?_
    refine WD.pure (i := 5) parseM_spec_t16 (bt 8 62) rfl rfl rfl (by kernel_rfl) (PQ.then PQ.body) rfl (fun w => run_pickT rfl g73 rfl) ?_
    refine WD.one (i := 0) parseM_spec_t16 (bt 8 63) rfl (by kernel_rfl) ?_
    refine WO.val (run_loadAgg (vs := [Value.int .i64 (i64w (getNum d).1), Value.int .i64 (i64w (getNum (nx d)).1), Value.int .i64 (i64w (getNum (nx (nx d))).1), Value.int .i64 (zag (getNum (nx (nx (nx d)))).1), Value.int .i64 (i64w (getNum (nx (nx (nx (nx d))))).1), Value.slice a acc.length cap]) Ty.ag30 Ty.sz30 rfl rfl (cell_all (hS66.cel_at 3 rfl) 0 rfl)) rfl rfl rfl ?_
    refine WO.nil ?_
    have s68 : (∀ j, World.cell? w66 ⟨g2, j, none⟩ = [str s2][j]?) ∧ (∀ j, World.cell? w66 ⟨g6, j, none⟩ = [Value.bool b][j]?) := ⟨hS66.cel_at 1 rfl, hS66.cel_at 2 rfl⟩
    refine NX.held s68 ?_
    refine WD.one (i := 6) parseM_spec_t16 (bt 8 127) rfl (by kernel_rfl) ?_
    refine WO.store (l' := [Value.int .i64 (i64w (getNum d).1), Value.int .i64 (i64w (getNum (nx d)).1), Value.int .i64 (i64w (getNum (nx (nx d))).1), Value.int .i64 (zag (getNum (nx (nx (nx d)))).1), Value.int .i64 (i64w (getNum (nx (nx (nx (nx d))))).1), Value.slice a acc.length cap]) 3 hS66 rfl Ty.sz30 rfl rfl rfl rfl rfl (Nat.le_of_ble_eq_true rfl) rfl (fun w69 (hS69 : St B (own a acc.length cap 9 1 (acc.map str) :: cel g2 [str s2] 9 :: cel g6 [Value.bool b] 4 :: cel g4 [Value.int .i64 (i64w (getNum d).1), Value.int .i64 (i64w (getNum (nx d)).1), Value.int .i64 (i64w (getNum (nx (nx d))).1), Value.int .i64 (zag (getNum (nx (nx (nx d)))).1), Value.int .i64 (i64w (getNum (nx (nx (nx (nx d))))).1), Value.slice a acc.length cap] 30 :: L) w69) => ?_)
    clear hS66
    refine WO.nil ?_
    have s70 : (∀ j, World.cell? w69 ⟨g2, j, none⟩ = [str s2][j]?) ∧ (∀ j, World.cell? w69 ⟨g6, j, none⟩ = [Value.bool b][j]?) := ⟨hS69.cel_at 1 rfl, hS69.cel_at 2 rfl⟩
    refine NX.held s70 ?_
    refine WD.one (i := 7) parseM_spec_t16 (bt 8 255) rfl (by kernel_rfl) ?_
    refine WO.store (l' := [Value.bool (decide (s2 = []))]) 2 hS69 rfl Ty.sz4 rfl rfl rfl rfl rfl (Nat.le_of_ble_eq_true rfl) rfl (fun w71 (hS71 : St B (own a acc.length cap 9 1 (acc.map str) :: cel g2 [str s2] 9 :: cel g6 [Value.bool (decide (s2 = []))] 4 :: cel g4 [Value.int .i64 (i64w (getNum d).1), Value.int .i64 (i64w (getNum (nx d)).1), Value.int .i64 (i64w (getNum (nx (nx d))).1), Value.int .i64 (zag (getNum (nx (nx (nx d)))).1), Value.int .i64 (i64w (getNum (nx (nx (nx (nx d))))).1), Value.slice a acc.length cap] 30 :: L) w71) => ?_)
    clear hS69
    refine WO.nil ?_
    refine NX.last (by decide) ?_
    refine WD.done parseM_spec_t16 (by kernel_rfl) ?_
    refine NX.go (WP.ret ?_)
    refine NX.doneC (l := [.cell 2 30, .cell 3 4]) rfl (.cons (.cell rfl (loadVar_agg (vs := [Value.int .i64 (i64w (getNum d).1), Value.int .i64 (i64w (getNum (nx d)).1), Value.int .i64 (i64w (getNum (nx (nx d))).1), Value.int .i64 (zag (getNum (nx (nx (nx d)))).1), Value.int .i64 (i64w (getNum (nx (nx (nx (nx d))))).1), Value.slice a acc.length cap]) Ty.ag30 Ty.sz30 rfl (cell_all (hS71.cel_at 3 rfl) 0 rfl))) (.cons (.cell rfl (loadVar_one Ty.ag4 ((hS71.cel_at 2 rfl 0).trans rfl))) .nil)) ?_
    have hfin : b = true → ok6 d ∧ acc.length ≤ 17 ∧ parseM d = if s2 = [] then some (head6 d acc) else none := fun h => (by obtain ⟨k1, k2, k3, k4⟩ := hb1 h; have hw := i64w_small k1.2.2.2.2.2.2; rw [hw] at g43; have e : (getNum (nx (nx (nx (nx (nx d)))))).1 - i = 0 := (by omega); rw [e] at k3; exact ⟨k1, ha17, parse_yes k1 k3.symm⟩)
    exact ⟨cellsP d acc, a, cap, decide (s2 = []), rfl, fun h => (by obtain ⟨k1, k2, k3⟩ := hfin g73; rw [if_pos (of_decide_eq_true h)] at k3; rw [cellsP_ok k1]; exact ⟨k3, head6_rng k1 k2 hat⟩), fun h => (by obtain ⟨k1, k2, k3⟩ := hfin g73; rw [if_neg (of_decide_eq_false h)] at k3; exact k3), (hS71.permT [1, 1, 1, 0] (L' := cel g2 [str s2] 9 :: cel g6 [Value.bool (decide (s2 = []))] 4 :: cel g4 [Value.int .i64 (i64w (getNum d).1), Value.int .i64 (i64w (getNum (nx d)).1), Value.int .i64 (i64w (getNum (nx (nx d))).1), Value.int .i64 (zag (getNum (nx (nx (nx d)))).1), Value.int .i64 (i64w (getNum (nx (nx (nx (nx d))))).1), Value.slice a acc.length cap] 30 :: own a acc.length cap 9 1 (acc.map str) :: L) rfl).drop.drop.drop⟩
   ·
    refine WD.off (i := 3) parseM_spec_t16 (bt 8 14) rfl rfl rfl g73 (by kernel_rfl) (PQ.then PQ.body) rfl ?_
    refine WD.off (i := 4) parseM_spec_t16 (bt 8 30) rfl rfl rfl g73 (by kernel_rfl) (PQ.then PQ.body) rfl ?_
    refine WD.pure (i := 5) parseM_spec_t16 (bt 8 62) rfl rfl rfl (by kernel_rfl) (PQ.then PQ.body) rfl (fun w => run_pickF rfl g73 rfl) ?_
    refine WD.one (i := 0) parseM_spec_t16 (bt 8 63) rfl (by kernel_rfl) ?_
    refine WO.val (run_loadAgg (vs := [Value.int .i64 (i64w (getNum d).1), Value.int .i64 (i64w (getNum (nx d)).1), Value.int .i64 (i64w (getNum (nx (nx d))).1), Value.int .i64 (zag (getNum (nx (nx (nx d)))).1), Value.int .i64 (i64w (getNum (nx (nx (nx (nx d))))).1), Value.slice a acc.length cap]) Ty.ag30 Ty.sz30 rfl rfl (cell_all (hS66.cel_at 3 rfl) 0 rfl)) rfl rfl rfl ?_
    refine WO.nil ?_
    have s72 : (∀ j, World.cell? w66 ⟨g2, j, none⟩ = [str s2][j]?) ∧ (∀ j, World.cell? w66 ⟨g6, j, none⟩ = [Value.bool b][j]?) := ⟨hS66.cel_at 1 rfl, hS66.cel_at 2 rfl⟩
    refine NX.held s72 ?_
    refine WD.one (i := 6) parseM_spec_t16 (bt 8 127) rfl (by kernel_rfl) ?_
    refine WO.store (l' := [Value.int .i64 (i64w (getNum d).1), Value.int .i64 (i64w (getNum (nx d)).1), Value.int .i64 (i64w (getNum (nx (nx d))).1), Value.int .i64 (zag (getNum (nx (nx (nx d)))).1), Value.int .i64 (i64w (getNum (nx (nx (nx (nx d))))).1), Value.slice a acc.length cap]) 3 hS66 rfl Ty.sz30 rfl rfl rfl rfl rfl (Nat.le_of_ble_eq_true rfl) rfl (fun w73 (hS73 : St B (own a acc.length cap 9 1 (acc.map str) :: cel g2 [str s2] 9 :: cel g6 [Value.bool b] 4 :: cel g4 [Value.int .i64 (i64w (getNum d).1), Value.int .i64 (i64w (getNum (nx d)).1), Value.int .i64 (i64w (getNum (nx (nx d))).1), Value.int .i64 (zag (getNum (nx (nx (nx d)))).1), Value.int .i64 (i64w (getNum (nx (nx (nx (nx d))))).1), Value.slice a acc.length cap] 30 :: L) w73) => ?_)
    clear hS66
    refine WO.nil ?_
    have s74 : (∀ j, World.cell? w73 ⟨g2, j, none⟩ = [str s2][j]?) ∧ (∀ j, World.cell? w73 ⟨g6, j, none⟩ = [Value.bool b][j]?) := ⟨hS73.cel_at 1 rfl, hS73.cel_at 2 rfl⟩
    refine NX.held s74 ?_
    refine WD.one (i := 7) parseM_spec_t16 (bt 8 255) rfl (by kernel_rfl) ?_
    refine WO.store (l' := [Value.bool false]) 2 hS73 rfl Ty.sz4 rfl rfl rfl rfl rfl (Nat.le_of_ble_eq_true rfl) rfl (fun w75 (hS75 : St B (own a acc.length cap 9 1 (acc.map str) :: cel g2 [str s2] 9 :: cel g6 [Value.bool false] 4 :: cel g4 [Value.int .i64 (i64w (getNum d).1), Value.int .i64 (i64w (getNum (nx d)).1), Value.int .i64 (i64w (getNum (nx (nx d))).1), Value.int .i64 (zag (getNum (nx (nx (nx d)))).1), Value.int .i64 (i64w (getNum (nx (nx (nx (nx d))))).1), Value.slice a acc.length cap] 30 :: L) w75) => ?_)
    clear hS73
    refine WO.nil ?_
    refine NX.last (by decide) ?_
    refine WD.done parseM_spec_t16 (by kernel_rfl) ?_
    refine NX.go (WP.ret ?_)
    refine NX.doneC (l := [.cell 2 30, .cell 3 4]) rfl (.cons (.cell rfl (loadVar_agg (vs := [Value.int .i64 (i64w (getNum d).1), Value.int .i64 (i64w (getNum (nx d)).1), Value.int .i64 (i64w (getNum (nx (nx d))).1), Value.int .i64 (zag (getNum (nx (nx (nx d)))).1), Value.int .i64 (i64w (getNum (nx (nx (nx (nx d))))).1), Value.slice a acc.length cap]) Ty.ag30 Ty.sz30 rfl (cell_all (hS75.cel_at 3 rfl) 0 rfl))) (.cons (.cell rfl (loadVar_one Ty.ag4 ((hS75.cel_at 2 rfl 0).trans rfl))) .nil)) ?_
    exact ⟨cellsP d acc, a, cap, false, rfl, fun h => (by cases h), fun _ => hb0 g73, (hS75.permT [1, 1, 1, 0] (L' := cel g2 [str s2] 9 :: cel g6 [Value.bool false] 4 :: cel g4 [Value.int .i64 (i64w (getNum d).1), Value.int .i64 (i64w (getNum (nx d)).1), Value.int .i64 (i64w (getNum (nx (nx d))).1), Value.int .i64 (zag (getNum (nx (nx (nx d)))).1), Value.int .i64 (i64w (getNum (nx (nx (nx (nx d))))).1), Value.slice a acc.length cap] 30 :: own a acc.length cap 9 1 (acc.map str) :: L) rfl).drop.drop.drop⟩
 ·
  refine WP.region rfl ?_
  refine WO.val (run_load Ty.ag4 rfl ((hS18.cel_at 1 rfl 0).trans rfl)) rfl rfl rfl ?_
  refine WO.mv rfl rfl ?_
  rcases Bool.eq_false_or_eq_true (((true && decide (okN d)) && decide (okN (nx d))) && decide (okN (nx (nx d)))) with g28 | g28
  ·
   refine WO.on rfl rfl g28 ?_
   refine WO.mv rfl rfl ?_
   refine WO.on rfl rfl g28 ?_
   refine WO.val (run_eql rfl rfl) rfl rfl rfl ?_
   refine WO.val (run_pickT rfl g28 rfl) rfl rfl rfl ?_
   refine WO.store (l' := [Value.bool (decide (((getNum (nx (nx (nx d)))).2.2) = 0))]) 1 hS18 rfl Ty.sz4 rfl rfl rfl rfl rfl (Nat.le_of_ble_eq_true rfl) rfl (fun w76 (hS76 : St B (cel g2 [str (nx (nx (nx d)))] 9 :: cel g6 [Value.bool (decide (((getNum (nx (nx (nx d)))).2.2) = 0))] 4 :: cel g4 [Value.int .i64 (i64w (getNum d).1), Value.int .i64 (i64w (getNum (nx d)).1), Value.int .i64 (i64w (getNum (nx (nx d))).1), Value.int .i64 0, Value.int .i64 0, Value.slice none 0 0] 30 :: L) w76) => ?_)
   clear hS18
   refine WO.nil ?_
   exact K20 () _ _ (by have e : decide (((getNum (nx (nx (nx d)))).2.2) = 0) = ((((true && decide (okN d)) && decide (okN (nx d))) && decide (okN (nx (nx d)))) && decide ((getNum (nx (nx (nx d)))).2.2 = 0)) := (by rw [g28]; rfl); rw [e] at hS76; exact hS76) (Sub.cons rfl (Sub.cons rfl (Sub.cons rfl (Sub.cons rfl (Sub.cons rfl (Sub.cons rfl (Sub.nil _)))))))
  ·
   refine WO.off rfl rfl g28 rfl ?_
   refine WO.off rfl rfl g28 rfl ?_
   refine WO.val (run_pickF rfl g28 rfl) rfl rfl rfl ?_
   refine WO.store (l' := [Value.bool false]) 1 hS18 rfl Ty.sz4 rfl rfl rfl rfl rfl (Nat.le_of_ble_eq_true rfl) rfl (fun w77 (hS77 : St B (cel g2 [str (nx (nx (nx d)))] 9 :: cel g6 [Value.bool false] 4 :: cel g4 [Value.int .i64 (i64w (getNum d).1), Value.int .i64 (i64w (getNum (nx d)).1), Value.int .i64 (i64w (getNum (nx (nx d))).1), Value.int .i64 0, Value.int .i64 0, Value.slice none 0 0] 30 :: L) w77) => ?_)
   clear hS18
   refine WO.nil ?_
   exact K20 () _ _ (by have e : false = ((((true && decide (okN d)) && decide (okN (nx d))) && decide (okN (nx (nx d)))) && decide ((getNum (nx (nx (nx d)))).2.2 = 0)) := (by rw [g28]; rfl); rw [e] at hS77; exact hS77) (Sub.cons rfl (Sub.cons rfl (Sub.cons rfl (Sub.cons rfl (Sub.cons rfl (Sub.cons rfl (Sub.nil _)))))))
end Go.Proofs.YtcehlnpbdffdhaaGreatDoor.SL

/- Manifests: read of bytes. -/
namespace Go.Proofs.YtcehlnpbdffdhaaGreatDoor.SL
open Go.RowKit Go.Proofs.YtcehlnpbdffdhaaGreatDoor
open Go.Proofs.YtcehlnpbdffdhaaGreatDoorW.PrintLast (rtab opsOf)
set_option linter.unusedVariables false
set_option linter.unusedSimpArgs false
theorem none_spec {B w : World} {L : List HP} (hS : St B L w) : Does Tryz.prog 58 [] w (fun v w1 => v = manV noneM none 0 ∧ St B L w1) := by
 refine enter (n := 2) Tryz.func58 rfl rfl [] rfl ?_
 refine WP.seq (WP.region rfl ?_)
 refine WO.alloc (l := [Value.int .i64 0, Value.int .i64 0, Value.int .i64 0, Value.int .i64 0, Value.int .i64 0, Value.slice none 0 0]) hS Ty.zr30 rfl rfl (fun g2 w1 lg2 hS1 => ?_)
 clear hS
 refine WO.nil (NX.go (WP.seq (WP.region rfl ?_)))
 refine WO.val (run_build (v := Value.agg #[Value.int .i64 1, Value.int .i64 0, Value.int .i64 1, Value.int .i64 (-9223372036854775808), Value.int .i64 0, Value.slice none 0 0]) rfl (fun w => by kernel_rfl)) rfl rfl rfl ?_
 refine WO.store (l' := [Value.int .i64 1, Value.int .i64 0, Value.int .i64 1, Value.int .i64 (-9223372036854775808), Value.int .i64 0, Value.slice none 0 0]) 0 hS1 rfl Ty.sz30 rfl rfl rfl rfl rfl (Nat.le_of_ble_eq_true rfl) rfl (fun w3 (hS3 : St B (cel g2 [Value.int .i64 1, Value.int .i64 0, Value.int .i64 1, Value.int .i64 (-9223372036854775808), Value.int .i64 0, Value.slice none 0 0] 30 :: L) w3) => ?_)
 clear hS1
 refine WO.nil (NX.go (WP.ret ?_))
 refine NX.doneC (l := [.cell 0 30]) rfl (.cons (.cell rfl (loadVar_agg (vs := [Value.int .i64 1, Value.int .i64 0, Value.int .i64 1, Value.int .i64 (-9223372036854775808), Value.int .i64 0, Value.slice none 0 0]) Ty.ag30 Ty.sz30 rfl (cell_all (hS3.cel_at 0 rfl) 0 rfl))) .nil) ?_
 exact ⟨rfl, hS3.drop⟩
theorem decM_spec {B w : World} {L : List HP} (s : List UInt8) (hs : s.length ≤ 140737488355328) (hS : St B L w) : Does Tryz.prog 12 [str s] w (fun v w1 => ∃ (a : Option Addr) (cap : Nat), v = .tuple #[manV (decM s).1 a cap, .int .i64 (decM s).2] ∧ RngM (decM s).1 ∧ St B (own a (decM s).1.bl.length cap 9 1 ((decM s).1.bl.map str) :: L) w1) := by
 refine enter (n := 44) Tryz.func12 rfl rfl [str s] rfl ?_
 refine WP.seq (WP.region rfl ?_)
 refine WO.alloc (l := [Value.int .i64 0, Value.int .i64 0, Value.int .i64 0, Value.int .i64 0, Value.int .i64 0, Value.slice none 0 0]) hS Ty.zr30 rfl rfl (fun g2 w1 lg2 hS1 => ?_)
 clear hS
 refine WO.asg rfl rfl ?_
 refine WO.nil (NX.go (WP.seq (WP.region rfl ?_)))
 refine WO.mv rfl rfl ?_
 refine WO.call rfl rfl Ty.hd41 rfl (getFrame_spec s hs hS1) (fun v4 w3 pv4 => ?_)
 obtain ⟨rfl, hS3⟩ := pv4
 clear hS1
 refine WO.mv rfl rfl ?_
 refine WO.val (run_extract rfl rfl) rfl rfl rfl ?_
 refine WO.val (run_extract rfl rfl) rfl rfl rfl ?_
 refine WO.val (run_extract rfl rfl) rfl rfl rfl ?_
 refine WO.alloc (l := [Value.int .i64 0, str []]) hS3 Ty.zr72 rfl rfl (fun g6 w5 lg6 hS5 => ?_)
 clear hS3
 refine WO.store (l' := [Value.int .i64 ((getF s).1.1), str ((getF s).1.2)]) 0 hS5 rfl Ty.sz72 rfl rfl rfl rfl rfl (Nat.le_of_ble_eq_true rfl) rfl (fun w7 (hS7 : St B (cel g6 [Value.int .i64 ((getF s).1.1), str ((getF s).1.2)] 72 :: cel g2 [Value.int .i64 0, Value.int .i64 0, Value.int .i64 0, Value.int .i64 0, Value.int .i64 0, Value.slice none 0 0] 30 :: L) w7) => ?_)
 clear hS5
 refine WO.asg rfl rfl ?_
 refine WO.asg rfl rfl ?_
 refine WO.nil (NX.go (WP.seq (WP.seq (WP.region rfl ?_))))
 refine WO.mv rfl rfl ?_
 refine WO.val (run_neq rfl rfl) rfl rfl rfl ?_
 refine WO.mv rfl rfl ?_
 by_cases g17 : ¬ ((getF s).2.2) = 0
 ·
  refine WO.off rfl rfl (decide_eq_true g17) rfl ?_
  refine WO.off rfl rfl (decide_eq_true g17) rfl ?_
  refine WO.off rfl rfl (decide_eq_true g17) rfl ?_
  refine WO.off rfl rfl (decide_eq_true g17) rfl ?_
  refine WO.val (run_pickT rfl (decide_eq_true g17) rfl) rfl rfl rfl ?_
  refine WO.mv rfl rfl ?_
  refine WO.off rfl rfl rfl rfl ?_
  refine WO.off rfl rfl rfl rfl ?_
  refine WO.off rfl rfl rfl rfl ?_
  refine WO.val (run_pickT rfl rfl rfl) rfl rfl rfl ?_
  refine WO.nil (NX.go ?_)
  refine WP.condT rfl rfl ?_
  refine WP.seq (WP.region rfl ?_)
  refine WO.val (run_build (v := Value.agg #[Value.int .i64 0, Value.int .i64 0, Value.int .i64 0, Value.int .i64 0, Value.int .i64 0, Value.slice none 0 0]) rfl (fun w => by kernel_rfl)) rfl rfl rfl ?_
  refine WO.store (l' := [Value.int .i64 0, Value.int .i64 0, Value.int .i64 0, Value.int .i64 0, Value.int .i64 0, Value.slice none 0 0]) 1 hS7 rfl Ty.sz30 rfl rfl rfl rfl rfl (Nat.le_of_ble_eq_true rfl) rfl (fun w8 (hS8 : St B (cel g6 [Value.int .i64 ((getF s).1.1), str ((getF s).1.2)] 72 :: cel g2 [Value.int .i64 0, Value.int .i64 0, Value.int .i64 0, Value.int .i64 0, Value.int .i64 0, Value.slice none 0 0] 30 :: L) w8) => ?_)
  clear hS7
  refine WO.asg rfl rfl ?_
  refine WO.nil (NX.go (WP.ret (NX.thenRet ?_)))
  refine NX.doneC (l := [.cell 2 30, .tmp 3]) rfl (.cons (.cell rfl (loadVar_agg (vs := [Value.int .i64 0, Value.int .i64 0, Value.int .i64 0, Value.int .i64 0, Value.int .i64 0, Value.slice none 0 0]) Ty.ag30 Ty.sz30 rfl (cell_all (hS8.cel_at 1 rfl) 0 rfl))) (.cons (.tmp rfl) .nil)) ?_
  have hdc : decM s = (zeroM, 3) := by rw [decM, if_neg (fun q => g17 q.1)]
  rw [hdc]
  exact ⟨none, 0, rfl, zeroM_rng, (hS8.drop.drop).own_nil 9 1⟩
 ·
  refine WO.on rfl rfl (decide_eq_false g17) ?_
  refine WO.mv rfl rfl ?_
  refine WO.on rfl rfl (decide_eq_false g17) ?_
  refine WO.mv rfl rfl ?_
  refine WO.on rfl rfl (decide_eq_false g17) ?_
  refine WO.val (run_lenS rfl Tryz.underlying9 rfl) rfl rfl rfl ?_
  refine WO.on rfl rfl (decide_eq_false g17) ?_
  refine WO.val (run_neq rfl rfl) rfl rfl rfl ?_
  refine WO.val (run_pickF rfl (decide_eq_false g17) rfl) rfl rfl rfl ?_
  refine WO.mv rfl rfl ?_
  by_cases g23 : ¬ ((getF s).2.1) = (s.length : Int)
  ·
   refine WO.off rfl rfl (decide_eq_true g23) rfl ?_
   refine WO.off rfl rfl (decide_eq_true g23) rfl ?_
   refine WO.off rfl rfl (decide_eq_true g23) rfl ?_
   refine WO.val (run_pickT rfl (decide_eq_true g23) rfl) rfl rfl rfl ?_
   refine WO.nil (NX.go ?_)
   refine WP.condT rfl rfl ?_
   refine WP.seq (WP.region rfl ?_)
   refine WO.val (run_build (v := Value.agg #[Value.int .i64 0, Value.int .i64 0, Value.int .i64 0, Value.int .i64 0, Value.int .i64 0, Value.slice none 0 0]) rfl (fun w => by kernel_rfl)) rfl rfl rfl ?_
   refine WO.store (l' := [Value.int .i64 0, Value.int .i64 0, Value.int .i64 0, Value.int .i64 0, Value.int .i64 0, Value.slice none 0 0]) 1 hS7 rfl Ty.sz30 rfl rfl rfl rfl rfl (Nat.le_of_ble_eq_true rfl) rfl (fun w9 (hS9 : St B (cel g6 [Value.int .i64 ((getF s).1.1), str ((getF s).1.2)] 72 :: cel g2 [Value.int .i64 0, Value.int .i64 0, Value.int .i64 0, Value.int .i64 0, Value.int .i64 0, Value.slice none 0 0] 30 :: L) w9) => ?_)
   clear hS7
   refine WO.asg rfl rfl ?_
   refine WO.nil (NX.go (WP.ret (NX.thenRet ?_)))
   refine NX.doneC (l := [.cell 2 30, .tmp 3]) rfl (.cons (.cell rfl (loadVar_agg (vs := [Value.int .i64 0, Value.int .i64 0, Value.int .i64 0, Value.int .i64 0, Value.int .i64 0, Value.slice none 0 0]) Ty.ag30 Ty.sz30 rfl (cell_all (hS9.cel_at 1 rfl) 0 rfl))) (.cons (.tmp rfl) .nil)) ?_
   have hdc : decM s = (zeroM, 3) := by rw [decM, if_neg (fun q => g23 q.2.1)]
   rw [hdc]
   exact ⟨none, 0, rfl, zeroM_rng, (hS9.drop.drop).own_nil 9 1⟩
  ·
   refine WO.on rfl rfl (decide_eq_false g23) ?_
   refine WO.val (run_fieldAddr (q := ⟨g6, 0, none⟩) (show fieldB Tryz.prog 72 0 = some 0 from by kernel_rfl) rfl rfl) rfl rfl rfl ?_
   refine WO.on rfl rfl (decide_eq_false g23) ?_
   refine WO.val (run_load Ty.ag3 rfl ((hS7.cel_at 0 rfl 0).trans rfl)) rfl rfl rfl ?_
   refine WO.on rfl rfl (decide_eq_false g23) ?_
   refine WO.val (run_neq rfl rfl) rfl rfl rfl ?_
   refine WO.val (run_pickF rfl (decide_eq_false g23) rfl) rfl rfl rfl ?_
   refine WO.nil (NX.go ?_)
   refine WP.condP rfl (fun g27 => ?_) (fun g27 => ?_)
   ·
    refine WP.seq (WP.region rfl ?_)
    refine WO.val (run_build (v := Value.agg #[Value.int .i64 0, Value.int .i64 0, Value.int .i64 0, Value.int .i64 0, Value.int .i64 0, Value.slice none 0 0]) rfl (fun w => by kernel_rfl)) rfl rfl rfl ?_
    refine WO.store (l' := [Value.int .i64 0, Value.int .i64 0, Value.int .i64 0, Value.int .i64 0, Value.int .i64 0, Value.slice none 0 0]) 1 hS7 rfl Ty.sz30 rfl rfl rfl rfl rfl (Nat.le_of_ble_eq_true rfl) rfl (fun w10 (hS10 : St B (cel g6 [Value.int .i64 ((getF s).1.1), str ((getF s).1.2)] 72 :: cel g2 [Value.int .i64 0, Value.int .i64 0, Value.int .i64 0, Value.int .i64 0, Value.int .i64 0, Value.slice none 0 0] 30 :: L) w10) => ?_)
    clear hS7
    refine WO.asg rfl rfl ?_
    refine WO.nil (NX.go (WP.ret (NX.thenRet ?_)))
    refine NX.doneC (l := [.cell 2 30, .tmp 3]) rfl (.cons (.cell rfl (loadVar_agg (vs := [Value.int .i64 0, Value.int .i64 0, Value.int .i64 0, Value.int .i64 0, Value.int .i64 0, Value.slice none 0 0]) Ty.ag30 Ty.sz30 rfl (cell_all (hS10.cel_at 1 rfl) 0 rfl))) (.cons (.tmp rfl) .nil)) ?_
    have hdc : decM s = (zeroM, 3) := by rw [decM, if_neg (fun q => g27 q.2.2)]
    rw [hdc]
    exact ⟨none, 0, rfl, zeroM_rng, (hS10.drop.drop).own_nil 9 1⟩
   ·
    refine WP.skip (NX.go (WP.seq (WP.region rfl ?_)))
    refine WO.val (run_fieldAddr (q := ⟨g6, 1, none⟩) (show fieldB Tryz.prog 72 1 = some 1 from by kernel_rfl) rfl rfl) rfl rfl rfl ?_
    refine WO.val (run_load Ty.ag9 rfl ((hS7.cel_at 0 rfl 1).trans rfl)) rfl rfl rfl ?_
    refine WO.call rfl rfl Ty.hd42 rfl (parseM_spec (getF s).1.2 (by have := getF_le s; omega) hS7) (fun v12 w11 pv12 => ?_)
    obtain ⟨pm, pa, pc, pb, rfl, hpt, hpf, hS11⟩ := pv12
    clear hS7
    refine WO.mv rfl rfl ?_
    refine WO.val (run_extract rfl rfl) rfl rfl rfl ?_
    refine WO.val (run_extract rfl rfl) rfl rfl rfl ?_
    refine WO.alloc (l := [Value.int .i64 0, Value.int .i64 0, Value.int .i64 0, Value.int .i64 0, Value.int .i64 0, Value.slice none 0 0]) hS11 Ty.zr30 rfl rfl (fun g14 w13 lg14 hS13 => ?_)
    clear hS11
    refine WO.store (l' := [Value.int .i64 pm.e, Value.int .i64 pm.b, Value.int .i64 pm.p, Value.int .i64 pm.k, Value.int .i64 pm.c, Value.slice pa pm.bl.length pc]) 0 hS13 rfl Ty.sz30 rfl rfl rfl rfl rfl (Nat.le_of_ble_eq_true rfl) rfl (fun w15 (hS15 : St B (cel g14 [Value.int .i64 pm.e, Value.int .i64 pm.b, Value.int .i64 pm.p, Value.int .i64 pm.k, Value.int .i64 pm.c, Value.slice pa pm.bl.length pc] 30 :: own pa pm.bl.length pc 9 1 (pm.bl.map str) :: cel g6 [Value.int .i64 ((getF s).1.1), str ((getF s).1.2)] 72 :: cel g2 [Value.int .i64 0, Value.int .i64 0, Value.int .i64 0, Value.int .i64 0, Value.int .i64 0, Value.slice none 0 0] 30 :: L) w15) => ?_)
    clear hS13
    refine WO.asg rfl rfl ?_
    refine WO.nil (NX.go (WP.seq (WP.seq (WP.region rfl ?_))))
    refine WO.mv rfl rfl ?_
    refine WO.val (run_not rfl rfl) rfl rfl rfl ?_
    refine WO.mv rfl rfl ?_
    rcases Bool.eq_false_or_eq_true (!pb) with g37 | g37
    ·
     refine WO.off rfl rfl g37 rfl ?_
     refine WO.off rfl rfl g37 rfl ?_
     refine WO.off rfl rfl g37 rfl ?_
     refine WO.val (run_pickT rfl g37 rfl) rfl rfl rfl ?_
     refine WO.nil (NX.go ?_)
     refine WP.condT rfl rfl ?_
     refine WP.seq (WP.region rfl ?_)
     refine WO.val (run_build (v := Value.agg #[Value.int .i64 0, Value.int .i64 0, Value.int .i64 0, Value.int .i64 0, Value.int .i64 0, Value.slice none 0 0]) rfl (fun w => by kernel_rfl)) rfl rfl rfl ?_
     refine WO.store (l' := [Value.int .i64 0, Value.int .i64 0, Value.int .i64 0, Value.int .i64 0, Value.int .i64 0, Value.slice none 0 0]) 3 hS15 rfl Ty.sz30 rfl rfl rfl rfl rfl (Nat.le_of_ble_eq_true rfl) rfl (fun w16 (hS16 : St B (cel g14 [Value.int .i64 pm.e, Value.int .i64 pm.b, Value.int .i64 pm.p, Value.int .i64 pm.k, Value.int .i64 pm.c, Value.slice pa pm.bl.length pc] 30 :: own pa pm.bl.length pc 9 1 (pm.bl.map str) :: cel g6 [Value.int .i64 ((getF s).1.1), str ((getF s).1.2)] 72 :: cel g2 [Value.int .i64 0, Value.int .i64 0, Value.int .i64 0, Value.int .i64 0, Value.int .i64 0, Value.slice none 0 0] 30 :: L) w16) => ?_)
     clear hS15
     refine WO.asg rfl rfl ?_
     refine WO.nil (NX.go (WP.ret (NX.thenRet ?_)))
     refine NX.doneC (l := [.cell 2 30, .tmp 3]) rfl (.cons (.cell rfl (loadVar_agg (vs := [Value.int .i64 0, Value.int .i64 0, Value.int .i64 0, Value.int .i64 0, Value.int .i64 0, Value.slice none 0 0]) Ty.ag30 Ty.sz30 rfl (cell_all (hS16.cel_at 3 rfl) 0 rfl))) (.cons (.tmp rfl) .nil)) ?_
     have hdc : decM s = (zeroM, 3) := by rw [decM, if_pos ⟨Decidable.of_not_not g17, Decidable.of_not_not g23, Decidable.of_not_not g27⟩, hpf (by simpa using g37)]
     rw [hdc]
     exact ⟨none, 0, rfl, zeroM_rng, (hS16.drop.drop.drop.drop).own_nil 9 1⟩
    ·
     refine WO.on rfl rfl g37 ?_
     refine WO.val (run_loadAgg (vs := [Value.int .i64 pm.e, Value.int .i64 pm.b, Value.int .i64 pm.p, Value.int .i64 pm.k, Value.int .i64 pm.c, Value.slice pa pm.bl.length pc]) Ty.ag30 Ty.sz30 rfl rfl (cell_all (hS15.cel_at 0 rfl) 0 rfl)) rfl rfl rfl ?_
     refine WO.on rfl rfl g37 ?_
     have hS17 := hS15.permT [1, 0, 0, 0] (L' := own pa pm.bl.length pc 9 1 (pm.bl.map str) :: cel g14 [Value.int .i64 pm.e, Value.int .i64 pm.b, Value.int .i64 pm.p, Value.int .i64 pm.k, Value.int .i64 pm.c, Value.slice pa pm.bl.length pc] 30 :: cel g6 [Value.int .i64 ((getF s).1.1), str ((getF s).1.2)] 72 :: cel g2 [Value.int .i64 0, Value.int .i64 0, Value.int .i64 0, Value.int .i64 0, Value.int .i64 0, Value.slice none 0 0] 30 :: L) rfl
     clear hS15
     refine WO.call rfl rfl Ty.hd34 rfl (checkM_spec (m := pm) (fun h => h.own_rd.1) (hpt (by simpa using g37)).2 hS17) (fun v19 w18 pv19 => ?_)
     obtain ⟨rfl, hS18⟩ := pv19
     clear hS17
     refine WO.on rfl rfl g37 ?_
     refine WO.val (run_neq rfl rfl) rfl rfl rfl ?_
     refine WO.val (run_pickF rfl g37 rfl) rfl rfl rfl ?_
     refine WO.nil (NX.go ?_)
     refine WP.condP rfl (fun g41 => ?_) (fun g41 => ?_)
     ·
      refine WP.seq (WP.region rfl ?_)
      refine WO.val (run_build (v := Value.agg #[Value.int .i64 0, Value.int .i64 0, Value.int .i64 0, Value.int .i64 0, Value.int .i64 0, Value.slice none 0 0]) rfl (fun w => by kernel_rfl)) rfl rfl rfl ?_
      refine WO.store (l' := [Value.int .i64 0, Value.int .i64 0, Value.int .i64 0, Value.int .i64 0, Value.int .i64 0, Value.slice none 0 0]) 3 hS18 rfl Ty.sz30 rfl rfl rfl rfl rfl (Nat.le_of_ble_eq_true rfl) rfl (fun w20 (hS20 : St B (own pa pm.bl.length pc 9 1 (pm.bl.map str) :: cel g14 [Value.int .i64 pm.e, Value.int .i64 pm.b, Value.int .i64 pm.p, Value.int .i64 pm.k, Value.int .i64 pm.c, Value.slice pa pm.bl.length pc] 30 :: cel g6 [Value.int .i64 ((getF s).1.1), str ((getF s).1.2)] 72 :: cel g2 [Value.int .i64 0, Value.int .i64 0, Value.int .i64 0, Value.int .i64 0, Value.int .i64 0, Value.slice none 0 0] 30 :: L) w20) => ?_)
      clear hS18
      refine WO.asg rfl rfl ?_
      refine WO.nil (NX.go (WP.ret (NX.thenRet ?_)))
      refine NX.doneC (l := [.cell 2 30, .tmp 3]) rfl (.cons (.cell rfl (loadVar_agg (vs := [Value.int .i64 0, Value.int .i64 0, Value.int .i64 0, Value.int .i64 0, Value.int .i64 0, Value.slice none 0 0]) Ty.ag30 Ty.sz30 rfl (cell_all (hS20.cel_at 3 rfl) 0 rfl))) (.cons (.tmp rfl) .nil)) ?_
      have hdc : decM s = (zeroM, 3) := by rw [decM, if_pos ⟨Decidable.of_not_not g17, Decidable.of_not_not g23, Decidable.of_not_not g27⟩, (hpt (by simpa using g37)).1]; exact if_neg g41
      rw [hdc]
      exact ⟨none, 0, rfl, zeroM_rng, (hS20.drop.drop.drop.drop).own_nil 9 1⟩
     ·
      refine WP.skip (NX.go (WP.seq (WP.region rfl ?_)))
      refine WO.val (run_loadAgg (vs := [Value.int .i64 pm.e, Value.int .i64 pm.b, Value.int .i64 pm.p, Value.int .i64 pm.k, Value.int .i64 pm.c, Value.slice pa pm.bl.length pc]) Ty.ag30 Ty.sz30 rfl rfl (cell_all (hS18.cel_at 1 rfl) 0 rfl)) rfl rfl rfl ?_
      refine WO.store (l' := [Value.int .i64 pm.e, Value.int .i64 pm.b, Value.int .i64 pm.p, Value.int .i64 pm.k, Value.int .i64 pm.c, Value.slice pa pm.bl.length pc]) 3 hS18 rfl Ty.sz30 rfl rfl rfl rfl rfl (Nat.le_of_ble_eq_true rfl) rfl (fun w21 (hS21 : St B (own pa pm.bl.length pc 9 1 (pm.bl.map str) :: cel g14 [Value.int .i64 pm.e, Value.int .i64 pm.b, Value.int .i64 pm.p, Value.int .i64 pm.k, Value.int .i64 pm.c, Value.slice pa pm.bl.length pc] 30 :: cel g6 [Value.int .i64 ((getF s).1.1), str ((getF s).1.2)] 72 :: cel g2 [Value.int .i64 pm.e, Value.int .i64 pm.b, Value.int .i64 pm.p, Value.int .i64 pm.k, Value.int .i64 pm.c, Value.slice pa pm.bl.length pc] 30 :: L) w21) => ?_)
      clear hS18
      refine WO.asg rfl rfl ?_
      refine WO.nil (NX.go (WP.ret ?_))
      refine NX.doneC (l := [.cell 2 30, .tmp 3]) rfl (.cons (.cell rfl (loadVar_agg (vs := [Value.int .i64 pm.e, Value.int .i64 pm.b, Value.int .i64 pm.p, Value.int .i64 pm.k, Value.int .i64 pm.c, Value.slice pa pm.bl.length pc]) Ty.ag30 Ty.sz30 rfl (cell_all (hS21.cel_at 3 rfl) 0 rfl))) (.cons (.tmp rfl) .nil)) ?_
      have hdc : decM s = (pm, 0) := by rw [decM, if_pos ⟨Decidable.of_not_not g17, Decidable.of_not_not g23, Decidable.of_not_not g27⟩, (hpt (by simpa using g37)).1]; exact if_pos (Decidable.of_not_not g41)
      rw [hdc]
      exact ⟨pa, pc, rfl, (hpt (by simpa using g37)).2, (hS21.permT [1, 1, 1, 0] (L' := cel g14 [Value.int .i64 pm.e, Value.int .i64 pm.b, Value.int .i64 pm.p, Value.int .i64 pm.k, Value.int .i64 pm.c, Value.slice pa pm.bl.length pc] 30 :: cel g6 [Value.int .i64 ((getF s).1.1), str ((getF s).1.2)] 72 :: cel g2 [Value.int .i64 pm.e, Value.int .i64 pm.b, Value.int .i64 pm.p, Value.int .i64 pm.k, Value.int .i64 pm.c, Value.slice pa pm.bl.length pc] 30 :: own pa pm.bl.length pc 9 1 (pm.bl.map str) :: L) rfl).drop.drop.drop⟩
end Go.Proofs.YtcehlnpbdffdhaaGreatDoor.SL
