/- The reference of layer 14: numbers in a list. -/
import Derived.Test.YtogidmceomlkeaaTy
import Derived.Test.YtogidmceomlkeaaSh
namespace Go.Proofs.Ytogidmceomlkeaa.SL
open Go.RowKit Go.Proofs.Ytogidmceomlkeaa
open Go.Proofs.YtogidmceomlkeaaW.PrintLast (rtab opsOf)
set_option linter.unusedVariables false
set_option linter.unusedSimpArgs false

/-- A number at its place, if it is not in. -/
def putF : List Int → Int → List Int
  | [], n => [n]
  | x :: l, n => if x < n then x :: putF l n else if x = n then x :: l else n :: x :: l
theorem putF_in : ∀ {l : List Int} {i : Nat} {n : Int}, (∀ j x, j < i → l[j]? = some x → x < n) → l[i]? = some n → putF l n = l
  | [], i, n, _, h => by simp at h
  | x :: l, 0, n, _, h => by simp at h; simp [putF, h]
  | x :: l, i + 1, n, h0, h => by
    simp only [putF]
    rw [if_pos (h0 0 x (by omega) rfl), putF_in (i := i) (fun j y hj hy => h0 (j + 1) y (by omega) (by simpa using hy)) (by simpa using h)]
theorem putF_out : ∀ {l : List Int} {i : Nat} {n : Int}, i ≤ l.length → (∀ j x, j < i → l[j]? = some x → x < n) → (∀ x, l[i]? = some x → ¬ x < n ∧ ¬ x = n) → putF l n = (l.take i ++ [n]) ++ l.drop i
  | [], i, n, hi, _, _ => by simp at hi; subst hi; rfl
  | x :: l, 0, n, _, _, h => by
    have := h x rfl
    simp [putF, this.1, this.2]
  | x :: l, i + 1, n, hi, h0, h => by
    simp only [putF]
    rw [if_pos (h0 0 x (by omega) rfl), putF_out (i := i) (by simpa using hi) (fun j y hj hy => h0 (j + 1) y (by omega) (by simpa using hy)) (fun y hy => h y (by simpa using hy))]
    rfl
theorem putF_len : ∀ (l : List Int) (n : Int), (putF l n).length ≤ l.length + 1
  | [], n => by simp [putF]
  | x :: l, n => by
    have := putF_len l n
    simp only [putF]; split
    · simp; omega
    · split <;> simp
def andR (m : List Int) (l : List Int) : List Int := l.foldl (fun o x => if x ∈ m then putF o x else o) []
def lessR (m : List Int) (l : List Int) : List Int := l.foldl (fun o x => if x ∈ m then o else putF o x) []
def orR (o l : List Int) : List Int := l.foldl putF o
theorem fold_take {α : Type} (f : α → Int → α) (o : α) {l : List Int} {i : Nat} {x : Int} (h : l[i]? = some x) : (l.take (i + 1)).foldl f o = f ((l.take i).foldl f o) x := by
  rw [List.take_add_one, h, List.foldl_append]; rfl
theorem orR_len (o l : List Int) : (orR o l).length ≤ o.length + l.length := by
  unfold orR
  induction l generalizing o with
  | nil => simp
  | cons x l ih => have := ih (putF o x); have := putF_len o x; simp only [List.foldl_cons, List.length_cons]; omega
theorem andR_len (m l : List Int) : (andR m l).length ≤ l.length := by
  suffices h : ∀ o : List Int, (l.foldl (fun o x => if x ∈ m then putF o x else o) o).length ≤ o.length + l.length by simpa [andR] using h []
  induction l with
  | nil => intro o; simp
  | cons x l ih => intro o; rw [List.foldl_cons, List.length_cons]; have h1 := ih (if x ∈ m then putF o x else o); have h2 : (if x ∈ m then putF o x else o).length ≤ o.length + 1 := by (split; exact putF_len o x; omega)
                   omega
theorem lessR_len (m l : List Int) : (lessR m l).length ≤ l.length := by
  suffices h : ∀ o : List Int, (l.foldl (fun o x => if x ∈ m then o else putF o x) o).length ≤ o.length + l.length by simpa [lessR] using h []
  induction l with
  | nil => intro o; simp
  | cons x l ih => intro o; rw [List.foldl_cons, List.length_cons]; have h1 := ih (if x ∈ m then o else putF o x); have h2 : (if x ∈ m then o else putF o x).length ≤ o.length + 1 := by (split; omega; exact putF_len o x)
                   omega
theorem own_len {B w : World} {L : List HP} {a : Option Addr} {n n' cap t k : Nat} {l l' : List Value} (h : St B (own a n cap t k l :: L) w) (e : n = n') (e2 : l = l') : St B (own a n' cap t k l' :: L) w := by subst e; subst e2; exact h
theorem has_spec {B w : World} {L : List HP} {X : HP} {a : Option Addr} {cap : Nat} {l : List Int} (hX : ∀ {L : List HP} {w : World}, St B (X :: L) w → Rd w a l.length 1 (ri l)) (n : Int) (hb : l.length ≤ 1000000) (hS : St B (X :: L) w) : Does Try.prog 13 [Value.slice a l.length cap, Value.int .i64 n] w (fun v w1 => v = .bool (decide (n ∈ l)) ∧ St B (X :: L) w1) := by
 refine enter (n := 18) Try.func13 rfl rfl [Value.slice a l.length cap, Value.int .i64 n] rfl ?_
 refine WP.seq ?_
 refine WP.region rfl ?_
 refine WO.val (run_assign rfl) rfl rfl rfl ?_
 refine WO.nil ?_
 refine NX.go ?_
 refine WP.seq ?_
 refine WP.seq ?_
 refine WP.region rfl ?_
 refine WO.val (run_assign rfl) rfl rfl rfl ?_
 refine WO.nil ?_
 refine NX.go ?_
 refine WP.block ?_
 refine WP.loop (α := Nat) (fun x => match x with | i => [(0, Value.slice a l.length cap), (1, Value.int .i64 n), (5, Value.int .i64 (i : Int))]) (fun x w => match x with | i => (i ≤ l.length ∧ n ∉ l.take i) ∧ St B (X :: L) w) (fun x => match x with | i => l.length - i) 0 ⟨⟨by omega, by simp⟩, hS⟩ (Sub.cons rfl (Sub.cons rfl (Sub.consE rfl (by first | rfl | first | rfl | (congr 1; omega) | (simp; done) | (simp; omega)) (Sub.nil _)))) ?_
 rintro i w1 ⟨⟨hi, hni⟩, hS1⟩
 clear hS
 refine WP.seq ?_
 refine WP.seq ?_
 refine WP.region rfl ?_
 refine WO.val (run_move rfl) rfl rfl rfl ?_
 refine WO.val (run_move rfl) rfl rfl rfl ?_
 refine WO.val (run_len rfl Try.underlying22 rfl) rfl rfl rfl ?_
 refine WO.val (run_lss rfl rfl) rfl rfl rfl ?_
 refine WO.nil ?_
 refine NX.go ?_
 refine WP.condP rfl (fun g9 => ?_) (fun g9 => ?_)
 ·
  refine WP.skip ?_
  refine NX.go ?_
  refine WP.seq ?_
  refine WP.block ?_
  refine WP.seq ?_
  refine WP.region rfl ?_
  refine WO.val (run_move rfl) rfl rfl rfl ?_
  refine WO.val (run_move rfl) rfl rfl rfl ?_
  obtain ⟨x, hx⟩ : ∃ x, l[i]? = some x := ⟨_, List.getElem?_eq_getElem (by omega)⟩
  refine WO.val (run_indexAddr (q := adr a i) Try.underlying22 Ty.sz3 rfl rfl (by omega) (by omega) ((hX (hS1.focus 0 rfl)).2.1 (by omega)) (by simp)) rfl rfl rfl ?_
  refine WO.val (run_load Ty.ag3 rfl ((hX (hS1.focus 0 rfl)).cell (ri_get hx))) rfl rfl rfl ?_
  refine WO.val (run_move rfl) rfl rfl rfl ?_
  refine WO.val (run_eql rfl rfl) rfl rfl rfl ?_
  refine WO.nil ?_
  refine NX.go ?_
  refine WP.condP rfl (fun g17 => ?_) (fun g17 => ?_)
  ·
   refine WP.seq ?_
   refine WP.region rfl ?_
   refine WO.val (run_assign rfl) rfl rfl rfl ?_
   refine WO.nil ?_
   refine NX.go ?_
   refine WP.ret ?_
   refine NX.blkRet ?_
   refine NX.thenRet ?_
   refine NX.thenRet ?_
   refine NX.blkRet ?_
   refine NX.thenRet ?_
   refine NX.done (l := [.tmp 4]) rfl rfl ?_
   refine ⟨?_, hS1⟩
   show Value.bool true = _
   rw [decide_eq_true (g17 ▸ List.mem_of_getElem? hx)]
  ·
   refine WP.skip ?_
   refine NX.blk ?_
   refine NX.go ?_
   refine WP.region rfl ?_
   refine WO.val (run_move rfl) rfl rfl rfl ?_
   refine WO.val (run_add rfl rfl (IntWalk.i64_in _ (by omega))) rfl rfl rfl ?_
   refine WO.val (run_assign rfl) rfl rfl rfl ?_
   refine WO.nil ?_
   exact NX.again (i + 1) ⟨⟨by omega, by rw [List.take_add_one, hx]; simp [hni]; exact fun e => g17 e.symm⟩, hS1⟩ (by show l.length - (i + 1) < l.length - i; omega) (Sub.cons rfl (Sub.cons rfl (Sub.consE rfl (by congr 1) (Sub.nil _))))
 ·
  refine WP.exit ?_
  refine NX.thenExit ?_
  refine NX.thenExit ?_
  refine NX.blkExit ?_
  refine NX.go ?_
  refine WP.seq ?_
  refine WP.region rfl ?_
  refine WO.val (run_assign rfl) rfl rfl rfl ?_
  refine WO.nil ?_
  refine NX.go ?_
  refine WP.ret ?_
  refine NX.done (l := [.tmp 4]) rfl rfl ?_
  refine ⟨?_, hS1⟩
  show Value.bool false = _
  rw [decide_eq_false (by have := hni; rwa [List.take_of_length_le (by omega)] at this)]

theorem put_next {l : List Int} {i : Nat} {n x : Int} (h : ∀ j x, j < i → l[j]? = some x → x < n) (hx : l[i]? = some x) (hl : x < n) : ∀ j y, j < i + 1 → l[j]? = some y → y < n := by
  intro j y hj hy
  rcases Nat.lt_or_ge j i with c | c
  · exact h j y c hy
  · have : j = i := by omega
    subst this; rw [hx] at hy; cases hy; exact hl
theorem all_take {p : Value → Bool} {l : List Value} {n : Nat} (h : l.all p = true) : (l.take n).all p = true := List.all_eq_true.2 fun x hx => List.all_eq_true.1 h x (List.mem_of_mem_take hx)
theorem all_drop {p : Value → Bool} {l : List Value} {n : Nat} (h : l.all p = true) : (l.drop n).all p = true := List.all_eq_true.2 fun x hx => List.all_eq_true.1 h x (List.mem_of_mem_drop hx)
theorem put_spec_t6 : rtab .any (opsOf Try.f14 6) = (true, [([], []), ([], []), ([], []), ([1, 2], [1, 2]), ([0, 3], [0, 3]), ([], []), ([5], [5]), ([4, 6, 4], [4, 6]), ([], []), ([], []), ([8, 9], [8, 9]), ([7, 10, 7], [7, 10]), ([11, 11, 0, 1, 2, 3, 4, 5, 6, 7, 8, 9, 10, 11], [11])]) := by kernel_rfl
theorem put_spec {B w : World} {L : List HP} {a : Option Addr} {cap : Nat} {l : List Int} (n : Int) (hb : l.length ≤ 1000000) (hS : St B (own a l.length cap 3 1 (ri l) :: L) w) : Does Try.prog 14 [Value.slice a l.length cap, Value.int .i64 n] w (fun v w1 => ∃ a1 cap1, v = .slice a1 (putF l n).length cap1 ∧ St B (own a1 (putF l n).length cap1 3 1 (ri (putF l n)) :: L) w1) := by
 refine enter (n := 45) Try.func14 rfl rfl [Value.slice a l.length cap, Value.int .i64 n] rfl ?_
 refine WP.seq ?_
 refine WP.region rfl ?_
 refine WO.val (run_assign rfl) rfl rfl rfl ?_
 refine WO.nil ?_
 refine NX.go ?_
 refine WP.seq ?_
 refine WP.region rfl ?_
 refine WO.val (run_assign rfl) rfl rfl rfl ?_
 refine WO.nil ?_
 refine NX.go ?_
 refine WP.seq ?_
 refine WP.meet (α := Nat) (fun x => match x with | i => [(0, Value.slice a l.length cap), (1, Value.int .i64 n), (5, Value.int .i64 (i : Int))]) (fun x w => match x with | i => (i ≤ l.length ∧ (∀ j x, j < i → l[j]? = some x → x < n) ∧ ∀ x, l[i]? = some x → ¬ x < n) ∧ St B (own a l.length cap 3 1 (ri l) :: L) w) ?_ (fun K1 => ?_)
 ·
  rintro i w2 ⟨⟨hi, hlt, hge⟩, hS2⟩
  clear hS
  refine NX.go ?_
  refine WP.seq ?_
  refine WP.seq ?_
  refine WP.region rfl ?_
  refine WO.val (run_move rfl) rfl rfl rfl ?_
  refine WO.val (run_move rfl) rfl rfl rfl ?_
  refine WO.val (run_len rfl Try.underlying22 rfl) rfl rfl rfl ?_
  refine WO.val (run_lss rfl rfl) rfl rfl rfl ?_
  refine WO.val (run_move rfl) rfl rfl rfl ?_
  by_cases g24 : (i : Int) < ((l.length : Nat) : Int)
  ·
   refine WO.on rfl rfl (decide_eq_true g24) ?_
   refine WO.val (run_move rfl) rfl rfl rfl ?_
   refine WO.on rfl rfl (decide_eq_true g24) ?_
   refine WO.val (run_move rfl) rfl rfl rfl ?_
   refine WO.on rfl rfl (decide_eq_true g24) ?_
   obtain ⟨y, hy⟩ : ∃ y, l[i]? = some y := ⟨_, List.getElem?_eq_getElem (by omega)⟩
   refine WO.val (run_indexAddr (q := adr a i) Try.underlying22 Ty.sz3 rfl rfl (by omega) (by omega) ((hS2.own_rd_i 0 rfl).2.1 (by omega)) (by simp)) rfl rfl rfl ?_
   refine WO.on rfl rfl (decide_eq_true g24) ?_
   refine WO.val (run_load Ty.ag3 rfl ((hS2.own_rd_i 0 rfl).cell (ri_get hy))) rfl rfl rfl ?_
   refine WO.on rfl rfl (decide_eq_true g24) ?_
   refine WO.val (run_move rfl) rfl rfl rfl ?_
   refine WO.on rfl rfl (decide_eq_true g24) ?_
   refine WO.val (run_eql rfl rfl) rfl rfl rfl ?_
   refine WO.val (run_pickT rfl (decide_eq_true g24) rfl) rfl rfl rfl ?_
   refine WO.nil ?_
   refine NX.go ?_
   refine WP.meet (α := Unit) (fun x => match x with | _ => [(0, Value.slice a l.length cap), (1, Value.int .i64 n), (5, Value.int .i64 (i : Int))]) (fun x w => match x with | _ => (putF l n = (l.take i ++ [n]) ++ l.drop i) ∧ St B (own a l.length cap 3 1 (ri l) :: L) w) ?_ (fun K3 => ?_)
   ·
    rintro _ w4 ⟨hout, hS4⟩
    clear hS2
    refine NX.go ?_
    refine WP.seq ?_
    have hcap := hS4.own_le_i 0 rfl
    refine WD.start (fun w => Rd w a l.length 1 (ri l)) [] #[false, false, false, false, false, false, false, false, false, false, false, false, false] Ty.mo rfl (by kernel_rfl) hS4 (fun _ h => (h.own_rd_i 0 rfl)) (fun w5 hS5 s6 => ?_)
    clear hS4
    refine WD.pure (i := 1) put_spec_t6 #[false, true, false, false, false, false, false, false, false, false, false, false, false] rfl rfl rfl (by kernel_rfl) (PQ.then PQ.body) rfl (fun w => run_move rfl) ?_
    refine WD.pure (i := 2) put_spec_t6 #[false, true, true, false, false, false, false, false, false, false, false, false, false] rfl rfl rfl (by kernel_rfl) (PQ.then PQ.body) rfl (fun w => run_move rfl) ?_
    refine WD.pure (i := 3) put_spec_t6 #[false, true, true, true, false, false, false, false, false, false, false, false, false] rfl rfl rfl (by kernel_rfl) (PQ.then PQ.body) rfl (fun w => run_sliceTo (j := i) Try.underlying22 Ty.sz3 rfl ⟨_, rfl⟩ (by omega)) ?_
    refine WD.pure (i := 5) put_spec_t6 #[false, true, true, true, false, true, false, false, false, false, false, false, false] rfl rfl rfl (by kernel_rfl) (PQ.then PQ.body) rfl (fun w => run_move rfl) ?_
    refine WD.pure (i := 8) put_spec_t6 #[false, true, true, true, false, true, false, false, true, false, false, false, false] rfl rfl rfl (by kernel_rfl) (PQ.then PQ.body) rfl (fun w => run_move rfl) ?_
    refine WD.pure (i := 9) put_spec_t6 #[false, true, true, true, false, true, false, false, true, true, false, false, false] rfl rfl rfl (by kernel_rfl) (PQ.then PQ.body) rfl (fun w => run_move rfl) ?_
    refine WD.pure (i := 10) put_spec_t6 #[false, true, true, true, false, true, false, false, true, true, true, false, false] rfl rfl rfl (by kernel_rfl) (PQ.then PQ.body) rfl (fun w => run_sliceL (i := i) (j := l.length) Try.underlying22 Ty.sz3 rfl ⟨_, rfl⟩ rfl (by omega) (by omega)) ?_
    refine WD.two (i := 0) (k := 6) put_spec_t6 #[true, true, true, true, false, true, false, false, true, true, true, false, false] #[false, true, true, true, false, true, true, false, true, true, true, false, false] rfl rfl (by kernel_rfl) ?_ ?_
    ·
     refine WO.buildSlice (l := []) hS5 Try.underlying22 rfl (fun w => by kernel_rfl) rfl (fun g8 w7 lg8 hS7 => ?_)
     clear hS5
     have hS7 := hS7.own_of_cel (m := 0) (k := 1) rfl
     refine WO.nil ?_
     have s9 : Rd w7 a l.length 1 (ri l) := (hS7.own_rd_i 1 rfl)
     refine NX.held s9 ?_
     refine WD.two (i := 4) (k := 6) put_spec_t6 #[true, true, true, true, true, true, false, false, true, true, true, false, false] #[true, true, true, true, false, true, true, false, true, true, true, false, false] rfl rfl (by kernel_rfl) ?_ ?_
     ·
      refine WO.append (news := ((ri l).take (i * 1))) 0 rfl Try.underlying22 Try.underlying22 (fun _ h => by cases h) Ty.sz3 (by decide) Ty.by3 Ty.zr3 rfl rfl rfl rfl hS7 rfl (Rd.src (((hS7.own_rd_i 1 rfl)).take (m := i) (by omega))) (all_take (ri_noAgg _)) (by omega) (by omega) (fun a11 c12 w10 hS10 => ?_)
      replace hS10 : St B (own a11 (0 + i) c12 3 1 ([] ++ ((ri l).take (i * 1))) :: own a l.length cap 3 1 (ri l) :: L) w10 := hS10
      clear hS7
      refine WO.nil ?_
      have s13 : Rd w10 a l.length 1 (ri l) := (hS10.own_rd_i 1 rfl)
      refine NX.held s13 ?_
      refine WD.one (i := 6) put_spec_t6 #[true, true, true, true, true, true, true, false, true, true, true, false, false] rfl (by kernel_rfl) ?_
      refine WO.buildSlice (l := [Value.int .i64 n]) hS10 Try.underlying22 rfl (fun w => by kernel_rfl) rfl (fun g15 w14 lg15 hS14 => ?_)
      clear hS10
      have hS14 := hS14.own_of_cel (m := 1) (k := 1) rfl
      refine WO.nil ?_
      have s16 : Rd w14 a l.length 1 (ri l) := (hS14.own_rd_i 2 rfl)
      refine NX.held s16 ?_
      refine WD.one (i := 7) put_spec_t6 #[true, true, true, true, true, true, true, true, true, true, true, false, false] rfl (by kernel_rfl) ?_
      refine WO.append (news := [Value.int .i64 n]) 1 rfl Try.underlying22 Try.underlying22 (fun _ h => by cases h) Ty.sz3 (by decide) Ty.by3 Ty.zr3 rfl rfl rfl rfl hS14 rfl ((hS14.own_rd_i 0 rfl).src) rfl (by omega) (by omega) (fun a18 c19 w17 hS17 => ?_)
      replace hS17 : St B (own (some ⟨g15, 0, none⟩) 1 1 3 1 [Value.int .i64 n] :: own a18 ((0 + i) + 1) c19 3 1 (([] ++ ((ri l).take (i * 1))) ++ [Value.int .i64 n]) :: own a l.length cap 3 1 (ri l) :: L) w17 := hS17
      clear hS14
      refine WO.nil ?_
      have s20 : Rd w17 a l.length 1 (ri l) := (hS17.own_rd_i 2 rfl)
      refine NX.held s20 ?_
      refine WD.one (i := 11) put_spec_t6 #[true, true, true, true, true, true, true, true, true, true, true, true, false] rfl (by kernel_rfl) ?_
      refine WO.append (news := ((ri l).drop i)) 1 rfl Try.underlying22 Try.underlying22 (fun _ h => by cases h) Ty.sz3 (by decide) Ty.by3 Ty.zr3 rfl rfl rfl rfl hS17 rfl (Rd.src (((hS17.own_rd_i 2 rfl)).drop1 (i := i) (by omega) hcap)) (all_drop (ri_noAgg _)) (by omega) (by omega) (fun a22 c23 w21 hS21 => ?_)
      replace hS21 : St B (own (some ⟨g15, 0, none⟩) 1 1 3 1 [Value.int .i64 n] :: own a22 (((0 + i) + 1) + (l.length - i)) c23 3 1 ((([] ++ ((ri l).take (i * 1))) ++ [Value.int .i64 n]) ++ ((ri l).drop i)) :: own a l.length cap 3 1 (ri l) :: L) w21 := hS21
      clear hS17
      refine WO.nil ?_
      have s24 : Rd w21 a l.length 1 (ri l) := (hS21.own_rd_i 2 rfl)
      refine NX.held s24 ?_
      refine WD.pure (i := 12) put_spec_t6 #[true, true, true, true, true, true, true, true, true, true, true, true, true] rfl rfl rfl (by kernel_rfl) (PQ.then PQ.body) rfl (fun w => run_assign rfl) ?_
      refine WD.done put_spec_t6 (by kernel_rfl) ?_
      refine NX.go ?_
      refine WP.ret ?_
      refine NX.done (l := [.tmp 4]) rfl rfl ?_
      refine ⟨a22, c23, congrArg (fun z => Value.slice a22 z c23) (by rw [hout]; simp; omega), ?_⟩
      rw [hout]; exact own_len ((hS21.permT [0, 1, 0] (L' := own (some ⟨g15, 0, none⟩) 1 1 3 1 [Value.int .i64 n] :: own a l.length cap 3 1 (ri l) :: own a22 (((0 + i) + 1) + (l.length - i)) c23 3 1 ((([] ++ ((ri l).take (i * 1))) ++ [Value.int .i64 n]) ++ ((ri l).drop i)) :: L) rfl).drop.drop) (by simp; omega) (by simp [ri])
     ·
      refine WO.buildSlice (l := [Value.int .i64 n]) hS7 Try.underlying22 rfl (fun w => by kernel_rfl) rfl (fun g26 w25 lg26 hS25 => ?_)
      clear hS7
      have hS25 := hS25.own_of_cel (m := 1) (k := 1) rfl
      refine WO.nil ?_
      have s27 : Rd w25 a l.length 1 (ri l) := (hS25.own_rd_i 2 rfl)
      refine NX.held s27 ?_
      refine WD.one (i := 4) put_spec_t6 #[true, true, true, true, true, true, true, false, true, true, true, false, false] rfl (by kernel_rfl) ?_
      refine WO.append (news := ((ri l).take (i * 1))) 1 rfl Try.underlying22 Try.underlying22 (fun _ h => by cases h) Ty.sz3 (by decide) Ty.by3 Ty.zr3 rfl rfl rfl rfl hS25 rfl (Rd.src (((hS25.own_rd_i 2 rfl)).take (m := i) (by omega))) (all_take (ri_noAgg _)) (by omega) (by omega) (fun a29 c30 w28 hS28 => ?_)
      replace hS28 : St B (own (some ⟨g26, 0, none⟩) 1 1 3 1 [Value.int .i64 n] :: own a29 (0 + i) c30 3 1 ([] ++ ((ri l).take (i * 1))) :: own a l.length cap 3 1 (ri l) :: L) w28 := hS28
      clear hS25
      refine WO.nil ?_
      have s31 : Rd w28 a l.length 1 (ri l) := (hS28.own_rd_i 2 rfl)
      refine NX.held s31 ?_
      refine WD.one (i := 7) put_spec_t6 #[true, true, true, true, true, true, true, true, true, true, true, false, false] rfl (by kernel_rfl) ?_
      refine WO.append (news := [Value.int .i64 n]) 1 rfl Try.underlying22 Try.underlying22 (fun _ h => by cases h) Ty.sz3 (by decide) Ty.by3 Ty.zr3 rfl rfl rfl rfl hS28 rfl ((hS28.own_rd_i 0 rfl).src) rfl (by omega) (by omega) (fun a33 c34 w32 hS32 => ?_)
      replace hS32 : St B (own (some ⟨g26, 0, none⟩) 1 1 3 1 [Value.int .i64 n] :: own a33 ((0 + i) + 1) c34 3 1 (([] ++ ((ri l).take (i * 1))) ++ [Value.int .i64 n]) :: own a l.length cap 3 1 (ri l) :: L) w32 := hS32
      clear hS28
      refine WO.nil ?_
      have s35 : Rd w32 a l.length 1 (ri l) := (hS32.own_rd_i 2 rfl)
      refine NX.held s35 ?_
      refine WD.one (i := 11) put_spec_t6 #[true, true, true, true, true, true, true, true, true, true, true, true, false] rfl (by kernel_rfl) ?_
      refine WO.append (news := ((ri l).drop i)) 1 rfl Try.underlying22 Try.underlying22 (fun _ h => by cases h) Ty.sz3 (by decide) Ty.by3 Ty.zr3 rfl rfl rfl rfl hS32 rfl (Rd.src (((hS32.own_rd_i 2 rfl)).drop1 (i := i) (by omega) hcap)) (all_drop (ri_noAgg _)) (by omega) (by omega) (fun a37 c38 w36 hS36 => ?_)
      replace hS36 : St B (own (some ⟨g26, 0, none⟩) 1 1 3 1 [Value.int .i64 n] :: own a37 (((0 + i) + 1) + (l.length - i)) c38 3 1 ((([] ++ ((ri l).take (i * 1))) ++ [Value.int .i64 n]) ++ ((ri l).drop i)) :: own a l.length cap 3 1 (ri l) :: L) w36 := hS36
      clear hS32
      refine WO.nil ?_
      have s39 : Rd w36 a l.length 1 (ri l) := (hS36.own_rd_i 2 rfl)
      refine NX.held s39 ?_
      refine WD.pure (i := 12) put_spec_t6 #[true, true, true, true, true, true, true, true, true, true, true, true, true] rfl rfl rfl (by kernel_rfl) (PQ.then PQ.body) rfl (fun w => run_assign rfl) ?_
      refine WD.done put_spec_t6 (by kernel_rfl) ?_
      refine NX.go ?_
      refine WP.ret ?_
      refine NX.done (l := [.tmp 4]) rfl rfl ?_
      refine ⟨a37, c38, congrArg (fun z => Value.slice a37 z c38) (by rw [hout]; simp; omega), ?_⟩
      rw [hout]; exact own_len ((hS36.permT [0, 1, 0] (L' := own (some ⟨g26, 0, none⟩) 1 1 3 1 [Value.int .i64 n] :: own a l.length cap 3 1 (ri l) :: own a37 (((0 + i) + 1) + (l.length - i)) c38 3 1 ((([] ++ ((ri l).take (i * 1))) ++ [Value.int .i64 n]) ++ ((ri l).drop i)) :: L) rfl).drop.drop) (by simp; omega) (by simp [ri])
    ·
     refine WO.buildSlice (l := [Value.int .i64 n]) hS5 Try.underlying22 rfl (fun w => by kernel_rfl) rfl (fun g41 w40 lg41 hS40 => ?_)
     clear hS5
     have hS40 := hS40.own_of_cel (m := 1) (k := 1) rfl
     refine WO.nil ?_
     have s42 : Rd w40 a l.length 1 (ri l) := (hS40.own_rd_i 1 rfl)
     refine NX.held s42 ?_
     refine WD.one (i := 0) put_spec_t6 #[true, true, true, true, false, true, true, false, true, true, true, false, false] rfl (by kernel_rfl) ?_
     refine WO.buildSlice (l := []) hS40 Try.underlying22 rfl (fun w => by kernel_rfl) rfl (fun g44 w43 lg44 hS43 => ?_)
     clear hS40
     have hS43 := hS43.own_of_cel (m := 0) (k := 1) rfl
     refine WO.nil ?_
     have s45 : Rd w43 a l.length 1 (ri l) := (hS43.own_rd_i 2 rfl)
     refine NX.held s45 ?_
     refine WD.one (i := 4) put_spec_t6 #[true, true, true, true, true, true, true, false, true, true, true, false, false] rfl (by kernel_rfl) ?_
     refine WO.append (news := ((ri l).take (i * 1))) 0 rfl Try.underlying22 Try.underlying22 (fun _ h => by cases h) Ty.sz3 (by decide) Ty.by3 Ty.zr3 rfl rfl rfl rfl hS43 rfl (Rd.src (((hS43.own_rd_i 2 rfl)).take (m := i) (by omega))) (all_take (ri_noAgg _)) (by omega) (by omega) (fun a47 c48 w46 hS46 => ?_)
     replace hS46 : St B (own a47 (0 + i) c48 3 1 ([] ++ ((ri l).take (i * 1))) :: own (some ⟨g41, 0, none⟩) 1 1 3 1 [Value.int .i64 n] :: own a l.length cap 3 1 (ri l) :: L) w46 := hS46
     clear hS43
     refine WO.nil ?_
     have s49 : Rd w46 a l.length 1 (ri l) := (hS46.own_rd_i 2 rfl)
     refine NX.held s49 ?_
     refine WD.one (i := 7) put_spec_t6 #[true, true, true, true, true, true, true, true, true, true, true, false, false] rfl (by kernel_rfl) ?_
     refine WO.append (news := [Value.int .i64 n]) 0 rfl Try.underlying22 Try.underlying22 (fun _ h => by cases h) Ty.sz3 (by decide) Ty.by3 Ty.zr3 rfl rfl rfl rfl hS46 rfl ((hS46.own_rd_i 1 rfl).src) rfl (by omega) (by omega) (fun a51 c52 w50 hS50 => ?_)
     replace hS50 : St B (own a51 ((0 + i) + 1) c52 3 1 (([] ++ ((ri l).take (i * 1))) ++ [Value.int .i64 n]) :: own (some ⟨g41, 0, none⟩) 1 1 3 1 [Value.int .i64 n] :: own a l.length cap 3 1 (ri l) :: L) w50 := hS50
     clear hS46
     refine WO.nil ?_
     have s53 : Rd w50 a l.length 1 (ri l) := (hS50.own_rd_i 2 rfl)
     refine NX.held s53 ?_
     refine WD.one (i := 11) put_spec_t6 #[true, true, true, true, true, true, true, true, true, true, true, true, false] rfl (by kernel_rfl) ?_
     refine WO.append (news := ((ri l).drop i)) 0 rfl Try.underlying22 Try.underlying22 (fun _ h => by cases h) Ty.sz3 (by decide) Ty.by3 Ty.zr3 rfl rfl rfl rfl hS50 rfl (Rd.src (((hS50.own_rd_i 2 rfl)).drop1 (i := i) (by omega) hcap)) (all_drop (ri_noAgg _)) (by omega) (by omega) (fun a55 c56 w54 hS54 => ?_)
     replace hS54 : St B (own a55 (((0 + i) + 1) + (l.length - i)) c56 3 1 ((([] ++ ((ri l).take (i * 1))) ++ [Value.int .i64 n]) ++ ((ri l).drop i)) :: own (some ⟨g41, 0, none⟩) 1 1 3 1 [Value.int .i64 n] :: own a l.length cap 3 1 (ri l) :: L) w54 := hS54
     clear hS50
     refine WO.nil ?_
     have s57 : Rd w54 a l.length 1 (ri l) := (hS54.own_rd_i 2 rfl)
     refine NX.held s57 ?_
     refine WD.pure (i := 12) put_spec_t6 #[true, true, true, true, true, true, true, true, true, true, true, true, true] rfl rfl rfl (by kernel_rfl) (PQ.then PQ.body) rfl (fun w => run_assign rfl) ?_
     refine WD.done put_spec_t6 (by kernel_rfl) ?_
     refine NX.go ?_
     refine WP.ret ?_
     refine NX.done (l := [.tmp 4]) rfl rfl ?_
     refine ⟨a55, c56, congrArg (fun z => Value.slice a55 z c56) (by rw [hout]; simp; omega), ?_⟩
     rw [hout]; exact own_len ((hS54.permT [1, 1, 0] (L' := own (some ⟨g41, 0, none⟩) 1 1 3 1 [Value.int .i64 n] :: own a l.length cap 3 1 (ri l) :: own a55 (((0 + i) + 1) + (l.length - i)) c56 3 1 ((([] ++ ((ri l).take (i * 1))) ++ [Value.int .i64 n]) ++ ((ri l).drop i)) :: L) rfl).drop.drop) (by simp; omega) (by simp [ri])
   ·
    refine WP.condP rfl (fun g31 => ?_) (fun g31 => ?_)
    ·
     have hin := putF_in hlt (by rw [hy, g31])
     refine WP.seq ?_
     refine WP.region rfl ?_
     refine WO.val (run_move rfl) rfl rfl rfl ?_
     refine WO.val (run_assign rfl) rfl rfl rfl ?_
     refine WO.nil ?_
     refine NX.go ?_
     refine WP.ret ?_
     refine NX.thenRet ?_
     refine NX.done (l := [.tmp 4]) rfl rfl ?_
     refine ⟨a, cap, congrArg (fun z => Value.slice a z cap) (by rw [hin]), ?_⟩
     rw [hin]; exact hS2
    ·
     refine WP.skip ?_
     exact K3 () _ _ ⟨putF_out hi hlt (fun z hz => by rw [hy] at hz; cases hz; exact ⟨hge _ hy, by assumption⟩), hS2⟩ (Sub.cons rfl (Sub.cons rfl (Sub.cons rfl (Sub.nil _))))
  ·
   refine WO.off rfl rfl (decide_eq_false g24) rfl ?_
   refine WO.off rfl rfl (decide_eq_false g24) rfl ?_
   refine WO.off rfl rfl (decide_eq_false g24) rfl ?_
   refine WO.off rfl rfl (decide_eq_false g24) rfl ?_
   refine WO.off rfl rfl (decide_eq_false g24) rfl ?_
   refine WO.off rfl rfl (decide_eq_false g24) rfl ?_
   refine WO.val (run_pickF rfl (decide_eq_false g24) rfl) rfl rfl rfl ?_
   refine WO.nil ?_
   refine NX.go ?_
   refine WP.meet (α := Unit) (fun x => match x with | _ => [(0, Value.slice a l.length cap), (1, Value.int .i64 n), (5, Value.int .i64 (i : Int))]) (fun x w => match x with | _ => (putF l n = (l.take i ++ [n]) ++ l.drop i) ∧ St B (own a l.length cap 3 1 (ri l) :: L) w) ?_ (fun K58 => ?_)
   ·
    rintro _ w59 ⟨hout, hS59⟩
    clear hS2
    refine NX.go ?_
    refine WP.seq ?_
    have hcap := hS59.own_le_i 0 rfl
    refine WD.start (fun w => Rd w a l.length 1 (ri l)) [] #[false, false, false, false, false, false, false, false, false, false, false, false, false] Ty.mo rfl (by kernel_rfl) hS59 (fun _ h => (h.own_rd_i 0 rfl)) (fun w60 hS60 s61 => ?_)
    clear hS59
    refine WD.pure (i := 1) put_spec_t6 #[false, true, false, false, false, false, false, false, false, false, false, false, false] rfl rfl rfl (by kernel_rfl) (PQ.then PQ.body) rfl (fun w => run_move rfl) ?_
    refine WD.pure (i := 2) put_spec_t6 #[false, true, true, false, false, false, false, false, false, false, false, false, false] rfl rfl rfl (by kernel_rfl) (PQ.then PQ.body) rfl (fun w => run_move rfl) ?_
    refine WD.pure (i := 3) put_spec_t6 #[false, true, true, true, false, false, false, false, false, false, false, false, false] rfl rfl rfl (by kernel_rfl) (PQ.then PQ.body) rfl (fun w => run_sliceTo (j := i) Try.underlying22 Ty.sz3 rfl ⟨_, rfl⟩ (by omega)) ?_
    refine WD.pure (i := 5) put_spec_t6 #[false, true, true, true, false, true, false, false, false, false, false, false, false] rfl rfl rfl (by kernel_rfl) (PQ.then PQ.body) rfl (fun w => run_move rfl) ?_
    refine WD.pure (i := 8) put_spec_t6 #[false, true, true, true, false, true, false, false, true, false, false, false, false] rfl rfl rfl (by kernel_rfl) (PQ.then PQ.body) rfl (fun w => run_move rfl) ?_
    refine WD.pure (i := 9) put_spec_t6 #[false, true, true, true, false, true, false, false, true, true, false, false, false] rfl rfl rfl (by kernel_rfl) (PQ.then PQ.body) rfl (fun w => run_move rfl) ?_
    refine WD.pure (i := 10) put_spec_t6 #[false, true, true, true, false, true, false, false, true, true, true, false, false] rfl rfl rfl (by kernel_rfl) (PQ.then PQ.body) rfl (fun w => run_sliceL (i := i) (j := l.length) Try.underlying22 Ty.sz3 rfl ⟨_, rfl⟩ rfl (by omega) (by omega)) ?_
    refine WD.two (i := 0) (k := 6) put_spec_t6 #[true, true, true, true, false, true, false, false, true, true, true, false, false] #[false, true, true, true, false, true, true, false, true, true, true, false, false] rfl rfl (by kernel_rfl) ?_ ?_
    ·
     refine WO.buildSlice (l := []) hS60 Try.underlying22 rfl (fun w => by kernel_rfl) rfl (fun g63 w62 lg63 hS62 => ?_)
     clear hS60
     have hS62 := hS62.own_of_cel (m := 0) (k := 1) rfl
     refine WO.nil ?_
     have s64 : Rd w62 a l.length 1 (ri l) := (hS62.own_rd_i 1 rfl)
     refine NX.held s64 ?_
     refine WD.two (i := 4) (k := 6) put_spec_t6 #[true, true, true, true, true, true, false, false, true, true, true, false, false] #[true, true, true, true, false, true, true, false, true, true, true, false, false] rfl rfl (by kernel_rfl) ?_ ?_
     ·
      refine WO.append (news := ((ri l).take (i * 1))) 0 rfl Try.underlying22 Try.underlying22 (fun _ h => by cases h) Ty.sz3 (by decide) Ty.by3 Ty.zr3 rfl rfl rfl rfl hS62 rfl (Rd.src (((hS62.own_rd_i 1 rfl)).take (m := i) (by omega))) (all_take (ri_noAgg _)) (by omega) (by omega) (fun a66 c67 w65 hS65 => ?_)
      replace hS65 : St B (own a66 (0 + i) c67 3 1 ([] ++ ((ri l).take (i * 1))) :: own a l.length cap 3 1 (ri l) :: L) w65 := hS65
      clear hS62
      refine WO.nil ?_
      have s68 : Rd w65 a l.length 1 (ri l) := (hS65.own_rd_i 1 rfl)
      refine NX.held s68 ?_
      refine WD.one (i := 6) put_spec_t6 #[true, true, true, true, true, true, true, false, true, true, true, false, false] rfl (by kernel_rfl) ?_
      refine WO.buildSlice (l := [Value.int .i64 n]) hS65 Try.underlying22 rfl (fun w => by kernel_rfl) rfl (fun g70 w69 lg70 hS69 => ?_)
      clear hS65
      have hS69 := hS69.own_of_cel (m := 1) (k := 1) rfl
      refine WO.nil ?_
      have s71 : Rd w69 a l.length 1 (ri l) := (hS69.own_rd_i 2 rfl)
      refine NX.held s71 ?_
      refine WD.one (i := 7) put_spec_t6 #[true, true, true, true, true, true, true, true, true, true, true, false, false] rfl (by kernel_rfl) ?_
      refine WO.append (news := [Value.int .i64 n]) 1 rfl Try.underlying22 Try.underlying22 (fun _ h => by cases h) Ty.sz3 (by decide) Ty.by3 Ty.zr3 rfl rfl rfl rfl hS69 rfl ((hS69.own_rd_i 0 rfl).src) rfl (by omega) (by omega) (fun a73 c74 w72 hS72 => ?_)
      replace hS72 : St B (own (some ⟨g70, 0, none⟩) 1 1 3 1 [Value.int .i64 n] :: own a73 ((0 + i) + 1) c74 3 1 (([] ++ ((ri l).take (i * 1))) ++ [Value.int .i64 n]) :: own a l.length cap 3 1 (ri l) :: L) w72 := hS72
      clear hS69
      refine WO.nil ?_
      have s75 : Rd w72 a l.length 1 (ri l) := (hS72.own_rd_i 2 rfl)
      refine NX.held s75 ?_
      refine WD.one (i := 11) put_spec_t6 #[true, true, true, true, true, true, true, true, true, true, true, true, false] rfl (by kernel_rfl) ?_
      refine WO.append (news := ((ri l).drop i)) 1 rfl Try.underlying22 Try.underlying22 (fun _ h => by cases h) Ty.sz3 (by decide) Ty.by3 Ty.zr3 rfl rfl rfl rfl hS72 rfl (Rd.src (((hS72.own_rd_i 2 rfl)).drop1 (i := i) (by omega) hcap)) (all_drop (ri_noAgg _)) (by omega) (by omega) (fun a77 c78 w76 hS76 => ?_)
      replace hS76 : St B (own (some ⟨g70, 0, none⟩) 1 1 3 1 [Value.int .i64 n] :: own a77 (((0 + i) + 1) + (l.length - i)) c78 3 1 ((([] ++ ((ri l).take (i * 1))) ++ [Value.int .i64 n]) ++ ((ri l).drop i)) :: own a l.length cap 3 1 (ri l) :: L) w76 := hS76
      clear hS72
      refine WO.nil ?_
      have s79 : Rd w76 a l.length 1 (ri l) := (hS76.own_rd_i 2 rfl)
      refine NX.held s79 ?_
      refine WD.pure (i := 12) put_spec_t6 #[true, true, true, true, true, true, true, true, true, true, true, true, true] rfl rfl rfl (by kernel_rfl) (PQ.then PQ.body) rfl (fun w => run_assign rfl) ?_
      refine WD.done put_spec_t6 (by kernel_rfl) ?_
      refine NX.go ?_
      refine WP.ret ?_
      refine NX.done (l := [.tmp 4]) rfl rfl ?_
      refine ⟨a77, c78, congrArg (fun z => Value.slice a77 z c78) (by rw [hout]; simp; omega), ?_⟩
      rw [hout]; exact own_len ((hS76.permT [0, 1, 0] (L' := own (some ⟨g70, 0, none⟩) 1 1 3 1 [Value.int .i64 n] :: own a l.length cap 3 1 (ri l) :: own a77 (((0 + i) + 1) + (l.length - i)) c78 3 1 ((([] ++ ((ri l).take (i * 1))) ++ [Value.int .i64 n]) ++ ((ri l).drop i)) :: L) rfl).drop.drop) (by simp; omega) (by simp [ri])
     ·
      refine WO.buildSlice (l := [Value.int .i64 n]) hS62 Try.underlying22 rfl (fun w => by kernel_rfl) rfl (fun g81 w80 lg81 hS80 => ?_)
      clear hS62
      have hS80 := hS80.own_of_cel (m := 1) (k := 1) rfl
      refine WO.nil ?_
      have s82 : Rd w80 a l.length 1 (ri l) := (hS80.own_rd_i 2 rfl)
      refine NX.held s82 ?_
      refine WD.one (i := 4) put_spec_t6 #[true, true, true, true, true, true, true, false, true, true, true, false, false] rfl (by kernel_rfl) ?_
      refine WO.append (news := ((ri l).take (i * 1))) 1 rfl Try.underlying22 Try.underlying22 (fun _ h => by cases h) Ty.sz3 (by decide) Ty.by3 Ty.zr3 rfl rfl rfl rfl hS80 rfl (Rd.src (((hS80.own_rd_i 2 rfl)).take (m := i) (by omega))) (all_take (ri_noAgg _)) (by omega) (by omega) (fun a84 c85 w83 hS83 => ?_)
      replace hS83 : St B (own (some ⟨g81, 0, none⟩) 1 1 3 1 [Value.int .i64 n] :: own a84 (0 + i) c85 3 1 ([] ++ ((ri l).take (i * 1))) :: own a l.length cap 3 1 (ri l) :: L) w83 := hS83
      clear hS80
      refine WO.nil ?_
      have s86 : Rd w83 a l.length 1 (ri l) := (hS83.own_rd_i 2 rfl)
      refine NX.held s86 ?_
      refine WD.one (i := 7) put_spec_t6 #[true, true, true, true, true, true, true, true, true, true, true, false, false] rfl (by kernel_rfl) ?_
      refine WO.append (news := [Value.int .i64 n]) 1 rfl Try.underlying22 Try.underlying22 (fun _ h => by cases h) Ty.sz3 (by decide) Ty.by3 Ty.zr3 rfl rfl rfl rfl hS83 rfl ((hS83.own_rd_i 0 rfl).src) rfl (by omega) (by omega) (fun a88 c89 w87 hS87 => ?_)
      replace hS87 : St B (own (some ⟨g81, 0, none⟩) 1 1 3 1 [Value.int .i64 n] :: own a88 ((0 + i) + 1) c89 3 1 (([] ++ ((ri l).take (i * 1))) ++ [Value.int .i64 n]) :: own a l.length cap 3 1 (ri l) :: L) w87 := hS87
      clear hS83
      refine WO.nil ?_
      have s90 : Rd w87 a l.length 1 (ri l) := (hS87.own_rd_i 2 rfl)
      refine NX.held s90 ?_
      refine WD.one (i := 11) put_spec_t6 #[true, true, true, true, true, true, true, true, true, true, true, true, false] rfl (by kernel_rfl) ?_
      refine WO.append (news := ((ri l).drop i)) 1 rfl Try.underlying22 Try.underlying22 (fun _ h => by cases h) Ty.sz3 (by decide) Ty.by3 Ty.zr3 rfl rfl rfl rfl hS87 rfl (Rd.src (((hS87.own_rd_i 2 rfl)).drop1 (i := i) (by omega) hcap)) (all_drop (ri_noAgg _)) (by omega) (by omega) (fun a92 c93 w91 hS91 => ?_)
      replace hS91 : St B (own (some ⟨g81, 0, none⟩) 1 1 3 1 [Value.int .i64 n] :: own a92 (((0 + i) + 1) + (l.length - i)) c93 3 1 ((([] ++ ((ri l).take (i * 1))) ++ [Value.int .i64 n]) ++ ((ri l).drop i)) :: own a l.length cap 3 1 (ri l) :: L) w91 := hS91
      clear hS87
      refine WO.nil ?_
      have s94 : Rd w91 a l.length 1 (ri l) := (hS91.own_rd_i 2 rfl)
      refine NX.held s94 ?_
      refine WD.pure (i := 12) put_spec_t6 #[true, true, true, true, true, true, true, true, true, true, true, true, true] rfl rfl rfl (by kernel_rfl) (PQ.then PQ.body) rfl (fun w => run_assign rfl) ?_
      refine WD.done put_spec_t6 (by kernel_rfl) ?_
      refine NX.go ?_
      refine WP.ret ?_
      refine NX.done (l := [.tmp 4]) rfl rfl ?_
      refine ⟨a92, c93, congrArg (fun z => Value.slice a92 z c93) (by rw [hout]; simp; omega), ?_⟩
      rw [hout]; exact own_len ((hS91.permT [0, 1, 0] (L' := own (some ⟨g81, 0, none⟩) 1 1 3 1 [Value.int .i64 n] :: own a l.length cap 3 1 (ri l) :: own a92 (((0 + i) + 1) + (l.length - i)) c93 3 1 ((([] ++ ((ri l).take (i * 1))) ++ [Value.int .i64 n]) ++ ((ri l).drop i)) :: L) rfl).drop.drop) (by simp; omega) (by simp [ri])
    ·
     refine WO.buildSlice (l := [Value.int .i64 n]) hS60 Try.underlying22 rfl (fun w => by kernel_rfl) rfl (fun g96 w95 lg96 hS95 => ?_)
     clear hS60
     have hS95 := hS95.own_of_cel (m := 1) (k := 1) rfl
     refine WO.nil ?_
     have s97 : Rd w95 a l.length 1 (ri l) := (hS95.own_rd_i 1 rfl)
     refine NX.held s97 ?_
     refine WD.one (i := 0) put_spec_t6 #[true, true, true, true, false, true, true, false, true, true, true, false, false] rfl (by kernel_rfl) ?_
     refine WO.buildSlice (l := []) hS95 Try.underlying22 rfl (fun w => by kernel_rfl) rfl (fun g99 w98 lg99 hS98 => ?_)
     clear hS95
     have hS98 := hS98.own_of_cel (m := 0) (k := 1) rfl
     refine WO.nil ?_
     have s100 : Rd w98 a l.length 1 (ri l) := (hS98.own_rd_i 2 rfl)
     refine NX.held s100 ?_
     refine WD.one (i := 4) put_spec_t6 #[true, true, true, true, true, true, true, false, true, true, true, false, false] rfl (by kernel_rfl) ?_
     refine WO.append (news := ((ri l).take (i * 1))) 0 rfl Try.underlying22 Try.underlying22 (fun _ h => by cases h) Ty.sz3 (by decide) Ty.by3 Ty.zr3 rfl rfl rfl rfl hS98 rfl (Rd.src (((hS98.own_rd_i 2 rfl)).take (m := i) (by omega))) (all_take (ri_noAgg _)) (by omega) (by omega) (fun a102 c103 w101 hS101 => ?_)
     replace hS101 : St B (own a102 (0 + i) c103 3 1 ([] ++ ((ri l).take (i * 1))) :: own (some ⟨g96, 0, none⟩) 1 1 3 1 [Value.int .i64 n] :: own a l.length cap 3 1 (ri l) :: L) w101 := hS101
     clear hS98
     refine WO.nil ?_
     have s104 : Rd w101 a l.length 1 (ri l) := (hS101.own_rd_i 2 rfl)
     refine NX.held s104 ?_
     refine WD.one (i := 7) put_spec_t6 #[true, true, true, true, true, true, true, true, true, true, true, false, false] rfl (by kernel_rfl) ?_
     refine WO.append (news := [Value.int .i64 n]) 0 rfl Try.underlying22 Try.underlying22 (fun _ h => by cases h) Ty.sz3 (by decide) Ty.by3 Ty.zr3 rfl rfl rfl rfl hS101 rfl ((hS101.own_rd_i 1 rfl).src) rfl (by omega) (by omega) (fun a106 c107 w105 hS105 => ?_)
     replace hS105 : St B (own a106 ((0 + i) + 1) c107 3 1 (([] ++ ((ri l).take (i * 1))) ++ [Value.int .i64 n]) :: own (some ⟨g96, 0, none⟩) 1 1 3 1 [Value.int .i64 n] :: own a l.length cap 3 1 (ri l) :: L) w105 := hS105
     clear hS101
     refine WO.nil ?_
     have s108 : Rd w105 a l.length 1 (ri l) := (hS105.own_rd_i 2 rfl)
     refine NX.held s108 ?_
     refine WD.one (i := 11) put_spec_t6 #[true, true, true, true, true, true, true, true, true, true, true, true, false] rfl (by kernel_rfl) ?_
     refine WO.append (news := ((ri l).drop i)) 0 rfl Try.underlying22 Try.underlying22 (fun _ h => by cases h) Ty.sz3 (by decide) Ty.by3 Ty.zr3 rfl rfl rfl rfl hS105 rfl (Rd.src (((hS105.own_rd_i 2 rfl)).drop1 (i := i) (by omega) hcap)) (all_drop (ri_noAgg _)) (by omega) (by omega) (fun a110 c111 w109 hS109 => ?_)
     replace hS109 : St B (own a110 (((0 + i) + 1) + (l.length - i)) c111 3 1 ((([] ++ ((ri l).take (i * 1))) ++ [Value.int .i64 n]) ++ ((ri l).drop i)) :: own (some ⟨g96, 0, none⟩) 1 1 3 1 [Value.int .i64 n] :: own a l.length cap 3 1 (ri l) :: L) w109 := hS109
     clear hS105
     refine WO.nil ?_
     have s112 : Rd w109 a l.length 1 (ri l) := (hS109.own_rd_i 2 rfl)
     refine NX.held s112 ?_
     refine WD.pure (i := 12) put_spec_t6 #[true, true, true, true, true, true, true, true, true, true, true, true, true] rfl rfl rfl (by kernel_rfl) (PQ.then PQ.body) rfl (fun w => run_assign rfl) ?_
     refine WD.done put_spec_t6 (by kernel_rfl) ?_
     refine NX.go ?_
     refine WP.ret ?_
     refine NX.done (l := [.tmp 4]) rfl rfl ?_
     refine ⟨a110, c111, congrArg (fun z => Value.slice a110 z c111) (by rw [hout]; simp; omega), ?_⟩
     rw [hout]; exact own_len ((hS109.permT [1, 1, 0] (L' := own (some ⟨g96, 0, none⟩) 1 1 3 1 [Value.int .i64 n] :: own a l.length cap 3 1 (ri l) :: own a110 (((0 + i) + 1) + (l.length - i)) c111 3 1 ((([] ++ ((ri l).take (i * 1))) ++ [Value.int .i64 n]) ++ ((ri l).drop i)) :: L) rfl).drop.drop) (by simp; omega) (by simp [ri])
   ·
    refine WP.condF rfl rfl ?_
    refine WP.skip ?_
    exact K58 () _ _ ⟨putF_out hi hlt (fun z hz => absurd (List.getElem?_eq_some_iff.1 hz).1 (by omega)), hS2⟩ (Sub.cons rfl (Sub.cons rfl (Sub.cons rfl (Sub.nil _))))
 ·
  refine WP.block ?_
  refine WP.loop (α := Nat) (fun x => match x with | i => [(0, Value.slice a l.length cap), (1, Value.int .i64 n), (5, Value.int .i64 (i : Int))]) (fun x w => match x with | i => (i ≤ l.length ∧ ∀ j x, j < i → l[j]? = some x → x < n) ∧ St B (own a l.length cap 3 1 (ri l) :: L) w) (fun x => match x with | i => l.length - i) 0 ⟨⟨by omega, fun j x h => absurd h (by omega)⟩, hS⟩ (Sub.cons rfl (Sub.cons rfl (Sub.consE rfl (by first | rfl | first | rfl | (congr 1; omega) | (simp; done) | (simp; omega)) (Sub.nil _)))) ?_
  rintro i w113 ⟨⟨hi, hlt⟩, hS113⟩
  clear hS
  refine WP.seq ?_
  refine WP.seq ?_
  refine WP.region rfl ?_
  refine WO.val (run_move rfl) rfl rfl rfl ?_
  refine WO.val (run_move rfl) rfl rfl rfl ?_
  refine WO.val (run_len rfl Try.underlying22 rfl) rfl rfl rfl ?_
  refine WO.val (run_lss rfl rfl) rfl rfl rfl ?_
  refine WO.val (run_move rfl) rfl rfl rfl ?_
  by_cases g10 : (i : Int) < ((l.length : Nat) : Int)
  ·
   refine WO.on rfl rfl (decide_eq_true g10) ?_
   refine WO.val (run_move rfl) rfl rfl rfl ?_
   refine WO.on rfl rfl (decide_eq_true g10) ?_
   refine WO.val (run_move rfl) rfl rfl rfl ?_
   refine WO.on rfl rfl (decide_eq_true g10) ?_
   obtain ⟨x, hx⟩ : ∃ x, l[i]? = some x := ⟨_, List.getElem?_eq_getElem (by omega)⟩
   refine WO.val (run_indexAddr (q := adr a i) Try.underlying22 Ty.sz3 rfl rfl (by omega) (by omega) ((hS113.own_rd_i 0 rfl).2.1 (by omega)) (by simp)) rfl rfl rfl ?_
   refine WO.on rfl rfl (decide_eq_true g10) ?_
   refine WO.val (run_load Ty.ag3 rfl ((hS113.own_rd_i 0 rfl).cell (ri_get hx))) rfl rfl rfl ?_
   refine WO.on rfl rfl (decide_eq_true g10) ?_
   refine WO.val (run_move rfl) rfl rfl rfl ?_
   refine WO.on rfl rfl (decide_eq_true g10) ?_
   refine WO.val (run_lss rfl rfl) rfl rfl rfl ?_
   refine WO.val (run_pickT rfl (decide_eq_true g10) rfl) rfl rfl rfl ?_
   refine WO.nil ?_
   refine NX.go ?_
   refine WP.condP rfl (fun g17 => ?_) (fun g17 => ?_)
   ·
    refine WP.skip ?_
    refine NX.go ?_
    refine WP.block ?_
    refine WP.region rfl ?_
    refine WO.val (run_move rfl) rfl rfl rfl ?_
    refine WO.val (run_add rfl rfl (IntWalk.i64_in _ (by omega))) rfl rfl rfl ?_
    refine WO.val (run_assign rfl) rfl rfl rfl ?_
    refine WO.nil ?_
    refine NX.blk ?_
    exact NX.again (i + 1) ⟨⟨by omega, put_next hlt hx (by assumption)⟩, hS113⟩ (by show l.length - (i + 1) < l.length - i; omega) (Sub.cons rfl (Sub.cons rfl (Sub.consE rfl (by congr 1) (Sub.nil _))))
   ·
    refine WP.exit ?_
    refine NX.thenExit ?_
    refine NX.thenExit ?_
    refine NX.blkExit ?_
    exact K1 i _ _ ⟨⟨hi, hlt, fun z hz => by rw [hx] at hz; cases hz; assumption⟩, hS113⟩ (Sub.cons rfl (Sub.cons rfl (Sub.cons rfl (Sub.nil _))))
  ·
   refine WO.off rfl rfl (decide_eq_false g10) rfl ?_
   refine WO.off rfl rfl (decide_eq_false g10) rfl ?_
   refine WO.off rfl rfl (decide_eq_false g10) rfl ?_
   refine WO.off rfl rfl (decide_eq_false g10) rfl ?_
   refine WO.off rfl rfl (decide_eq_false g10) rfl ?_
   refine WO.off rfl rfl (decide_eq_false g10) rfl ?_
   refine WO.val (run_pickF rfl (decide_eq_false g10) rfl) rfl rfl rfl ?_
   refine WO.nil ?_
   refine NX.go ?_
   refine WP.condF rfl rfl ?_
   refine WP.exit ?_
   refine NX.thenExit ?_
   refine NX.thenExit ?_
   refine NX.blkExit ?_
   exact K1 i _ _ ⟨⟨hi, hlt, fun z hz => absurd (List.getElem?_eq_some_iff.1 hz).1 (by omega)⟩, hS113⟩ (Sub.cons rfl (Sub.cons rfl (Sub.cons rfl (Sub.nil _))))
end Go.Proofs.Ytogidmceomlkeaa.SL
