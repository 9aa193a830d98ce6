/- An index: its words; what is found. -/
import Derived.Test.YtogidmceomlkeaaGreatDoorKi2
namespace Go.Proofs.YtogidmceomlkeaaGreatDoor.SL
open Go.RowKit Go.Proofs.YtogidmceomlkeaaGreatDoor
open Go.Proofs.YtogidmceomlkeaaGreatDoorW.PrintLast (rtab opsOf)
set_option linter.unusedVariables false
set_option linter.unusedSimpArgs false

/-! Sealed rows. -/
def roRows : List RowV → HP
  | [] => .pure True
  | r :: R => .sep (ro r.a r.l.length 35 2 (r.l.flatMap prc)) (roRows R)
theorem roRows_pers : ∀ R, (roRows R).Pers
  | [] => HP.pers_pure _
  | r :: R => HP.pers_sep (ro_pers _ _ _ _ _) (roRows_pers R)
theorem roRows_rd {B w : World} {L : List HP} : ∀ {R : List RowV}, St B (roRows R :: L) w → ∀ r ∈ R, Rd w r.a r.l.length 2 (r.l.flatMap prc)
  | [], _, r, h => by cases h
  | q :: R, hS, r, h => by
    rcases List.mem_cons.1 h with e | e
    · subst e; exact hS.sep.ro_rd
    · exact roRows_rd (R := R) hS.sep.drop r e
theorem roRows_snoc {B w : World} {r : RowV} : ∀ {R : List RowV} {L : List HP}, St B (roRows R :: ro r.a r.l.length 35 2 (r.l.flatMap prc) :: L) w → St B (roRows (R ++ [r]) :: L) w
  | [], L, h => (h.permT [1, 0] (L' := ro r.a r.l.length 35 2 (r.l.flatMap prc) :: roRows [] :: L) rfl).join
  | q :: R, L, h => by
    have h1 := h.sep.permT [1, 1, 0] (L' := roRows R :: ro r.a r.l.length 35 2 (r.l.flatMap prc) :: ro q.a q.l.length 35 2 (q.l.flatMap prc) :: L) rfl
    have h2 := roRows_snoc (r := r) (R := R) h1
    exact (h2.permT [1, 0] (L' := ro q.a q.l.length 35 2 (q.l.flatMap prc) :: roRows (R ++ [r]) :: L) rfl).join
def rowsP (a : Option Addr) (R : List RowV) : HP := .sep (ro a R.length 29 1 (R.flatMap rowc)) (roRows R)
theorem rowsP_rd {B w : World} {L : List HP} {a : Option Addr} {R : List RowV} (h : St B (rowsP a R :: L) w) : RdRows w a R := ⟨h.sep.ro_rd, roRows_rd (h.sep.permT [1] (L' := roRows R :: ro a R.length 29 1 (R.flatMap rowc) :: L) rfl)⟩
/-! Lists of numbers under pairs. -/
structure DV where
  k : Pr
  a : Option Addr
  l : List Int
  cap : Nat
def ents (ds : List DV) : List (Pr × Value) := ds.map fun d => (d.k, Value.slice d.a d.l.length d.cap)
def ownAll : List DV → HP
  | [] => .pure True
  | d :: ds => .sep (own d.a d.l.length d.cap 3 1 (ri d.l)) (ownAll ds)
def ownRest (p : Pr) : List DV → HP
  | [] => .pure True
  | d :: ds => if p = d.k then ownAll ds else .sep (own d.a d.l.length d.cap 3 1 (ri d.l)) (ownRest p ds)
def getD (p : Pr) : List DV → Option Addr × List Int × Nat
  | [] => (none, [], 0)
  | d :: ds => if p = d.k then (d.a, d.l, d.cap) else getD p ds
def putD (p : Pr) (x : Option Addr × List Int × Nat) : List DV → List DV
  | [] => [⟨p, x.1, x.2.1, x.2.2⟩]
  | d :: ds => if p = d.k then ⟨p, x.1, x.2.1, x.2.2⟩ :: ds else d :: putD p x ds
def lstD (p : Pr) (ds : List DV) : List Int := (getD p ds).2.1
theorem ent_get (p : Pr) : ∀ ds, (getK (ents ds) p).getD (.slice none 0 0) = .slice (getD p ds).1 (getD p ds).2.1.length (getD p ds).2.2
  | [] => rfl
  | d :: ds => by
    have := ent_get p ds
    simp only [ents, List.map_cons, getK, getD] at this ⊢
    split
    · rfl
    · exact this
theorem ent_put (p : Pr) (x : Option Addr × List Int × Nat) : ∀ ds, putK (ents ds) p (.slice x.1 x.2.1.length x.2.2) = ents (putD p x ds)
  | [] => rfl
  | d :: ds => by
    have := ent_put p x ds
    simp only [ents, List.map_cons, putK, putD] at this ⊢
    split
    · rename_i e; rw [e]; rfl
    · rw [this]; rfl
theorem ownAll_get {B w : World} (p : Pr) : ∀ {ds : List DV} {L : List HP}, St B (ownAll ds :: L) w → St B (own (getD p ds).1 (getD p ds).2.1.length (getD p ds).2.2 3 1 (ri (getD p ds).2.1) :: ownRest p ds :: L) w
  | [], L, h => h.own_nil 3 1
  | d :: ds, L, h => by
    simp only [getD, ownRest]
    split
    · exact h.sep
    · have h1 := h.sep.permT [1, 0] (L' := ownAll ds :: own d.a d.l.length d.cap 3 1 (ri d.l) :: L) rfl
      have h2 := ownAll_get p h1
      have h3 := h2.permT [2, 1, 0] (L' := own d.a d.l.length d.cap 3 1 (ri d.l) :: ownRest p ds :: own (getD p ds).1 (getD p ds).2.1.length (getD p ds).2.2 3 1 (ri (getD p ds).2.1) :: L) rfl
      exact h3.join.permT [1, 0] rfl
theorem ownAll_put {B w : World} (p : Pr) (x : Option Addr × List Int × Nat) : ∀ {ds : List DV} {L : List HP}, St B (own x.1 x.2.1.length x.2.2 3 1 (ri x.2.1) :: ownRest p ds :: L) w → St B (ownAll (putD p x ds) :: L) w
  | [], L, h => h.join
  | d :: ds, L, h => by
    simp only [putD, ownRest] at h ⊢
    split
    · rename_i e; rw [if_pos e] at h; exact h.join
    · rename_i e; rw [if_neg e] at h
      have h1 := (h.permT [1, 0] (L' := HP.sep (own d.a d.l.length d.cap 3 1 (ri d.l)) (ownRest p ds) :: own x.1 x.2.1.length x.2.2 3 1 (ri x.2.1) :: L) rfl).sep
      have h2 := h1.permT [2, 1, 0] (L' := own x.1 x.2.1.length x.2.2 3 1 (ri x.2.1) :: ownRest p ds :: own d.a d.l.length d.cap 3 1 (ri d.l) :: L) rfl
      have h3 := ownAll_put p x h2
      exact (h3.permT [1, 0] (L' := own d.a d.l.length d.cap 3 1 (ri d.l) :: ownAll (putD p x ds) :: L) rfl).join
theorem lstD_put (p q : Pr) (x : Option Addr × List Int × Nat) : ∀ ds, lstD q (putD p x ds) = if q = p then x.2.1 else lstD q ds
  | [] => by simp only [putD, lstD, getD]; split <;> rfl
  | d :: ds => by
    have ih := lstD_put p q x ds
    simp only [putD, lstD] at ih ⊢
    by_cases hp : p = d.k
    · subst hp
      simp only [if_true, getD]
      by_cases hq : q = d.k <;> simp [hq]
    · simp only [if_neg hp, getD]
      by_cases hq : q = d.k
      · subst hq; simp [Ne.symm hp]
      · simp only [if_neg hq, ih]
theorem putD_same (p : Pr) : ∀ {ds : List DV}, (getD p ds).2.1 ≠ [] → putD p (getD p ds) ds = ds
  | [], h => absurd rfl h
  | d :: ds, h => by
    simp only [getD] at h ⊢
    by_cases hp : p = d.k
    · subst hp; simp [putD]
    · simp only [putD, if_neg hp] at h ⊢
      rw [putD_same p h]
/-! What the lists are, round by round. -/
def pre (R : List RowV) (i : Nat) (p : Pr) : List Int := idxGo (fun r => decide (p ∈ r)) 0 ((R.map RowV.l).take i)
theorem idxGo_snoc (f : List Pr → Bool) (r : List Pr) : ∀ (l : List (List Pr)) (j : Nat), idxGo f j (l ++ [r]) = idxGo f j l ++ (if f r then [((j + l.length : Nat) : Int)] else [])
  | [], j => by simp [idxGo]
  | q :: l, j => by
    simp only [List.cons_append, idxGo, idxGo_snoc f r l (j + 1), List.length_cons, List.append_assoc]
    congr 3
    simp; omega
theorem pre_succ {R : List RowV} {i : Nat} {r : RowV} (h : R[i]? = some r) (p : Pr) : pre R (i + 1) p = pre R i p ++ (if decide (p ∈ r.l) then [(i : Int)] else []) := by
  have hi := (List.getElem?_eq_some_iff.1 h).1
  unfold pre
  rw [List.take_add_one, List.getElem?_map, h]
  show idxGo _ 0 (_ ++ [r.l]) = _
  rw [idxGo_snoc]
  simp [show min i R.length = i by omega]
theorem pre_all {R : List RowV} (p : Pr) : pre R R.length p = ofF (R.map RowV.l) p := by unfold pre ofF; rw [List.take_of_length_le (by simp)]
theorem pre_lt {R : List RowV} {i : Nat} (p : Pr) : ∀ x ∈ pre R i p, x < (i : Int) := by
  have key : ∀ (f : List Pr → Bool) (l : List (List Pr)) (j : Nat), ∀ x ∈ idxGo f j l, x < ((j + l.length : Nat) : Int) := by
    intro f l
    induction l with
    | nil => intro j x h; cases h
    | cons q l ih =>
      intro j x h
      simp only [idxGo, List.mem_append] at h
      rcases h with h | h
      · split at h
        · simp at h; subst h; simp; omega
        · cases h
      · have := ih (j + 1) x h; simp at this ⊢; omega
  intro x h
  have := key _ _ 0 x h
  have h2 := List.length_take_le i (R.map RowV.l)
  omega
theorem pre_len {R : List RowV} {i : Nat} (p : Pr) : (pre R i p).length ≤ i := by
  have key : ∀ (f : List Pr → Bool) (l : List (List Pr)) (j : Nat), (idxGo f j l).length ≤ l.length := by
    intro f l
    induction l with
    | nil => intro j; exact Nat.le_refl _
    | cons q l ih =>
      intro j; simp only [idxGo, List.length_append, List.length_cons]
      have := ih (j + 1); split <;> simp <;> omega
  exact Nat.le_trans (key _ _ _) (List.length_take_le _ _)
def Fil (R : List RowV) (i : Nat) (r : RowV) (k : Nat) (ds : List DV) : Prop := ∀ p, lstD p ds = pre R i p ++ (if decide (p ∈ r.l.take k) then [(i : Int)] else [])
theorem fil_len {R : List RowV} {i k : Nat} {r : RowV} {ds : List DV} (h : Fil R i r k ds) (p : Pr) : (lstD p ds).length ≤ i + 1 := by
  have := pre_len (R := R) (i := i) p
  have := if_len (c := decide (p ∈ r.l.take k)) (i := (i : Int))
  rw [h p, List.length_append]; omega
theorem fil_keep {R : List RowV} {i k : Nat} {r : RowV} {q : Pr} {ds : List DV} (h : Fil R i r k ds) (hq : r.l[k]? = some q) (hin : q ∈ r.l.take k) : Fil R i r (k + 1) ds := by
  intro p
  rw [h p, in_step hq]
  by_cases e : q = p
  · subst e; simp [hin]
  · simp [e]
theorem fil_put {R : List RowV} {i k : Nat} {r : RowV} {q : Pr} {ds : List DV} {a : Option Addr} {c : Nat} (h : Fil R i r k ds) (hq : r.l[k]? = some q) (hin : ¬ q ∈ r.l.take k) : Fil R i r (k + 1) (putD q (a, lstD q ds ++ [(i : Int)], c) ds) := by
  intro p
  rw [lstD_put, in_step hq]
  by_cases e : p = q
  · subst e
    rw [if_pos rfl]
    show lstD p ds ++ [(i : Int)] = _
    rw [h p]; simp [hin]
  · rw [if_neg e, h p]; simp [Ne.symm e]
theorem fil_in {R : List RowV} {i k : Nat} {r : RowV} {q : Pr} {ds : List DV} {z : Int} (h : Fil R i r k ds) (hz : (lstD q ds)[(lstD q ds).length - 1]? = some z) : z = (i : Int) ↔ q ∈ r.l.take k := by
  rw [h q] at hz
  by_cases hin : q ∈ r.l.take k
  · simp [hin] at hz; simp [hin, hz]
  · simp [hin] at hz
    have := pre_lt (R := R) q z (List.mem_of_getElem? hz)
    constructor
    · intro e; omega
    · intro e; exact absurd e hin
theorem fil_nil {R : List RowV} {i k : Nat} {r : RowV} {q : Pr} {ds : List DV} (h : Fil R i r k ds) (hz : (lstD q ds).length = 0) : ¬ q ∈ r.l.take k := by
  intro hin
  rw [h q] at hz; simp [hin] at hz
theorem pFind_spec {B w : World} {L : List HP} {M : HP} {g : Nat} {ar b : Option Addr} {cr cap2 : Nat} {R : List RowV} {ms : List Mt} {d s_ : Int} {mv : Value} (hM : ∀ {L : List HP} {w : World}, St B (M :: L) w → Rd w b ms.length 3 (ms.flatMap mtc)) (hn : R.length ≤ 1000000000) (hbR : ∀ r ∈ R, r.l.length ≤ 4398046511104) (hmz : SzM ms) (hml : ms.length ≤ 4398046511104) (hS : St B (cel g [Value.slice ar R.length cr, Value.int .u32 d, Value.int .i32 s_, Value.int .u32 0, mv] 57 :: rowsP ar R :: M :: L) w) : Does Tryz.prog 12 [Value.pointer (some ⟨g, 0, none⟩), Value.slice b ms.length cap2] w (fun v w1 => ∃ a1 c1, v = .slice a1 (findF (R.map RowV.l) ms).length c1 ∧ St B (own a1 (findF (R.map RowV.l) ms).length c1 3 1 (ri (findF (R.map RowV.l) ms)) :: cel g [Value.slice ar R.length cr, Value.int .u32 d, Value.int .i32 s_, Value.int .u32 0, mv] 57 :: rowsP ar R :: M :: L) w1) := by
 refine enter (n := 27) Tryz.func12 rfl rfl [Value.pointer (some ⟨g, 0, none⟩), Value.slice b ms.length cap2] rfl ?_
 refine WP.seq ?_
 refine WP.region rfl ?_
 refine WO.val (run_assign rfl) rfl rfl rfl ?_
 refine WO.nil ?_
 refine NX.go ?_
 refine WP.seq ?_
 refine WP.region rfl ?_
 refine WO.val (run_assign rfl) rfl rfl rfl ?_
 refine WO.nil ?_
 refine NX.go ?_
 refine WP.seq ?_
 refine WP.seq ?_
 refine WP.region rfl ?_
 refine WO.val (run_move rfl) rfl rfl rfl ?_
 refine WO.val (run_nilCheck rfl) rfl rfl rfl ?_
 refine WO.val (run_fieldAddr (q := ⟨g, 0, none⟩) (show fieldB Tryz.prog 57 0 = some 0 from by kernel_rfl) rfl rfl) rfl rfl rfl ?_
 refine WO.val (run_load Ty.ag27 rfl ((hS.cel_at 0 rfl 0).trans rfl)) rfl rfl rfl ?_
 refine WO.val (run_len rfl Tryz.underlying27 rfl) rfl rfl rfl ?_
 refine WO.val (run_move rfl) rfl rfl rfl ?_
 refine WO.nil ?_
 refine NX.go ?_
 refine WP.block ?_
 have hq0 := (hS.own_nil 3 1).permT [1, 1, 1, 0] (L' := cel g [Value.slice ar R.length cr, Value.int .u32 d, Value.int .i32 s_, Value.int .u32 0, mv] 57 :: (rowsP ar R) :: M :: own none 0 0 3 1 [] :: L) rfl
 refine WP.loop (α := Nat × List Int × Option Addr × Nat) (fun x => match x with | ⟨i, o, ao, co⟩ => [(0, Value.pointer (some ⟨g, 0, none⟩)), (1, Value.slice b ms.length cap2), (5, Value.slice ao o.length co), (11, Value.slice ar R.length cr), (12, Value.int .i64 ((R.length : Nat) : Int)), (13, Value.int .i64 (i : Int))]) (fun x w => match x with | ⟨i, o, ao, co⟩ => (i ≤ R.length ∧ o.length ≤ i ∧ o ++ idxGo (fun r => isF ms r) i ((R.map RowV.l).drop i) = findF (R.map RowV.l) ms) ∧ St B (cel g [Value.slice ar R.length cr, Value.int .u32 d, Value.int .i32 s_, Value.int .u32 0, mv] 57 :: (rowsP ar R) :: M :: own ao o.length co 3 1 (ri o) :: L) w) (fun x => match x with | ⟨i, o, ao, co⟩ => R.length - i) (0, [], none, 0) ⟨⟨Nat.zero_le _, by simp, rfl⟩, hq0⟩ (Sub.cons rfl (Sub.cons rfl (Sub.consE rfl (by first | rfl | first | rfl | (congr 1; omega) | (simp; done) | (simp; omega)) (Sub.cons rfl (Sub.cons rfl (Sub.consE rfl (by first | rfl | first | rfl | (congr 1; omega) | (simp; done) | (simp; omega)) (Sub.nil _))))))) ?_
 rintro ⟨i, o, ao, co⟩ w1 ⟨⟨hi, hoi, hT⟩, hS1⟩
 clear hS
 refine WP.seq ?_
 refine WP.region rfl ?_
 refine WO.val (run_lss rfl rfl) rfl rfl rfl ?_
 refine WO.nil ?_
 refine NX.go ?_
 refine WP.seq ?_
 refine WP.condP rfl (fun g14 => ?_) (fun g14 => ?_)
 ·
  obtain ⟨r, hr⟩ : ∃ r, R[i]? = some r := ⟨_, List.getElem?_eq_getElem (by omega)⟩
  have hrm : r ∈ R := List.mem_of_getElem? hr
  have hrl := hbR r hrm
  refine WP.skip ?_
  refine NX.go ?_
  refine WP.seq ?_
  refine WP.block ?_
  refine WP.seq ?_
  refine WP.region rfl ?_
  refine WO.val (run_move rfl) rfl rfl rfl ?_
  refine WO.val (run_indexAddr (q := adr ar i) Tryz.underlying27 Ty.sz29 rfl rfl (by omega) (by omega) (((fun h => (rowsP_rd h).1) (hS1.focus 1 rfl)).2.1 (by omega)) (by simp)) rfl rfl rfl ?_
  refine WO.val (run_load Ty.ag29 rfl (((fun h => (rowsP_rd h).1) (hS1.focus 1 rfl)).cell (row_get hr))) rfl rfl rfl ?_
  refine WO.val (run_assign rfl) rfl rfl rfl ?_
  refine WO.val (run_assign rfl) rfl rfl rfl ?_
  refine WO.nil ?_
  refine NX.go ?_
  refine WP.seq ?_
  refine WP.region rfl ?_
  refine WO.val (run_move rfl) rfl rfl rfl ?_
  refine WO.val (run_move rfl) rfl rfl rfl ?_
  have hS2 := hS1.permT [2, 1, 0, 0] (L' := M :: (rowsP ar R) :: cel g [Value.slice ar R.length cr, Value.int .u32 d, Value.int .i32 s_, Value.int .u32 0, mv] 57 :: own ao o.length co 3 1 (ri o) :: L) rfl
  clear hS1
  refine WO.call rfl rfl Ty.hd20 rfl (lis_spec hM (fun h => (rowsP_rd h).2 r hrm) hmz hml (hbR r hrm) hS2) (fun v4 w3 pv4 => ?_)
  obtain ⟨rfl, hS3⟩ := pv4
  clear hS2
  refine WO.nil ?_
  refine NX.go ?_
  refine WP.meet (α := List Int × Option Addr × Nat) (fun x => match x with | ⟨o2, ao2, co2⟩ => [(0, Value.pointer (some ⟨g, 0, none⟩)), (1, Value.slice b ms.length cap2), (5, Value.slice ao2 o2.length co2), (11, Value.slice ar R.length cr), (12, Value.int .i64 ((R.length : Nat) : Int)), (13, Value.int .i64 (i : Int))]) (fun x w => match x with | ⟨o2, ao2, co2⟩ => (o2 = o ++ (if isF ms r.l then [(i : Int)] else [])) ∧ St B (cel g [Value.slice ar R.length cr, Value.int .u32 d, Value.int .i32 s_, Value.int .u32 0, mv] 57 :: (rowsP ar R) :: M :: own ao2 o2.length co2 3 1 (ri o2) :: L) w) ?_ (fun K5 => ?_)
  ·
   rintro ⟨o2, ao2, co2⟩ w6 ⟨ho2, hS6⟩
   clear hS3
   refine NX.blk ?_
   refine NX.go ?_
   refine WP.region rfl ?_
   refine WO.val (run_add rfl rfl (IntWalk.i64_in _ (by omega))) rfl rfl rfl ?_
   refine WO.val (run_move rfl) rfl rfl rfl ?_
   refine WO.nil ?_
   exact NX.again (i + 1, o2, ao2, co2) ⟨⟨by omega, by have := if_len (c := isF ms r.l) (i := (i : Int)); rw [ho2, List.length_append]; omega, by rw [ho2]; exact idx_step (f := (fun r => isF ms r)) hr hT⟩, hS6⟩ (by show R.length - (i + 1) < R.length - i; omega) (Sub.cons rfl (Sub.cons rfl (Sub.consE rfl rfl (Sub.cons rfl (Sub.cons rfl (Sub.consE rfl (by congr 1) (Sub.nil _)))))))
  ·
   refine WP.condB rfl (fun g20 => ?_) (fun g20 => ?_)
   ·
    refine WP.region rfl ?_
    refine WO.val (run_move rfl) rfl rfl rfl ?_
    refine WO.val (run_move rfl) rfl rfl rfl ?_
    refine WO.buildSlice (l := [Value.int .i64 (i : Int)]) hS3 Tryz.underlying22 rfl (fun w => by kernel_rfl) rfl (fun g8 w7 lg8 hS7 => ?_)
    clear hS3
    have hS7 := hS7.own_of_cel (m := 1) (k := 1) rfl
    refine WO.append (news := [Value.int .i64 (i : Int)]) 4 rfl Tryz.underlying22 Tryz.underlying22 (fun _ h => by cases h) Ty.sz3 (by decide) Ty.by3 Ty.zr3 rfl rfl rfl rfl hS7 rfl ((hS7.own_rd_i 0 rfl).src) rfl (by omega) (by omega) (fun a10 c11 w9 hS9 => ?_)
    replace hS9 : St B (own (some ⟨g8, 0, none⟩) 1 1 3 1 [Value.int .i64 (i : Int)] :: M :: (rowsP ar R) :: cel g [Value.slice ar R.length cr, Value.int .u32 d, Value.int .i32 s_, Value.int .u32 0, mv] 57 :: own a10 (o.length + 1) c11 3 1 ((ri o) ++ [Value.int .i64 (i : Int)]) :: L) w9 := hS9
    clear hS7
    refine WO.val (run_assign rfl) rfl rfl rfl ?_
    refine WO.nil ?_
    exact K5 (o ++ [(i : Int)], a10, c11) _ _ ⟨by rw [g20]; rfl, (own_len (hS9.permT [0, 3, 2, 1, 0] (L' := own (some ⟨g8, 0, none⟩) 1 1 3 1 [Value.int .i64 (i : Int)] :: own a10 (o.length + 1) c11 3 1 ((ri o) ++ [Value.int .i64 (i : Int)]) :: cel g [Value.slice ar R.length cr, Value.int .u32 d, Value.int .i32 s_, Value.int .u32 0, mv] 57 :: (rowsP ar R) :: M :: L) rfl).drop (by simp) (by simp [ri])).permT [1, 1, 1, 0] rfl⟩ (Sub.cons rfl (Sub.cons rfl (Sub.consE rfl (by simp) (Sub.cons rfl (Sub.cons rfl (Sub.cons rfl (Sub.nil _)))))))
   ·
    refine WP.skip ?_
    exact K5 (o, ao, co) _ _ ⟨by rw [g20]; exact (List.append_nil o).symm, ((hS3.permT [3, 2, 1, 0] (L' := own ao o.length co 3 1 (ri o) :: cel g [Value.slice ar R.length cr, Value.int .u32 d, Value.int .i32 s_, Value.int .u32 0, mv] 57 :: (rowsP ar R) :: M :: L) rfl)).permT [1, 1, 1, 0] rfl⟩ (Sub.cons rfl (Sub.cons rfl (Sub.consE rfl rfl (Sub.cons rfl (Sub.cons rfl (Sub.cons rfl (Sub.nil _)))))))
 ·
  refine WP.exit ?_
  refine NX.thenExit ?_
  refine NX.thenExit ?_
  refine NX.blkExit ?_
  refine NX.go ?_
  refine WP.seq ?_
  refine WP.region rfl ?_
  refine WO.val (run_move rfl) rfl rfl rfl ?_
  refine WO.val (run_assign rfl) rfl rfl rfl ?_
  refine WO.nil ?_
  refine NX.go ?_
  refine WP.ret ?_
  refine NX.done (l := [.tmp 4]) rfl rfl ?_
  have hTT := idx_end (by omega) hT
  exact ⟨ao, co, congrArg (fun z => Value.slice ao z co) (by rw [hTT]), own_len ((hS1.permT [3, 0, 0, 0] (L' := own ao o.length co 3 1 (ri o) :: cel g [Value.slice ar R.length cr, Value.int .u32 d, Value.int .i32 s_, Value.int .u32 0, mv] 57 :: (rowsP ar R) :: M :: L) rfl)) (by rw [hTT]) (by rw [hTT])⟩
end Go.Proofs.YtogidmceomlkeaaGreatDoor.SL
