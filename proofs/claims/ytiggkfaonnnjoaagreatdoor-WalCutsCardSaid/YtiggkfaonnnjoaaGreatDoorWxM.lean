import Derived.Test.YtiggkfaonnnjoaaGreatDoorWv
/- The log as plain data: wherever the power fails. -/
namespace Go.Proofs.YtiggkfaonnnjoaaGreatDoor.SL
open Go.RowKit
set_option linter.unusedVariables false
set_option linter.unusedSimpArgs false
theorem recsW_cons {r t : List UInt8} (h : r.length ≤ 65536) : recsW (frB r ++ t) = r :: recsW t := by
  have h6 := (frB_len h).1
  unfold recsW
  obtain ⟨m, hm⟩ : ∃ m, (frB r ++ t).length = m + 1 := ⟨(frB r ++ t).length - 1, by rw [List.length_append]; omega⟩
  rw [hm, goodR_cons h]
  rw [List.length_append] at hm
  rw [goodR_fuel m t.length t (by omega) (Nat.le_refl _)]
theorem recsW_torn {r : List UInt8} {q : Nat} (h : r.length ≤ 65536) (hq : q < (frB r).length) : recsW ((frB r).take q) = [] := by
  refine recsW_stop fun ⟨h1, h2⟩ => ?_
  obtain ⟨_, h3, h4, _⟩ := recsW_step h1 h2
  obtain ⟨r2, hr2⟩ : ∃ r2, r2 = (getF ((frB r).take q)).1.2 := ⟨_, rfl⟩
  rw [← hr2] at h3 h4
  have h5 : frB r = frB r2 ++ ((List.drop (getF ((frB r).take q)).2.1.toNat ((frB r).take q)) ++ (frB r).drop q) := by
    rw [← List.append_assoc, ← h4, List.take_append_drop]
  have g1 := getF_frB h []
  rw [List.append_nil] at g1
  have g2 := getF_frB h3 ((List.drop (getF ((frB r).take q)).2.1.toNat ((frB r).take q)) ++ (frB r).drop q)
  rw [← h5, g1] at g2
  have g3 := congrArg (fun x : (Int × List UInt8) × Int × Int => x.2.1) g2
  have g4 : ((frB r).length : Int) = ((frB r2).length : Int) := g3
  have h6 := congrArg List.length h4
  rw [List.length_append, List.length_take] at h6
  omega
/-- Bytes of records, cut off anywhere: the records that are whole. -/
theorem recsW_cut : ∀ {rs : List (List UInt8)} (q : Nat), OkR rs → ∃ c, c ≤ rs.length ∧ recsW ((encR rs).take q) = rs.take c ∧ ∀ d, d ≤ rs.length → (encR (rs.take d)).length ≤ q → d ≤ c
  | [], q, _ => ⟨0, Nat.le_refl _, by show recsW (List.take q []) = []; rw [List.take_nil]; rfl, fun d hd _ => hd⟩
  | r :: rs, q, h => by
    have hr := h r (List.mem_cons_self ..)
    have e : encR (r :: rs) = frB r ++ encR rs := rfl
    rcases Nat.lt_or_ge q (frB r).length with hq | hq
    · refine ⟨0, Nat.zero_le _, ?_, fun d hd hdq => ?_⟩
      · rw [e, List.take_append_of_le_length (by omega), recsW_torn hr hq]; rfl
      · cases d with
        | zero => exact Nat.le_refl _
        | succ d =>
          have : encR ((r :: rs).take (d + 1)) = frB r ++ encR (rs.take d) := rfl
          rw [this, List.length_append] at hdq; omega
    · obtain ⟨c, h1, h2, h3⟩ := recsW_cut (rs := rs) (q - (frB r).length) (fun x hx => h x (List.mem_cons_of_mem _ hx))
      refine ⟨c + 1, by rw [List.length_cons]; omega, ?_, fun d hd hdq => ?_⟩
      · rw [e, List.take_append, List.take_of_length_le hq, recsW_cons hr, h2]; rfl
      · cases d with
        | zero => omega
        | succ d =>
          have : encR ((r :: rs).take (d + 1)) = frB r ++ encR (rs.take d) := rfl
          rw [this, List.length_append] at hdq
          rw [List.length_cons] at hd
          have := h3 d (by omega) (by omega); omega
theorem encR_take_pre (rs : List (List UInt8)) (c : Nat) : (encR (rs.take c)).length ≤ (encR rs).length := by
  have h : encR rs = encR (rs.take c) ++ encR (rs.drop c) := by rw [← encR_append, List.take_append_drop]
  rw [h, List.length_append]; omega
def mkC (e : List UInt8 × Nat) : Chg := ⟨[], e.1, e.2⟩
/-- What is known of a segment's file: its bytes, and how many records of it last. -/
def FileV (D : Dk) (dur : Nat) (x : Sg) (e : List UInt8 × Nat) : Prop := ∃ c, (fileAt D.f e.2).1 = encR x.rs ∧ (fileAt D.f e.2).2 = (encR (x.rs.take c)).length ∧ c ≤ x.rs.length ∧ (x.dirty = false → c = x.rs.length) ∧ (dur < x.first + c ∨ c = x.rs.length)
/-- The log and the disk, whether there is power or not. -/
structure LV (lg : Lg) (D : Dk) (n t U : Nat) (rs : List (List UInt8)) : Prop where
  room : D.room = 1048576
  ok : OkL lg
  dk : OkD D n t
  few : ∀ x ∈ lg.l, x.rs.length ≤ 16
  c : Cont 1 lg.l
  r : recsL lg.l = rs
  la : lg.last = rs.length
  nms : D.nm.map (·.1) = nmsW lg.l
  file : ∀ (i : Nat) (x : Sg), lg.l[i]? = some x → ∃ e : List UInt8 × Nat, D.nm[i]? = some e ∧ FileV D lg.durable x e
  used : usedN D.f D.nm ≤ U
  dur : lg.durable ≤ lg.last
  small : lg.last ≤ 99999998
  names : ∃ p, p ≤ D.nm.length ∧ D.last = D.nm.take p ∧ D.ch = (D.nm.drop p).map mkC ∧ (lg.begun = false → p = D.nm.length) ∧ ∀ (i : Nat) (x : Sg), lg.l[i]? = some x → x.first ≤ lg.durable → i < p
theorem LV.new : LV (lg0 []) (newD 1048576) 0 0 0 [] where
  room := rfl
  ok := OkL.nil
  dk := OkD.new (by omega)
  few := fun x h => by cases h
  c := trivial
  r := rfl
  la := rfl
  nms := rfl
  file := fun i x h => by simp [lg0] at h
  used := Nat.le_refl _
  dur := Nat.le_refl _
  small := by decide
  names := ⟨0, Nat.le_refl _, rfl, rfl, fun _ => rfl, fun i x h => by simp [lg0] at h⟩
theorem LV.power {lg : Lg} {D D' : Dk} {n t n' t' U : Nat} {rs : List (List UInt8)} (h : LV lg D n t U rs) (h1 : D'.room = D.room) (h2 : D'.f = D.f) (h3 : D'.nm = D.nm) (h4 : D'.last = D.last) (h5 : D'.ch = D.ch) (hk : OkD D' n' t') : LV lg D' n' t' U rs where
  room := h1.trans h.room
  ok := h.ok
  dk := hk
  few := h.few
  c := h.c
  r := h.r
  la := h.la
  nms := by rw [h3]; exact h.nms
  file := fun i x hx => by
    obtain ⟨e, he, c, hc⟩ := h.file i x hx
    exact ⟨e, by rw [h3]; exact he, c, by rw [h2]; exact hc⟩
  used := by rw [h2, h3]; exact h.used
  dur := h.dur
  small := h.small
  names := by rw [h3, h4, h5]; exact h.names
theorem LV.mono {lg : Lg} {D : Dk} {n t U n' t' U' : Nat} {rs : List (List UInt8)} (h : LV lg D n t U rs) (hn : n ≤ n') (ht : t ≤ t') (hU : U ≤ U') : LV lg D n' t' U' rs := { h with dk := h.dk.mono hn ht, used := Nat.le_trans h.used hU }
theorem LV.len {lg : Lg} {D : Dk} {n t U : Nat} {rs : List (List UInt8)} (h : LV lg D n t U rs) : D.nm.length = lg.l.length := by
  have := congrArg List.length h.nms
  unfold nmsW at this
  rw [List.length_map, List.length_map] at this; exact this
theorem LV.name {lg : Lg} {D : Dk} {n t U i : Nat} {rs : List (List UInt8)} {x : Sg} {e : List UInt8 × Nat} (h : LV lg D n t U rs) (hx : lg.l[i]? = some x) (he : D.nm[i]? = some e) : e.1 = nameW x.first := by
  have h1 : (D.nm.map (·.1))[i]? = some e.1 := by rw [List.getElem?_map, he]; rfl
  rw [h.nms] at h1
  unfold nmsW at h1
  rw [List.getElem?_map, hx] at h1
  exact (Option.some.inj h1).symm
/-- Where a segment begins and ends among the records. -/
theorem cont_pos : ∀ {l : List Sg} {a i : Nat} {x : Sg}, Cont a l → l[i]? = some x → x.first = a + (recsL (l.take i)).length ∧ x.rs ≠ [] ∧ x.first + x.rs.length ≤ a + (recsL l).length
  | [], a, i, x, _, h => by simp at h
  | z :: l, a, 0, x, hc, h => by
    simp at h; subst h
    refine ⟨hc.1, hc.2.1, ?_⟩
    rw [hc.1]; show a + z.rs.length ≤ a + (z.rs ++ recsL l).length; rw [List.length_append]; omega
  | z :: l, a, i + 1, x, hc, h => by
    obtain ⟨h1, h2, h3⟩ := cont_pos (i := i) hc.2.2 (by simpa using h)
    refine ⟨?_, h2, ?_⟩
    · rw [h1]; show a + z.rs.length + _ = a + (z.rs ++ recsL (l.take i)).length; rw [List.length_append]; omega
    · show _ ≤ a + (z.rs ++ recsL l).length; rw [List.length_append]; omega
theorem LV.first_le {lg : Lg} {D : Dk} {n t U i : Nat} {rs : List (List UInt8)} (h : LV lg D n t U rs) {x : Sg} (hx : lg.l[i]? = some x) : 1 ≤ x.first ∧ x.first ≤ lg.last ∧ x.first + x.rs.length ≤ lg.last + 1 := by
  obtain ⟨h1, h2, h3⟩ := cont_pos h.c hx
  have h4 : 1 ≤ x.rs.length := by
    cases hr : x.rs with
    | nil => exact absurd hr h2
    | cons a b => rw [List.length_cons]; omega
  rw [h.r, ← h.la] at h3
  omega
end Go.Proofs.YtiggkfaonnnjoaaGreatDoor.SL

/- The log as plain data: records are appended while the power may fail. -/
namespace Go.Proofs.YtiggkfaonnnjoaaGreatDoor.SL
open Go.RowKit
set_option linter.unusedVariables false
set_option linter.unusedSimpArgs false
theorem writeD_all (D : Dk) : (writeD D).1.room = D.room ∧ (writeD D).1.f = D.f ∧ (writeD D).1.nm = D.nm ∧ (writeD D).1.last = D.last ∧ (writeD D).1.ch = D.ch := by
  unfold writeD
  split
  · exact ⟨rfl, rfl, rfl, rfl, rfl⟩
  · split
    · exact ⟨rfl, rfl, rfl, rfl, rfl⟩
    · exact ⟨rfl, rfl, rfl, rfl, rfl⟩
theorem ap1_new {D : Dk} {k s : List UInt8} (hf : fileF k = true) (hno : findN k D.nm = none) (h64 : D.nm.length < 64) (hr : ((usedN D.f D.nm + s.length : Nat) : Int) ≤ D.room) : append1 D k s = (⟨D.room, D.f ++ [(s, 0)], applyN D.nm ⟨[], k, D.f.length⟩, D.last, D.ch ++ [⟨[], k, D.f.length⟩], D.dead, D.left⟩, 0) := by
  unfold append1
  rw [if_neg (by rw [hf]; exact Bool.noConfusion), if_neg (by intro h2; rcases h2 with h2 | ⟨_, h2⟩ <;> omega), hno]; rfl
theorem ap1_more {D : Dk} {k s : List UInt8} {i : Nat} (hf : fileF k = true) (hi : findN k D.nm = some i) (hr : ((usedN D.f D.nm + s.length : Nat) : Int) ≤ D.room) : append1 D k s = ({ D with f := addTo D.f i s }, 0) := by
  unfold append1
  rw [if_neg (by rw [hf]; exact Bool.noConfusion), if_neg (by
    intro h2
    rcases h2 with h2 | ⟨h2, _⟩
    · omega
    · rw [hi] at h2; cases h2), hi]
theorem appL_err {lg : Lg} {D D' : Dk} {s : List UInt8} (hs : s.length ≤ 65536) (hl : lg.last < 99999999) (h : appendD D (nameW (appN lg)) (frB s) = (D', 11)) : appendL lg D s = ⟨lg, D', 0, 11⟩ := by
  have h0 : (putF 1 s).2 = 0 := by rw [frB_ok hs]
  unfold appendL
  rw [if_neg (fun h => h h0), if_neg (by omega), h, if_neg (by show ¬ (11 : Int) = 0; decide)]
/-- What a record more comes to where there is power. -/
theorem LV.app1 {lg : Lg} {D : Dk} {n t U : Nat} {rs : List (List UInt8)} {s : List UInt8} (h : LV lg D n t U rs) (hs : s.length ≤ 1000) (hU : U + (s.length + 14) ≤ 1048576) (hl : lg.last < 99999998) (hn : lg.l.length < 64) :
    ∃ D', append1 D (nameW (appN lg)) (frB s) = (D', 0) ∧ LV (appG lg s) D' (n + 1) (t + (s.length + 14)) (U + (s.length + 14)) (rs ++ [s]) := by
  have hf := (frB_len (show s.length ≤ 65536 by omega)).2
  have hk := h.dk.append1_ (k := nameW (appN lg)) (s := frB s)
  have hus := h.used
  obtain ⟨p, hp, hp1, hp2, hp3, hp4⟩ := h.names
  cases hh : handS lg with
  | none =>
    have hN : appN lg = lg.last + 1 := by unfold appN; rw [hh]
    have hG : appG lg s = ⟨lg.l ++ [newS (lg.last + 1) s], true, true, lg.last + 1, lg.durable⟩ := by unfold appG; rw [hh]
    rw [hN] at hk ⊢
    rw [hG]
    have hlt : ∀ e ∈ D.nm, strLt e.1 (nameW (lg.last + 1)) = true := fun e he => by
      obtain ⟨i, hi⟩ := List.getElem?_of_mem he
      have hil : i < lg.l.length := by rw [← h.len]; exact (List.getElem?_eq_some_iff.1 hi).1
      obtain ⟨x, hx⟩ : ∃ x, lg.l[i]? = some x := ⟨_, List.getElem?_eq_getElem hil⟩
      rw [h.name hx hi]; exact nameW_lt (by omega) (by have := h.first_le hx; omega)
    have hne : ∀ e ∈ D.nm, ¬ e.1 = nameW (lg.last + 1) := fun e he hq => by
      have := hlt e he; rw [hq, lt_irr] at this; cases this
    have hap := ap1_new (s := frB s) (nameW_file (lg.last + 1)) (findN_no hne) (by rw [h.len]; exact hn) (by rw [h.room]; omega)
    have hin : insN (nameW (lg.last + 1), D.f.length) D.nm = D.nm ++ [(nameW (lg.last + 1), D.f.length)] := insN_end hlt
    have hnm : applyN D.nm ⟨[], nameW (lg.last + 1), D.f.length⟩ = D.nm ++ [(nameW (lg.last + 1), D.f.length)] := by
      unfold applyN
      rw [if_neg (show ¬ nameW (lg.last + 1) = [] from fileF_ne (nameW_file _)), keepN_all fun e he => ⟨fileF_ne (h.dk.w.good.f e he).1, hne e he⟩]
      exact hin
    rw [hap] at hk ⊢
    rw [hnm] at hk ⊢
    refine ⟨_, rfl, ?_⟩
    constructor
    · exact h.room
    · refine ⟨fun x hx => ?_, fun x hx => ?_, fun x hx => ?_, by show (lg.l ++ [_]).length ≤ _; rw [List.length_append]; show lg.l.length + 1 ≤ _; omega, by show lg.last + 1 ≤ _; omega, fun _ => by show lg.l ++ [_] ≠ []; simp⟩
      · rcases List.mem_append.1 hx with hx | hx
        · exact h.ok.b x hx
        · rw [List.mem_singleton.1 hx]; show lg.last + 1 + 1 ≤ _; omega
      · rcases List.mem_append.1 hx with hx | hx
        · exact h.ok.ne x hx
        · rw [List.mem_singleton.1 hx]; show [s] ≠ []; simp
      · rcases List.mem_append.1 hx with hx | hx
        · exact h.ok.r x hx
        · rw [List.mem_singleton.1 hx]; intro r hr; rw [List.mem_singleton.1 hr]; omega
    · exact hk.mono (Nat.le_refl _) (by omega)
    · intro x hx
      rcases List.mem_append.1 hx with hx | hx
      · exact h.few x hx
      · rw [List.mem_singleton.1 hx]; show 1 ≤ 16; omega
    · show Cont 1 (lg.l ++ [newS (lg.last + 1) s])
      rw [Cont.append, h.r]
      exact ⟨h.c, by show lg.last + 1 = _; rw [h.la]; omega, by show [s] ≠ []; simp, trivial⟩
    · show recsL (lg.l ++ [newS (lg.last + 1) s]) = _
      rw [recsL_append, h.r, recsL_one]; rfl
    · show lg.last + 1 = _; rw [List.length_append, h.la]; rfl
    · show (D.nm ++ [(nameW (lg.last + 1), D.f.length)]).map (·.1) = nmsW (lg.l ++ [newS (lg.last + 1) s])
      rw [List.map_append, h.nms]; unfold nmsW; rw [List.map_append]; rfl
    · intro i x hx
      rcases get_snoc hx with hx | ⟨hi, hx⟩
      · obtain ⟨e, he, c, hc⟩ := h.file i x hx
        have hlt2 := (h.dk.w.good.f e (List.mem_of_getElem? he)).2
        have hfa : fileAt (D.f ++ [(frB s, 0)]) e.2 = fileAt D.f e.2 := by unfold fileAt; rw [List.getD_eq_getElem?_getD, List.getD_eq_getElem?_getD, List.getElem?_append_left hlt2]
        refine ⟨e, by show (D.nm ++ _)[i]? = _; rw [List.getElem?_append_left (List.getElem?_eq_some_iff.1 he).1]; exact he, c, ?_⟩
        show (fileAt (D.f ++ [(frB s, 0)]) e.2).1 = _ ∧ (fileAt (D.f ++ [(frB s, 0)]) e.2).2 = _ ∧ _
        rw [hfa]; exact hc
      · have hfa : fileAt (D.f ++ [(frB s, 0)]) D.f.length = (frB s, 0) := by unfold fileAt; rw [List.getD_eq_getElem?_getD, List.getElem?_append_right (Nat.le_refl _), Nat.sub_self]; rfl
        refine ⟨(nameW (lg.last + 1), D.f.length), by show (D.nm ++ _)[i]? = _; rw [hi, ← h.len, List.getElem?_append_right (Nat.le_refl _), Nat.sub_self]; rfl, 0, ?_⟩
        rw [hx]
        refine ⟨?_, ?_, Nat.zero_le _, (fun hd => by cases hd), .inl ?_⟩
        · show (fileAt (D.f ++ [(frB s, 0)]) D.f.length).1 = _
          rw [hfa]; show frB s = frB s ++ []; rw [List.append_nil]
        · show (fileAt (D.f ++ [(frB s, 0)]) D.f.length).2 = _
          rw [hfa]; rfl
        · show lg.durable < lg.last + 1 + 0; have := h.dur; omega
    · show usedN (D.f ++ [(frB s, 0)]) (D.nm ++ [(nameW (lg.last + 1), D.f.length)]) ≤ _
      rw [← hin, used_new fun e he => (h.dk.w.good.f e he).2]; omega
    · show lg.durable ≤ lg.last + 1; have := h.dur; omega
    · show lg.last + 1 ≤ _; omega
    · refine ⟨p, by show p ≤ (D.nm ++ [_]).length; rw [List.length_append]; omega, ?_, ?_, (fun hb => by cases hb), fun i x hx hd => ?_⟩
      · show D.last = (D.nm ++ [_]).take p
        rw [List.take_append_of_le_length hp]; exact hp1
      · show D.ch ++ [_] = ((D.nm ++ [_]).drop p).map mkC
        rw [List.drop_append_of_le_length hp, List.map_append, hp2]; rfl
      · rcases get_snoc hx with hx | ⟨hi, hx⟩
        · exact hp4 i x hx hd
        · rw [hx] at hd
          have hd2 : lg.last + 1 ≤ lg.durable := hd
          have := h.dur; omega
  | some z =>
    obtain ⟨hz, hz16⟩ := handS_some hh
    have hN : appN lg = z.first := by unfold appN; rw [hh]
    have hG : appG lg s = ⟨lg.l.dropLast ++ [moreS z s], true, lg.begun, lg.last + 1, lg.durable⟩ := by unfold appG; rw [hh]
    rw [hN] at hk ⊢
    rw [hG]
    have hzm := List.mem_of_getElem? hz
    have hne0 : lg.l ≠ [] := fun h0 => by rw [h0] at hz; simp at hz
    have hpos : 0 < lg.l.length := List.length_pos_iff.2 hne0
    obtain ⟨e, he, c, hc1, hc2, hc3, hc4, hc5⟩ := h.file _ z hz
    have hen := h.name hz he
    have hfi : findN (nameW z.first) D.nm = some e.2 := by rw [← hen]; exact findN_at h.dk.w.good.s.nodup he
    have hlt := (h.dk.w.good.f e (List.mem_of_getElem? he)).2
    have hap := ap1_more (s := frB s) (nameW_file z.first) hfi (by rw [h.room]; omega)
    have hl0 : lg.l = lg.l.dropLast ++ [z] := by
      have h3 : lg.l.getLast? = some z := by rw [List.getLast?_eq_getElem?]; exact hz
      rw [List.getLast?_eq_some_getLast hne0] at h3
      have h4 := List.dropLast_concat_getLast hne0
      rw [Option.some.inj h3] at h4; exact h4.symm
    have hset : lg.l.set (lg.l.length - 1) (moreS z s) = lg.l.dropLast ++ [moreS z s] := set_last hne0 _
    have hlen : (lg.l.dropLast ++ [moreS z s]).length = lg.l.length := by rw [← hset, List.length_set]
    have hzf := h.first_le hz
    have hzend : z.first + z.rs.length = lg.last + 1 := by
      have hcc := h.c
      have hrr := h.r
      rw [hl0] at hcc hrr
      rw [Cont.append] at hcc
      rw [recsL_append, recsL_one] at hrr
      have h7 := congrArg List.length hrr
      rw [List.length_append, ← h.la] at h7
      have := hcc.2.1
      omega
    have hmem : ∀ {P : Sg → Prop}, (∀ x ∈ lg.l, P x) → P (moreS z s) → ∀ x ∈ lg.l.dropLast ++ [moreS z s], P x := fun {P} ha hb x hx => by
      rcases List.mem_append.1 hx with hx | hx
      · exact ha x (List.dropLast_subset _ hx)
      · rw [List.mem_singleton.1 hx]; exact hb
    rw [hap] at hk ⊢
    refine ⟨_, rfl, ?_⟩
    constructor
    · exact h.room
    · refine ⟨hmem h.ok.b ?_, hmem h.ok.ne ?_, hmem h.ok.r ?_, by show (lg.l.dropLast ++ [_]).length ≤ _; rw [hlen]; exact h.ok.n, by show lg.last + 1 ≤ _; omega, fun _ => by show lg.l.dropLast ++ [_] ≠ []; simp⟩
      · show z.first + (z.rs ++ [s]).length ≤ _; rw [List.length_append, List.length_singleton]; omega
      · show z.rs ++ [s] ≠ []; simp
      · intro r hr
        rcases List.mem_append.1 hr with hr | hr
        · exact h.ok.r z hzm r hr
        · rw [List.mem_singleton.1 hr]; omega
    · exact hk.mono (Nat.le_refl _) (by omega)
    · exact hmem h.few (by show (z.rs ++ [s]).length ≤ 16; rw [List.length_append, List.length_singleton]; omega)
    · show Cont 1 (lg.l.dropLast ++ [moreS z s])
      have hcc := h.c
      rw [hl0, Cont.append] at hcc
      rw [Cont.append]
      exact ⟨hcc.1, hcc.2.1, by show z.rs ++ [s] ≠ []; simp, trivial⟩
    · show recsL (lg.l.dropLast ++ [moreS z s]) = _
      have hrr := h.r
      rw [hl0, recsL_append, recsL_one] at hrr
      rw [recsL_append, recsL_one, ← hrr]
      show recsL lg.l.dropLast ++ (z.rs ++ [s]) = _
      rw [List.append_assoc]
    · show lg.last + 1 = _; rw [List.length_append, h.la]; rfl
    · show D.nm.map (·.1) = nmsW (lg.l.dropLast ++ [moreS z s])
      rw [h.nms, ← hset]; unfold nmsW
      rw [List.map_set]
      have : (lg.l.map fun x => nameW x.first)[lg.l.length - 1]? = some (nameW (moreS z s).first) := by rw [List.getElem?_map, hz]; rfl
      obtain ⟨h3, h4⟩ := List.getElem?_eq_some_iff.1 this
      rw [← h4, List.set_getElem_self]
    · intro i x hx
      rcases get_last hz hx with ⟨hi, hx⟩ | ⟨hi, hx⟩
      · obtain ⟨e2, he2, c2, hcc⟩ := h.file i x hx
        have hne : ¬ e.2 = e2.2 := fun hq => by
          have hnd := h.dk.nmu
          have ha : (D.nm.map (·.2))[i]? = some e2.2 := by rw [List.getElem?_map, he2]; rfl
          have hb : (D.nm.map (·.2))[lg.l.length - 1]? = some e.2 := by rw [List.getElem?_map, he]; rfl
          have hlt3 : lg.l.length - 1 < (D.nm.map (·.2)).length := (List.getElem?_eq_some_iff.1 hb).1
          have := (List.getElem?_inj (j := i) hlt3 hnd).1 (by rw [ha, hb, hq]); omega
        refine ⟨e2, he2, c2, ?_⟩
        show (fileAt (D.f.set e.2 _) e2.2).1 = _ ∧ (fileAt (D.f.set e.2 _) e2.2).2 = _ ∧ _
        rw [fileAt_set hlt, if_neg hne]; exact hcc
      · refine ⟨e, by rw [hi]; exact he, c, ?_⟩
        rw [hx]
        refine ⟨?_, ?_, by show c ≤ (z.rs ++ [s]).length; rw [List.length_append]; omega, (fun hd => by cases hd), .inl ?_⟩
        · show (fileAt (D.f.set e.2 _) e.2).1 = _
          rw [fileAt_set hlt, if_pos rfl]
          show (fileAt D.f e.2).1 ++ frB s = encR (z.rs ++ [s])
          rw [hc1, encR_snoc]
        · show (fileAt (D.f.set e.2 _) e.2).2 = (encR ((z.rs ++ [s]).take c)).length
          rw [fileAt_set hlt, if_pos rfl, List.take_append_of_le_length hc3]; exact hc2
        · show lg.durable < z.first + c
          rcases hc5 with h5 | h5
          · exact h5
          · have := h.dur; omega
    · show usedN (addTo D.f e.2 (frB s)) D.nm ≤ _
      rw [used_add hlt h.dk.nmu hfi]; omega
    · show lg.durable ≤ lg.last + 1; have := h.dur; omega
    · show lg.last + 1 ≤ _; omega
    · refine ⟨p, hp, hp1, hp2, hp3, fun i x hx hd => ?_⟩
      rcases get_last hz hx with ⟨hi, hx⟩ | ⟨hi, hx⟩
      · exact hp4 i x hx hd
      · rw [hx] at hd; exact hp4 i z (by rw [hi]; exact hz) hd
theorem LV.append {lg : Lg} {D : Dk} {n t U : Nat} {rs : List (List UInt8)} {s : List UInt8} (h : LV lg D n t U rs) (hs : s.length ≤ 1000) (hU : U + (s.length + 14) ≤ 1048576) (hl : lg.last < 99999998) (hn : lg.l.length < 64) :
    (∃ D', appendL lg D s = ⟨appG lg s, D', lg.last + 1, 0⟩ ∧ LV (appG lg s) D' (n + 1) (t + (s.length + 14)) (U + (s.length + 14)) (rs ++ [s])) ∨ (∃ D', appendL lg D s = ⟨lg, D', 0, 11⟩ ∧ LV lg D' (n + 1) (t + (s.length + 14)) (U + (s.length + 14)) rs) := by
  obtain ⟨a1, a2, a3, a4, a5⟩ := writeD_all D
  have hw : LV lg (writeD D).1 n t U rs := h.power a1 a2 a3 a4 a5 h.dk.write
  cases hb : (writeD D).2 with
  | true =>
    left
    obtain ⟨D', h1, h2⟩ := hw.app1 hs hU hl hn
    exact ⟨D', appL_ok (by omega) (by omega) (by unfold appendD onWrite; rw [if_pos hb]; exact h1), h2⟩
  | false =>
    right
    exact ⟨(writeD D).1, appL_err (by omega) (by omega) (by unfold appendD onWrite; rw [if_neg (by rw [hb]; exact Bool.noConfusion)]), hw.mono (by omega) (by omega) (by omega)⟩
end Go.Proofs.YtiggkfaonnnjoaaGreatDoor.SL

/- The log as plain data: synced while the power may fail. -/
namespace Go.Proofs.YtiggkfaonnnjoaaGreatDoor.SL
open Go.RowKit
set_option linter.unusedVariables false
set_option linter.unusedSimpArgs false
structure SyV (D D' : Dk) : Prop where
  nm : D'.nm = D.nm
  last : D'.last = D.last
  ch : D'.ch = D.ch
  room : D'.room = D.room
  c : ∀ i, (fileAt D'.f i).1 = (fileAt D.f i).1
  s : ∀ i, (fileAt D'.f i).2 = (fileAt D.f i).2 ∨ (fileAt D'.f i).2 = (fileAt D.f i).1.length
theorem SyV.refl (D : Dk) : SyV D D := ⟨rfl, rfl, rfl, rfl, fun _ => rfl, fun _ => .inl rfl⟩
theorem SyV.trans {D E F : Dk} (h : SyV D E) (k : SyV E F) : SyV D F := ⟨k.nm.trans h.nm, k.last.trans h.last, k.ch.trans h.ch, k.room.trans h.room, fun i => (k.c i).trans (h.c i), fun i => by
  rcases k.s i with h1 | h1
  · rw [h1]; exact h.s i
  · right; rw [h1, h.c i]⟩
theorem SyV.full {D D' : Dk} {i : Nat} (h : SyV D D') (hf : (fileAt D.f i).2 = (fileAt D.f i).1.length) : (fileAt D'.f i).2 = (fileAt D.f i).1.length := by
  rcases h.s i with h1 | h1
  · rw [h1, hf]
  · exact h1
theorem SyV.write (D : Dk) : SyV D (writeD D).1 := by
  obtain ⟨a1, a2, a3, a4, a5⟩ := writeD_all D
  exact ⟨a3, a4, a5, a1, fun i => by rw [a2], fun i => .inl (by rw [a2])⟩
theorem sync_step {D : Dk} {k : List UInt8} {i : Nat} (hf : findN k D.nm = some i) (hi : i < D.f.length) : (∃ D', syncD D k = (D', 0) ∧ SyV D D' ∧ (fileAt D'.f i).2 = (fileAt D.f i).1.length) ∨ (∃ D', syncD D k = (D', 11) ∧ SyV D D') := by
  obtain ⟨a1, a2, a3, a4, a5⟩ := writeD_all D
  cases hb : (writeD D).2 with
  | false => right; exact ⟨(writeD D).1, by unfold syncD onWrite; rw [if_neg (by rw [hb]; exact Bool.noConfusion)], SyV.write D⟩
  | true =>
    left
    refine ⟨{ (writeD D).1 with f := (writeD D).1.f.set i ((fileAt (writeD D).1.f i).1, (fileAt (writeD D).1.f i).1.length) }, ?_, ⟨a3, a4, a5, a1, fun j => ?_, fun j => ?_⟩, ?_⟩
    · unfold syncD onWrite; rw [if_pos hb]; show sync1 (writeD D).1 k = _; have hf2 : findN k (writeD D).1.nm = some i := (by rw [a3]; exact hf); unfold sync1; rw [hf2]
    · show (fileAt ((writeD D).1.f.set i _) j).1 = _
      rw [a2, fileAt_set hi]; split
      · rename_i h; rw [h]
      · rfl
    · show (fileAt ((writeD D).1.f.set i _) j).2 = _ ∨ (fileAt ((writeD D).1.f.set i _) j).2 = _
      rw [a2, fileAt_set hi]; split
      · rename_i h; right; rw [h]
      · left; rfl
    · show (fileAt ((writeD D).1.f.set i _) i).2 = _
      rw [a2, fileAt_set hi, if_pos rfl]
theorem clean_same {x : Sg} (h : x.dirty = false) : clean x = x := by unfold clean; rw [← h]
theorem sync_any {n t : Nat} : ∀ {l : List Sg} {D : Dk}, OkD D n t → (∀ x ∈ l, ∃ i, findN (nameW x.first) D.nm = some i) →
    ∃ l' D' e, syncGo l D = (l', D', e) ∧ SyV D D' ∧ OkD D' n t ∧ l'.map clean = l.map clean ∧ (e = 0 → l' = l.map clean) ∧
      ∀ (j : Nat) (x y : Sg), l[j]? = some x → l'[j]? = some y → y.dirty = false → x.dirty = false ∨ ∀ i, findN (nameW x.first) D.nm = some i → (fileAt D'.f i).2 = (fileAt D.f i).1.length
  | [], D, hk, _ => ⟨[], D, 0, rfl, SyV.refl D, hk, rfl, fun _ => rfl, fun j x y h => by simp at h⟩
  | x :: l, D, hk, hl => by
    obtain ⟨i, hi⟩ := hl x (List.mem_cons_self ..)
    have hil := (findN_lt hk.w.good.f hi).1
    cases hd : x.dirty with
    | true =>
      have hk1 := hk.sync (k := nameW x.first)
      rcases sync_step hi hil with ⟨D1, h1, h2, h3⟩ | ⟨D1, h1, h2⟩
      · rw [h1] at hk1
        obtain ⟨l', D', e, g1, g2, g3, g4, g5, g6⟩ := sync_any (l := l) hk1 (fun y hy => by obtain ⟨j, hj⟩ := hl y (List.mem_cons_of_mem _ hy); exact ⟨j, by rw [h2.nm]; exact hj⟩)
        refine ⟨clean x :: l', D', e, ?_, h2.trans g2, g3, ?_, fun he => ?_, fun j a b ha hb hbd => ?_⟩
        · show (if x.dirty = true then _ else _) = _
          rw [if_pos hd, h1, if_pos rfl, g1]; rfl
        · rw [List.map_cons, List.map_cons, g4]; rfl
        · rw [g5 he]; rfl
        · cases j with
          | zero =>
            simp at ha; subst ha
            right; intro q hq
            rw [hi] at hq; cases hq
            rw [← h2.c i]; exact g2.full (by rw [h3, h2.c i])
          | succ j =>
            rcases g6 j a b (by simpa using ha) (by simpa using hb) hbd with h | h
            · exact .inl h
            · right; intro q hq; rw [← h2.c q]; exact h q (by rw [h2.nm]; exact hq)
      · rw [h1] at hk1
        refine ⟨x :: l, D1, 11, ?_, h2, hk1, rfl, fun he => absurd he (by decide), fun j a b ha hb hbd => ?_⟩
        · show (if x.dirty = true then _ else _) = _
          rw [if_pos hd, h1, if_neg (by show ¬ (11 : Int) = 0; decide)]
        · rw [ha] at hb; cases hb; exact .inl hbd
    | false =>
      obtain ⟨l', D', e, g1, g2, g3, g4, g5, g6⟩ := sync_any (l := l) hk (fun y hy => hl y (List.mem_cons_of_mem _ hy))
      refine ⟨x :: l', D', e, ?_, g2, g3, ?_, fun he => ?_, fun j a b ha hb hbd => ?_⟩
      · show (if x.dirty = true then _ else _) = _
        rw [if_neg (by rw [hd]; exact Bool.noConfusion), g1]
      · rw [List.map_cons, List.map_cons, g4]
      · rw [g5 he, List.map_cons, clean_same hd]
      · cases j with
        | zero => simp at ha; subst ha; exact .inl hd
        | succ j => exact g6 j a b (by simpa using ha) (by simpa using hb) hbd
theorem clean_nms (l : List Sg) : nmsW (l.map clean) = nmsW l := by unfold nmsW; rw [List.map_map]; rfl
theorem cont_unclean : ∀ {l : List Sg} {a : Nat}, Cont a (l.map clean) → Cont a l
  | [], _, _ => trivial
  | x :: l, a, ⟨h1, h2, h3⟩ => ⟨h1, h2, cont_unclean h3⟩
theorem clean_mem {l l' : List Sg} (h : l'.map clean = l.map clean) {y : Sg} (hy : y ∈ l') : ∃ x ∈ l, clean x = clean y := by
  have : clean y ∈ l'.map clean := List.mem_map_of_mem hy
  rw [h] at this
  obtain ⟨x, hx, he⟩ := List.mem_map.1 this
  exact ⟨x, hx, he⟩
theorem clean_get {l l' : List Sg} (h : l'.map clean = l.map clean) {y : Sg} {j : Nat} (hy : l'[j]? = some y) : ∃ x, l[j]? = some x ∧ x.first = y.first ∧ x.rs = y.rs := by
  have h1 : (l'.map clean)[j]? = some (clean y) := by rw [List.getElem?_map, hy]; rfl
  rw [h] at h1
  obtain ⟨x, hx, he⟩ := map_clean_get h1
  have e1 := congrArg Sg.first he
  have e2 := congrArg Sg.rs he
  exact ⟨x, hx, e1.symm, e2.symm⟩
theorem LV.relabel {lg : Lg} {D D' : Dk} {n t U : Nat} {rs : List (List UInt8)} {l' : List Sg} (h : LV lg D n t U rs) (hl : l'.map clean = lg.l.map clean) (hs : SyV D D') (hk : OkD D' n t)
    (hc : ∀ (j : Nat) (x y : Sg), lg.l[j]? = some x → l'[j]? = some y → y.dirty = false → x.dirty = false ∨ ∀ i, findN (nameW x.first) D.nm = some i → (fileAt D'.f i).2 = (fileAt D.f i).1.length) :
    LV ⟨l', lg.hand, lg.begun, lg.last, lg.durable⟩ D' n t U rs := by
  have hlen : l'.length = lg.l.length := by have := congrArg List.length hl; rwa [List.length_map, List.length_map] at this
  have eq : ∀ {x y : Sg}, clean x = clean y → x.first = y.first ∧ x.rs = y.rs := fun {x y} he => ⟨(show (clean x).first = (clean y).first by rw [he]), (show (clean x).rs = (clean y).rs by rw [he])⟩
  constructor
  · exact hs.room.trans h.room
  · refine ⟨fun y hy => ?_, fun y hy => ?_, fun y hy => ?_, by show l'.length ≤ _; rw [hlen]; exact h.ok.n, h.ok.la, fun hh h0 => h.ok.hd hh (by have h0 : l' = [] := h0; rw [h0] at hlen; exact List.length_eq_zero_iff.1 hlen.symm)⟩
    all_goals (obtain ⟨x, hx, he⟩ := clean_mem hl hy; obtain ⟨e1, e2⟩ := eq he)
    · rw [← e1, ← e2]; exact h.ok.b x hx
    · rw [← e2]; exact h.ok.ne x hx
    · rw [← e2]; exact h.ok.r x hx
  · exact hk
  · intro y hy
    obtain ⟨x, hx, he⟩ := clean_mem hl hy
    rw [← (eq he).2]; exact h.few x hx
  · exact cont_unclean (by rw [hl]; exact cont_clean h.c)
  · show recsL l' = rs
    rw [← recs_clean l', hl, recs_clean]; exact h.r
  · exact h.la
  · show D'.nm.map (·.1) = nmsW l'
    rw [hs.nm, h.nms, ← clean_nms l', hl, clean_nms]
  · intro j y hy
    obtain ⟨x, hx, e1, e2⟩ := clean_get hl hy
    obtain ⟨e, he, c, c1, c2, c3, c4, c5⟩ := h.file j x hx
    have hen := h.name hx he
    have hfi : findN (nameW x.first) D.nm = some e.2 := by rw [← hen]; exact findN_at h.dk.w.good.s.nodup he
    refine ⟨e, by rw [hs.nm]; exact he, ?_⟩
    by_cases hm : (fileAt D'.f e.2).2 = (encR x.rs).length
    · refine ⟨x.rs.length, by rw [hs.c, c1, e2], by rw [hm, ← e2, List.take_length], by rw [e2]; exact Nat.le_refl _, fun _ => by rw [e2], .inr (by rw [e2])⟩
    · have hm2 : (fileAt D'.f e.2).2 = (fileAt D.f e.2).2 := by
        rcases hs.s e.2 with h1 | h1
        · exact h1
        · rw [c1] at h1; exact absurd h1 hm
      refine ⟨c, by rw [hs.c, c1, e2], by rw [hm2, c2, e2], by rw [← e2]; exact c3, fun hyd => ?_, by rw [← e1, ← e2]; exact c5⟩
      rcases hc j x y hx hy hyd with h1 | h1
      · rw [← e2]; exact c4 h1
      · exact absurd ((h1 e.2 hfi).trans (by rw [c1])) hm
  · show usedN D'.f D'.nm ≤ U
    rw [hs.nm, used_same hs.c]; exact h.used
  · exact h.dur
  · exact h.small
  · obtain ⟨p, p1, p2, p3, p4, p5⟩ := h.names
    refine ⟨p, by rw [hs.nm]; exact p1, by rw [hs.nm, hs.last]; exact p2, by rw [hs.nm, hs.ch]; exact p3, fun hb => by rw [hs.nm]; exact p4 hb, fun i y hy hd => ?_⟩
    obtain ⟨x, hx, e1, e2⟩ := clean_get hl hy
    exact p5 i x hx (by rw [e1]; exact hd)
/-- All lasts. -/
theorem LV.lasts {lg : Lg} {D : Dk} {n t U : Nat} {rs : List (List UInt8)} {hd_ : Bool} (h : LV lg D n t U rs) (hc : ∀ x ∈ lg.l, x.dirty = false) (h1 : D.last = D.nm) (h2 : D.ch = []) (hh : hd_ = lg.hand) : LV ⟨lg.l, hd_, false, lg.last, lg.last⟩ D n t U rs where
  room := h.room
  ok := ⟨h.ok.b, h.ok.ne, h.ok.r, h.ok.n, h.ok.la, fun q => h.ok.hd (by rw [← hh]; exact q)⟩
  dk := h.dk
  few := h.few
  c := h.c
  r := h.r
  la := h.la
  nms := h.nms
  file := fun i x hx => by
    obtain ⟨e, he, c, c1, c2, c3, c4, c5⟩ := h.file i x hx
    exact ⟨e, he, c, c1, c2, c3, c4, .inr (c4 (hc x (List.mem_of_getElem? hx)))⟩
  used := h.used
  dur := Nat.le_refl _
  small := h.small
  names := ⟨D.nm.length, Nat.le_refl _, by rw [List.take_length]; exact h1, by rw [List.drop_length]; exact h2, fun _ => rfl, fun i x hx _ => by rw [h.len]; exact (List.getElem?_eq_some_iff.1 hx).1⟩
theorem LV.sync {lg : Lg} {D : Dk} {n t U : Nat} {rs : List (List UInt8)} (h : LV lg D n t U rs) : ∃ lg' D' e, syncL lg D = ⟨lg', D', 0, e⟩ ∧ LV lg' D' n t U rs ∧ lg'.last = lg.last ∧ lg'.l.length = lg.l.length := by
  obtain ⟨l', D1, e, g1, g2, g3, g4, g5, g6⟩ := sync_any (l := lg.l) h.dk (fun x hx => by
    obtain ⟨i, hi⟩ := List.getElem?_of_mem hx
    obtain ⟨e, he, _⟩ := h.file i x hi
    exact ⟨e.2, by rw [← h.name hi he]; exact findN_at h.dk.w.good.s.nodup he⟩)
  have hlen : l'.length = lg.l.length := by have := congrArg List.length g4; rwa [List.length_map, List.length_map] at this
  have hv := h.relabel g4 g2 g3 g6
  by_cases he : e = 0
  · have hl := g5 he
    have hcl : ∀ x ∈ l', x.dirty = false := fun x hx => by rw [hl] at hx; obtain ⟨y, _, rfl⟩ := List.mem_map.1 hx; rfl
    cases hb : lg.begun with
    | true =>
      obtain ⟨a1, a2, a3, a4, a5⟩ := writeD_all D1
      have hw : LV ⟨l', lg.hand, lg.begun, lg.last, lg.durable⟩ (writeD D1).1 n t U rs := hv.power a1 a2 a3 a4 a5 g3.write
      cases hq : (writeD D1).2 with
      | true =>
        have hs : syncNamesD D1 = ({ (writeD D1).1 with last := (writeD D1).1.nm, ch := [] }, 0) := by unfold syncNamesD onWrite; rw [if_pos hq]; rfl
        have hk := g3.syncNames
        rw [hs] at hk
        refine ⟨⟨l', lg.hand, false, lg.last, lg.last⟩, { (writeD D1).1 with last := (writeD D1).1.nm, ch := [] }, 0, ?_, ?_, rfl, hlen⟩
        · unfold syncL; rw [g1, he, if_neg (fun q => q rfl), if_pos hb, hs, if_pos rfl]
        · have hw' := hw
          rw [hb] at hw'
          have hw2 : LV ⟨l', lg.hand, true, lg.last, lg.durable⟩ { (writeD D1).1 with last := (writeD D1).1.nm, ch := [] } n t U rs := { hw' with dk := hk, ok := hw'.ok, c := hw'.c, r := hw'.r, la := hw'.la, dur := hw'.dur, small := hw'.small, few := hw'.few, room := hw'.room, nms := hw'.nms, file := hw'.file, used := hw'.used, names := ⟨D1.nm.length, by show _ ≤ (writeD D1).1.nm.length; rw [a3]; exact Nat.le_refl _, by show (writeD D1).1.nm = (writeD D1).1.nm.take _; rw [a3, List.take_length], by show [] = ((writeD D1).1.nm.drop _).map mkC; rw [a3, List.drop_length]; rfl, fun q => Bool.noConfusion q, fun i x hx _ => by have := hv.len; have h8 := (List.getElem?_eq_some_iff.1 hx).1; rw [this]; exact h8⟩ }
          exact hw2.lasts (hd_ := lg.hand) hcl rfl rfl rfl
      | false =>
        have hs : syncNamesD D1 = ((writeD D1).1, 11) := by unfold syncNamesD onWrite; rw [if_neg (by rw [hq]; exact Bool.noConfusion)]
        refine ⟨⟨l', lg.hand, lg.begun, lg.last, lg.durable⟩, (writeD D1).1, 11, ?_, hw, rfl, hlen⟩
        unfold syncL; rw [g1, he, if_neg (fun q => q rfl), if_pos hb, hs, if_neg (by show ¬ (11 : Int) = 0; decide)]
    | false =>
      obtain ⟨p, p1, p2, p3, p4, p5⟩ := hv.names
      have hp := p4 hb
      refine ⟨⟨l', lg.hand, false, lg.last, lg.last⟩, D1, 0, ?_, ?_, rfl, hlen⟩
      · unfold syncL; rw [g1, he, if_neg (fun q => q rfl), if_neg (by rw [hb]; exact Bool.noConfusion)]
        rw [hb]
      · exact hv.lasts (hd_ := lg.hand) hcl (by rw [p2, hp, List.take_length]) (by rw [p3, hp, List.drop_length]; rfl) rfl
  · refine ⟨⟨l', lg.hand, lg.begun, lg.last, lg.durable⟩, D1, e, ?_, hv, rfl, hlen⟩
    unfold syncL; rw [g1, if_pos he]
end Go.Proofs.YtiggkfaonnnjoaaGreatDoor.SL

/- The log as plain data: what is read behind a crash. -/
namespace Go.Proofs.YtiggkfaonnnjoaaGreatDoor.SL
open Go.RowKit
set_option linter.unusedVariables false
set_option linter.unusedSimpArgs false
theorem wcrash_out {zs : List Int} {m : Nat} : ∀ {l : Nm} {j : Nat} {f : List (List UInt8 × Nat)}, (∀ e ∈ l, e.2 < f.length) → (∀ e ∈ l, ¬ e.2 = m) → fileAt (crashF zs j l f) m = fileAt f m
  | [], _, _, _, _ => rfl
  | e :: l, j, f, h, hm => by
    have ih := wcrash_out (zs := zs) (m := m) (l := l) (j := j + 1) (f := f.set e.2 (cutF zs j (fileAt f e.2))) (fun d hd => by rw [List.length_set]; exact h d (List.mem_cons_of_mem _ hd)) fun d hd => hm d (List.mem_cons_of_mem _ hd)
    show fileAt (crashF zs (j + 1) l (f.set e.2 _)) m = _
    rw [ih, fileAt_set (h e (List.mem_cons_self ..)), if_neg (hm e (List.mem_cons_self ..))]
theorem wcrash_at {zs : List Int} {m : Nat} {k : List UInt8} : ∀ {l : Nm} {j : Nat} {f : List (List UInt8 × Nat)}, (l.map (·.2)).Nodup → (∀ e ∈ l, e.2 < f.length) → (k, m) ∈ l → ∃ i, fileAt (crashF zs j l f) m = cutF zs i (fileAt f m)
  | e :: l, j, f, hn, h, hm => by
    rw [List.map_cons, List.nodup_cons] at hn
    have h0 := h e (List.mem_cons_self ..)
    have hl : ∀ d ∈ l, d.2 < (f.set e.2 (cutF zs j (fileAt f e.2))).length := fun d hd => by rw [List.length_set]; exact h d (List.mem_cons_of_mem _ hd)
    by_cases he : e.2 = m
    · refine ⟨j, ?_⟩
      show fileAt (crashF zs (j + 1) l (f.set e.2 _)) m = _
      rw [wcrash_out hl fun d hd h3 => hn.1 (List.mem_map.2 ⟨d, hd, by rw [h3, he]⟩), fileAt_set h0, if_pos he, he]
    · have hm2 : (k, m) ∈ l := by
        rcases List.mem_cons.1 hm with h3 | h3
        · exact absurd (by rw [← h3]) he
        · exact h3
      obtain ⟨i, hi⟩ := wcrash_at (zs := zs) (j := j + 1) (f := f.set e.2 (cutF zs j (fileAt f e.2))) hn.2 hl hm2
      refine ⟨i, ?_⟩
      show fileAt (crashF zs (j + 1) l (f.set e.2 _)) m = _
      rw [hi, fileAt_set h0, if_neg he]
theorem apply_add {nm : Nm} {n : Nat} (hg : GoodN nm n) (p : Nat) : ∀ j, p + j ≤ nm.length → applyL (nm.take p) (((nm.drop p).map mkC).take j) = nm.take (p + j)
  | 0, _ => rfl
  | j + 1, hj => by
    obtain ⟨e, he⟩ : ∃ e, nm[p + j]? = some e := ⟨_, List.getElem?_eq_getElem (by omega)⟩
    have h1 : ((nm.drop p).map mkC)[j]? = some (mkC e) := by rw [List.getElem?_map, List.getElem?_drop, he]; rfl
    have hlt : ∀ d ∈ nm.take (p + j), strLt d.1 e.1 = true := fun d hd => by
      obtain ⟨i, hi⟩ := List.getElem?_of_mem hd
      have hil := (List.getElem?_eq_some_iff.1 hi).1
      rw [List.length_take] at hil
      rw [List.getElem?_take, if_pos (by omega)] at hi
      obtain ⟨a1, a2⟩ := List.getElem?_eq_some_iff.1 hi
      obtain ⟨b1, b2⟩ := List.getElem?_eq_some_iff.1 he
      have := List.pairwise_iff_getElem.1 hg.s i (p + j) a1 b1 (by omega)
      rw [a2, b2] at this; exact this
    have hne : ¬ e.1 = [] := fileF_ne (hg.f e (List.mem_of_getElem? he)).1
    rw [List.take_add_one, h1]
    show applyL (nm.take p) (((nm.drop p).map mkC).take j ++ [mkC e]) = _
    rw [applyL_snoc, apply_add hg p j (by omega), show p + (j + 1) = p + j + 1 by omega, List.take_add_one (i := p + j), he]
    show applyN (nm.take (p + j)) (mkC e) = nm.take (p + j) ++ [e]
    unfold applyN
    rw [if_neg (show ¬ (mkC e).tn = [] from hne), keepN_all fun d hd => ⟨fileF_ne (hg.f d (List.mem_of_mem_take hd)).1, fun hq => by have := hlt d hd; have hq2 : d.1 = e.1 := hq; rw [hq2, lt_irr] at this; cases this⟩]
    exact insN_end hlt
/-- A segment's file behind a crash: its records, cut off, but those that last are there. -/
theorem LV.crash {lg : Lg} {D : Dk} {n t U : Nat} {rs : List (List UInt8)} (h : LV lg D n t U rs) (zs : List Int) : ∃ m, m ≤ D.nm.length ∧ (crashD D zs).nm = D.nm.take m ∧ Up (crashD D zs) ∧ OkD (crashD D zs) n t ∧ (∀ (i : Nat) (x : Sg), lg.l[i]? = some x → x.first ≤ lg.durable → i < m) ∧
    ∀ (i : Nat) (x : Sg), i < m → lg.l[i]? = some x → ∃ c, c ≤ x.rs.length ∧ fileS (crashD D zs) (nameW x.first) = ⟨x.first, x.rs.take c, false⟩ ∧ (lg.durable < x.first + c ∨ c = x.rs.length) := by
  obtain ⟨p, p1, p2, p3, p4, p5⟩ := h.names
  have hcl : D.ch.length = D.nm.length - p := by rw [p3, List.length_map, List.length_drop]
  have hkp := keptF_le zs 0 D.ch.length
  obtain ⟨j, hj⟩ : ∃ j, j = keptF zs 0 D.ch.length := ⟨_, rfl⟩
  have hnm : applyL D.last (D.ch.take (keptF zs 0 D.ch.length)) = D.nm.take (p + j) := by
    rw [← hj, p2, p3]; exact apply_add h.dk.w.good p j (by omega)
  have hk := h.dk.crash (zs := zs)
  have hE : (crashD D zs).nm = D.nm.take (p + j) := hnm
  have hF : (crashD D zs).f = crashF zs 1 (D.nm.take (p + j)) D.f := by unfold crashD; rw [hnm]
  refine ⟨p + j, by omega, hE, ⟨rfl, rfl⟩, hk, fun i x hx hd => by have := p5 i x hx hd; omega, fun i x hi hx => ?_⟩
  obtain ⟨e, he, c, c1, c2, c3, c4, c5⟩ := h.file i x hx
  have hen := h.name hx he
  have hmem : (e.1, e.2) ∈ D.nm.take (p + j) := List.mem_of_getElem? (i := i) (by rw [List.getElem?_take, if_pos hi]; exact he)
  have hnd : ((D.nm.take (p + j)).map (·.2)).Nodup := by rw [List.map_take]; exact (List.take_sublist _ _).nodup h.dk.nmu
  obtain ⟨q, hq⟩ := wcrash_at (zs := zs) (j := 1) (f := D.f) hnd (fun d hd => (h.dk.w.good.f d (List.mem_of_mem_take hd)).2) hmem
  have hfi : findN (nameW x.first) (crashD D zs).nm = some e.2 := by
    rw [hE, ← hen]
    refine findN_at ?_ (i := i) (by rw [List.getElem?_take, if_pos hi]; exact he)
    rw [List.map_take]; exact (List.take_sublist _ _).nodup h.dk.w.good.s.nodup
  have hcon : (readD (crashD D zs) (nameW x.first)).1 = (encR x.rs).take ((encR (x.rs.take c)).length + keptF zs q ((encR x.rs).length - (encR (x.rs.take c)).length)) := by
    unfold readD
    rw [if_neg (by show ¬ false = true; exact Bool.noConfusion), hfi]
    show (fileAt (crashD D zs).f e.2).1 = _
    rw [hF, hq]
    unfold cutF
    show (fileAt D.f e.2).1.take _ = _
    rw [c1, c2]
  obtain ⟨c', d1, d2, d3⟩ := recsW_cut ((encR (x.rs.take c)).length + keptF zs q ((encR x.rs).length - (encR (x.rs.take c)).length)) (h.ok.r x (List.mem_of_getElem? hx))
  have hcc := d3 c c3 (by omega)
  have hfl := h.first_le hx
  have hsm := h.small
  refine ⟨c', d1, ?_, ?_⟩
  · unfold fileS
    rw [numW_nameW (by omega), hcon, d2]
  · rcases c5 with h5 | h5
    · left; omega
    · right; omega
theorem cont_end : ∀ {l : List Sg} {a : Nat} {q : Sg}, Cont a l → l.getLast? = some q → endS q + 1 = a + (recsL l).length
  | [], a, q, _, h => by simp at h
  | [x], a, q, hc, h => by
    have hq : x = q := by simpa using h
    subst hq
    have h1 : 1 ≤ x.rs.length := by
      have := hc.2.1
      cases hr : x.rs with
      | nil => exact absurd hr this
      | cons a b => rw [List.length_cons]; omega
    rw [recsL_one]; unfold endS; have := hc.1; omega
  | x :: y :: l, a, q, hc, h => by
    have := cont_end (l := y :: l) hc.2.2 (by rw [List.getLast?_cons_cons] at h; exact h)
    rw [this]; show _ = a + (x.rs ++ recsL (y :: l)).length; rw [List.length_append]; omega
theorem fit_ok {p : List Sg} {y : Sg} (hc : Cont 1 p) (hne : y.rs ≠ []) (hf : y.first = 1 + (recsL p).length) : fitsL p y 0 = true := by
  unfold fitsL
  rw [decide_eq_true hne]
  cases hl : p.getLast? with
  | none =>
    have h0 := List.getLast?_eq_none_iff.1 hl
    rw [h0] at hf
    exact decide_eq_true (by rw [hf]; show 1 + 0 ≤ 0 + 1; omega)
  | some q => exact decide_eq_true (by have := cont_end hc hl; omega)
theorem open_any {E : Dk} {d : Nat} : ∀ {xs p : List Sg}, Cont 1 (p ++ xs) → (∀ x ∈ xs, ∃ c, c ≤ x.rs.length ∧ fileS E (nameW x.first) = ⟨x.first, x.rs.take c, false⟩ ∧ (d < x.first + c ∨ c = x.rs.length)) → d ≤ (recsL (p ++ xs)).length → (∀ y ∈ p, y = fileS E (nameW y.first)) →
    ∃ l' M, openGo 0 E (nmsW xs) p = l' ∧ Cont 1 l' ∧ M ≤ (recsL (p ++ xs)).length ∧ recsL l' = (recsL (p ++ xs)).take M ∧ d ≤ M ∧ (∀ y ∈ l', y = fileS E (nameW y.first)) ∧ nmsW l' = (nmsW (p ++ xs)).take l'.length
  | [], p, hc, _, hd, hp => by
    rw [List.append_nil] at *
    exact ⟨p, _, rfl, hc, Nat.le_refl _, (List.take_length).symm, hd, hp, by rw [List.take_of_length_le (by unfold nmsW; rw [List.length_map]; exact Nat.le_refl _)]⟩
  | x :: xs, p, hc, hx, hd, hp => by
    obtain ⟨c, h1, h2, h3⟩ := hx x (List.mem_cons_self ..)
    have hc2 := Cont.append.1 hc
    have hxf : x.first = 1 + (recsL p).length := hc2.2.1
    have hxne := hc2.2.2.1
    have hx1 : 1 ≤ x.rs.length := by
      cases hr : x.rs with
      | nil => exact absurd hr hxne
      | cons a b => rw [List.length_cons]; omega
    have e : openGo 0 E (nmsW (x :: xs)) p = if fitsL p (fileS E (nameW x.first)) 0 = true then openGo 0 E (nmsW xs) (p ++ [fileS E (nameW x.first)]) else p := rfl
    have er : recsL (p ++ x :: xs) = recsL p ++ (x.rs ++ recsL xs) := by rw [recsL_append]; rfl
    have enm : ∀ m : List Sg, nmsW (p ++ m) = nmsW p ++ nmsW m := fun m => by unfold nmsW; rw [List.map_append]
    have elen : (nmsW p).length = p.length := by unfold nmsW; rw [List.length_map]
    rcases Nat.eq_zero_or_pos c with h0 | h0
    · subst h0
      have hfit : fitsL p (fileS E (nameW x.first)) 0 = false := by
        rw [h2]; unfold fitsL
        rw [decide_eq_false (show ¬ (x.rs.take 0) ≠ [] from fun q => q (List.take_zero ..))]; rfl
      refine ⟨p, (recsL p).length, by rw [e, if_neg (by rw [hfit]; exact Bool.noConfusion)], hc2.1, by rw [er, List.length_append]; omega, by rw [er, List.take_left], ?_, hp, by rw [enm, ← elen, List.take_left]⟩
      rcases h3 with h3 | h3 <;> omega
    · obtain ⟨y, hy⟩ : ∃ y : Sg, y = ⟨x.first, x.rs.take c, false⟩ := ⟨_, rfl⟩
      have hyl : (x.rs.take c).length = c := by rw [List.length_take]; omega
      have hyne : y.rs ≠ [] := by rw [hy]; intro q; have := congrArg List.length q; rw [hyl, List.length_nil] at this; omega
      have hyf : y.first = 1 + (recsL p).length := by rw [hy]; exact hxf
      have hfit := fit_ok hc2.1 hyne hyf
      rw [h2, ← hy, if_pos hfit] at e
      have hyn : nameW y.first = nameW x.first := by rw [hy]
      have hpy : ∀ z ∈ p ++ [y], z = fileS E (nameW z.first) := fun z hz => by
        rcases List.mem_append.1 hz with hz | hz
        · exact hp z hz
        · rw [List.mem_singleton.1 hz, hyn, h2, hy]
      by_cases hcl : c = x.rs.length
      · have hyr : y.rs = x.rs := by rw [hy]; show x.rs.take c = x.rs; rw [hcl, List.take_length]
        have er2 : recsL ((p ++ [y]) ++ xs) = recsL (p ++ x :: xs) := by rw [er, recsL_append, recsL_append, recsL_one, hyr, List.append_assoc]
        have en2 : nmsW ((p ++ [y]) ++ xs) = nmsW (p ++ x :: xs) := by rw [List.append_assoc, enm, enm]; congr 1; show nameW y.first :: nmsW xs = _; rw [hyn]; rfl
        have hcc : Cont 1 ((p ++ [y]) ++ xs) := by
          rw [List.append_assoc]
          refine Cont.append.2 ⟨hc2.1, hyf, hyne, ?_⟩
          rw [hyr]; exact hc2.2.2.2
        obtain ⟨l', M, g1, g2, g3, g4, g5, g6, g7⟩ := open_any (xs := xs) (p := p ++ [y]) hcc (fun z hz => hx z (List.mem_cons_of_mem _ hz)) (by rw [er2]; exact hd) hpy
        exact ⟨l', M, by rw [e]; exact g1, g2, by rw [← er2]; exact g3, by rw [← er2]; exact g4, g5, g6, by rw [← en2]; exact g7⟩
      · have hgo : openGo 0 E (nmsW xs) (p ++ [y]) = p ++ [y] := by
          cases xs with
          | nil => rfl
          | cons z xs =>
            have e3 : openGo 0 E (nmsW (z :: xs)) (p ++ [y]) = if fitsL (p ++ [y]) (fileS E (nameW z.first)) 0 = true then openGo 0 E (nmsW xs) ((p ++ [y]) ++ [fileS E (nameW z.first)]) else p ++ [y] := rfl
            obtain ⟨cz, z1, z2, z3⟩ := hx z (List.mem_cons_of_mem _ (List.mem_cons_self ..))
            have hzf : z.first = 1 + (recsL p).length + x.rs.length := hc2.2.2.2.1
            have hnf : fitsL (p ++ [y]) (fileS E (nameW z.first)) 0 = false := by
              rw [z2]; unfold fitsL
              have hgl : (p ++ [y]).getLast? = some y := by rw [List.getLast?_append]; rfl
              rw [hgl]
              have : decide (z.first = endS y + 1) = false := decide_eq_false (by rw [hzf]; unfold endS; rw [hyf, hy]; show ¬ _ = 1 + (recsL p).length + (x.rs.take c).length - 1 + 1; rw [hyl]; omega)
              show (_ && decide (z.first = endS y + 1)) = false
              rw [this, Bool.and_false]
            rw [e3, if_neg (by rw [hnf]; exact Bool.noConfusion)]
        refine ⟨p ++ [y], (recsL p).length + c, by rw [e]; exact hgo, Cont.append.2 ⟨hc2.1, hyf, hyne, trivial⟩, by rw [er]; simp only [List.length_append]; omega, ?_, ?_, hpy, ?_⟩
        · rw [er, recsL_append, recsL_one, List.take_append, List.take_of_length_le (by omega), Nat.add_sub_cancel_left, List.take_append_of_le_length h1, hy]
        · rcases h3 with h3 | h3
          · omega
          · exact absurd h3 hcl
        · rw [enm, enm, List.length_append]
          have : nmsW (x :: xs) = nameW y.first :: nmsW xs := by rw [hyn]; rfl
          rw [this, List.take_append, List.take_of_length_le (by rw [elen]; omega), elen, Nat.add_sub_cancel_left]; rfl
end Go.Proofs.YtiggkfaonnnjoaaGreatDoor.SL

/- The log as plain data: opened behind a crash. -/
namespace Go.Proofs.YtiggkfaonnnjoaaGreatDoor.SL
open Go.RowKit
set_option linter.unusedVariables false
set_option linter.unusedSimpArgs false
theorem findN_keep {k q : List UInt8} (hq : ¬ q = k) (hq2 : ¬ q = []) : ∀ {l : Nm}, findN q (keepN ⟨k, [], 0⟩ l) = findN q l
  | [] => rfl
  | e :: l => by
    unfold keepN
    rw [List.filter_cons]
    have ih : findN q (l.filter fun e => decide (¬ e.1 = k ∧ ¬ e.1 = [])) = findN q l := findN_keep hq hq2
    by_cases h : ¬ e.1 = k ∧ ¬ e.1 = []
    · rw [if_pos (decide_eq_true h)]
      show (if q = e.1 then some e.2 else findN q (l.filter _)) = (if q = e.1 then some e.2 else findN q l)
      rw [ih]
    · rw [if_neg (by rw [decide_eq_false h]; exact Bool.noConfusion)]
      show findN q (l.filter _) = (if q = e.1 then some e.2 else findN q l)
      rw [ih, if_neg (fun h2 => h ⟨fun h3 => hq (h2.trans h3), fun h3 => hq2 (h2.trans h3)⟩)]
theorem rm_any : ∀ {ks : List (List UInt8)} {D : Dk} {n t : Nat}, Up D → OkD D n t → ks.Nodup → (∀ k ∈ ks, ¬ k = [] ∧ ∃ i, findN k D.nm = some i) → ∃ D', rmAll ks D = (D', 0) ∧ Up D' ∧ OkD D' (n + ks.length) t ∧ D'.f = D.f ∧ ∀ q, q ∉ ks → ¬ q = [] → findN q D'.nm = findN q D.nm
  | [], D, n, t, hu, hk, _, _ => ⟨D, rfl, hu, hk, rfl, fun _ _ _ => rfl⟩
  | k :: ks, D, n, t, hu, hk, hn, hf => by
    obtain ⟨h0, i, hi⟩ := hf k (List.mem_cons_self ..)
    have hn := List.nodup_cons.1 hn
    have hrm : removeD D k = (changeD D ⟨k, [], 0⟩, 0) := by unfold removeD; rw [hu.on]; unfold remove1; rw [hi]
    have hk1 := hk.remove (k := k)
    rw [hrm] at hk1
    have hnm : (changeD D ⟨k, [], 0⟩).nm = keepN ⟨k, [], 0⟩ D.nm := rfl
    obtain ⟨D', g1, g2, g3, g4, g5⟩ := rm_any (ks := ks) (D := changeD D ⟨k, [], 0⟩) ⟨hu.left, hu.dead⟩ hk1 hn.2 (fun q hq => by
      obtain ⟨a, j, hj⟩ := hf q (List.mem_cons_of_mem _ hq)
      exact ⟨a, j, by rw [hnm, findN_keep (fun h => hn.1 (by rw [← h]; exact hq)) a]; exact hj⟩)
    refine ⟨D', ?_, g2, g3.mono (by rw [List.length_cons]; omega) (Nat.le_refl _), g4, fun q hq hq2 => ?_⟩
    · have e : rmAll (k :: ks) D = if (removeD D k).2 = 0 then rmAll ks (removeD D k).1 else removeD D k := rfl
      rw [e, hrm, if_pos rfl]; exact g1
    · rw [g5 q (fun h => hq (List.mem_cons_of_mem _ h)) hq2, hnm, findN_keep (fun h => hq (by rw [h]; exact List.mem_cons_self ..)) hq2]
theorem LV.reopen {lg : Lg} {D : Dk} {n t U : Nat} {rs : List (List UInt8)} (h : LV lg D n t U rs) (zs : List Int) : ∃ l' D2 M, openL 0 (crashD D zs) = (⟨l', false, false, M, M⟩, D2, 0) ∧ OkL ⟨l', false, false, M, M⟩ ∧ OkD D2 (n + 64) t ∧ FilesL ⟨l', false, false, M, M⟩ D2 ∧ lg.durable ≤ M ∧ M ≤ rs.length ∧
    (∀ (k : Nat) (r : List UInt8), k < M → rs[k]? = some r → readL l' ((k : Int) + 1) = (r, 0)) ∧ (∀ q ∈ namesD (crashD D zs), ¬ numW q = 0 ∧ numW q ≤ 99999999) ∧ OkD (crashD D zs) n t ∧ (crashD D zs).dead = false := by
  obtain ⟨m, m1, m2, hu, hk, m4, m5⟩ := h.crash zs
  generalize crashD D zs = E at m2 hu hk m5 ⊢
  obtain ⟨xs, hxs⟩ : ∃ xs, xs = lg.l.take m := ⟨_, rfl⟩
  have hsm := h.small
  have hnm : namesD E = nmsW xs := by
    unfold namesD; rw [if_neg (by rw [hu.dead]; exact Bool.noConfusion), m2, List.map_take, h.nms, hxs]; unfold nmsW; rw [List.map_take]
  have hnm2 : E.nm.map (·.1) = nmsW xs := by have := hnm; unfold namesD at this; rwa [if_neg (by rw [hu.dead]; exact Bool.noConfusion)] at this
  have hnd : (nmsW xs).Nodup := by rw [← hnm2]; exact hk.w.good.s.nodup
  have hmem : ∀ x ∈ xs, ∃ i, i < m ∧ lg.l[i]? = some x := fun x hx => by
    rw [hxs] at hx
    obtain ⟨i, hi⟩ := List.getElem?_of_mem hx
    have hil := (List.getElem?_eq_some_iff.1 hi).1
    rw [List.length_take] at hil
    rw [List.getElem?_take, if_pos (by omega)] at hi
    exact ⟨i, by omega, hi⟩
  have hnum : ∀ q ∈ namesD E, ¬ numW q = 0 ∧ numW q ≤ 99999999 := fun q hq => by
    rw [hnm] at hq
    unfold nmsW at hq
    obtain ⟨x, hx, rfl⟩ := List.mem_map.1 hq
    obtain ⟨i, _, hi⟩ := hmem x hx
    have := h.first_le hi
    rw [numW_nameW (by omega)]; omega
  have hsplit : Cont 1 (xs ++ lg.l.drop m) := by rw [hxs, List.take_append_drop]; exact h.c
  have hcx : Cont 1 xs := (Cont.append.1 hsplit).1
  have hrx : recsL xs ++ recsL (lg.l.drop m) = rs := by rw [← recsL_append, hxs, List.take_append_drop]; exact h.r
  have hdx : lg.durable ≤ (recsL xs).length := by
    have hdl := h.dur
    rcases Nat.lt_or_ge m lg.l.length with hm | hm
    · obtain ⟨x, hx⟩ : ∃ x, lg.l[m]? = some x := ⟨_, List.getElem?_eq_getElem hm⟩
      have h1 := (cont_pos h.c hx).1
      rw [← hxs] at h1
      rcases Nat.lt_or_ge (recsL xs).length lg.durable with h2 | h2
      · have := m4 m x hx (by omega); omega
      · exact h2
    · have : recsL xs = rs := by rw [hxs, List.take_of_length_le hm]; exact h.r
      rw [this, ← h.la]; exact hdl
  obtain ⟨l', M, g1, g2, g3, g4, g5, g6, g7⟩ := open_any (E := E) (d := lg.durable) (xs := xs) (p := []) hcx (fun x hx => by
    obtain ⟨i, hi, hx2⟩ := hmem x hx
    obtain ⟨c, c1, c2, c3⟩ := m5 i x hi hx2
    exact ⟨c, c1, c2, c3⟩) hdx (fun y hy => by cases hy)
  have g3 : M ≤ (recsL xs).length := g3
  have g4 : recsL l' = (recsL xs).take M := g4
  have g7 : nmsW l' = (nmsW xs).take l'.length := g7
  have hML : (recsL l').length = M := by rw [g4, List.length_take]; omega
  have hMr : M ≤ rs.length := by have := congrArg List.length hrx; rw [List.length_append] at this; omega
  have hrl : rs.length = lg.last := h.la.symm
  have hl'n : l'.length ≤ xs.length := by
    have h1 := congrArg List.length g7
    have h2 : (nmsW xs).length = xs.length := by unfold nmsW; rw [List.length_map]
    have h3 : (nmsW l').length = l'.length := by unfold nmsW; rw [List.length_map]
    rw [List.length_take, h2, h3] at h1; omega
  have hxl : xs.length ≤ lg.l.length := by rw [hxs, List.length_take]; omega
  have hll : lg.l.length ≤ 64 := by rw [← h.len]; exact h.dk.w.nm64
  have hfw : filesW E = nmsW xs := by rw [filesW_all fun q hq => (hnum q hq).1, hnm]
  have hos : openS 0 E = l' := by unfold openS; rw [hfw, g1, if_neg (by omega)]
  have hlw : lastW 0 l' = M := by
    have he : endL l' = M := by
      unfold endL
      cases hg : l'.getLast? with
      | none =>
        have h0 := List.getLast?_eq_none_iff.1 hg
        rw [h0] at hML; exact hML
      | some q =>
        have := cont_end g2 hg
        show endS q = M; omega
    unfold lastW; rw [he]; split <;> omega
  have hks : ((nmsW xs).drop l'.length).Nodup := (List.drop_sublist _ _).nodup hnd
  obtain ⟨D1, r1, r2, r3, r4, r5⟩ := rm_any (ks := (nmsW xs).drop l'.length) hu hk hks (fun k hk2 => by
    have hkm := List.mem_of_mem_drop hk2
    rw [← hnm2] at hkm
    obtain ⟨e, he, rfl⟩ := List.mem_map.1 hkm
    obtain ⟨i, hi⟩ := List.getElem?_of_mem he
    exact ⟨fileF_ne (hk.w.good.f e he).1, e.2, findN_at hk.w.good.s.nodup hi⟩)
  have hkl : ((nmsW xs).drop l'.length).length ≤ 64 := by rw [List.length_drop]; have : (nmsW xs).length = xs.length := (by unfold nmsW; rw [List.length_map]); omega
  have hD2 : ∃ D2, rmW ((nmsW xs).drop l'.length) E = (D2, 0) ∧ Up D2 ∧ OkD D2 (n + 64) t ∧ D2.f = E.f ∧ ∀ q, q ∉ (nmsW xs).drop l'.length → ¬ q = [] → findN q D2.nm = findN q E.nm := by
    unfold rmW
    by_cases h0 : (nmsW xs).drop l'.length = []
    · rw [if_pos h0]; exact ⟨E, rfl, hu, hk.mono (by omega) (Nat.le_refl _), rfl, fun _ _ _ => rfl⟩
    · rw [if_neg h0, r1, if_pos rfl]
      have hs : syncNamesD D1 = ({ D1 with last := D1.nm, ch := [] }, 0) := by unfold syncNamesD; rw [r2.on]; rfl
      have hk3 := r3.syncNames
      rw [hs] at hk3 ⊢
      exact ⟨_, rfl, ⟨r2.left, r2.dead⟩, hk3.mono (by omega) (Nat.le_refl _), r4, r5⟩
  obtain ⟨D2, e1, e2, e3, e4, e5⟩ := hD2
  have hb : ∀ x ∈ l', 1 ≤ x.first ∧ x.first + x.rs.length ≤ M + 1 := fun x hx => by
    obtain ⟨i, hi⟩ := List.getElem?_of_mem hx
    obtain ⟨a1, a2, a3⟩ := cont_pos g2 hi
    omega
  refine ⟨l', D2, M, ?_, ?_, e3, ?_, g5, hMr, fun k r hkM hr => ?_, hnum, hk, hu.dead⟩
  · unfold openL; rw [hos, hlw, hfw, e1]
  · refine ⟨fun x hx => by have := hb x hx; omega, fun x hx => ?_, fun x hx => ?_, by show l'.length ≤ _; omega, by show M ≤ _; omega, fun q => Bool.noConfusion q⟩
    · obtain ⟨i, hi⟩ := List.getElem?_of_mem hx
      exact (cont_pos g2 hi).2.1
    · rw [g6 x hx]; exact recsW_ok _
  · intro y hy
    obtain ⟨tt, ht⟩ := recsW_pre (readD E (nameW y.first)).1
    have hyr : y.rs = recsW (readD E (nameW y.first)).1 := by
      have := congrArg Sg.rs (g6 y hy); exact this
    rw [← hyr] at ht
    have hyn : nameW y.first ∈ nmsW l' := List.mem_map_of_mem hy
    have hnot : nameW y.first ∉ (nmsW xs).drop l'.length := fun hd => by
      rw [g7] at hyn
      have := List.take_append_drop l'.length (nmsW xs)
      rw [← this] at hnd
      exact (List.nodup_append.1 hnd).2.2 _ hyn _ hd rfl
    have hfne : ¬ nameW y.first = [] := fileF_ne (nameW_file _)
    have hyx : nameW y.first ∈ nmsW xs := by rw [g7] at hyn; exact List.mem_of_mem_take hyn
    rw [← hnm2] at hyx
    obtain ⟨e, he, hen⟩ := List.mem_map.1 hyx
    obtain ⟨i, hi⟩ := List.getElem?_of_mem he
    have hfi : findN (nameW y.first) E.nm = some e.2 := by rw [← hen]; exact findN_at hk.w.good.s.nodup hi
    refine ⟨tt, ?_⟩
    have hc : readD E (nameW y.first) = ((fileAt E.f e.2).1, 0) := by unfold readD; rw [if_neg (by rw [hu.dead]; exact Bool.noConfusion), hfi]
    rw [hc] at ht
    unfold readD
    rw [if_neg (by rw [e2.dead]; exact Bool.noConfusion), e5 _ hnot hfne, hfi, ← ht]
    show ((fileAt D2.f e.2).1, (0 : Int)) = _
    rw [e4]
  · refine cont_read g2 (by omega) ?_
    rw [g4, show ((k : Int) + 1 - ((1 : Nat) : Int)).toNat = k by omega, List.getElem?_take, if_pos hkM]
    rw [← hrx, List.getElem?_append_left (by omega)] at hr
    exact hr
theorem LV.app2 {lg : Lg} {D : Dk} {n t U : Nat} {rs : List (List UInt8)} {s : List UInt8} (h : LV lg D n t U rs) (hs : s.length ≤ 1000) (hU : U + (s.length + 14) ≤ 1048576) (hl : lg.last < 99999998) (hn : lg.l.length < 64) :
    ∃ lg' D' nn e, appendL lg D s = ⟨lg', D', nn, e⟩ ∧ lg'.l.length ≤ lg.l.length + 1 ∧ ((e = 0 ∧ nn = rs.length + 1 ∧ LV lg' D' (n + 1) (t + (s.length + 14)) (U + (s.length + 14)) (rs ++ [s])) ∨ (e = 11 ∧ LV lg' D' (n + 1) (t + (s.length + 14)) (U + (s.length + 14)) rs)) := by
  rcases h.append hs hU hl hn with ⟨D', h1, h2⟩ | ⟨D', h1, h2⟩
  · exact ⟨_, _, _, _, h1, (appG_last lg s).2.1, .inl ⟨rfl, by rw [h.la], h2⟩⟩
  · exact ⟨_, _, _, _, h1, by omega, .inr ⟨rfl, h2⟩⟩
theorem LV.fuse {lg : Lg} {D : Dk} {n t U : Nat} {rs : List (List UInt8)} {x : Int} (h : LV lg D n t U rs) (hx : x ≤ 9223372036854775807) : LV lg (fuseD D x) n t U rs := by
  have hk := h.dk.fuse hx
  refine h.power ?_ ?_ ?_ ?_ ?_ hk <;> (unfold fuseD; split <;> rfl)
end Go.Proofs.YtiggkfaonnnjoaaGreatDoor.SL
