import Derived.Test.YtiggkfaonnnjoaaGreatDoorWl
/- The log as plain data: as used to be, and begun anew. -/
namespace Go.Proofs.YtiggkfaonnnjoaaGreatDoor.SL
open Go.RowKit
set_option linter.unusedVariables false
set_option linter.unusedSimpArgs false
structure Up (D : Dk) : Prop where
  left : D.left = -1
  dead : D.dead = false
theorem Up.on {D : Dk} (h : Up D) (k : Dk → Dk × Int) : onWrite D k = k D := by unfold onWrite; rw [writeD_up h.left h.dead, if_pos rfl]
theorem app_new {D : Dk} {k s : List UInt8} (h : Up D) (hf : fileF k = true) (hno : findN k D.nm = none) (h64 : D.nm.length < 64) (hr : ((usedN D.f D.nm + s.length : Nat) : Int) ≤ D.room) : appendD D k s = (⟨D.room, D.f ++ [(s, 0)], applyN D.nm ⟨[], k, D.f.length⟩, D.last, D.ch ++ [⟨[], k, D.f.length⟩], D.dead, D.left⟩, 0) := by
  unfold appendD
  rw [h.on]; unfold append1
  rw [if_neg (by rw [hf]; exact Bool.noConfusion), if_neg (by intro h2; rcases h2 with h2 | ⟨_, h2⟩ <;> omega), hno]; rfl
theorem app_more {D : Dk} {k s : List UInt8} {i : Nat} (h : Up D) (hf : fileF k = true) (hi : findN k D.nm = some i) (hr : ((usedN D.f D.nm + s.length : Nat) : Int) ≤ D.room) : appendD D k s = ({ D with f := addTo D.f i s }, 0) := by
  unfold appendD
  rw [h.on]; unfold append1
  rw [if_neg (by rw [hf]; exact Bool.noConfusion), if_neg (by
    intro h2
    rcases h2 with h2 | ⟨h2, _⟩
    · omega
    · rw [hi] at h2; cases h2), hi]
theorem openL_none {base : Nat} {D : Dk} (h : D.nm = []) : openL base D = (⟨[], false, false, base, base⟩, D, 0) := by
  have hn : namesD D = [] := by unfold namesD; rw [h]; split <;> rfl
  have hf : filesW D = [] := by unfold filesW; rw [hn]; rfl
  have ho : openS base D = [] := by unfold openS; rw [hf]; show (if endL [] < base then [] else []) = []; split <;> rfl
  have hl : lastW base [] = base := by unfold lastW; rw [if_neg (by show ¬ base < 0; omega)]
  unfold openL; rw [ho, hl, hf]; rfl
/-! As used to be. -/
def wa : List UInt8 := [97]
def wb : List UInt8 := [98]
def wc : List UInt8 := [99]
def nm1 : List UInt8 := nameW 1
theorem nm1_file : fileF nm1 = true := nameW_file 1
def dW (f : List UInt8) (s : Nat) (last : Nm) (ch : List Chg) : Dk := ⟨1000, [(f, s)], [(nm1, 0)], last, ch, false, -1⟩
def c1 : Chg := ⟨[], nm1, 0⟩
theorem frB3 : (frB wa).length ≤ 15 ∧ (frB wb).length ≤ 15 ∧ (frB wc).length ≤ 15 := ⟨(frB_len (by decide)).2, (frB_len (by decide)).2, (frB_len (by decide)).2⟩
theorem wrk1 : appendD (newD 1000) nm1 (frB wa) = (dW (frB wa) 0 [] [c1], 0) := by
  have := frB3
  exact app_new (D := newD 1000) ⟨rfl, rfl⟩ nm1_file rfl (by decide) (by show ((0 + (frB wa).length : Nat) : Int) ≤ 1000; omega)
theorem wrk2 : appendD (dW (frB wa) 0 [] [c1]) nm1 (frB wb) = (dW (frB wa ++ frB wb) 0 [] [c1], 0) := by
  have := frB3
  exact app_more (D := dW (frB wa) 0 [] [c1]) ⟨rfl, rfl⟩ nm1_file (i := 0) rfl (by show (((frB wa).length + 0 + (frB wb).length : Nat) : Int) ≤ 1000; omega)
theorem wrk3 (f : List UInt8) : syncD (dW f 0 [] [c1]) nm1 = (dW f f.length [] [c1], 0) := rfl
theorem wrk4 (f : List UInt8) (s : Nat) : syncNamesD (dW f s [] [c1]) = (dW f s [(nm1, 0)] [], 0) := rfl
theorem wrk5 : appendD (dW (frB wa ++ frB wb) (frB wa ++ frB wb).length [(nm1, 0)] []) nm1 (frB wc) = (dW ((frB wa ++ frB wb) ++ frB wc) (frB wa ++ frB wb).length [(nm1, 0)] [], 0) := by
  have := frB3
  exact app_more (D := dW (frB wa ++ frB wb) (frB wa ++ frB wb).length [(nm1, 0)] []) ⟨rfl, rfl⟩ nm1_file (i := 0) rfl (by show (((frB wa ++ frB wb).length + 0 + (frB wc).length : Nat) : Int) ≤ 1000; rw [List.length_append]; omega)
def dWE : Dk := dW (frB wa ++ frB wb) (frB wa ++ frB wb).length [(nm1, 0)] []
theorem wrk6 : crashD (dW ((frB wa ++ frB wb) ++ frB wc) (frB wa ++ frB wb).length [(nm1, 0)] []) [] = dWE := by
  have h : cutF [] 1 (((frB wa ++ frB wb) ++ frB wc), (frB wa ++ frB wb).length) = (frB wa ++ frB wb, (frB wa ++ frB wb).length) := by
    unfold cutF
    show (((frB wa ++ frB wb) ++ frB wc).take ((frB wa ++ frB wb).length + 0), (frB wa ++ frB wb).length + 0) = _
    rw [Nat.add_zero, List.take_left]
  show (⟨1000, [cutF [] 1 (((frB wa ++ frB wb) ++ frB wc), (frB wa ++ frB wb).length)], [(nm1, 0)], [(nm1, 0)], [], false, -1⟩ : Dk) = _
  rw [h]; rfl
def lgW (rs : List (List UInt8)) (d b : Bool) (n m : Nat) : Lg := ⟨[⟨1, rs, d⟩], true, b, n, m⟩
theorem appL_ok {lg : Lg} {D D' : Dk} {s : List UInt8} (hs : s.length ≤ 65536) (hl : lg.last < 99999999) (h : appendD D (nameW (appN lg)) (frB s) = (D', 0)) : appendL lg D s = ⟨appG lg s, D', lg.last + 1, 0⟩ := by
  have h0 : (putF 1 s).2 = 0 := by rw [frB_ok hs]
  unfold appendL
  rw [if_neg (fun h => h h0), if_neg (by omega), h, if_pos rfl]
theorem wko1 : appendL ⟨[], false, false, 0, 0⟩ (newD 1000) wa = ⟨lgW [wa] true true 1 0, dW (frB wa) 0 [] [c1], 1, 0⟩ := appL_ok (by decide) (by decide) wrk1
theorem wko2 : appendL (lgW [wa] true true 1 0) (dW (frB wa) 0 [] [c1]) wb = ⟨lgW [wa, wb] true true 2 0, dW (frB wa ++ frB wb) 0 [] [c1], 2, 0⟩ := appL_ok (by decide) (by decide) wrk2
theorem wko3 : syncL (lgW [wa, wb] true true 2 0) (dW (frB wa ++ frB wb) 0 [] [c1]) = ⟨lgW [wa, wb] false false 2 2, dWE, 0, 0⟩ := rfl
theorem wko4 : appendL (lgW [wa, wb] false false 2 2) dWE wc = ⟨lgW [wa, wb, wc] true false 3 2, dW ((frB wa ++ frB wb) ++ frB wc) (frB wa ++ frB wb).length [(nm1, 0)] [], 3, 0⟩ := appL_ok (by decide) (by decide) wrk5
theorem enc2 : encR [wa, wb] = frB wa ++ frB wb := by show frB wa ++ (frB wb ++ []) = _; rw [List.append_nil]
theorem okR2 : OkR [wa, wb] := fun r hr => by
  rcases List.mem_cons.1 hr with rfl | hr
  · decide
  · rw [List.mem_singleton.1 hr]; decide
theorem wko5 : openL 0 dWE = (⟨[⟨1, [wa, wb], false⟩], false, false, 2, 2⟩, dWE, 0) := by
  have hn : numW nm1 = 1 := numW_nameW (by decide)
  have hf : filesW dWE = [nm1] := by
    have e : namesD dWE = [nm1] := rfl
    unfold filesW; rw [e]
    show (if decide (¬ numW nm1 = 0) = true then [nm1] else []) = [nm1]
    rw [hn]; rfl
  have hs : fileS dWE nm1 = ⟨1, [wa, wb], false⟩ := by
    have e : (readD dWE nm1).1 = encR [wa, wb] := enc2.symm
    unfold fileS; rw [hn, e, recsW_enc okR2]
  have ho : openS 0 dWE = [⟨1, [wa, wb], false⟩] := by
    unfold openS; rw [hf]
    have e : openGo 0 dWE [nm1] [] = if fitsL [] (fileS dWE nm1) 0 = true then [fileS dWE nm1] else [] := rfl
    rw [e, hs]; rfl
  unfold openL; rw [ho, hf]; rfl
theorem wfl : FilesL ⟨[⟨1, [wa, wb], false⟩], false, false, 2, 2⟩ dWE := fun x hx => by
  have hx : x = ⟨1, [wa, wb], false⟩ := List.mem_singleton.1 hx
  subst hx
  refine ⟨[], ?_⟩
  show (frB wa ++ frB wb, (0 : Int)) = _
  rw [enc2, List.append_nil]
theorem wok (rs : List (List UInt8)) (hrs : OkR rs) (hne : rs ≠ []) (hl : rs.length ≤ 10) (h d b : Bool) (n m : Nat) (hn : n ≤ 10) : OkL ⟨[⟨1, rs, d⟩], h, b, n, m⟩ :=
  ⟨fun x hx => by rw [List.mem_singleton.1 hx]; show 1 + rs.length ≤ _; omega, fun x hx => by rw [List.mem_singleton.1 hx]; exact hne, fun x hx => by rw [List.mem_singleton.1 hx]; exact hrs, by show 1 ≤ 1000000; omega, by show n ≤ _; omega, fun _ => by simp⟩
theorem wok3 : OkR [wa, wb, wc] := fun r hr => by
  rcases List.mem_cons.1 hr with rfl | hr
  · decide
  · rcases List.mem_cons.1 hr with rfl | hr
    · decide
    · rw [List.mem_singleton.1 hr]; decide
theorem wok1 : OkR [wa] := fun r hr => by rw [List.mem_singleton.1 hr]; decide
theorem wkd1 : OkD (dW (frB wa) 0 [] [c1]) 1 15 := by
  have h := frB3
  have z := (OkD.new (room := 1000) (by omega)).append (k := nm1) (s := frB wa)
  rw [wrk1] at z; exact z.mono (by omega) (by omega)
theorem wkd2 : OkD (dW (frB wa ++ frB wb) 0 [] [c1]) 2 30 := by
  have h := frB3
  have z := wkd1.append (k := nm1) (s := frB wb)
  rw [wrk2] at z; exact z.mono (by omega) (by omega)
theorem wkd3 : OkD dWE 2 30 := by
  have z := (wkd2.sync (k := nm1)).syncNames
  rw [wrk3] at z; exact z
theorem wkd4 : OkD (dW ((frB wa ++ frB wb) ++ frB wc) (frB wa ++ frB wb).length [(nm1, 0)] []) 3 45 := by
  have h := frB3
  have z := wkd3.append (k := nm1) (s := frB wc)
  unfold dWE at z
  rw [wrk5] at z; exact z.mono (by omega) (by omega)
theorem wnms : ∀ q ∈ namesD dWE, ¬ numW q = 0 ∧ numW q ≤ 99999999 := fun q hq => by
  have e : namesD dWE = [nm1] := rfl
  rw [e] at hq; rw [List.mem_singleton.1 hq]
  have hn : numW nm1 = 1 := numW_nameW (by decide)
  rw [hn]; decide
end Go.Proofs.YtiggkfaonnnjoaaGreatDoor.SL

/- The log as plain data: what always holds while the disk is well. -/
namespace Go.Proofs.YtiggkfaonnnjoaaGreatDoor.SL
open Go.RowKit
set_option linter.unusedVariables false
set_option linter.unusedSimpArgs false
theorem findN_no {k : List UInt8} : ∀ {l : Nm}, (∀ e ∈ l, ¬ e.1 = k) → findN k l = none
  | [], _ => rfl
  | e :: l, h => by
    unfold findN
    rw [if_neg (fun h2 => h e (List.mem_cons_self ..) h2.symm)]
    exact findN_no fun x hx => h x (List.mem_cons_of_mem _ hx)
theorem findN_at : ∀ {l : Nm} {i : Nat} {e : List UInt8 × Nat}, (l.map (·.1)).Nodup → l[i]? = some e → findN e.1 l = some e.2
  | [], i, e, _, h => by simp at h
  | x :: l, 0, e, _, h => by simp at h; subst h; unfold findN; rw [if_pos rfl]
  | x :: l, i + 1, e, hn, h => by
    have hn := List.nodup_cons.1 hn
    have hl : l[i]? = some e := by simpa using h
    unfold findN
    rw [if_neg (fun h2 => hn.1 (by show x.1 ∈ l.map (·.1); rw [← h2]; exact List.mem_map_of_mem (List.mem_of_getElem? hl)))]
    exact findN_at hn.2 hl
theorem keepN_all {c : Chg} {l : Nm} (h : ∀ e ∈ l, ¬ e.1 = c.fr ∧ ¬ e.1 = c.tn) : keepN c l = l := List.filter_eq_self.2 fun e he => decide_eq_true (h e he)
theorem insN_end {x : List UInt8 × Nat} : ∀ {l : Nm}, (∀ e ∈ l, strLt e.1 x.1 = true) → insN x l = l ++ [x]
  | [], _ => rfl
  | y :: l, h => by
    unfold insN
    rw [if_pos (h y (List.mem_cons_self ..)), insN_end fun e he => h e (List.mem_cons_of_mem _ he)]; rfl
/-- The log and the disk, while all is well: U bytes at most are in its files. -/
structure LWell (lg : Lg) (D : Dk) (n t U : Nat) : Prop where
  up : Up D
  room : D.room = 1048576
  ok : OkL lg
  dk : OkD D n t
  few : ∀ x ∈ lg.l, x.rs.length ≤ 16
  fst : ∀ x ∈ lg.l, 1 ≤ x.first ∧ endS x ≤ lg.last
  chain : ∀ (i : Nat) (x y : Sg), lg.l[i]? = some x → lg.l[i + 1]? = some y → y.first = endS x + 1
  nms : D.nm.map (·.1) = nmsW lg.l
  file : ∀ (i : Nat) (x : Sg), lg.l[i]? = some x → ∃ e : List UInt8 × Nat, D.nm[i]? = some e ∧ (fileAt D.f e.2).1 = encR x.rs ∧ (x.dirty = false → (fileAt D.f e.2).2 = (encR x.rs).length)
  used : usedN D.f D.nm ≤ U
  last : lg.l ≠ [] → endL lg.l = lg.last
  small : lg.last ≤ 99999998
  names : lg.begun = false → D.last = D.nm ∧ D.ch = []
theorem LWell.len {lg : Lg} {D : Dk} {n t U : Nat} (h : LWell lg D n t U) : D.nm.length = lg.l.length := by
  have := congrArg List.length h.nms
  unfold nmsW at this
  rw [List.length_map, List.length_map] at this; exact this
theorem LWell.name {lg : Lg} {D : Dk} {n t U i : Nat} {x : Sg} {e : List UInt8 × Nat} (h : LWell lg D n t U) (hx : lg.l[i]? = some x) (he : D.nm[i]? = some e) : e.1 = nameW x.first := by
  have h1 : (D.nm.map (·.1))[i]? = some e.1 := by rw [List.getElem?_map, he]; rfl
  rw [h.nms] at h1
  unfold nmsW at h1
  rw [List.getElem?_map, hx] at h1
  exact (Option.some.inj h1).symm
theorem LWell.nodup {lg : Lg} {D : Dk} {n t U : Nat} (h : LWell lg D n t U) : (D.nm.map (·.1)).Nodup := h.dk.w.good.s.nodup
theorem LWell.find {lg : Lg} {D : Dk} {n t U i : Nat} {x : Sg} (h : LWell lg D n t U) (hx : lg.l[i]? = some x) : ∃ e, D.nm[i]? = some e ∧ findN (nameW x.first) D.nm = some e.2 ∧ (fileAt D.f e.2).1 = encR x.rs ∧ (x.dirty = false → (fileAt D.f e.2).2 = (encR x.rs).length) := by
  obtain ⟨e, he, h1, h2⟩ := h.file i x hx
  refine ⟨e, he, ?_, h1, h2⟩
  rw [← h.name hx he]; exact findN_at h.nodup he
theorem LWell.mem {lg : Lg} {D : Dk} {n t U : Nat} (h : LWell lg D n t U) {e : List UInt8 × Nat} (he : e ∈ D.nm) : ∃ x ∈ lg.l, e.1 = nameW x.first := by
  have h1 : e.1 ∈ D.nm.map (·.1) := List.mem_map_of_mem he
  rw [h.nms] at h1
  obtain ⟨x, hx, hx2⟩ := List.mem_map.1 h1
  exact ⟨x, hx, hx2.symm⟩
theorem LWell.first_le {lg : Lg} {D : Dk} {n t U : Nat} (h : LWell lg D n t U) {x : Sg} (hx : x ∈ lg.l) : 1 ≤ x.first ∧ x.first ≤ lg.last := by
  obtain ⟨h1, h2⟩ := h.fst x hx
  have h3 := h.ok.ne x hx
  have h4 : 1 ≤ x.rs.length := by
    cases hr : x.rs with
    | nil => exact absurd hr h3
    | cons a b => rw [List.length_cons]; omega
  unfold endS at h2
  omega
theorem LWell.new : LWell (lg0 []) (newD 1048576) 0 0 0 where
  up := ⟨rfl, rfl⟩
  room := rfl
  ok := OkL.nil
  dk := OkD.new (by omega)
  few := fun x h => by cases h
  fst := fun x h => by cases h
  chain := fun i x y h => by simp [lg0] at h
  nms := rfl
  file := fun i x h => by simp [lg0] at h
  used := Nat.le_refl _
  last := fun h => absurd rfl h
  small := by decide
  names := fun _ => ⟨rfl, rfl⟩
theorem LWell.mono {lg : Lg} {D : Dk} {n t U n' t' U' : Nat} (h : LWell lg D n t U) (hn : n ≤ n') (ht : t ≤ t') (hU : U ≤ U') : LWell lg D n' t' U' := { h with dk := h.dk.mono hn ht, used := Nat.le_trans h.used hU }
theorem get_snoc {α : Type} {l : List α} {x y : α} {i : Nat} (h : (l ++ [x])[i]? = some y) : l[i]? = some y ∨ (i = l.length ∧ y = x) := by
  rcases Nat.lt_or_ge i l.length with h1 | h1
  · left; rw [List.getElem?_append_left h1] at h; exact h
  · right
    rw [List.getElem?_append_right h1] at h
    have : i - l.length = 0 := by
      rcases Nat.eq_zero_or_pos (i - l.length) with h0 | h0
      · exact h0
      · rw [List.getElem?_eq_none (by simp; omega)] at h; cases h
    rw [this] at h
    simp at h
    exact ⟨by omega, h.symm⟩
/-- A record goes into a new segment. -/
theorem LWell.app_new {lg : Lg} {D : Dk} {n t U : Nat} {s : List UInt8} (h : LWell lg D n t U) (hs : s.length ≤ 1000) (hU : U + (s.length + 14) ≤ 1048576) (hl : lg.last < 99999998) (hn : lg.l.length < 64) (hh : handS lg = none) :
    ∃ D', appendL lg D s = ⟨appG lg s, D', lg.last + 1, 0⟩ ∧ LWell (appG lg s) D' (n + 1) (t + (s.length + 14)) (U + (s.length + 14)) := by
  have hf := (frB_len (show s.length ≤ 65536 by omega)).2
  have hN : appN lg = lg.last + 1 := by unfold appN; rw [hh]
  have hG : appG lg s = ⟨lg.l ++ [newS (lg.last + 1) s], true, true, lg.last + 1, lg.durable⟩ := by unfold appG; rw [hh]
  have hlt : ∀ e ∈ D.nm, strLt e.1 (nameW (lg.last + 1)) = true := fun e he => by
    obtain ⟨x, hx, hx2⟩ := h.mem he
    rw [hx2]; exact nameW_lt (by omega) (by have := h.first_le hx; omega)
  have hne : ∀ e ∈ D.nm, ¬ e.1 = nameW (lg.last + 1) := fun e he hq => by
    have := hlt e he; rw [hq, lt_irr] at this; cases this
  have hap := SL.app_new (s := frB s) h.up (nameW_file (lg.last + 1)) (findN_no hne) (by rw [h.len]; exact hn) (by rw [h.room]; have := h.used; omega)
  have hnm : applyN D.nm ⟨[], nameW (lg.last + 1), D.f.length⟩ = D.nm ++ [(nameW (lg.last + 1), D.f.length)] := by
    unfold applyN
    rw [if_neg (show ¬ nameW (lg.last + 1) = [] from fileF_ne (nameW_file _)), keepN_all fun e he => ⟨fileF_ne (h.dk.w.good.f e he).1, hne e he⟩]
    exact insN_end hlt
  have hin : insN (nameW (lg.last + 1), D.f.length) D.nm = D.nm ++ [(nameW (lg.last + 1), D.f.length)] := insN_end hlt
  have hk := h.dk.append (k := nameW (lg.last + 1)) (s := frB s)
  rw [hap] at hk
  have hlast : ∀ x ∈ lg.l, endS x ≤ lg.last := fun x hx => (h.fst x hx).2
  have he1 : endS (newS (lg.last + 1) s) = lg.last + 1 := by show lg.last + 1 + 1 - 1 = _; omega
  rw [hG]
  refine ⟨_, by rw [← hG]; exact appL_ok (by omega) (by omega) (by rw [hN]; exact hap), ?_⟩
  rw [hnm] at hk ⊢
  constructor
  · exact ⟨h.up.left, h.up.dead⟩
  · exact h.room
  · refine ⟨fun x hx => ?_, fun x hx => ?_, fun x hx => ?_, by show (lg.l ++ [_]).length ≤ _; rw [List.length_append]; show lg.l.length + 1 ≤ _; omega, by show lg.last + 1 ≤ _; omega, fun _ => by show lg.l ++ [_] ≠ []; simp⟩
    · rcases List.mem_append.1 hx with hx | hx
      · exact h.ok.b x hx
      · rw [List.mem_singleton.1 hx]; show lg.last + 1 + 1 ≤ _; omega
    · rcases List.mem_append.1 hx with hx | hx
      · exact h.ok.ne x hx
      · rw [List.mem_singleton.1 hx]; show [s] ≠ []; simp
    · rcases List.mem_append.1 hx with hx | hx
      · exact h.ok.r x hx
      · rw [List.mem_singleton.1 hx]; intro r hr; rw [List.mem_singleton.1 hr]; omega
  · exact hk.mono (Nat.le_refl _) (by omega)
  · intro x hx
    rcases List.mem_append.1 hx with hx | hx
    · exact h.few x hx
    · rw [List.mem_singleton.1 hx]; show 1 ≤ 16; omega
  · intro x hx
    rcases List.mem_append.1 hx with hx | hx
    · have := h.fst x hx; exact ⟨this.1, by show endS x ≤ lg.last + 1; omega⟩
    · rw [List.mem_singleton.1 hx]; exact ⟨by show 1 ≤ lg.last + 1; omega, by rw [he1]; exact Nat.le_refl _⟩
  · intro i x y hx hy
    rcases get_snoc hy with hy | ⟨hi, hy⟩
    · rcases get_snoc hx with hx | ⟨hi, hx⟩
      · exact h.chain i x y hx hy
      · have := (List.getElem?_eq_some_iff.1 hy).1; omega
    · rcases get_snoc hx with hx | ⟨hi2, hx⟩
      · have hne : lg.l ≠ [] := fun h0 => by rw [h0] at hx; simp at hx
        have h1 := h.last hne
        rw [show i = lg.l.length - 1 by omega] at hx
        rw [endL_get hx] at h1
        rw [hy, h1]; rfl
      · omega
  · show (D.nm ++ [(nameW (lg.last + 1), D.f.length)]).map (·.1) = nmsW (lg.l ++ [newS (lg.last + 1) s])
    rw [List.map_append, h.nms]; unfold nmsW; rw [List.map_append]; rfl
  · intro i x hx
    rcases get_snoc hx with hx | ⟨hi, hx⟩
    · obtain ⟨e, he, h1, h2⟩ := h.file i x hx
      have hlt2 := (h.dk.w.good.f e (List.mem_of_getElem? he)).2
      have hfa : fileAt (D.f ++ [(frB s, 0)]) e.2 = fileAt D.f e.2 := by unfold fileAt; rw [List.getD_eq_getElem?_getD, List.getD_eq_getElem?_getD, List.getElem?_append_left hlt2]
      refine ⟨e, by show (D.nm ++ _)[i]? = _; rw [List.getElem?_append_left (List.getElem?_eq_some_iff.1 he).1]; exact he, ?_⟩
      show (fileAt (D.f ++ [(frB s, 0)]) e.2).1 = _ ∧ (_ → (fileAt (D.f ++ [(frB s, 0)]) e.2).2 = _)
      rw [hfa]; exact ⟨h1, h2⟩
    · refine ⟨(nameW (lg.last + 1), D.f.length), by show (D.nm ++ _)[i]? = _; rw [hi, ← h.len, List.getElem?_append_right (Nat.le_refl _), Nat.sub_self]; rfl, ?_, ?_⟩
      · show (fileAt (D.f ++ [(frB s, 0)]) D.f.length).1 = _
        unfold fileAt; rw [List.getD_eq_getElem?_getD, List.getElem?_append_right (Nat.le_refl _), Nat.sub_self, hx]
        show frB s = frB s ++ []; rw [List.append_nil]
      · intro hd; rw [hx] at hd; cases hd
  · show usedN (D.f ++ [(frB s, 0)]) (D.nm ++ [(nameW (lg.last + 1), D.f.length)]) ≤ _
    rw [← hin, used_new fun e he => (h.dk.w.good.f e he).2]; have := h.used; omega
  · intro _
    show endL (lg.l ++ [newS (lg.last + 1) s]) = lg.last + 1
    have : (lg.l ++ [newS (lg.last + 1) s])[(lg.l ++ [newS (lg.last + 1) s]).length - 1]? = some (newS (lg.last + 1) s) := by
      rw [List.length_append, List.length_singleton, Nat.add_sub_cancel, List.getElem?_append_right (Nat.le_refl _), Nat.sub_self]; rfl
    rw [endL_get this, he1]
  · show lg.last + 1 ≤ _; omega
  · intro hb; cases hb
theorem handS_some {lg : Lg} {x : Sg} (h : handS lg = some x) : lg.l[lg.l.length - 1]? = some x ∧ x.rs.length < 16 := by
  unfold handS at h
  split at h
  · rw [List.getLast?_eq_getElem?] at h
    cases hl : lg.l[lg.l.length - 1]? with
    | none => rw [hl] at h; cases h
    | some z =>
      rw [hl] at h
      have h2 : (if z.rs.length < 16 then some z else none) = some x := h
      split at h2
      · rename_i hz; cases h2; exact ⟨rfl, hz⟩
      · cases h2
  · cases h
theorem get_last {α : Type} {l : List α} {x y z : α} {i : Nat} (hz : l[l.length - 1]? = some z) (h : (l.dropLast ++ [x])[i]? = some y) : (i < l.length - 1 ∧ l[i]? = some y) ∨ (i = l.length - 1 ∧ y = x) := by
  have hd : l.dropLast.length = l.length - 1 := List.length_dropLast
  rcases get_snoc h with h1 | ⟨h1, h2⟩
  · left
    have hlt := (List.getElem?_eq_some_iff.1 h1).1
    refine ⟨by omega, ?_⟩
    rw [← h1, List.getElem?_dropLast, if_pos (by omega)]
  · right; exact ⟨by omega, h2⟩
/-- A record goes into the segment in hand. -/
theorem LWell.app_more {lg : Lg} {D : Dk} {n t U : Nat} {s : List UInt8} {z : Sg} (h : LWell lg D n t U) (hs : s.length ≤ 1000) (hU : U + (s.length + 14) ≤ 1048576) (hl : lg.last < 99999998) (hh : handS lg = some z) :
    ∃ D', appendL lg D s = ⟨appG lg s, D', lg.last + 1, 0⟩ ∧ LWell (appG lg s) D' (n + 1) (t + (s.length + 14)) (U + (s.length + 14)) := by
  have hf := (frB_len (show s.length ≤ 65536 by omega)).2
  obtain ⟨hz, hz16⟩ := handS_some hh
  have hN : appN lg = z.first := by unfold appN; rw [hh]
  have hG : appG lg s = ⟨lg.l.dropLast ++ [moreS z s], true, lg.begun, lg.last + 1, lg.durable⟩ := by unfold appG; rw [hh]
  have hzm := List.mem_of_getElem? hz
  have hne0 : lg.l ≠ [] := fun h0 => by rw [h0] at hz; simp at hz
  have hpos : 0 < lg.l.length := List.length_pos_iff.2 hne0
  obtain ⟨e, he, hfi, h1, h2⟩ := h.find hz
  have hlt := (h.dk.w.good.f e (List.mem_of_getElem? he)).2
  have hap := SL.app_more (s := frB s) h.up (nameW_file z.first) hfi (by rw [h.room]; have := h.used; omega)
  have hk := h.dk.append (k := nameW z.first) (s := frB s)
  rw [hap] at hk
  have hend : endS z = lg.last := by have := h.last hne0; rw [endL_get hz] at this; exact this
  have hzne := h.ok.ne z hzm
  have hz1 : 1 ≤ z.rs.length := by
    cases hr : z.rs with
    | nil => exact absurd hr hzne
    | cons a b => rw [List.length_cons]; omega
  have hzf := h.first_le hzm
  have he1 : endS (moreS z s) = lg.last + 1 := by
    have : (z.rs ++ [s]).length = z.rs.length + 1 := by simp
    show z.first + (z.rs ++ [s]).length - 1 = _
    unfold endS at hend; omega
  have hset : lg.l.set (lg.l.length - 1) (moreS z s) = lg.l.dropLast ++ [moreS z s] := set_last hne0 _
  have hmem : ∀ {P : Sg → Prop}, (∀ x ∈ lg.l, P x) → P (moreS z s) → ∀ x ∈ lg.l.dropLast ++ [moreS z s], P x := fun {P} ha hb x hx => by
    rcases List.mem_append.1 hx with hx | hx
    · exact ha x (List.dropLast_subset _ hx)
    · rw [List.mem_singleton.1 hx]; exact hb
  have hlen : (lg.l.dropLast ++ [moreS z s]).length = lg.l.length := by rw [← hset, List.length_set]
  rw [hG]
  refine ⟨_, by rw [← hG]; exact appL_ok (by omega) (by omega) (by rw [hN]; exact hap), ?_⟩
  constructor
  · exact ⟨h.up.left, h.up.dead⟩
  · exact h.room
  · refine ⟨hmem h.ok.b ?_, hmem h.ok.ne ?_, hmem h.ok.r ?_, by show (lg.l.dropLast ++ [_]).length ≤ _; rw [hlen]; exact h.ok.n, by show lg.last + 1 ≤ _; omega, fun _ => by show lg.l.dropLast ++ [_] ≠ []; simp⟩
    · show z.first + (z.rs ++ [s]).length ≤ _; rw [List.length_append, List.length_singleton]; omega
    · show z.rs ++ [s] ≠ []; simp
    · intro r hr
      rcases List.mem_append.1 hr with hr | hr
      · exact h.ok.r z hzm r hr
      · rw [List.mem_singleton.1 hr]; omega
  · exact hk.mono (Nat.le_refl _) (by omega)
  · exact hmem h.few (by show (z.rs ++ [s]).length ≤ 16; rw [List.length_append, List.length_singleton]; omega)
  · refine hmem (fun x hx => ?_) ?_
    · have := h.fst x hx; exact ⟨this.1, by show endS x ≤ lg.last + 1; omega⟩
    · exact ⟨hzf.1, by rw [he1]; exact Nat.le_refl _⟩
  · intro i x y hx hy
    rcases get_last hz hy with ⟨hi, hy⟩ | ⟨hi, hy⟩
    · rcases get_last hz hx with ⟨_, hx⟩ | ⟨hi2, hx⟩
      · exact h.chain i x y hx hy
      · omega
    · rcases get_last hz hx with ⟨_, hx⟩ | ⟨hi2, hx⟩
      · rw [hy]; exact h.chain i x z hx (by rw [hi]; exact hz)
      · omega
  · show D.nm.map (·.1) = nmsW (lg.l.dropLast ++ [moreS z s])
    rw [h.nms, ← hset]; unfold nmsW
    rw [List.map_set]
    have : (lg.l.map fun x => nameW x.first)[lg.l.length - 1]? = some (nameW (moreS z s).first) := by rw [List.getElem?_map, hz]; rfl
    obtain ⟨h3, h4⟩ := List.getElem?_eq_some_iff.1 this
    rw [← h4, List.set_getElem_self]
  · intro i x hx
    rcases get_last hz hx with ⟨hi, hx⟩ | ⟨hi, hx⟩
    · obtain ⟨e2, he2, h3, h4⟩ := h.file i x hx
      have hne : ¬ e.2 = e2.2 := fun hq => by
        have hnd := h.dk.nmu
        have ha : (D.nm.map (·.2))[i]? = some e2.2 := by rw [List.getElem?_map, he2]; rfl
        have hb : (D.nm.map (·.2))[lg.l.length - 1]? = some e.2 := by rw [List.getElem?_map, he]; rfl
        have hlt3 : lg.l.length - 1 < (D.nm.map (·.2)).length := (List.getElem?_eq_some_iff.1 hb).1
        have := (List.getElem?_inj (j := i) hlt3 hnd).1 (by rw [ha, hb, hq]); omega
      refine ⟨e2, he2, ?_⟩
      show (fileAt (D.f.set e.2 _) e2.2).1 = _ ∧ (_ → (fileAt (D.f.set e.2 _) e2.2).2 = _)
      rw [fileAt_set hlt, if_neg hne]; exact ⟨h3, h4⟩
    · refine ⟨e, by rw [hi]; exact he, ?_, ?_⟩
      · show (fileAt (D.f.set e.2 _) e.2).1 = _
        rw [fileAt_set hlt, if_pos rfl, hx]
        show (fileAt D.f e.2).1 ++ frB s = encR (z.rs ++ [s])
        rw [h1, encR_snoc]
      · intro hd; rw [hx] at hd; cases hd
  · show usedN (addTo D.f e.2 (frB s)) D.nm ≤ _
    rw [used_add hlt h.dk.nmu hfi]; have := h.used; omega
  · intro _
    show endL (lg.l.dropLast ++ [moreS z s]) = lg.last + 1
    have : (lg.l.dropLast ++ [moreS z s])[(lg.l.dropLast ++ [moreS z s]).length - 1]? = some (moreS z s) := by
      rw [List.length_append, List.length_singleton, Nat.add_sub_cancel, List.getElem?_append_right (Nat.le_refl _), Nat.sub_self]; rfl
    rw [endL_get this, he1]
  · show lg.last + 1 ≤ _; omega
  · exact h.names
theorem LWell.append {lg : Lg} {D : Dk} {n t U : Nat} {s : List UInt8} (h : LWell lg D n t U) (hs : s.length ≤ 1000) (hU : U + (s.length + 14) ≤ 1048576) (hl : lg.last < 99999998) (hn : lg.l.length < 64) :
    ∃ D', appendL lg D s = ⟨appG lg s, D', lg.last + 1, 0⟩ ∧ LWell (appG lg s) D' (n + 1) (t + (s.length + 14)) (U + (s.length + 14)) := by
  cases hh : handS lg with
  | none => exact h.app_new hs hU hl hn hh
  | some z => exact h.app_more hs hU hl hh
theorem appG_last (lg : Lg) (s : List UInt8) : (appG lg s).last = lg.last + 1 ∧ (appG lg s).l.length ≤ lg.l.length + 1 ∧ (appG lg s).hand = true := by
  cases hh : handS lg with
  | none => unfold appG; rw [hh]; exact ⟨rfl, by show (lg.l ++ [_]).length ≤ _; rw [List.length_append]; exact Nat.le_refl _, rfl⟩
  | some z => unfold appG; rw [hh]; exact ⟨rfl, by show (lg.l.dropLast ++ [_]).length ≤ _; rw [List.length_append, List.length_dropLast]; show _ + 1 ≤ _; omega, rfl⟩
/-! All files are removed. -/
theorem rm_all {D : Dk} : ∀ {n t : Nat} (ks : List (List UInt8)), Up D → OkD D n t → D.nm.map (·.1) = ks → ∃ D', rmAll ks D = (D', 0) ∧ Up D' ∧ OkD D' (n + ks.length) t ∧ D'.nm = [] ∧ D'.room = D.room
  | n, t, [], hu, hk, hn => ⟨D, rfl, hu, hk, List.map_eq_nil_iff.1 hn, rfl⟩
  | n, t, k :: ks, hu, hk, hn => by
    obtain ⟨e, r, hr⟩ : ∃ e r, D.nm = e :: r := by
      cases hq : D.nm with
      | nil => rw [hq] at hn; cases hn
      | cons e r => exact ⟨e, r, rfl⟩
    have hn2 : e.1 = k ∧ r.map (·.1) = ks := by rw [hr] at hn; exact ⟨(List.cons.inj hn).1, (List.cons.inj hn).2⟩
    have hf := hk.w.good.f e (by rw [hr]; exact List.mem_cons_self ..)
    have hnd := hk.w.good.s.nodup
    rw [hr] at hnd
    have hnd := List.nodup_cons.1 hnd
    have hfi : findN k D.nm = some e.2 := by rw [hr, ← hn2.1]; unfold findN; rw [if_pos rfl]
    have hap : applyN D.nm ⟨k, [], 0⟩ = r := by
      show keepN ⟨k, [], 0⟩ D.nm = r
      have e1 : keepN ⟨k, [], 0⟩ D.nm = (e :: r).filter fun e => decide (¬ e.1 = k ∧ ¬ e.1 = []) := by rw [hr]; rfl
      rw [e1, List.filter_cons, if_neg (by simp [hn2.1])]
      exact List.filter_eq_self.2 fun x hx => decide_eq_true ⟨fun hq => hnd.1 (by show e.1 ∈ r.map (·.1); rw [hn2.1, ← hq]; exact List.mem_map_of_mem hx), fileF_ne (hk.w.good.f x (by rw [hr]; exact List.mem_cons_of_mem _ hx)).1⟩
    have hrm : removeD D k = (changeD D ⟨k, [], 0⟩, 0) := by unfold removeD; rw [hu.on]; unfold remove1; rw [hfi]
    have hk1 := hk.remove (k := k)
    rw [hrm] at hk1
    obtain ⟨D', h1, h2, h3, h4, h5⟩ := rm_all (D := changeD D ⟨k, [], 0⟩) ks ⟨hu.left, hu.dead⟩ hk1 (by show (applyN D.nm ⟨k, [], 0⟩).map (·.1) = ks; rw [hap]; exact hn2.2)
    refine ⟨D', ?_, h2, h3.mono (by rw [List.length_cons]; omega) (Nat.le_refl _), h4, h5⟩
    have e2 : rmAll (k :: ks) D = if (removeD D k).2 = 0 then rmAll ks (removeD D k).1 else removeD D k := rfl
    rw [e2, hrm, if_pos rfl]; exact h1
end Go.Proofs.YtiggkfaonnnjoaaGreatDoor.SL

/- The log as plain data: begun anew. -/
namespace Go.Proofs.YtiggkfaonnnjoaaGreatDoor.SL
open Go.RowKit
set_option linter.unusedVariables false
set_option linter.unusedSimpArgs false
theorem LWell.files {lg : Lg} {D : Dk} {n t U : Nat} (h : LWell lg D n t U) : FilesL lg D := fun x hx => by
  obtain ⟨i, hi⟩ := List.getElem?_of_mem hx
  obtain ⟨e, he, hf, h1, _⟩ := h.find hi
  refine ⟨[], ?_⟩
  unfold readD
  rw [if_neg (by rw [h.up.dead]; exact Bool.noConfusion), hf, List.append_nil]
  show ((fileAt D.f e.2).1, (0 : Int)) = _
  rw [h1]
theorem LWell.empty {D : Dk} {a n t : Nat} (hu : Up D) (hr : D.room = 1048576) (hk : OkD D n t) (h1 : D.nm = []) (h2 : D.last = []) (h3 : D.ch = []) (ha : a ≤ 99999998) : LWell ⟨[], false, false, a, a⟩ D n t 0 where
  up := hu
  room := hr
  ok := ⟨fun x h => (by cases h), fun x h => (by cases h), fun x h => (by cases h), Nat.zero_le _, by show a ≤ _; omega, fun h => Bool.noConfusion h⟩
  dk := hk
  few := fun x h => by cases h
  fst := fun x h => by cases h
  chain := fun i x y h => by simp at h
  nms := by rw [h1]; rfl
  file := fun i x h => by simp at h
  used := by rw [h1]; exact Nat.le_refl _
  last := fun h => absurd rfl h
  small := ha
  names := fun _ => ⟨by rw [h1, h2], h3⟩
/-- All is removed, and the names are synced. -/
theorem LWell.reset {lg : Lg} {D : Dk} {n t U : Nat} (h : LWell lg D n t U) : (rmAll (nmsW lg.l) D).2 = 0 ∧ (syncNamesD (rmAll (nmsW lg.l) D).1).2 = 0 ∧ OkD (syncNamesD (rmAll (nmsW lg.l) D).1).1 (n + lg.l.length) t ∧
    ∀ zs, Up (crashD (syncNamesD (rmAll (nmsW lg.l) D).1).1 zs) ∧ (crashD (syncNamesD (rmAll (nmsW lg.l) D).1).1 zs).room = 1048576 ∧ (crashD (syncNamesD (rmAll (nmsW lg.l) D).1).1 zs).nm = [] ∧ (crashD (syncNamesD (rmAll (nmsW lg.l) D).1).1 zs).last = [] ∧ (crashD (syncNamesD (rmAll (nmsW lg.l) D).1).1 zs).ch = [] := by
  obtain ⟨D1, h1, h2, h3, h4, h5⟩ := rm_all (nmsW lg.l) h.up h.dk h.nms
  have hn : (nmsW lg.l).length = lg.l.length := by unfold nmsW; rw [List.length_map]
  rw [h1]
  have e : syncNamesD D1 = ({ D1 with last := D1.nm, ch := [] }, 0) := by unfold syncNamesD; rw [h2.on]; rfl
  have hk := h3.syncNames
  rw [e] at hk ⊢
  rw [hn] at hk
  refine ⟨rfl, rfl, hk, fun zs => ?_⟩
  have hl : applyL D1.nm (List.take (keptF zs 0 0) []) = [] := by rw [List.take_nil, h4]; rfl
  refine ⟨⟨rfl, rfl⟩, ?_, hl, hl, rfl⟩
  show D1.room = 1048576
  rw [h5]; exact h.room
def wx : List UInt8 := [120]
def wy : List UInt8 := [121]
theorem reset_go {D : Dk} {a n t : Nat} (h : LWell ⟨[], false, false, a, a⟩ D n t 0) (ha : a < 99999998) : ∃ D', appendL ⟨[], false, false, a, a⟩ D wy = ⟨⟨[newS (a + 1) wy], true, true, a + 1, a⟩, D', a + 1, 0⟩ ∧ LWell ⟨[newS (a + 1) wy], true, true, a + 1, a⟩ D' (n + 1) (t + 15) 15 := by
  obtain ⟨D', h1, h2⟩ := h.append (s := wy) (by decide) (by decide) ha (by show 0 < 64; omega)
  exact ⟨D', h1, h2⟩
theorem reset_read (a : Nat) : readL [newS (a + 1) wy] ((a : Int) + 1) = (wy, 0) := by
  unfold readL
  rw [if_pos (by show ((a + 1 : Nat) : Int) ≤ (a : Int) + 1 ∧ (a : Int) + 1 < ((a + 1 : Nat) : Int) + ((1 : Nat) : Int); omega)]
  have : ((a : Int) + 1 - ((newS (a + 1) wy).first : Int)).toNat = 0 := by show ((a : Int) + 1 - ((a + 1 : Nat) : Int)).toNat = 0; omega
  rw [this]; rfl
end Go.Proofs.YtiggkfaonnnjoaaGreatDoor.SL
