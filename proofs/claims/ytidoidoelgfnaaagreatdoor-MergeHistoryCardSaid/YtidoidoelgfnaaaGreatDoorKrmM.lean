import Derived.Test.YtidoidoelgfnaaaGreatDoorKcl
import Derived.Test.YtidoidoelgfnaaaGreatDoorKc
import Derived.Test.YtidoidoelgfnaaaGreatDoorKb
/- The reference: deletes, points within. -/
namespace Go.Proofs.YtidoidoelgfnaaaGreatDoor.SL
open Go.RowKit Go.Proofs.YtidoidoelgfnaaaGreatDoor
open Go.Proofs.YtidoidoelgfnaaaGreatDoorW.PrintLast (rtab opsOf)
set_option linter.unusedVariables false
set_option linter.unusedSimpArgs false

theorem own_eqM {B w : World} {L : List HP} {a : Option Addr} {n n' cap t k : Nat} {l l' : List Value} (h : St B (own a n cap t k l :: L) w) (e : n = n') (e2 : l = l') : St B (own a n' cap t k l' :: L) w := by subst e; subst e2; exact h
theorem all_takeM {p : Value → Bool} {l : List Value} {n : Nat} (h : l.all p = true) : (l.take n).all p = true := List.all_eq_true.2 fun x hx => List.all_eq_true.1 h x (List.mem_of_mem_take hx)
theorem all_dropM {p : Value → Bool} {l : List Value} {n : Nat} (h : l.all p = true) : (l.drop n).all p = true := List.all_eq_true.2 fun x hx => List.all_eq_true.1 h x (List.mem_of_mem_drop hx)
theorem Rd.dropM {w : World} {a : Option Addr} {n i c k : Nat} {l : List Value} (h : Rd w a n k l) (hi : i ≤ n) (hc : n ≤ c) : Rd w (if c = i then a else a.map (·.add (i * k))) (n - i) k (l.drop (i * k)) := by
  have e : (n - i) * k = n * k - i * k := Nat.sub_mul ..
  have hle : i * k ≤ n * k := Nat.mul_le_mul_right _ hi
  refine ⟨by rw [List.length_drop, h.1, e], fun hp => ?_, fun j hj => ?_⟩
  · obtain ⟨⟨b, o, sp⟩, rfl, hs⟩ := h.2.1 (by omega)
    simp only at hs; subst hs
    rw [if_neg (by omega), Option.map_some, Go.WideShapes.add_plain]
    exact ⟨_, rfl, rfl⟩
  · have hn : 0 < n - i := Nat.pos_of_ne_zero fun h0 => by rw [h0, Nat.zero_mul] at hj; exact absurd hj (Nat.not_lt_zero _)
    obtain ⟨⟨b, o, sp⟩, rfl, hs⟩ := h.2.1 (by omega)
    simp only at hs; subst hs
    rw [if_neg (by omega), List.getElem?_drop, ← h.2.2 (i * k + j) (by omega), Option.map_some, Go.WideShapes.add_plain]
    show w.cell? ⟨b, o + i * k + j, none⟩ = w.cell? ⟨b, o + (i * k + j), none⟩
    rw [Nat.add_assoc]
theorem take_filter {α : Type} {p : α → Bool} {l : List α} {i : Nat} {x : α} (h : l[i]? = some x) : (l.take (i + 1)).filter p = if p x = true then (l.take i).filter p ++ [x] else (l.take i).filter p := by
  rw [List.take_add_one, h, Option.toList_some, List.filter_append, List.filter_cons, List.filter_nil]
  split <;> simp
theorem filter_take_le {α : Type} (p : α → Bool) (l : List α) (i : Nat) : ((l.take i).filter p).length ≤ i := Nat.le_trans (List.length_filter_le _ _) (by rw [List.length_take]; omega)
theorem rms_get {B w : World} {L : List HP} {d : List Rcd} {r : Rcd} (hr : r ∈ d) (h : St B (allA recA d :: L) w) : St B (rdH r.ms.a r.ms.l.length 3 (r.ms.l.flatMap mtc) :: allA recA d :: L) w := by
  have h1 := allA_get recA_pers hr h
  have h2 := recA_open h1
  exact (h2.permT [0, 1, 1] (L' := _::_::_::_::_::L) rfl).drop.drop.drop
def goneR (d : List Rcd) (lb : List Pr) (t : Int) : Bool := d.any fun r => decide (r.fr ≤ t ∧ t ≤ r.to) && isF r.ms.l lb
theorem goneR_eq (d : List Rcd) (lb : List Pr) (t : Int) : goneR d lb t = goneF (d.map Rcd.p) lb t := by unfold goneR goneF; rw [List.any_map]; rfl
theorem rwithin_spec {B w : World} {L : List HP} {X : HP} {a : Option Addr} {cap : Nat} {l : List Pt} (hX : ∀ {L : List HP} {w : World}, St B (X :: L) w → Rd w a l.length 2 (l.flatMap ptc)) (hl : l.length ≤ 4398046511104) (fr to : Int) (hS : St B (X :: L) w) : Does Tryz.prog 56 [Value.slice a l.length cap, Value.int .i64 fr, Value.int .i64 to] w (fun v w1 => ∃ a1 c1, v = .slice a1 (l.filter (inF fr to)).length c1 ∧ St B (own a1 (l.filter (inF fr to)).length c1 103 2 ((l.filter (inF fr to)).flatMap ptc) :: X :: L) w1) := by
 refine enter (n := 39) Tryz.func56 rfl rfl [Value.slice a l.length cap, Value.int .i64 fr, Value.int .i64 to] rfl ?_
 refine WP.seq (WP.region rfl ?_)
 refine WO.asg rfl rfl ?_
 refine WO.nil (NX.go (WP.seq (WP.region rfl ?_)))
 refine WO.asg rfl rfl ?_
 refine WO.nil (NX.go (WP.seq (WP.seq (WP.region rfl ?_))))
 refine WO.asg rfl rfl ?_
 refine WO.nil (NX.go (WP.block ?_))
 replace hS := hS.own_nil 103 2
 refine WP.loop (α := Nat × Option Addr × Nat) (fun x => match x with | ⟨i, oa, oc⟩ => [(0, Value.slice a l.length cap), (1, Value.int .i64 fr), (2, Value.int .i64 to), (7, Value.slice oa (((l.take i).filter (inF fr to)).length) oc), (8, Value.int .i64 (i : Int))]) (fun x w => match x with | ⟨i, oa, oc⟩ => (i ≤ l.length) ∧ St B (own oa (((l.take i).filter (inF fr to)).length) oc 103 2 (((l.take i).filter (inF fr to)).flatMap ptc) :: X :: L) w) (fun x => match x with | ⟨i, oa, oc⟩ => l.length - i) (0, none, 0) ⟨Nat.zero_le _, hS⟩ (Sub.cons rfl (Sub.cons rfl (Sub.cons rfl (Sub.consE rfl (by first | rfl | first | rfl | (congr 1; omega) | (simp; done) | (simp; omega)) (Sub.consE rfl (by first | rfl | first | rfl | (congr 1; omega) | (simp; done) | (simp; omega)) (Sub.nil _)))))) ?_
 rintro ⟨i, oa, oc⟩ w1 ⟨hi, hS1⟩
 clear hS
 refine WP.seq (WP.seq (WP.region rfl ?_))
 refine WO.mv rfl rfl ?_
 refine WO.mv rfl rfl ?_
 refine WO.V (run_len rfl Tryz.underlying66 rfl) ?_
 refine WO.V (run_lss rfl rfl) ?_
 refine WO.nil (NX.go ?_)
 refine WP.condP rfl (fun g12 => ?_) (fun g12 => ?_)
 ·
  refine WP.skip (NX.go (WP.seq (WP.block (WP.seq ?_))))
  obtain ⟨p, hp⟩ : ∃ p, l[i]? = some p := ⟨_, List.getElem?_eq_getElem (by omega)⟩
  have hsa : a.isSome = true := rd_isSome (hX (hS1.focus 1 rfl)) (by omega)
  have hfl := filter_take_le (inF fr to) l i
  refine WP.region rfl ?_
  refine WO.mv rfl rfl ?_
  refine WO.mv rfl rfl ?_
  refine WO.V (run_indexAddr (q := adr a (i * 2)) Tryz.underlying66 Ty.sz103 rfl rfl (by omega) (by omega) ((hX (hS1.focus 1 rfl)).2.1 (by omega)) rfl) ?_
  refine WO.V (run_fa 0 (adr a (i * 2 + 0)) rfl (adr_add _ (by assumption) _ _)) ?_
  refine WO.V (run_load Ty.ag2 rfl ((hX (hS1.focus 1 rfl)).cell ((flat_get ptc_len hp (j := 0) (by decide)).trans rfl))) ?_
  refine WO.mv rfl rfl ?_
  refine WO.V (run_geq rfl rfl) ?_
  refine WO.mv rfl rfl ?_
  refine dcase (p := fr ≤ p.t) (fun g22 d22 => ?_) (fun g22 d22 => ?_)
  ·
   refine WO.on rfl rfl d22 ?_
   refine WO.mv rfl rfl ?_
   refine WO.on rfl rfl d22 ?_
   refine WO.mv rfl rfl ?_
   refine WO.on rfl rfl d22 ?_
   refine WO.V (run_indexAddr (q := adr a (i * 2)) Tryz.underlying66 Ty.sz103 rfl rfl (by omega) (by omega) ((hX (hS1.focus 1 rfl)).2.1 (by omega)) rfl) ?_
   refine WO.on rfl rfl d22 ?_
   refine WO.V (run_fa 0 (adr a (i * 2 + 0)) rfl (adr_add _ (by assumption) _ _)) ?_
   refine WO.on rfl rfl d22 ?_
   refine WO.V (run_load Ty.ag2 rfl ((hX (hS1.focus 1 rfl)).cell ((flat_get ptc_len hp (j := 0) (by decide)).trans rfl))) ?_
   refine WO.on rfl rfl d22 ?_
   refine WO.mv rfl rfl ?_
   refine WO.on rfl rfl d22 ?_
   refine WO.V (run_leq rfl rfl) ?_
   refine WO.V (run_pickT rfl d22 rfl) ?_
   refine WO.nil (NX.go ?_)
   refine WP.condP rfl (fun g30 => ?_) (fun g30 => ?_)
   ·
    refine WP.region rfl ?_
    refine WO.mv rfl rfl ?_
    refine WO.mv rfl rfl ?_
    refine WO.mv rfl rfl ?_
    refine WO.V (run_indexAddr (q := adr a (i * 2)) Tryz.underlying66 Ty.sz103 rfl rfl (by omega) (by omega) ((hX (hS1.focus 1 rfl)).2.1 (by omega)) rfl) ?_
    refine WO.V (run_loadAgg (vs := [Value.int .i64 p.t, Value.int .u64 p.v]) Ty.ag103 Ty.sz103 rfl ((hX (hS1.focus 1 rfl)).cells (by rw [flat_len ptc_len]; omega) (flat_part ptc_len hp)).1 ((hX (hS1.focus 1 rfl)).cells (by rw [flat_len ptc_len]; omega) (flat_part ptc_len hp)).2) ?_
    refine WO.buildSlice (l := [Value.int .i64 p.t, Value.int .u64 p.v]) hS1 Tryz.underlying66 rfl (fun w => by kernel_rfl) rfl (fun g3 w2 lg3 hS2 => ?_)
    clear hS1
    refine WO.append (news := [Value.int .i64 p.t, Value.int .u64 p.v]) 1 rfl Tryz.underlying66 Tryz.underlying66 (fun _ h => by cases h) Ty.sz103 (by decide) Ty.by103 Ty.zr103 rfl rfl rfl rfl hS2 rfl ((hS2.cel_rd 0 rfl (o := 0) (m := 1) (k := 2) rfl (Nat.le_of_ble_eq_true rfl)).src) rfl (by omega) (by omega) (fun a5 c6 w4 hS4 => ?_)
    replace hS4 : St B (cel g3 [Value.int .i64 p.t, Value.int .u64 p.v] 103 :: own a5 ((((l.take i).filter (inF fr to)).length) + 1) c6 103 2 ((((l.take i).filter (inF fr to)).flatMap ptc) ++ [Value.int .i64 p.t, Value.int .u64 p.v]) :: _::L) w4 := hS4
    clear hS2
    refine WO.asg rfl rfl ?_
    refine WO.nil (NX.blk (NX.go (WP.region rfl ?_)))
    refine WO.mv rfl rfl ?_
    refine WO.V (run_add rfl rfl (IntWalk.i64_in _ (by omega))) ?_
    refine WO.asg rfl rfl ?_
    refine WO.nil ?_
    exact NX.again (i + 1, a5, c6) ⟨by omega, own_eqM (hS4.drop) (by rw [take_filter hp, if_pos (by simp [inF, g12, g22, g30] <;> omega)]; simp) (by rw [take_filter hp, if_pos (by simp [inF, g12, g22, g30] <;> omega)]; rw [flat_snoc]; rfl)⟩ (by show l.length - (i + 1) < l.length - i; omega) (Sub.cons rfl (Sub.cons rfl (Sub.cons rfl (Sub.consE rfl (by rw [take_filter hp, if_pos (by simp [inF, g12, g22, g30] <;> omega)]; simp) (Sub.consE rfl (by congr 1) (Sub.nil _))))))
   ·
    refine WP.skip (NX.blk (NX.go (WP.region rfl ?_)))
    refine WO.mv rfl rfl ?_
    refine WO.V (run_add rfl rfl (IntWalk.i64_in _ (by omega))) ?_
    refine WO.asg rfl rfl ?_
    refine WO.nil ?_
    exact NX.again (i + 1, oa, oc) ⟨by omega, own_eqM (hS1) (by rw [take_filter hp, if_neg (by simp [inF, g12, g22, g30] <;> omega)]) (by rw [take_filter hp, if_neg (by simp [inF, g12, g22, g30] <;> omega)])⟩ (by show l.length - (i + 1) < l.length - i; omega) (Sub.cons rfl (Sub.cons rfl (Sub.cons rfl (Sub.consE rfl (by rw [take_filter hp, if_neg (by simp [inF, g12, g22, g30] <;> omega)]) (Sub.consE rfl (by congr 1) (Sub.nil _))))))
  ·
   refine WO.off rfl rfl d22 rfl ?_
   refine WO.off rfl rfl d22 rfl ?_
   refine WO.off rfl rfl d22 rfl ?_
   refine WO.off rfl rfl d22 rfl ?_
   refine WO.off rfl rfl d22 rfl ?_
   refine WO.off rfl rfl d22 rfl ?_
   refine WO.off rfl rfl d22 rfl ?_
   refine WO.V (run_pickF rfl d22 rfl) ?_
   refine WO.nil (NX.go ?_)
   refine WP.condF rfl rfl ?_
   refine WP.skip (NX.blk (NX.go (WP.region rfl ?_)))
   refine WO.mv rfl rfl ?_
   refine WO.V (run_add rfl rfl (IntWalk.i64_in _ (by omega))) ?_
   refine WO.asg rfl rfl ?_
   refine WO.nil ?_
   exact NX.again (i + 1, oa, oc) ⟨by omega, own_eqM (hS1) (by rw [take_filter hp, if_neg (by simp [inF, g12, g22] <;> omega)]) (by rw [take_filter hp, if_neg (by simp [inF, g12, g22] <;> omega)])⟩ (by show l.length - (i + 1) < l.length - i; omega) (Sub.cons rfl (Sub.cons rfl (Sub.cons rfl (Sub.consE rfl (by rw [take_filter hp, if_neg (by simp [inF, g12, g22] <;> omega)]) (Sub.consE rfl (by congr 1) (Sub.nil _))))))
 ·
  refine WP.exit (NX.thenExit (NX.thenExit ?_))
  refine NX.blkExit ?_
  refine NX.go (WP.seq (WP.region rfl ?_))
  refine WO.mv rfl rfl ?_
  refine WO.asg rfl rfl ?_
  refine WO.nil (NX.go (WP.ret ?_))
  refine NX.done (l := [.tmp 6]) rfl rfl ?_
  have hil : l.take i = l := List.take_of_length_le (by omega)
  exact ⟨oa, oc, by rw [hil] at *; rfl, own_eqM (hS1) (by rw [hil]) (by rw [hil])⟩
end Go.Proofs.YtidoidoelgfnaaaGreatDoor.SL

/- The reference: rows by their labels. -/
namespace Go.Proofs.YtidoidoelgfnaaaGreatDoor.SL
open Go.RowKit Go.Proofs.YtidoidoelgfnaaaGreatDoor
open Go.Proofs.YtidoidoelgfnaaaGreatDoorW.PrintLast (rtab opsOf)
set_option linter.unusedVariables false
set_option linter.unusedSimpArgs false

def atR : List MRow → List Pr → Nat
  | [], _ => 0
  | r :: l, p => if cmpF r.lb.l p < 0 then atR l p + 1 else 0
def hasR (S : List MRow) (p : List Pr) : Bool := match S[atR S p]? with
  | some r => decide (r.lb.l = p)
  | none => false
theorem atR_le : ∀ (S : List MRow) (p : List Pr), atR S p ≤ S.length
  | [], _ => Nat.le_refl _
  | r :: l, p => by rw [atR]; split; (· have := atR_le l p; rw [List.length_cons]; omega); (· exact Nat.zero_le _)
def newR (lb : SlV Pr) (t : Int) : MRow := ⟨lb, t, ⟨none, [], 0⟩⟩
theorem addF_has : ∀ {S : List MRow} {p : List Pr} {r : MRow} {t : Int} {ps : List Pt} {q : SlV Pt}, hasR S p = true → S[atR S p]? = some r → q.l = r.pt.l ++ ps → (S.set (atR S p) ⟨r.lb, max r.last t, q⟩).map MRow.p = addF (S.map MRow.p) p t ps
  | [], p, r, t, ps, q, h, h1, _ => by simp at h1
  | z :: l, p, r, t, ps, q, h, h1, hq => by
    rw [List.map_cons, addF]
    by_cases c : cmpF z.lb.l p < 0
    · have e : atR (z :: l) p = atR l p + 1 := by rw [atR, if_pos c]
      have hh : hasR l p = true := by unfold hasR at h ⊢; rw [e, List.getElem?_cons_succ] at h; exact h
      rw [e, List.getElem?_cons_succ] at h1
      rw [e, List.set_cons_succ, List.map_cons, if_pos (show cmpF z.p.lb p < 0 from c), addF_has hh h1 hq]
    · have e : atR (z :: l) p = 0 := by rw [atR, if_neg c]
      unfold hasR at h
      rw [e] at h h1
      simp at h1; subst h1
      simp at h
      have e2 : cmpF z.p.lb p = 0 := by show cmpF z.lb.l p = 0; rw [h, cmp_self]
      rw [e, if_neg (show ¬ cmpF z.p.lb p < 0 from c), if_pos e2]
      simp [MRow.p, hq]
theorem addF_new : ∀ {S : List MRow} {lb : SlV Pr} {t : Int} {ps : List Pt} {q : SlV Pt}, hasR S lb.l = false → q.l = ps → ((S.take (atR S lb.l) ++ newR lb t :: S.drop (atR S lb.l)).set (atR S lb.l) ⟨lb, max t t, q⟩).map MRow.p = addF (S.map MRow.p) lb.l t ps
  | [], lb, t, ps, q, h, hq => by simp [addF, atR, MRow.p, hq, Int.max_self]
  | z :: l, lb, t, ps, q, h, hq => by
    rw [List.map_cons, addF]
    by_cases c : cmpF z.lb.l lb.l < 0
    · have e : atR (z :: l) lb.l = atR l lb.l + 1 := by rw [atR, if_pos c]
      have hh : hasR l lb.l = false := by unfold hasR at h ⊢; rw [e, List.getElem?_cons_succ] at h; exact h
      rw [e, List.take_succ_cons, List.drop_succ_cons, List.cons_append, List.set_cons_succ, List.map_cons, if_pos (show cmpF z.p.lb lb.l < 0 from c), addF_new hh hq]
    · have e : atR (z :: l) lb.l = 0 := by rw [atR, if_neg c]
      unfold hasR at h
      rw [e] at h
      simp at h
      have e2 : ¬ cmpF z.p.lb lb.l = 0 := fun k => h (cmp_zero k)
      rw [e, if_neg (show ¬ cmpF z.p.lb lb.l < 0 from c), if_neg e2]
      simp [MRow.p, hq, Int.max_self]
theorem has_some {S : List MRow} {p : List Pr} (h : hasR S p = true) : ∃ r, S[atR S p]? = some r := by
  unfold hasR at h
  cases hq : S[atR S p]? with
  | none => rw [hq] at h; cases h
  | some r => exact ⟨r, rfl⟩
theorem maxI (a b : Int) : (if b > a then b else a) = max a b := by rw [Int.max_def]; split <;> split <;> omega
end Go.Proofs.YtidoidoelgfnaaaGreatDoor.SL

/- The reference: a row is added. -/
namespace Go.Proofs.YtidoidoelgfnaaaGreatDoor.SL
open Go.RowKit Go.Proofs.YtidoidoelgfnaaaGreatDoor
open Go.Proofs.YtidoidoelgfnaaaGreatDoorW.PrintLast (rtab opsOf)
set_option linter.unusedVariables false
set_option linter.unusedSimpArgs false

theorem mid_at {S : List MRow} {i : Nat} {z : MRow} (h : i ≤ S.length) : (S.take i ++ z :: S.drop i)[i]? = some z := by
  rw [List.getElem?_append_right (by rw [List.length_take]; omega), List.length_take, Nat.min_eq_left h, Nat.sub_self]; rfl
theorem mid_len {S : List MRow} {i : Nat} {z : MRow} (h : i ≤ S.length) : (S.take i ++ z :: S.drop i).length = S.length + 1 := by
  rw [List.length_append, List.length_cons, List.length_take, List.length_drop]; omega
end Go.Proofs.YtidoidoelgfnaaaGreatDoor.SL

/- The reference: what is left. -/
namespace Go.Proofs.YtidoidoelgfnaaaGreatDoor.SL
open Go.RowKit Go.Proofs.YtidoidoelgfnaaaGreatDoor
open Go.Proofs.YtidoidoelgfnaaaGreatDoorW.PrintLast (rtab opsOf)
set_option linter.unusedVariables false
set_option linter.unusedSimpArgs false

def rsum : List MRow → Nat
  | [] => 0
  | r :: l => r.pt.l.length + rsum l
def ptot : List BlkV → Nat
  | [] => 0
  | b :: l => rsum b.rs.l + ptot l
def rtot : List BlkV → Nat
  | [] => 0
  | b :: l => b.rs.l.length + rtot l
def dtot : List BlkV → Nat
  | [] => 0
  | b :: l => b.ds.l.length + dtot l
theorem blA_get {B w : World} {L : List HP} {l : List BlkV} {b : BlkV} (hb : b ∈ l) (h : St B (allA blA l :: L) w) : St B (rsA b.rs :: allA mrA b.rs.l :: dsA b.ds :: allA recA b.ds.l :: allA blA l :: L) w := by
  have h1 := blA_open (allA_get blA_pers hb h)
  exact (h1.permT [4, 0, 0, 0, 0] (L' := _::_::_::_::_::_::L) rfl).drop
theorem recs_app {B w : World} {L : List HP} {d e : List Rcd} (h : St B (allA recA d :: allA recA e :: L) w) : St B (allA recA (d ++ e) :: L) w := allA_app h
def ngone (d : List Rcd) (lb : List Pr) (p : Pt) : Bool := !goneR d lb p.t
theorem dels_p (d : List Rcd) (l : List BlkV) : (d ++ l.flatMap (·.ds.l)).map Rcd.p = d.map Rcd.p ++ (l.map BlkV.p).flatMap (·.dels) := by
  rw [List.map_append, List.map_flatMap, List.flatMap_map]; rfl
theorem dtot_drop : ∀ (l : List BlkV) (i : Nat), dtot (l.drop i) ≤ dtot l
  | [], i => by simp
  | b :: l, 0 => Nat.le_refl _
  | b :: l, i + 1 => by rw [List.drop_succ_cons, dtot]; exact Nat.le_trans (dtot_drop l i) (Nat.le_add_left _ _)
theorem dels_sz {dels : List Rcd} {bs : List BlkV} {i : Nat} {r : Rcd} (hd : ∀ r ∈ dels, SzR r) (hb : ∀ b ∈ bs, SzB b) (h : r ∈ dels ++ (bs.drop i).flatMap (·.ds.l)) : SzR r := by
  rcases List.mem_append.1 h with h | h
  · exact hd r h
  · obtain ⟨b, hb1, hr⟩ := List.mem_flatMap.1 h
    exact (hb b (List.mem_of_mem_drop hb1)).d r hr
end Go.Proofs.YtidoidoelgfnaaaGreatDoor.SL

/- The reference: queries. -/
namespace Go.Proofs.YtidoidoelgfnaaaGreatDoor.SL
open Go.RowKit Go.Proofs.YtidoidoelgfnaaaGreatDoor
open Go.Proofs.YtidoidoelgfnaaaGreatDoorW.PrintLast (rtab opsOf)
set_option linter.unusedVariables false
set_option linter.unusedSimpArgs false

structure MSer where
  lb : SlV Pr
  pt : SlV Pt
def msc (s : MSer) : List Value := [.slice s.lb.a s.lb.l.length s.lb.cap, .slice s.pt.a s.pt.l.length s.pt.cap]
theorem msc_len (s : MSer) : (msc s).length = 2 := rfl
def serA (s : MSer) : HP := .sep (labA s.lb) (ptsA s.pt)
theorem serA_pers (s : MSer) : (serA s).Pers := HP.pers_sep (labA_pers _) (ptsA_pers _)
theorem serA_get {B w : World} {L : List HP} {l : List MSer} {x : MSer} (hx : x ∈ l) (h : St B (allA serA l :: L) w) : St B (labA x.lb :: ptsA x.pt :: allA serA l :: L) w := (allA_get serA_pers hx h).sep
def MSer.p (s : MSer) : SerP := ⟨s.lb.l, s.pt.l⟩
theorem ser_snoc {B w : World} {L : List HP} {l : List MSer} {x : MSer} (h : St B (allA serA l :: labA x.lb :: ptsA x.pt :: L) w) : St B (allA serA (l ++ [x]) :: L) w := by
  have h1 : St B (serA x :: _::L) w := (h.permT [1, 1, 0] (L' := _::_::_::L) rfl).join
  exact allA_snoc (h1.permT [1, 0] rfl)
end Go.Proofs.YtidoidoelgfnaaaGreatDoor.SL

/- Lists of series are compared. -/
namespace Go.Proofs.YtidoidoelgfnaaaGreatDoor.SL
open Go.RowKit Go.Proofs.YtidoidoelgfnaaaGreatDoor
open Go.Proofs.YtidoidoelgfnaaaGreatDoorW.PrintLast (rtab opsOf)
set_option linter.unusedVariables false
set_option linter.unusedSimpArgs false

instance decSerP : DecidableEq SerP := fun a b => decidable_of_iff (a.lb = b.lb ∧ a.pts = b.pts) (by cases a; cases b; simp)
theorem t17_6 : rtab .any (opsOf Tryz.f17 6) = (true, [([], []), ([], []), ([0, 1], [0, 1]), ([2], [2]), ([3], [3]), ([], []), ([], []), ([5, 6], [5, 6]), ([7], [7]), ([8], [8]), ([4, 9], [4, 9]), ([10], [10]), ([11, 10], [11]), ([12], [12]), ([12], [12]), ([13, 14, 12], [12, 13, 14]), ([15, 12], [12, 15]), ([16, 12], [12, 16]), ([12], [12]), ([12], [12]), ([18, 19, 12], [12, 18, 19]), ([20, 12], [12, 20]), ([21, 12], [12, 21]), ([17, 22, 12, 12], [12, 17, 22]), ([23, 12], [12, 23]), ([12, 24], [12, 24])]) := by kernel_rfl
theorem rssame_spec {B w : World} {L : List HP} {X Y : HP} {a b : Option Addr} {cap cap2 : Nat} {l m : List MSer} (hX : ∀ {L : List HP} {w : World}, St B (X :: L) w → Rd w a l.length 2 (l.flatMap msc)) (hY : ∀ {L : List HP} {w : World}, St B (Y :: L) w → Rd w b m.length 2 (m.flatMap msc)) (hl : l.length ≤ 4398046511104) (hm : m.length ≤ 4398046511104) (hzl : ∀ s ∈ l, s.lb.l.length ≤ 4398046511104 ∧ s.pt.l.length ≤ 4398046511104) (hzm : ∀ s ∈ m, s.lb.l.length ≤ 4398046511104 ∧ s.pt.l.length ≤ 4398046511104) (hS : St B (X :: allA serA l :: Y :: allA serA m :: L) w) : Does Tryz.prog 17 [Value.slice a l.length cap, Value.slice b m.length cap2] w (fun v w1 => v = .bool (decide (l.map MSer.p = m.map MSer.p)) ∧ St B (X :: allA serA l :: Y :: allA serA m :: L) w1) := by
 refine enter (n := 43) Tryz.func17 rfl rfl [Value.slice a l.length cap, Value.slice b m.length cap2] rfl ?_
 refine WP.seq (WP.region rfl ?_)
 refine WO.asg rfl rfl ?_
 refine WO.nil (NX.go (WP.seq (WP.seq (WP.region rfl ?_))))
 refine WO.mv rfl rfl ?_
 refine WO.V (run_len rfl Tryz.underlying37 rfl) ?_
 refine WO.mv rfl rfl ?_
 refine WO.V (run_len rfl Tryz.underlying37 rfl) ?_
 refine WO.V (run_neq rfl rfl) ?_
 refine WO.nil (NX.go ?_)
 refine WP.condP rfl (fun g10 => ?_) (fun g10 => ?_)
 ·
  refine WP.seq (WP.region rfl ?_)
  refine WO.asg rfl rfl ?_
  refine WO.nil (NX.go (WP.ret (NX.thenRet ?_)))
  refine NX.done (l := [.tmp 4]) rfl rfl ?_
  exact ⟨congrArg Value.bool (decide_eq_false (fun e => by have := congrArg List.length e; simp at this; omega)).symm, hS⟩
 ·
  refine WP.skip (NX.go (WP.seq (WP.seq (WP.region rfl ?_))))
  refine WO.asg rfl rfl ?_
  refine WO.nil (NX.go (WP.block ?_))
  refine WP.loop (α := Nat) (fun x => match x with | i => [(0, Value.slice a l.length cap), (1, Value.slice b m.length cap2), (5, Value.int .i64 (i : Int))]) (fun x w => match x with | i => (i ≤ l.length ∧ ((l.drop i).map MSer.p = (m.drop i).map MSer.p ↔ l.map MSer.p = m.map MSer.p)) ∧ St B (X :: allA serA l :: Y :: allA serA m :: L) w) (fun x => match x with | i => l.length - i) 0 ⟨⟨Nat.zero_le _, Iff.rfl⟩, hS⟩ (Sub.cons rfl (Sub.cons rfl (Sub.consE rfl (by first | rfl | first | rfl | (congr 1; omega) | (simp; done) | (simp; omega)) (Sub.nil _)))) ?_
  rintro i w1 ⟨⟨hi, hgo⟩, hS1⟩
  clear hS
  refine WP.seq (WP.seq (WP.region rfl ?_))
  refine WO.mv rfl rfl ?_
  refine WO.mv rfl rfl ?_
  refine WO.V (run_len rfl Tryz.underlying37 rfl) ?_
  refine WO.V (run_lss rfl rfl) ?_
  refine WO.nil (NX.go ?_)
  refine WP.condP rfl (fun g14 => ?_) (fun g14 => ?_)
  ·
   refine WP.skip (NX.go (WP.seq (WP.block (WP.seq ?_))))
   obtain ⟨p, hp⟩ : ∃ qq, l[i]? = some qq := ⟨_, List.getElem?_eq_getElem (by omega)⟩
   obtain ⟨q, hq⟩ : ∃ qq, m[i]? = some qq := ⟨_, List.getElem?_eq_getElem (by omega)⟩
   have hS2 := serA_get (List.mem_of_getElem? hp) (hS1.permT [1] (L' := _::_::_::_::L) rfl)
   clear hS1
   have hS3 := serA_get (List.mem_of_getElem? hq) (hS2.permT [5] (L' := _::_::_::_::_::_::L) rfl)
   clear hS2
   have hsa : a.isSome = true := rd_isSome ((hX (hS3.focus 6 rfl))) (by omega)
   have hsb : b.isSome = true := rd_isSome ((hY (hS3.focus 7 rfl))) (by omega)
   refine WD.start (fun w => Rd w q.lb.a q.lb.l.length 2 (q.lb.l.flatMap prc) ∧ Rd w q.pt.a q.pt.l.length 2 (q.pt.l.flatMap ptc) ∧ Rd w p.lb.a p.lb.l.length 2 (p.lb.l.flatMap prc) ∧ Rd w p.pt.a p.pt.l.length 2 (p.pt.l.flatMap ptc) ∧ Rd w a l.length 2 (l.flatMap msc) ∧ Rd w b m.length 2 (m.flatMap msc)) [] (bt 26 0) Ty.mo rfl (by kernel_rfl) hS3 (fun _ h => ⟨(rdH_rd (h.focus 0 rfl)), (rdH_rd (h.focus 1 rfl)), (rdH_rd (h.focus 3 rfl)), (rdH_rd (h.focus 4 rfl)), (hX (h.focus 6 rfl)), (hY (h.focus 7 rfl))⟩) (fun w4 hS4 s5 => ?_)
   clear hS3
   refine DP (i := 0) t17_6 (bt 26 1) rfl rfl rfl rfl (fun w => run_move rfl) ?_
   refine DP (i := 1) t17_6 (bt 26 3) rfl rfl rfl rfl (fun w => run_move rfl) ?_
   refine DT (i := 2) t17_6 (bt 26 7) s5 rfl rfl rfl rfl (fun w hs => run_indexAddr (q := adr a (i * 2)) Tryz.underlying37 Ty.sz68 rfl rfl (by omega) (by omega) ((hs.2.2.2.2.1).2.1 (by omega)) rfl) ?_
   refine DP (i := 3) t17_6 (bt 26 15) rfl rfl rfl rfl (fun w => run_fa 0 (adr a (i * 2 + 0)) rfl (adr_add _ (by assumption) _ _)) ?_
   refine DT (i := 4) t17_6 (bt 26 31) s5 rfl rfl rfl rfl (fun w hs => run_load Ty.ag65 rfl ((hs.2.2.2.2.1).cell ((flat_get msc_len hp (j := 0) (by decide)).trans rfl))) ?_
   refine DP (i := 5) t17_6 (bt 26 63) rfl rfl rfl rfl (fun w => run_move rfl) ?_
   refine DP (i := 6) t17_6 (bt 26 127) rfl rfl rfl rfl (fun w => run_move rfl) ?_
   refine DT (i := 7) t17_6 (bt 26 255) s5 rfl rfl rfl rfl (fun w hs => run_indexAddr (q := adr b (i * 2)) Tryz.underlying37 Ty.sz68 rfl rfl (by omega) (by omega) ((hs.2.2.2.2.2).2.1 (by omega)) rfl) ?_
   refine DP (i := 8) t17_6 (bt 26 511) rfl rfl rfl rfl (fun w => run_fa 0 (adr b (i * 2 + 0)) rfl (adr_add _ (by assumption) _ _)) ?_
   refine DT (i := 9) t17_6 (bt 26 1023) s5 rfl rfl rfl rfl (fun w hs => run_load Ty.ag65 rfl ((hs.2.2.2.2.2).cell ((flat_get msc_len hq (j := 0) (by decide)).trans rfl))) ?_
   refine WD.one (i := 10) t17_6 (bt 26 2047) rfl (by kernel_rfl) ?_
   have hS6 := hS4.permT [3] (L' := _::_::_::_::_::_::_::_::L) rfl
   clear hS4
   refine WO.call rfl rfl Ty.hd45 rfl (rsame_spec rdH_rd rdH_rd (hzl p (List.mem_of_getElem? hp)).1 (hzm q (List.mem_of_getElem? hq)).1 hS6) (fun v8 w7 pv8 => ?_)
   obtain ⟨rfl, hS7⟩ := pv8
   clear hS6
   refine WO.nil ?_
   have s9 : Rd w7 q.lb.a q.lb.l.length 2 (q.lb.l.flatMap prc) ∧ Rd w7 q.pt.a q.pt.l.length 2 (q.pt.l.flatMap ptc) ∧ Rd w7 p.lb.a p.lb.l.length 2 (p.lb.l.flatMap prc) ∧ Rd w7 p.pt.a p.pt.l.length 2 (p.pt.l.flatMap ptc) ∧ Rd w7 a l.length 2 (l.flatMap msc) ∧ Rd w7 b m.length 2 (m.flatMap msc) := ⟨(rdH_rd (hS7.focus 1 rfl)), (rdH_rd (hS7.focus 2 rfl)), (rdH_rd (hS7.focus 0 rfl)), (rdH_rd (hS7.focus 4 rfl)), (hX (hS7.focus 6 rfl)), (hY (hS7.focus 7 rfl))⟩
   refine NX.held s9 ?_
   refine DP (i := 11) t17_6 (bt 26 4095) rfl rfl rfl rfl (fun w => run_notP rfl) ?_
   refine DP (i := 12) t17_6 (bt 26 8191) rfl rfl rfl rfl (fun w => run_move rfl) ?_
   refine dcase (p := ¬ (p.lb.l = q.lb.l)) (fun g29 d29 => ?_) (fun g29 d29 => ?_)
   ·
    refine DO (i := 13) t17_6 (bt 26 16383) rfl rfl rfl d29 rfl ?_
    refine DO (i := 14) t17_6 (bt 26 32767) rfl rfl rfl d29 rfl ?_
    refine DO (i := 15) t17_6 (bt 26 65535) rfl rfl rfl d29 rfl ?_
    refine DO (i := 16) t17_6 (bt 26 131071) rfl rfl rfl d29 rfl ?_
    refine DO (i := 17) t17_6 (bt 26 262143) rfl rfl rfl d29 rfl ?_
    refine DO (i := 18) t17_6 (bt 26 524287) rfl rfl rfl d29 rfl ?_
    refine DO (i := 19) t17_6 (bt 26 1048575) rfl rfl rfl d29 rfl ?_
    refine DO (i := 20) t17_6 (bt 26 2097151) rfl rfl rfl d29 rfl ?_
    refine DO (i := 21) t17_6 (bt 26 4194303) rfl rfl rfl d29 rfl ?_
    refine DO (i := 22) t17_6 (bt 26 8388607) rfl rfl rfl d29 rfl ?_
    refine DO (i := 23) t17_6 (bt 26 16777215) rfl rfl rfl d29 rfl ?_
    refine DO (i := 24) t17_6 (bt 26 33554431) rfl rfl rfl d29 rfl ?_
    refine DP (i := 25) t17_6 (bt 26 67108863) rfl rfl rfl rfl (fun w => run_pickT rfl d29 rfl) ?_
    refine WD.done t17_6 (by kernel_rfl) ?_
    refine NX.go ?_
    refine WP.condT rfl rfl ?_
    refine WP.seq (WP.region rfl ?_)
    refine WO.asg rfl rfl ?_
    refine WO.nil (NX.go (WP.ret (NX.blkRet (NX.thenRet (NX.thenRet (NX.blkRet (NX.thenRet ?_)))))))
    refine NX.done (l := [.tmp 4]) rfl rfl ?_
    exact ⟨congrArg Value.bool (decide_eq_false (fun e => by rw [← hgo, drop_cons hp, drop_cons hq] at e; have := (List.cons.inj e).1; exact g29 (congrArg SerP.lb this))).symm, ((hS7.mask [false, false, false, true, false] (L' := _::_::_::_::L) rfl).permT [2, 1, 1] (L' := _::_::_::_::L) rfl)⟩
   ·
    refine DPn (i := 13) t17_6 (bt 26 16383) rfl rfl rfl d29 rfl (fun w => run_move rfl) ?_
    refine DPn (i := 14) t17_6 (bt 26 32767) rfl rfl rfl d29 rfl (fun w => run_move rfl) ?_
    refine DTn (i := 15) t17_6 (bt 26 65535) s9 rfl rfl rfl d29 rfl (fun w hs => run_indexAddr (q := adr a (i * 2)) Tryz.underlying37 Ty.sz68 rfl rfl (by omega) (by omega) ((hs.2.2.2.2.1).2.1 (by omega)) rfl) ?_
    refine DPn (i := 16) t17_6 (bt 26 131071) rfl rfl rfl d29 rfl (fun w => run_fa 1 (adr a (i * 2 + 1)) rfl (adr_add _ (by assumption) _ _)) ?_
    refine DTn (i := 17) t17_6 (bt 26 262143) s9 rfl rfl rfl d29 rfl (fun w hs => run_load Ty.ag66 rfl ((hs.2.2.2.2.1).cell ((flat_get msc_len hp (j := 1) (by decide)).trans rfl))) ?_
    refine DPn (i := 18) t17_6 (bt 26 524287) rfl rfl rfl d29 rfl (fun w => run_move rfl) ?_
    refine DPn (i := 19) t17_6 (bt 26 1048575) rfl rfl rfl d29 rfl (fun w => run_move rfl) ?_
    refine DTn (i := 20) t17_6 (bt 26 2097151) s9 rfl rfl rfl d29 rfl (fun w hs => run_indexAddr (q := adr b (i * 2)) Tryz.underlying37 Ty.sz68 rfl rfl (by omega) (by omega) ((hs.2.2.2.2.2).2.1 (by omega)) rfl) ?_
    refine DPn (i := 21) t17_6 (bt 26 4194303) rfl rfl rfl d29 rfl (fun w => run_fa 1 (adr b (i * 2 + 1)) rfl (adr_add _ (by assumption) _ _)) ?_
    refine DTn (i := 22) t17_6 (bt 26 8388607) s9 rfl rfl rfl d29 rfl (fun w hs => run_load Ty.ag66 rfl ((hs.2.2.2.2.2).cell ((flat_get msc_len hq (j := 1) (by decide)).trans rfl))) ?_
    refine WD.one (i := 23) t17_6 (bt 26 16777215) rfl (by kernel_rfl) ?_
    refine WO.on rfl rfl d29 ?_
    have hS10 := hS7.permT [4, 2] (L' := _::_::_::_::_::_::_::_::L) rfl
    clear hS7
    refine WO.call rfl rfl Ty.hd51 rfl (rpsame_spec rdH_rd rdH_rd (hzl p (List.mem_of_getElem? hp)).2 (hzm q (List.mem_of_getElem? hq)).2 hS10) (fun v12 w11 pv12 => ?_)
    obtain ⟨rfl, hS11⟩ := pv12
    clear hS10
    refine WO.nil ?_
    have s13 : Rd w11 q.lb.a q.lb.l.length 2 (q.lb.l.flatMap prc) ∧ Rd w11 q.pt.a q.pt.l.length 2 (q.pt.l.flatMap ptc) ∧ Rd w11 p.lb.a p.lb.l.length 2 (p.lb.l.flatMap prc) ∧ Rd w11 p.pt.a p.pt.l.length 2 (p.pt.l.flatMap ptc) ∧ Rd w11 a l.length 2 (l.flatMap msc) ∧ Rd w11 b m.length 2 (m.flatMap msc) := ⟨(rdH_rd (hS11.focus 3 rfl)), (rdH_rd (hS11.focus 1 rfl)), (rdH_rd (hS11.focus 2 rfl)), (rdH_rd (hS11.focus 0 rfl)), (hX (hS11.focus 6 rfl)), (hY (hS11.focus 7 rfl))⟩
    refine NX.held s13 ?_
    refine DPn (i := 24) t17_6 (bt 26 33554431) rfl rfl rfl d29 rfl (fun w => run_notP rfl) ?_
    refine DP (i := 25) t17_6 (bt 26 67108863) rfl rfl rfl rfl (fun w => run_pickF rfl d29 rfl) ?_
    refine WD.done t17_6 (by kernel_rfl) ?_
    refine NX.go ?_
    refine WP.condP rfl (fun g42 => ?_) (fun g42 => ?_)
    ·
     refine WP.seq (WP.region rfl ?_)
     refine WO.asg rfl rfl ?_
     refine WO.nil (NX.go (WP.ret (NX.blkRet (NX.thenRet (NX.thenRet (NX.blkRet (NX.thenRet ?_)))))))
     refine NX.done (l := [.tmp 4]) rfl rfl ?_
     exact ⟨congrArg Value.bool (decide_eq_false (fun e => by rw [← hgo, drop_cons hp, drop_cons hq] at e; have := (List.cons.inj e).1; exact g42 (congrArg SerP.pts this))).symm, (hS11.permT [0, 0, 0, 0, 2, 1, 1] (L' := _::_::_::_::_::_::_::_::L) rfl).drop.drop.drop.drop⟩
    ·
     refine WP.skip (NX.blk (NX.go (WP.region rfl ?_)))
     refine WO.mv rfl rfl ?_
     refine WO.V (run_add rfl rfl (IntWalk.i64_in _ (by omega))) ?_
     refine WO.asg rfl rfl ?_
     refine WO.nil ?_
     exact NX.again (i + 1) ⟨⟨by omega, by rw [drop_cons hp, drop_cons hq, List.map_cons, List.map_cons] at hgo; rw [← hgo]; have e1 : p.lb.l = q.lb.l := (by simpa using g29); have e2 : p.pt.l = q.pt.l := (by simpa using g42); simp [MSer.p, e1, e2]⟩, (hS11.permT [0, 0, 0, 0, 2, 1, 1] (L' := _::_::_::_::_::_::_::_::L) rfl).drop.drop.drop.drop⟩ (by show l.length - (i + 1) < l.length - i; omega) (Sub.cons rfl (Sub.cons rfl (Sub.consE rfl (by congr 1) (Sub.nil _))))
  ·
   refine WP.exit (NX.thenExit (NX.thenExit ?_))
   refine NX.blkExit ?_
   refine NX.go (WP.seq (WP.region rfl ?_))
   refine WO.asg rfl rfl ?_
   refine WO.nil (NX.go (WP.ret ?_))
   refine NX.done (l := [.tmp 4]) rfl rfl ?_
   exact ⟨congrArg Value.bool (decide_eq_true (hgo.1 (by rw [List.drop_of_length_le (by omega), List.drop_of_length_le (by omega)]))).symm, hS1⟩
end Go.Proofs.YtidoidoelgfnaaaGreatDoor.SL
