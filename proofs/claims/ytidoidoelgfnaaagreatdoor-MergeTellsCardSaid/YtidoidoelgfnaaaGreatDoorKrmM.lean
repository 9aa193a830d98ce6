import Derived.Test.YtidoidoelgfnaaaGreatDoorKcl
import Derived.Test.YtidoidoelgfnaaaGreatDoorKc
import Derived.Test.YtidoidoelgfnaaaGreatDoorKb
/- The reference: deletes, points within. -/
namespace Go.Proofs.YtidoidoelgfnaaaGreatDoor.SL
open Go.RowKit Go.Proofs.YtidoidoelgfnaaaGreatDoor
open Go.Proofs.YtidoidoelgfnaaaGreatDoorW.PrintLast (rtab opsOf)
set_option linter.unusedVariables false
set_option linter.unusedSimpArgs false

theorem own_eqM {B w : World} {L : List HP} {a : Option Addr} {n n' cap t k : Nat} {l l' : List Value} (h : St B (own a n cap t k l :: L) w) (e : n = n') (e2 : l = l') : St B (own a n' cap t k l' :: L) w := by subst e; subst e2; exact h
theorem all_takeM {p : Value → Bool} {l : List Value} {n : Nat} (h : l.all p = true) : (l.take n).all p = true := List.all_eq_true.2 fun x hx => List.all_eq_true.1 h x (List.mem_of_mem_take hx)
theorem all_dropM {p : Value → Bool} {l : List Value} {n : Nat} (h : l.all p = true) : (l.drop n).all p = true := List.all_eq_true.2 fun x hx => List.all_eq_true.1 h x (List.mem_of_mem_drop hx)
theorem Rd.dropM {w : World} {a : Option Addr} {n i c k : Nat} {l : List Value} (h : Rd w a n k l) (hi : i ≤ n) (hc : n ≤ c) : Rd w (if c = i then a else a.map (·.add (i * k))) (n - i) k (l.drop (i * k)) := by
  have e : (n - i) * k = n * k - i * k := Nat.sub_mul ..
  have hle : i * k ≤ n * k := Nat.mul_le_mul_right _ hi
  refine ⟨by rw [List.length_drop, h.1, e], fun hp => ?_, fun j hj => ?_⟩
  · obtain ⟨⟨b, o, sp⟩, rfl, hs⟩ := h.2.1 (by omega)
    simp only at hs; subst hs
    rw [if_neg (by omega), Option.map_some, Go.WideShapes.add_plain]
    exact ⟨_, rfl, rfl⟩
  · have hn : 0 < n - i := Nat.pos_of_ne_zero fun h0 => by rw [h0, Nat.zero_mul] at hj; exact absurd hj (Nat.not_lt_zero _)
    obtain ⟨⟨b, o, sp⟩, rfl, hs⟩ := h.2.1 (by omega)
    simp only at hs; subst hs
    rw [if_neg (by omega), List.getElem?_drop, ← h.2.2 (i * k + j) (by omega), Option.map_some, Go.WideShapes.add_plain]
    show w.cell? ⟨b, o + i * k + j, none⟩ = w.cell? ⟨b, o + (i * k + j), none⟩
    rw [Nat.add_assoc]
theorem take_filter {α : Type} {p : α → Bool} {l : List α} {i : Nat} {x : α} (h : l[i]? = some x) : (l.take (i + 1)).filter p = if p x = true then (l.take i).filter p ++ [x] else (l.take i).filter p := by
  rw [List.take_add_one, h, Option.toList_some, List.filter_append, List.filter_cons, List.filter_nil]
  split <;> simp
theorem filter_take_le {α : Type} (p : α → Bool) (l : List α) (i : Nat) : ((l.take i).filter p).length ≤ i := Nat.le_trans (List.length_filter_le _ _) (by rw [List.length_take]; omega)
theorem rms_get {B w : World} {L : List HP} {d : List Rcd} {r : Rcd} (hr : r ∈ d) (h : St B (allA recA d :: L) w) : St B (rdH r.ms.a r.ms.l.length 3 (r.ms.l.flatMap mtc) :: allA recA d :: L) w := by
  have h1 := allA_get recA_pers hr h
  have h2 := recA_open h1
  exact (h2.permT [0, 1, 1] (L' := rdH r.ss.a r.ss.l.length 3 (r.ss.l.flatMap smc) :: smsA r.ss.l :: recA r :: rdH r.ms.a r.ms.l.length 3 (r.ms.l.flatMap mtc) :: allA recA d :: L) rfl).drop.drop.drop
def goneR (d : List Rcd) (lb : List Pr) (t : Int) : Bool := d.any fun r => decide (r.fr ≤ t ∧ t ≤ r.to) && isF r.ms.l lb
theorem goneR_eq (d : List Rcd) (lb : List Pr) (t : Int) : goneR d lb t = goneF (d.map Rcd.p) lb t := by unfold goneR goneF; rw [List.any_map]; rfl
theorem rgone_spec {B w : World} {L : List HP} {X Y : HP} {a b : Option Addr} {cap cap2 : Nat} {d : List Rcd} {ps : List Pr} (hX : ∀ {L : List HP} {w : World}, St B (X :: L) w → Rd w a d.length 5 (d.flatMap rcc)) (hY : ∀ {L : List HP} {w : World}, St B (Y :: L) w → Rd w b ps.length 2 (ps.flatMap prc)) (hz : ∀ r ∈ d, SzR r) (hd : d.length ≤ 140737488355328) (hl2 : ps.length ≤ 4398046511104) (t : Int) (hS : St B (X :: allA recA d :: Y :: L) w) : Does Tryz.prog 92 [Value.slice a d.length cap, Value.slice b ps.length cap2, Value.int .i64 t] w (fun v w1 => v = .bool (goneR d ps t) ∧ St B (X :: allA recA d :: Y :: L) w1) := by
 refine enter (n := 39) Tryz.func92 rfl rfl [Value.slice a d.length cap, Value.slice b ps.length cap2, Value.int .i64 t] rfl ?_
 refine WP.seq (WP.region rfl ?_)
 refine WO.asg rfl rfl ?_
 refine WO.nil (NX.go (WP.seq (WP.seq (WP.region rfl ?_))))
 refine WO.asg rfl rfl ?_
 refine WO.nil (NX.go (WP.block ?_))
 refine WP.loop (α := Nat) (fun x => match x with | i => [(0, Value.slice a d.length cap), (1, Value.slice b ps.length cap2), (2, Value.int .i64 t), (7, Value.int .i64 (i : Int))]) (fun x w => match x with | i => (i ≤ d.length ∧ goneR (d.drop i) ps t = goneR d ps t) ∧ St B (X :: allA recA d :: Y :: L) w) (fun x => match x with | i => d.length - i) 0 ⟨⟨Nat.zero_le _, rfl⟩, hS⟩ (Sub.cons rfl (Sub.cons rfl (Sub.cons rfl (Sub.consE rfl (by first | rfl | first | rfl | (congr 1; omega) | (simp; done) | (simp; omega)) (Sub.nil _))))) ?_
 rintro i w1 ⟨⟨hi, hgo⟩, hS1⟩
 clear hS
 refine WP.seq (WP.seq (WP.region rfl ?_))
 refine WO.mv rfl rfl ?_
 refine WO.mv rfl rfl ?_
 refine WO.V (run_len rfl Tryz.underlying23 rfl) ?_
 refine WO.V (run_lss rfl rfl) ?_
 refine WO.nil (NX.go ?_)
 refine WP.condP rfl (fun g11 => ?_) (fun g11 => ?_)
 ·
  refine WP.skip (NX.go (WP.seq (WP.block (WP.seq ?_))))
  obtain ⟨r, hr⟩ : ∃ r, d[i]? = some r := ⟨_, List.getElem?_eq_getElem (by omega)⟩
  have hsa : a.isSome = true := rd_isSome (hX (hS1.focus 0 rfl)) (by omega)
  refine WP.region rfl ?_
  refine WO.mv rfl rfl ?_
  refine WO.mv rfl rfl ?_
  refine WO.mv rfl rfl ?_
  refine WO.V (run_indexAddr (q := adr a (i * 5)) Tryz.underlying23 Ty.sz33 rfl rfl (by omega) (by omega) ((hX (hS1.focus 0 rfl)).2.1 (by omega)) rfl) ?_
  refine WO.V (run_fa 3 (adr a (i * 5 + 3)) rfl (adr_add _ (by assumption) _ _)) ?_
  refine WO.V (run_load Ty.ag2 rfl ((hX (hS1.focus 0 rfl)).cell ((flat_get rcc_len hr (j := 3) (by decide)).trans rfl))) ?_
  refine WO.V (run_geq rfl rfl) ?_
  refine WO.mv rfl rfl ?_
  refine dcase (p := r.fr ≤ t) (fun g21 d21 => ?_) (fun g21 d21 => ?_)
  ·
   refine WO.on rfl rfl d21 ?_
   refine WO.mv rfl rfl ?_
   refine WO.on rfl rfl d21 ?_
   refine WO.mv rfl rfl ?_
   refine WO.on rfl rfl d21 ?_
   refine WO.mv rfl rfl ?_
   refine WO.on rfl rfl d21 ?_
   refine WO.V (run_indexAddr (q := adr a (i * 5)) Tryz.underlying23 Ty.sz33 rfl rfl (by omega) (by omega) ((hX (hS1.focus 0 rfl)).2.1 (by omega)) rfl) ?_
   refine WO.on rfl rfl d21 ?_
   refine WO.V (run_fa 4 (adr a (i * 5 + 4)) rfl (adr_add _ (by assumption) _ _)) ?_
   refine WO.on rfl rfl d21 ?_
   refine WO.V (run_load Ty.ag2 rfl ((hX (hS1.focus 0 rfl)).cell ((flat_get rcc_len hr (j := 4) (by decide)).trans rfl))) ?_
   refine WO.on rfl rfl d21 ?_
   refine WO.V (run_leq rfl rfl) ?_
   refine WO.V (run_pickT rfl d21 rfl) ?_
   refine WO.mv rfl rfl ?_
   refine dcase (p := t ≤ r.to) (fun g30 d30 => ?_) (fun g30 d30 => ?_)
   ·
    refine WO.on rfl rfl d30 ?_
    refine WO.mv rfl rfl ?_
    refine WO.on rfl rfl d30 ?_
    refine WO.mv rfl rfl ?_
    refine WO.on rfl rfl d30 ?_
    refine WO.V (run_indexAddr (q := adr a (i * 5)) Tryz.underlying23 Ty.sz33 rfl rfl (by omega) (by omega) ((hX (hS1.focus 0 rfl)).2.1 (by omega)) rfl) ?_
    refine WO.on rfl rfl d30 ?_
    refine WO.V (run_fa 2 (adr a (i * 5 + 2)) rfl (adr_add _ (by assumption) _ _)) ?_
    refine WO.on rfl rfl d30 ?_
    refine WO.V (run_load Ty.ag24 rfl ((hX (hS1.focus 0 rfl)).cell ((flat_get rcc_len hr (j := 2) (by decide)).trans rfl))) ?_
    refine WO.on rfl rfl d30 ?_
    refine WO.mv rfl rfl ?_
    refine WO.on rfl rfl d30 ?_
    have hS2 := rms_get (List.mem_of_getElem? hr) (hS1.permT [1] (L' := allA recA d :: X :: Y :: L) rfl)
    clear hS1
    have hS3 := hS2.permT [0, 2] (L' := (rdH r.ms.a r.ms.l.length 3 (r.ms.l.flatMap mtc)) :: Y :: allA recA d :: X :: L) rfl
    clear hS2
    refine WO.call rfl rfl Ty.hd57 rfl (ris_spec rdH_rd hY (hz r (List.mem_of_getElem? hr)).m (hz r (List.mem_of_getElem? hr)).nm2 hl2 hS3) (fun v5 w4 pv5 => ?_)
    obtain ⟨rfl, hS4⟩ := pv5
    clear hS3
    refine WO.V (run_pickT rfl d30 rfl) ?_
    refine WO.nil (NX.go ?_)
    refine WP.condB rfl (fun g38 => ?_) (fun g38 => ?_)
    ·
     refine WP.seq (WP.region rfl ?_)
     refine WO.asg rfl rfl ?_
     refine WO.nil (NX.go (WP.ret (NX.blkRet (NX.thenRet (NX.thenRet (NX.blkRet (NX.thenRet ?_)))))))
     refine NX.done (l := [.tmp 6]) rfl rfl ?_
     exact ⟨congrArg Value.bool (by rw [drop_cons hr] at hgo; rw [← hgo]; simp [goneR, g11, g21, g30, g38]), (hS4.permT [0, 2, 1] (L' := (rdH r.ms.a r.ms.l.length 3 (r.ms.l.flatMap mtc)) :: X :: allA recA d :: Y :: L) rfl).drop⟩
    ·
     refine WP.skip (NX.blk (NX.go (WP.region rfl ?_)))
     refine WO.mv rfl rfl ?_
     refine WO.V (run_add rfl rfl (IntWalk.i64_in _ (by omega))) ?_
     refine WO.asg rfl rfl ?_
     refine WO.nil ?_
     exact NX.again (i + 1) ⟨⟨by omega, by rw [drop_cons hr] at hgo; rw [← hgo]; simp [goneR, g11, g21, g30, g38] <;> intros <;> omega⟩, (hS4.permT [0, 2, 1] (L' := (rdH r.ms.a r.ms.l.length 3 (r.ms.l.flatMap mtc)) :: X :: allA recA d :: Y :: L) rfl).drop⟩ (by show d.length - (i + 1) < d.length - i; omega) (Sub.cons rfl (Sub.cons rfl (Sub.cons rfl (Sub.consE rfl (by congr 1) (Sub.nil _)))))
   ·
    refine WO.off rfl rfl d30 rfl ?_
    refine WO.off rfl rfl d30 rfl ?_
    refine WO.off rfl rfl d30 rfl ?_
    refine WO.off rfl rfl d30 rfl ?_
    refine WO.off rfl rfl d30 rfl ?_
    refine WO.off rfl rfl d30 rfl ?_
    refine WO.off rfl rfl d30 rfl ?_
    refine WO.V (run_pickF rfl d30 rfl) ?_
    refine WO.nil (NX.go ?_)
    refine WP.condF rfl rfl ?_
    refine WP.skip (NX.blk (NX.go (WP.region rfl ?_)))
    refine WO.mv rfl rfl ?_
    refine WO.V (run_add rfl rfl (IntWalk.i64_in _ (by omega))) ?_
    refine WO.asg rfl rfl ?_
    refine WO.nil ?_
    exact NX.again (i + 1) ⟨⟨by omega, by rw [drop_cons hr] at hgo; rw [← hgo]; simp [goneR, g11, g21, g30] <;> intros <;> omega⟩, hS1⟩ (by show d.length - (i + 1) < d.length - i; omega) (Sub.cons rfl (Sub.cons rfl (Sub.cons rfl (Sub.consE rfl (by congr 1) (Sub.nil _)))))
  ·
   refine WO.off rfl rfl d21 rfl ?_
   refine WO.off rfl rfl d21 rfl ?_
   refine WO.off rfl rfl d21 rfl ?_
   refine WO.off rfl rfl d21 rfl ?_
   refine WO.off rfl rfl d21 rfl ?_
   refine WO.off rfl rfl d21 rfl ?_
   refine WO.off rfl rfl d21 rfl ?_
   refine WO.V (run_pickF rfl d21 rfl) ?_
   refine WO.mv rfl rfl ?_
   refine WO.off rfl rfl rfl rfl ?_
   refine WO.off rfl rfl rfl rfl ?_
   refine WO.off rfl rfl rfl rfl ?_
   refine WO.off rfl rfl rfl rfl ?_
   refine WO.off rfl rfl rfl rfl ?_
   refine WO.off rfl rfl rfl rfl ?_
   refine WO.off rfl rfl rfl rfl ?_
   refine WO.V (run_pickF rfl rfl rfl) ?_
   refine WO.nil (NX.go ?_)
   refine WP.condF rfl rfl ?_
   refine WP.skip (NX.blk (NX.go (WP.region rfl ?_)))
   refine WO.mv rfl rfl ?_
   refine WO.V (run_add rfl rfl (IntWalk.i64_in _ (by omega))) ?_
   refine WO.asg rfl rfl ?_
   refine WO.nil ?_
   exact NX.again (i + 1) ⟨⟨by omega, by rw [drop_cons hr] at hgo; rw [← hgo]; simp [goneR, g11, g21] <;> intros <;> omega⟩, hS1⟩ (by show d.length - (i + 1) < d.length - i; omega) (Sub.cons rfl (Sub.cons rfl (Sub.cons rfl (Sub.consE rfl (by congr 1) (Sub.nil _)))))
 ·
  refine WP.exit (NX.thenExit (NX.thenExit ?_))
  refine NX.blkExit ?_
  refine NX.go (WP.seq (WP.region rfl ?_))
  refine WO.asg rfl rfl ?_
  refine WO.nil (NX.go (WP.ret ?_))
  refine NX.done (l := [.tmp 6]) rfl rfl ?_
  exact ⟨congrArg Value.bool (by rw [← hgo, List.drop_of_length_le (by omega)]; rfl), hS1⟩

theorem rwithin_spec {B w : World} {L : List HP} {X : HP} {a : Option Addr} {cap : Nat} {l : List Pt} (hX : ∀ {L : List HP} {w : World}, St B (X :: L) w → Rd w a l.length 2 (l.flatMap ptc)) (hl : l.length ≤ 4398046511104) (fr to : Int) (hS : St B (X :: L) w) : Does Tryz.prog 56 [Value.slice a l.length cap, Value.int .i64 fr, Value.int .i64 to] w (fun v w1 => ∃ a1 c1, v = .slice a1 (l.filter (inF fr to)).length c1 ∧ St B (own a1 (l.filter (inF fr to)).length c1 103 2 ((l.filter (inF fr to)).flatMap ptc) :: X :: L) w1) := by
 refine enter (n := 39) Tryz.func56 rfl rfl [Value.slice a l.length cap, Value.int .i64 fr, Value.int .i64 to] rfl ?_
 refine WP.seq (WP.region rfl ?_)
 refine WO.asg rfl rfl ?_
 refine WO.nil (NX.go (WP.seq (WP.region rfl ?_)))
 refine WO.asg rfl rfl ?_
 refine WO.nil (NX.go (WP.seq (WP.seq (WP.region rfl ?_))))
 refine WO.asg rfl rfl ?_
 refine WO.nil (NX.go (WP.block ?_))
 replace hS := hS.own_nil 103 2
 refine WP.loop (α := Nat × Option Addr × Nat) (fun x => match x with | ⟨i, oa, oc⟩ => [(0, Value.slice a l.length cap), (1, Value.int .i64 fr), (2, Value.int .i64 to), (7, Value.slice oa (((l.take i).filter (inF fr to)).length) oc), (8, Value.int .i64 (i : Int))]) (fun x w => match x with | ⟨i, oa, oc⟩ => (i ≤ l.length) ∧ St B (own oa (((l.take i).filter (inF fr to)).length) oc 103 2 (((l.take i).filter (inF fr to)).flatMap ptc) :: X :: L) w) (fun x => match x with | ⟨i, oa, oc⟩ => l.length - i) (0, none, 0) ⟨Nat.zero_le _, hS⟩ (Sub.cons rfl (Sub.cons rfl (Sub.cons rfl (Sub.consE rfl (by first | rfl | first | rfl | (congr 1; omega) | (simp; done) | (simp; omega)) (Sub.consE rfl (by first | rfl | first | rfl | (congr 1; omega) | (simp; done) | (simp; omega)) (Sub.nil _)))))) ?_
 rintro ⟨i, oa, oc⟩ w1 ⟨hi, hS1⟩
 clear hS
 refine WP.seq (WP.seq (WP.region rfl ?_))
 refine WO.mv rfl rfl ?_
 refine WO.mv rfl rfl ?_
 refine WO.V (run_len rfl Tryz.underlying66 rfl) ?_
 refine WO.V (run_lss rfl rfl) ?_
 refine WO.nil (NX.go ?_)
 refine WP.condP rfl (fun g12 => ?_) (fun g12 => ?_)
 ·
  refine WP.skip (NX.go (WP.seq (WP.block (WP.seq ?_))))
  obtain ⟨p, hp⟩ : ∃ p, l[i]? = some p := ⟨_, List.getElem?_eq_getElem (by omega)⟩
  have hsa : a.isSome = true := rd_isSome (hX (hS1.focus 1 rfl)) (by omega)
  have hfl := filter_take_le (inF fr to) l i
  refine WP.region rfl ?_
  refine WO.mv rfl rfl ?_
  refine WO.mv rfl rfl ?_
  refine WO.V (run_indexAddr (q := adr a (i * 2)) Tryz.underlying66 Ty.sz103 rfl rfl (by omega) (by omega) ((hX (hS1.focus 1 rfl)).2.1 (by omega)) rfl) ?_
  refine WO.V (run_fa 0 (adr a (i * 2 + 0)) rfl (adr_add _ (by assumption) _ _)) ?_
  refine WO.V (run_load Ty.ag2 rfl ((hX (hS1.focus 1 rfl)).cell ((flat_get ptc_len hp (j := 0) (by decide)).trans rfl))) ?_
  refine WO.mv rfl rfl ?_
  refine WO.V (run_geq rfl rfl) ?_
  refine WO.mv rfl rfl ?_
  refine dcase (p := fr ≤ p.t) (fun g22 d22 => ?_) (fun g22 d22 => ?_)
  ·
   refine WO.on rfl rfl d22 ?_
   refine WO.mv rfl rfl ?_
   refine WO.on rfl rfl d22 ?_
   refine WO.mv rfl rfl ?_
   refine WO.on rfl rfl d22 ?_
   refine WO.V (run_indexAddr (q := adr a (i * 2)) Tryz.underlying66 Ty.sz103 rfl rfl (by omega) (by omega) ((hX (hS1.focus 1 rfl)).2.1 (by omega)) rfl) ?_
   refine WO.on rfl rfl d22 ?_
   refine WO.V (run_fa 0 (adr a (i * 2 + 0)) rfl (adr_add _ (by assumption) _ _)) ?_
   refine WO.on rfl rfl d22 ?_
   refine WO.V (run_load Ty.ag2 rfl ((hX (hS1.focus 1 rfl)).cell ((flat_get ptc_len hp (j := 0) (by decide)).trans rfl))) ?_
   refine WO.on rfl rfl d22 ?_
   refine WO.mv rfl rfl ?_
   refine WO.on rfl rfl d22 ?_
   refine WO.V (run_leq rfl rfl) ?_
   refine WO.V (run_pickT rfl d22 rfl) ?_
   refine WO.nil (NX.go ?_)
   refine WP.condP rfl (fun g30 => ?_) (fun g30 => ?_)
   ·
    refine WP.region rfl ?_
    refine WO.mv rfl rfl ?_
    refine WO.mv rfl rfl ?_
    refine WO.mv rfl rfl ?_
    refine WO.V (run_indexAddr (q := adr a (i * 2)) Tryz.underlying66 Ty.sz103 rfl rfl (by omega) (by omega) ((hX (hS1.focus 1 rfl)).2.1 (by omega)) rfl) ?_
    refine WO.V (run_loadAgg (vs := [Value.int .i64 p.t, Value.int .u64 p.v]) Ty.ag103 Ty.sz103 rfl ((hX (hS1.focus 1 rfl)).cells (by rw [flat_len ptc_len]; omega) (flat_part ptc_len hp)).1 ((hX (hS1.focus 1 rfl)).cells (by rw [flat_len ptc_len]; omega) (flat_part ptc_len hp)).2) ?_
    refine WO.buildSlice (l := [Value.int .i64 p.t, Value.int .u64 p.v]) hS1 Tryz.underlying66 rfl (fun w => by kernel_rfl) rfl (fun g3 w2 lg3 hS2 => ?_)
    clear hS1
    refine WO.append (news := [Value.int .i64 p.t, Value.int .u64 p.v]) 1 rfl Tryz.underlying66 Tryz.underlying66 (fun _ h => by cases h) Ty.sz103 (by decide) Ty.by103 Ty.zr103 rfl rfl rfl rfl hS2 rfl ((hS2.cel_rd 0 rfl (o := 0) (m := 1) (k := 2) rfl (Nat.le_of_ble_eq_true rfl)).src) (by simp [noAgg]) (by omega) (by omega) (fun a5 c6 w4 hS4 => ?_)
    replace hS4 : St B (cel g3 [Value.int .i64 p.t, Value.int .u64 p.v] 103 :: own a5 ((((l.take i).filter (inF fr to)).length) + 1) c6 103 2 ((((l.take i).filter (inF fr to)).flatMap ptc) ++ [Value.int .i64 p.t, Value.int .u64 p.v]) :: X :: L) w4 := hS4
    clear hS2
    refine WO.asg rfl rfl ?_
    refine WO.nil (NX.blk (NX.go (WP.region rfl ?_)))
    refine WO.mv rfl rfl ?_
    refine WO.V (run_add rfl rfl (IntWalk.i64_in _ (by omega))) ?_
    refine WO.asg rfl rfl ?_
    refine WO.nil ?_
    exact NX.again (i + 1, a5, c6) ⟨by omega, own_eqM (hS4.drop) (by rw [take_filter hp, if_pos (by simp [inF, g12, g22, g30] <;> omega)]; simp) (by rw [take_filter hp, if_pos (by simp [inF, g12, g22, g30] <;> omega)]; rw [flat_snoc]; rfl)⟩ (by show l.length - (i + 1) < l.length - i; omega) (Sub.cons rfl (Sub.cons rfl (Sub.cons rfl (Sub.consE rfl (by rw [take_filter hp, if_pos (by simp [inF, g12, g22, g30] <;> omega)]; simp) (Sub.consE rfl (by congr 1) (Sub.nil _))))))
   ·
    refine WP.skip (NX.blk (NX.go (WP.region rfl ?_)))
    refine WO.mv rfl rfl ?_
    refine WO.V (run_add rfl rfl (IntWalk.i64_in _ (by omega))) ?_
    refine WO.asg rfl rfl ?_
    refine WO.nil ?_
    exact NX.again (i + 1, oa, oc) ⟨by omega, own_eqM (hS1) (by rw [take_filter hp, if_neg (by simp [inF, g12, g22, g30] <;> omega)]) (by rw [take_filter hp, if_neg (by simp [inF, g12, g22, g30] <;> omega)])⟩ (by show l.length - (i + 1) < l.length - i; omega) (Sub.cons rfl (Sub.cons rfl (Sub.cons rfl (Sub.consE rfl (by rw [take_filter hp, if_neg (by simp [inF, g12, g22, g30] <;> omega)]) (Sub.consE rfl (by congr 1) (Sub.nil _))))))
  ·
   refine WO.off rfl rfl d22 rfl ?_
   refine WO.off rfl rfl d22 rfl ?_
   refine WO.off rfl rfl d22 rfl ?_
   refine WO.off rfl rfl d22 rfl ?_
   refine WO.off rfl rfl d22 rfl ?_
   refine WO.off rfl rfl d22 rfl ?_
   refine WO.off rfl rfl d22 rfl ?_
   refine WO.V (run_pickF rfl d22 rfl) ?_
   refine WO.nil (NX.go ?_)
   refine WP.condF rfl rfl ?_
   refine WP.skip (NX.blk (NX.go (WP.region rfl ?_)))
   refine WO.mv rfl rfl ?_
   refine WO.V (run_add rfl rfl (IntWalk.i64_in _ (by omega))) ?_
   refine WO.asg rfl rfl ?_
   refine WO.nil ?_
   exact NX.again (i + 1, oa, oc) ⟨by omega, own_eqM (hS1) (by rw [take_filter hp, if_neg (by simp [inF, g12, g22] <;> omega)]) (by rw [take_filter hp, if_neg (by simp [inF, g12, g22] <;> omega)])⟩ (by show l.length - (i + 1) < l.length - i; omega) (Sub.cons rfl (Sub.cons rfl (Sub.cons rfl (Sub.consE rfl (by rw [take_filter hp, if_neg (by simp [inF, g12, g22] <;> omega)]) (Sub.consE rfl (by congr 1) (Sub.nil _))))))
 ·
  refine WP.exit (NX.thenExit (NX.thenExit ?_))
  refine NX.blkExit ?_
  refine NX.go (WP.seq (WP.region rfl ?_))
  refine WO.mv rfl rfl ?_
  refine WO.asg rfl rfl ?_
  refine WO.nil (NX.go (WP.ret ?_))
  refine NX.done (l := [.tmp 6]) rfl rfl ?_
  have hil : l.take i = l := List.take_of_length_le (by omega)
  exact ⟨oa, oc, by rw [hil] at *; rfl, own_eqM (hS1) (by rw [hil]) (by rw [hil])⟩
end Go.Proofs.YtidoidoelgfnaaaGreatDoor.SL

/- The reference: rows by their labels. -/
namespace Go.Proofs.YtidoidoelgfnaaaGreatDoor.SL
open Go.RowKit Go.Proofs.YtidoidoelgfnaaaGreatDoor
open Go.Proofs.YtidoidoelgfnaaaGreatDoorW.PrintLast (rtab opsOf)
set_option linter.unusedVariables false
set_option linter.unusedSimpArgs false

def atR : List MRow → List Pr → Nat
  | [], _ => 0
  | r :: l, p => if cmpF r.lb.l p < 0 then atR l p + 1 else 0
def hasR (S : List MRow) (p : List Pr) : Bool := match S[atR S p]? with
  | some r => decide (r.lb.l = p)
  | none => false
theorem atR_le : ∀ (S : List MRow) (p : List Pr), atR S p ≤ S.length
  | [], _ => Nat.le_refl _
  | r :: l, p => by rw [atR]; split; (· have := atR_le l p; rw [List.length_cons]; omega); (· exact Nat.zero_le _)
def newR (lb : SlV Pr) (t : Int) : MRow := ⟨lb, t, ⟨none, [], 0⟩⟩
theorem addF_has : ∀ {S : List MRow} {p : List Pr} {r : MRow} {t : Int} {ps : List Pt} {q : SlV Pt}, hasR S p = true → S[atR S p]? = some r → q.l = r.pt.l ++ ps → (S.set (atR S p) ⟨r.lb, max r.last t, q⟩).map MRow.p = addF (S.map MRow.p) p t ps
  | [], p, r, t, ps, q, h, h1, _ => by simp at h1
  | z :: l, p, r, t, ps, q, h, h1, hq => by
    rw [List.map_cons, addF]
    by_cases c : cmpF z.lb.l p < 0
    · have e : atR (z :: l) p = atR l p + 1 := by rw [atR, if_pos c]
      have hh : hasR l p = true := by unfold hasR at h ⊢; rw [e, List.getElem?_cons_succ] at h; exact h
      rw [e, List.getElem?_cons_succ] at h1
      rw [e, List.set_cons_succ, List.map_cons, if_pos (show cmpF z.p.lb p < 0 from c), addF_has hh h1 hq]
    · have e : atR (z :: l) p = 0 := by rw [atR, if_neg c]
      unfold hasR at h
      rw [e] at h h1
      simp at h1; subst h1
      simp at h
      have e2 : cmpF z.p.lb p = 0 := by show cmpF z.lb.l p = 0; rw [h, cmp_self]
      rw [e, if_neg (show ¬ cmpF z.p.lb p < 0 from c), if_pos e2]
      simp [MRow.p, hq]
theorem addF_new : ∀ {S : List MRow} {lb : SlV Pr} {t : Int} {ps : List Pt} {q : SlV Pt}, hasR S lb.l = false → q.l = ps → ((S.take (atR S lb.l) ++ newR lb t :: S.drop (atR S lb.l)).set (atR S lb.l) ⟨lb, max t t, q⟩).map MRow.p = addF (S.map MRow.p) lb.l t ps
  | [], lb, t, ps, q, h, hq => by simp [addF, atR, MRow.p, hq, Int.max_self]
  | z :: l, lb, t, ps, q, h, hq => by
    rw [List.map_cons, addF]
    by_cases c : cmpF z.lb.l lb.l < 0
    · have e : atR (z :: l) lb.l = atR l lb.l + 1 := by rw [atR, if_pos c]
      have hh : hasR l lb.l = false := by unfold hasR at h ⊢; rw [e, List.getElem?_cons_succ] at h; exact h
      rw [e, List.take_succ_cons, List.drop_succ_cons, List.cons_append, List.set_cons_succ, List.map_cons, if_pos (show cmpF z.p.lb lb.l < 0 from c), addF_new hh hq]
    · have e : atR (z :: l) lb.l = 0 := by rw [atR, if_neg c]
      unfold hasR at h
      rw [e] at h
      simp at h
      have e2 : ¬ cmpF z.p.lb lb.l = 0 := fun k => h (cmp_zero k)
      rw [e, if_neg (show ¬ cmpF z.p.lb lb.l < 0 from c), if_neg e2]
      simp [MRow.p, hq, Int.max_self]
theorem has_some {S : List MRow} {p : List Pr} (h : hasR S p = true) : ∃ r, S[atR S p]? = some r := by
  unfold hasR at h
  cases hq : S[atR S p]? with
  | none => rw [hq] at h; cases h
  | some r => exact ⟨r, rfl⟩
theorem maxI (a b : Int) : (if b > a then b else a) = max a b := by rw [Int.max_def]; split <;> split <;> omega
theorem rat_spec {B w : World} {L : List HP} {X Y : HP} {a b : Option Addr} {cap cap2 : Nat} {S : List MRow} {p : List Pr} (hX : ∀ {L : List HP} {w : World}, St B (X :: L) w → Rd w a S.length 3 (S.flatMap mrc)) (hY : ∀ {L : List HP} {w : World}, St B (Y :: L) w → Rd w b p.length 2 (p.flatMap prc)) (hs : S.length ≤ 140737488355328) (hsz : ∀ r ∈ S, r.lb.l.length ≤ 4398046511104) (hp : p.length ≤ 4398046511104) (hS : St B (X :: allA mrA S :: Y :: L) w) : Does Tryz.prog 48 [Value.slice a S.length cap, Value.slice b p.length cap2] w (fun v w1 => v = .tuple #[.int .i64 (atR S p : Int), .bool (hasR S p)] ∧ St B (X :: allA mrA S :: Y :: L) w1) := by
 refine enter (n := 37) Tryz.func48 rfl rfl [Value.slice a S.length cap, Value.slice b p.length cap2] rfl ?_
 refine WP.seq (WP.region rfl ?_)
 refine WO.asg rfl rfl ?_
 refine WO.asg rfl rfl ?_
 refine WO.nil (NX.go (WP.seq (WP.region rfl ?_)))
 refine WO.asg rfl rfl ?_
 refine WO.nil (NX.go (WP.seq (WP.block ?_)))
 refine WP.loop (α := Nat) (fun x => match x with | i => [(0, Value.slice a S.length cap), (1, Value.slice b p.length cap2), (6, Value.int .i64 (i : Int))]) (fun x w => match x with | i => (i ≤ S.length ∧ atR S p = i + atR (S.drop i) p) ∧ St B (X :: allA mrA S :: Y :: L) w) (fun x => match x with | i => S.length - i) 0 ⟨⟨Nat.zero_le _, (Nat.zero_add _).symm⟩, hS⟩ (Sub.cons rfl (Sub.cons rfl (Sub.consE rfl (by first | rfl | first | rfl | (congr 1; omega) | (simp; done) | (simp; omega)) (Sub.nil _)))) ?_
 rintro i w1 ⟨⟨hi, hgo⟩, hS1⟩
 clear hS
 refine WP.seq (WP.seq (WP.region rfl ?_))
 refine WO.mv rfl rfl ?_
 refine WO.mv rfl rfl ?_
 refine WO.V (run_len rfl Tryz.underlying49 rfl) ?_
 refine WO.V (run_lss rfl rfl) ?_
 refine WO.mv rfl rfl ?_
 refine dcase (p := (i : Int) < ((S.length : Nat) : Int)) (fun g11 d11 => ?_) (fun g11 d11 => ?_)
 ·
  obtain ⟨r, hr⟩ : ∃ r, S[i]? = some r := ⟨_, List.getElem?_eq_getElem (by omega)⟩
  have hsa : a.isSome = true := rd_isSome (hX (hS1.focus 0 rfl)) (by omega)
  refine WO.on rfl rfl d11 ?_
  refine WO.mv rfl rfl ?_
  refine WO.on rfl rfl d11 ?_
  refine WO.mv rfl rfl ?_
  refine WO.on rfl rfl d11 ?_
  refine WO.V (run_indexAddr (q := adr a (i * 3)) Tryz.underlying49 Ty.sz99 rfl rfl (by omega) (by omega) ((hX (hS1.focus 0 rfl)).2.1 (by omega)) rfl) ?_
  refine WO.on rfl rfl d11 ?_
  refine WO.V (run_fa 0 (adr a (i * 3 + 0)) rfl (adr_add _ (by assumption) _ _)) ?_
  refine WO.on rfl rfl d11 ?_
  refine WO.V (run_load Ty.ag65 rfl ((hX (hS1.focus 0 rfl)).cell ((flat_get mrc_len hr (j := 0) (by decide)).trans rfl))) ?_
  refine WO.on rfl rfl d11 ?_
  refine WO.mv rfl rfl ?_
  refine WO.on rfl rfl d11 ?_
  have hS2 := mrA_get (List.mem_of_getElem? hr) (hS1.permT [1] (L' := allA mrA S :: X :: Y :: L) rfl)
  clear hS1
  have hS3 := hS2.permT [0, 3] (L' := (labA r.lb) :: Y :: (ptsA r.pt) :: allA mrA S :: X :: L) rfl
  clear hS2
  refine WO.call rfl rfl Ty.hd82 rfl (rcmp_spec rdH_rd hY (hsz r (List.mem_of_getElem? hr)) hp hS3) (fun v5 w4 pv5 => ?_)
  obtain ⟨rfl, hS4⟩ := pv5
  clear hS3
  refine WO.on rfl rfl d11 ?_
  refine WO.V (run_lss rfl rfl) ?_
  refine WO.V (run_pickT rfl d11 rfl) ?_
  refine WO.nil (NX.go ?_)
  refine WP.condP rfl (fun g20 => ?_) (fun g20 => ?_)
  ·
   refine WP.skip (NX.go (WP.block (WP.region rfl ?_)))
   refine WO.mv rfl rfl ?_
   refine WO.V (run_add rfl rfl (IntWalk.i64_in _ (by omega))) ?_
   refine WO.asg rfl rfl ?_
   refine WO.nil (NX.blk ?_)
   exact NX.again (i + 1) ⟨⟨by omega, by rw [drop_cons hr, atR, if_pos g20] at hgo; omega⟩, ((hS4.mask [false, true, false] (L' := Y :: allA mrA S :: X :: L) rfl).permT [2, 1] (L' := X :: allA mrA S :: Y :: L) rfl)⟩ (by show S.length - (i + 1) < S.length - i; omega) (Sub.cons rfl (Sub.cons rfl (Sub.consE rfl (by congr 1) (Sub.nil _))))
  ·
   refine WP.exit (NX.thenExit (NX.thenExit ?_))
   refine NX.blkExit ?_
   refine NX.go (WP.seq (WP.region rfl ?_))
   refine WO.mv rfl rfl ?_
   refine WO.mv rfl rfl ?_
   refine WO.mv rfl rfl ?_
   refine WO.V (run_len rfl Tryz.underlying49 rfl) ?_
   refine WO.V (run_lss rfl rfl) ?_
   refine WO.mv rfl rfl ?_
   refine dcase (p := (i : Int) < ((S.length : Nat) : Int)) (fun g28 d28 => ?_) (fun g28 d28 => ?_)
   ·
    refine WO.on rfl rfl d28 ?_
    refine WO.mv rfl rfl ?_
    refine WO.on rfl rfl d28 ?_
    refine WO.mv rfl rfl ?_
    refine WO.on rfl rfl d28 ?_
    refine WO.V (run_indexAddr (q := adr a (i * 3)) Tryz.underlying49 Ty.sz99 rfl rfl (by omega) (by omega) ((hX (hS4.focus 4 rfl)).2.1 (by omega)) rfl) ?_
    refine WO.on rfl rfl d28 ?_
    refine WO.V (run_fa 0 (adr a (i * 3 + 0)) rfl (adr_add _ (by assumption) _ _)) ?_
    refine WO.on rfl rfl d28 ?_
    refine WO.V (run_load Ty.ag65 rfl ((hX (hS4.focus 4 rfl)).cell ((flat_get mrc_len hr (j := 0) (by decide)).trans rfl))) ?_
    refine WO.on rfl rfl d28 ?_
    refine WO.mv rfl rfl ?_
    refine WO.on rfl rfl d28 ?_
    have hS6 := mrA_get (List.mem_of_getElem? hr) (hS4.permT [3] (L' := allA mrA S :: (labA r.lb) :: Y :: (ptsA r.pt) :: X :: L) rfl)
    clear hS4
    have hS7 := hS6.permT [0, 3] (L' := (labA r.lb) :: Y :: (ptsA r.pt) :: allA mrA S :: (labA r.lb) :: (ptsA r.pt) :: X :: L) rfl
    clear hS6
    refine WO.call rfl rfl Ty.hd45 rfl (rsame_spec rdH_rd hY (hsz r (List.mem_of_getElem? hr)) hp hS7) (fun v9 w8 pv9 => ?_)
    obtain ⟨rfl, hS8⟩ := pv9
    clear hS7
    refine WO.V (run_pickT rfl d28 rfl) ?_
    refine WO.asg rfl rfl ?_
    refine WO.asg rfl rfl ?_
    refine WO.nil (NX.go (WP.ret ?_))
    refine NX.done (l := [.tmp 4, .tmp 5]) rfl rfl ?_
    have hat : atR S p = i := by rw [hgo, drop_cons hr, atR, if_neg g20]; rfl
    have hhas : hasR S p = decide (r.lb.l = p) := by unfold hasR; rw [hat, hr]
    exact ⟨by rw [hat, hhas]; rfl, ((hS8.mask [false, true, false, true, false, false] (L' := Y :: allA mrA S :: X :: L) rfl).permT [2, 1] (L' := X :: allA mrA S :: Y :: L) rfl)⟩
   ·
    exact absurd g11 g28
 ·
  refine WO.off rfl rfl d11 rfl ?_
  refine WO.off rfl rfl d11 rfl ?_
  refine WO.off rfl rfl d11 rfl ?_
  refine WO.off rfl rfl d11 rfl ?_
  refine WO.off rfl rfl d11 rfl ?_
  refine WO.off rfl rfl d11 rfl ?_
  refine WO.off rfl rfl d11 rfl ?_
  refine WO.off rfl rfl d11 rfl ?_
  refine WO.V (run_pickF rfl d11 rfl) ?_
  refine WO.nil (NX.go ?_)
  refine WP.condF rfl rfl ?_
  refine WP.exit (NX.thenExit (NX.thenExit ?_))
  refine NX.blkExit ?_
  refine NX.go (WP.seq (WP.region rfl ?_))
  refine WO.mv rfl rfl ?_
  refine WO.mv rfl rfl ?_
  refine WO.mv rfl rfl ?_
  refine WO.V (run_len rfl Tryz.underlying49 rfl) ?_
  refine WO.V (run_lss rfl rfl) ?_
  refine WO.mv rfl rfl ?_
  refine dcase (p := (i : Int) < ((S.length : Nat) : Int)) (fun g28 d28 => ?_) (fun g28 d28 => ?_)
  ·
   exact absurd g28 g11
  ·
   refine WO.off rfl rfl d28 rfl ?_
   refine WO.off rfl rfl d28 rfl ?_
   refine WO.off rfl rfl d28 rfl ?_
   refine WO.off rfl rfl d28 rfl ?_
   refine WO.off rfl rfl d28 rfl ?_
   refine WO.off rfl rfl d28 rfl ?_
   refine WO.off rfl rfl d28 rfl ?_
   refine WO.V (run_pickF rfl d28 rfl) ?_
   refine WO.asg rfl rfl ?_
   refine WO.asg rfl rfl ?_
   refine WO.nil (NX.go (WP.ret ?_))
   refine NX.done (l := [.tmp 4, .tmp 5]) rfl rfl ?_
   have hat : atR S p = i := by rw [hgo, List.drop_of_length_le (by omega)]; rfl
   have hhas : hasR S p = false := by unfold hasR; rw [hat, List.getElem?_eq_none (by omega)]
   exact ⟨by rw [hat, hhas]; rfl, hS1⟩
end Go.Proofs.YtidoidoelgfnaaaGreatDoor.SL

/- The reference: a row is added. -/
namespace Go.Proofs.YtidoidoelgfnaaaGreatDoor.SL
open Go.RowKit Go.Proofs.YtidoidoelgfnaaaGreatDoor
open Go.Proofs.YtidoidoelgfnaaaGreatDoorW.PrintLast (rtab opsOf)
set_option linter.unusedVariables false
set_option linter.unusedSimpArgs false

theorem mrA_new {B w : World} {L : List HP} {lb : SlV Pr} (t : Int) (h : St B (labA lb :: L) w) : St B (mrA (newR lb t) :: labA lb :: L) w := by
  have h1 := St.dup (labA_pers lb) h
  have h2 : St B (ptsA (newR lb t).pt :: labA lb :: labA lb :: L) w := rdH_zero rfl h1
  exact (h2.permT [1, 0, 0] (L' := labA lb :: ptsA (newR lb t).pt :: labA lb :: L) rfl).join
theorem mrs_mid {B w : World} {L : List HP} {S S1 : List MRow} {lb : SlV Pr} {t : Int} (hm : ∀ x ∈ S1, x ∈ newR lb t :: S) (h : St B (allA mrA S :: labA lb :: L) w) : St B (allA mrA S1 :: labA lb :: L) w := by
  have h1 := mrA_new t (h.permT [1, 0] (L' := labA lb :: allA mrA S :: L) rfl)
  have h2 : St B (allA mrA (newR lb t :: S) :: labA lb :: L) w := (h1.permT [0, 1, 0] (L' := mrA (newR lb t) :: allA mrA S :: labA lb :: L) rfl).join
  have h3 := allA_sub mrA_pers hm h2
  exact (h3.permT [1, 0, 0] (L' := allA mrA (newR lb t :: S) :: allA mrA S1 :: labA lb :: L) rfl).drop
theorem mrs_put {B w : World} {L : List HP} {S1 S2 : List MRow} {r : MRow} {lb : SlV Pr} (hr : r.lb = lb) (hm : ∀ x ∈ S2, x ∈ r :: S1) (h : St B (allA mrA S1 :: ptsA r.pt :: labA lb :: L) w) : St B (allA mrA S2 :: labA lb :: L) w := by
  subst hr
  have h1 := St.dup (labA_pers r.lb) (h.permT [2, 0, 0] (L' := labA r.lb :: allA mrA S1 :: ptsA r.pt :: L) rfl)
  have h2 : St B (mrA r :: allA mrA S1 :: labA r.lb :: L) w := (h1.permT [0, 2, 1, 0] (L' := labA r.lb :: ptsA r.pt :: allA mrA S1 :: labA r.lb :: L) rfl).join
  have h3 : St B (allA mrA (r :: S1) :: labA r.lb :: L) w := h2.join
  have h4 := allA_sub mrA_pers hm h3
  exact (h4.permT [1, 0, 0] (L' := allA mrA (r :: S1) :: allA mrA S2 :: labA r.lb :: L) rfl).drop
theorem mem_mid {S : List MRow} {i : Nat} {z x : MRow} (h : x ∈ S.take i ++ z :: S.drop i) : x ∈ z :: S := by
  rcases List.mem_append.1 h with h | h
  · exact List.mem_cons_of_mem _ (List.mem_of_mem_take h)
  · rcases List.mem_cons.1 h with h | h
    · rw [h]; simp
    · exact List.mem_cons_of_mem _ (List.mem_of_mem_drop h)
theorem mem_set2 {S : List MRow} {i : Nat} {z x : MRow} (h : x ∈ S.set i z) : x ∈ z :: S := by
  rcases List.mem_or_eq_of_mem_set h with h | h
  · exact List.mem_cons_of_mem _ h
  · rw [h]; simp
theorem mid_at {S : List MRow} {i : Nat} {z : MRow} (h : i ≤ S.length) : (S.take i ++ z :: S.drop i)[i]? = some z := by
  rw [List.getElem?_append_right (by rw [List.length_take]; omega), List.length_take, Nat.min_eq_left h, Nat.sub_self]; rfl
theorem mid_len {S : List MRow} {i : Nat} {z : MRow} (h : i ≤ S.length) : (S.take i ++ z :: S.drop i).length = S.length + 1 := by
  rw [List.length_append, List.length_cons, List.length_take, List.length_drop]; omega
/-- The labels of rows that are added stay among those that were there. -/
theorem szMid {S : List MRow} {x : MRow} {i : Nat} {P : SlV Pr → Prop} (hs : ∀ r ∈ S, P r.lb) (hx : P x.lb) {t : Int} : ∀ r ∈ S.take i ++ newR x.lb t :: S.drop i, P r.lb := fun r h => by
  rcases List.mem_cons.1 (mem_mid h) with e | h
  · rw [e]; exact hx
  · exact hs r h
theorem szSet {S : List MRow} {z : MRow} {i : Nat} {P : SlV Pr → Prop} (hs : ∀ r ∈ S, P r.lb) (hx : P z.lb) : ∀ r ∈ S.set i z, P r.lb := fun r h => by
  rcases List.mem_cons.1 (mem_set2 h) with e | h
  · rw [e]; exact hx
  · exact hs r h

theorem midM {S : List MRow} {i M : Nat} {lb : SlV Pr} {t : Int} (h : ∀ r ∈ S, r.pt.l.length ≤ M) : ∀ r ∈ S.take i ++ newR lb t :: S.drop i, r.pt.l.length ≤ M := fun r hr => by
  rcases List.mem_cons.1 (mem_mid hr) with e | hr
  · rw [e]; exact Nat.zero_le _
  · exact h r hr
theorem setM {S : List MRow} {i M k : Nat} {z : MRow} (h : ∀ r ∈ S, r.pt.l.length ≤ M) (hz : z.pt.l.length ≤ M + k) : ∀ r ∈ S.set i z, r.pt.l.length ≤ M + k := fun r hr => by
  rcases List.mem_cons.1 (mem_set2 hr) with e | hr
  · rw [e]; exact hz
  · exact Nat.le_trans (h r hr) (Nat.le_add_right _ _)
theorem mrs_put2 {B w : World} {L : List HP} {S1 S2 : List MRow} {r : MRow} (hm : ∀ x ∈ S2, x ∈ r :: S1) (h : St B (allA mrA S1 :: ptsA r.pt :: labA r.lb :: L) w) : St B (allA mrA S2 :: L) w := by
  have h1 := mrs_put rfl hm h
  exact (h1.permT [1, 0] (L' := labA r.lb :: allA mrA S2 :: L) rfl).drop
theorem t62_4 : rtab .any (opsOf Tryz.f62 4) = (true, [([], []), ([], []), ([], []), ([], []), ([2, 3], [2, 3]), ([4], [4]), ([5], [5]), ([], []), ([7], [7]), ([6, 8], [6, 8]), ([0, 1, 0, 1, 2, 3, 4, 5, 6, 7, 8, 9], [0, 1]), ([10, 0, 1, 2, 3, 4, 5, 6, 7, 8, 9], [10]), ([11, 9, 0, 1, 2, 3, 4, 5, 6, 7, 8, 9], [9, 11])]) := by kernel_rfl
theorem t62_3 : rtab .any (opsOf Tryz.f62 3) = (true, [([], []), ([], []), ([], []), ([1, 2], [1, 2]), ([0, 3], [0, 3]), ([], []), ([5], [5]), ([], []), ([7], [7]), ([6, 8], [6, 8]), ([9], [9]), ([4, 10, 4], [4, 10]), ([], []), ([], []), ([12, 13], [12, 13]), ([11, 14, 11], [11, 14]), ([15, 15, 0, 1, 2, 3, 4, 5, 6, 7, 8, 9, 10, 11, 12, 13, 14, 15], [1, 12, 15])]) := by kernel_rfl
theorem radd_spec {B w : World} {L : List HP} {Y : HP} {a b : Option Addr} {cap cap2 M : Nat} {S : List MRow} {ps : List Pt} (hY : ∀ {L : List HP} {w : World}, St B (Y :: L) w → Rd w b ps.length 2 (ps.flatMap ptc)) (u : MRow) (hs : S.length ≤ 1099511627776) (hsz : ∀ r ∈ S, r.lb.l.length ≤ 4398046511104) (hx : u.lb.l.length ≤ 4398046511104) (hM : ∀ r ∈ S, r.pt.l.length ≤ M) (hM2 : M + ps.length ≤ 4398046511104) (hS : St B (own a S.length cap 99 3 (S.flatMap mrc) :: allA mrA S :: (labA u.lb) :: Y :: L) w) : Does Tryz.prog 62 [Value.slice a S.length cap, Value.agg #[Value.slice u.lb.a u.lb.l.length u.lb.cap, Value.int .i64 u.last, Value.slice u.pt.a u.pt.l.length u.pt.cap], Value.slice b ps.length cap2] w (fun v w1 => ∃ a1 c1, ∃ S1 : List MRow, v = .slice a1 S1.length c1 ∧ S1.map MRow.p = addF (S.map MRow.p) u.lb.l u.last ps ∧ S1.length ≤ S.length + 1 ∧ (∀ r ∈ S1, r.lb.l.length ≤ 4398046511104) ∧ (∀ r ∈ S1, r.pt.l.length ≤ M + ps.length) ∧ St B (own a1 S1.length c1 99 3 (S1.flatMap mrc) :: allA mrA S1 :: labA u.lb :: Y :: L) w1) := by
 have hi0 := atR_le S u.lb.l
 refine enter (n := 60) Tryz.func62 rfl rfl [Value.slice a S.length cap, Value.agg #[Value.slice u.lb.a u.lb.l.length u.lb.cap, Value.int .i64 u.last, Value.slice u.pt.a u.pt.l.length u.pt.cap], Value.slice b ps.length cap2] rfl ?_
 refine WP.seq (WP.region rfl ?_)
 refine WO.box (l := [Value.slice u.lb.a u.lb.l.length u.lb.cap, Value.int .i64 u.last, Value.slice u.pt.a u.pt.l.length u.pt.cap]) hS rfl rfl rfl (fun g2 w1 lg2 hS1 => ?_)
 clear hS
 refine WO.asg rfl rfl ?_
 refine WO.nil (NX.go (WP.seq (WP.region rfl ?_)))
 refine WO.mv rfl rfl ?_
 refine WO.V (run_fa 0 ⟨g2, 0, none⟩ rfl rfl) ?_
 refine WO.V (run_load Ty.ag65 rfl ((hS1.cel_at 0 rfl 0).trans rfl)) ?_
 have hS3 := hS1.permT [1, 1, 1] (L' := own a S.length cap 99 3 (S.flatMap mrc) :: allA mrA S :: (labA u.lb) :: cel g2 [Value.slice u.lb.a u.lb.l.length u.lb.cap, Value.int .i64 u.last, Value.slice u.pt.a u.pt.l.length u.pt.cap] 99 :: Y :: L) rfl
 clear hS1
 refine WO.call rfl rfl Ty.hd48 rfl (rat_spec (X := own a S.length cap 99 3 (S.flatMap mrc)) (fun h => h.own_rd.1) rdH_rd (by omega) hsz hx hS3) (fun v5 w4 pv5 => ?_)
 obtain ⟨rfl, hS4⟩ := pv5
 clear hS3
 refine WO.mv rfl rfl ?_
 refine WO.V (run_extract rfl rfl) ?_
 refine WO.V (run_extract rfl rfl) ?_
 refine WO.asg rfl rfl ?_
 refine WO.asg rfl rfl ?_
 refine WO.nil (NX.go (WP.seq (WP.seq (WP.region rfl ?_))))
 refine WO.mv rfl rfl ?_
 refine WO.V (run_not rfl rfl) ?_
 refine WO.nil (NX.go ?_)
 refine WP.meet (α := List MRow × Option Addr × Nat × MRow) (fun x => match x with | ⟨S1, a1, c1, r1⟩ => [(0, Value.slice a1 S1.length c1), (2, Value.slice b ps.length cap2), (4, Value.pointer (some ⟨g2, 0, none⟩)), (7, Value.int .i64 ((atR S u.lb.l : Nat) : Int))]) (fun x w => match x with | ⟨S1, a1, c1, r1⟩ => (S1[(atR S u.lb.l)]? = some r1 ∧ (atR S u.lb.l) ≤ S1.length ∧ (∀ r ∈ S1, r.lb.l.length ≤ 4398046511104) ∧ (∀ r ∈ S1, r.pt.l.length ≤ M) ∧ (∀ q : SlV Pt, q.l = r1.pt.l ++ ps → (S1.set (atR S u.lb.l) ⟨r1.lb, max r1.last u.last, q⟩).map MRow.p = addF (S.map MRow.p) u.lb.l u.last ps) ∧ S1.length ≤ S.length + 1) ∧ St B (own a1 S1.length c1 99 3 (S1.flatMap mrc) :: allA mrA S1 :: cel g2 [Value.slice u.lb.a u.lb.l.length u.lb.cap, Value.int .i64 u.last, Value.slice u.pt.a u.pt.l.length u.pt.cap] 99 :: (labA u.lb) :: Y :: L) w) ?_ (fun K6 => ?_)
 ·
  rintro ⟨S1, a1, c1, r1⟩ w7 ⟨⟨hr1, hi1, hsz1, hM1, hadd, hn1⟩, hS7⟩
  clear hS4
  refine NX.go (WP.seq ?_)
  have hlt1 := (List.getElem?_eq_some_iff.1 hr1).1
  have hsa : a1.isSome = true := rd_isSome ((hS7.focus 0 rfl).own_rd.1) (by omega)
  refine WD.start (fun w => Rd w a1 S1.length 3 (S1.flatMap mrc) ∧ (∀ jz, World.cell? w ⟨g2, jz, none⟩ = [Value.slice u.lb.a u.lb.l.length u.lb.cap, Value.int .i64 u.last, Value.slice u.pt.a u.pt.l.length u.pt.cap][jz]?) ∧ Rd w u.lb.a u.lb.l.length 2 (u.lb.l.flatMap prc) ∧ Rd w b ps.length 2 (ps.flatMap ptc)) [12] (bt 13 0) Ty.mo rfl (by kernel_rfl) hS7 (fun _ h => ⟨(h.own_rd_i 0 rfl), h.cel_at 2 rfl, (rdH_rd (h.focus 3 rfl)), (hY (h.focus 4 rfl))⟩) (fun w8 hS8 s9 => ?_)
  clear hS7
  refine DP (i := 0) t62_4 (bt 13 1) rfl rfl rfl rfl (fun w => run_move rfl) ?_
  refine DP (i := 1) t62_4 (bt 13 3) rfl rfl rfl rfl (fun w => run_move rfl) ?_
  refine DP (i := 2) t62_4 (bt 13 7) rfl rfl rfl rfl (fun w => run_move rfl) ?_
  refine DP (i := 3) t62_4 (bt 13 15) rfl rfl rfl rfl (fun w => run_move rfl) ?_
  refine DT (i := 4) t62_4 (bt 13 31) s9 rfl rfl rfl rfl (fun w hs => run_indexAddr (q := adr a1 ((atR S u.lb.l) * 3)) Tryz.underlying49 Ty.sz99 rfl rfl (by omega) (by omega) ((hs.1).2.1 (by omega)) rfl) ?_
  refine DP (i := 5) t62_4 (bt 13 63) rfl rfl rfl rfl (fun w => run_fa 1 (adr a1 ((atR S u.lb.l) * 3 + 1)) rfl (adr_add _ (by assumption) _ _)) ?_
  refine DT (i := 6) t62_4 (bt 13 127) s9 rfl rfl rfl rfl (fun w hs => run_load Ty.ag2 rfl ((hs.1).cell ((flat_get mrc_len hr1 (j := 1) (by decide)).trans rfl))) ?_
  refine DP (i := 7) t62_4 (bt 13 255) rfl rfl rfl rfl (fun w => run_fa 1 ⟨g2, 1, none⟩ rfl rfl) ?_
  refine DT (i := 8) t62_4 (bt 13 511) s9 rfl rfl rfl rfl (fun w hs => run_load Ty.ag2 rfl ((hs.2.1 1).trans rfl)) ?_
  refine DP (i := 9) t62_4 (bt 13 1023) rfl rfl rfl rfl (fun w => run_max rfl (maxI _ _)) ?_
  refine DT (i := 10) t62_4 (bt 13 2047) s9 rfl rfl rfl rfl (fun w hs => run_indexAddr (q := adr a1 ((atR S u.lb.l) * 3)) Tryz.underlying49 Ty.sz99 rfl rfl (by omega) (by omega) ((hs.1).2.1 (by omega)) rfl) ?_
  refine DP (i := 11) t62_4 (bt 13 4095) rfl rfl rfl rfl (fun w => run_fa 1 (adr a1 ((atR S u.lb.l) * 3 + 1)) rfl (adr_add _ (by assumption) _ _)) ?_
  refine WD.one (i := 12) t62_4 (bt 13 8191) rfl (by kernel_rfl) ?_
  refine WO.storeOwnAt 0 hS8 rfl Ty.sz2 rfl rfl rfl rfl (by rw [flat_len mrc_len]; omega) (fun w10 hS10 => ?_)
  replace hS10 : St B (own a1 S1.length c1 99 3 ((S1.set (atR S u.lb.l) (⟨r1.lb, max r1.last u.last, r1.pt⟩ : MRow)).flatMap mrc) :: allA mrA S1 :: cel g2 [Value.slice u.lb.a u.lb.l.length u.lb.cap, Value.int .i64 u.last, Value.slice u.pt.a u.pt.l.length u.pt.cap] 99 :: (labA u.lb) :: Y :: L) w10 := (by have z := hS10; rw [flat_set mrc_len hr1 (j := 1) (y := (⟨r1.lb, max r1.last u.last, r1.pt⟩ : MRow)) (by decide) rfl] at z; exact z)
  clear hS8
  refine WO.nil ?_
  refine NX.last (by decide) ?_
  refine WD.done t62_4 (by kernel_rfl) ?_
  refine NX.go (WP.seq ?_)
  have hr2 : (S1.set (atR S u.lb.l) (⟨r1.lb, max r1.last u.last, r1.pt⟩ : MRow))[(atR S u.lb.l)]? = some (⟨r1.lb, max r1.last u.last, r1.pt⟩ : MRow) := by rw [List.getElem?_set_self hlt1]
  have hlen2 : (S1.set (atR S u.lb.l) (⟨r1.lb, max r1.last u.last, r1.pt⟩ : MRow)).length = S1.length := List.length_set ..
  have hpl := hM1 r1 (List.mem_of_getElem? hr1)
  refine WP.region rfl ?_
  refine WO.mv rfl rfl ?_
  refine WO.mv rfl rfl ?_
  refine WO.buildSlice (l := []) hS10 Tryz.underlying66 rfl (fun w => by kernel_rfl) rfl (fun g12 w11 lg12 hS11 => ?_)
  clear hS10
  have hS11 := hS11.own_of_cel (m := 0) (k := 2) rfl
  refine WO.mv rfl rfl ?_
  refine WO.mv rfl rfl ?_
  refine WO.V (run_indexAddr (q := adr a1 ((atR S u.lb.l) * 3)) Tryz.underlying49 Ty.sz99 rfl rfl (by omega) (by omega) ((hS11.own_rd_i 1 rfl).2.1 (by omega)) rfl) ?_
  refine WO.V (run_fa 2 (adr a1 ((atR S u.lb.l) * 3 + 2)) rfl (adr_add _ (by assumption) _ _)) ?_
  refine WO.V (run_load Ty.ag66 rfl ((hS11.own_rd_i 1 rfl).cell ((flat_get mrc_len hr2 (j := 2) (by decide)).trans rfl))) ?_
  have hS13 := mrA_get (List.mem_of_getElem? hr1) (hS11.permT [2] (L' := allA mrA S1 :: own (some ⟨g12, 0, none⟩) 0 0 103 2 [] :: own a1 S1.length c1 99 3 ((S1.set (atR S u.lb.l) (⟨r1.lb, max r1.last u.last, r1.pt⟩ : MRow)).flatMap mrc) :: cel g2 [Value.slice u.lb.a u.lb.l.length u.lb.cap, Value.int .i64 u.last, Value.slice u.pt.a u.pt.l.length u.pt.cap] 99 :: (labA u.lb) :: Y :: L) rfl)
  clear hS11
  refine WO.append (news := (r1.pt.l.flatMap ptc)) 3 rfl Tryz.underlying66 Tryz.underlying66 (fun _ h => by cases h) Ty.sz103 (by decide) Ty.by103 Ty.zr103 rfl rfl rfl rfl hS13 rfl ((rdH_rd (hS13.focus 1 rfl)).src) (flat_noAgg ptc_na _) (by omega) (by omega) (fun a15 c16 w14 hS14 => ?_)
  replace hS14 : St B ((labA r1.lb) :: (ptsA r1.pt) :: allA mrA S1 :: own a15 (0 + r1.pt.l.length) c16 103 2 ([] ++ (r1.pt.l.flatMap ptc)) :: own a1 S1.length c1 99 3 ((S1.set (atR S u.lb.l) (⟨r1.lb, max r1.last u.last, r1.pt⟩ : MRow)).flatMap mrc) :: cel g2 [Value.slice u.lb.a u.lb.l.length u.lb.cap, Value.int .i64 u.last, Value.slice u.pt.a u.pt.l.length u.pt.cap] 99 :: (labA u.lb) :: Y :: L) w14 := hS14
  clear hS13
  refine WO.mv rfl rfl ?_
  refine WO.append (news := (ps.flatMap ptc)) 3 rfl Tryz.underlying66 Tryz.underlying66 (fun _ h => by cases h) Ty.sz103 (by decide) Ty.by103 Ty.zr103 rfl rfl rfl rfl hS14 rfl ((hY (hS14.focus 7 rfl)).src) (flat_noAgg ptc_na _) (by omega) (by omega) (fun a18 c19 w17 hS17 => ?_)
  replace hS17 : St B ((labA r1.lb) :: (ptsA r1.pt) :: allA mrA S1 :: own a18 ((0 + r1.pt.l.length) + ps.length) c19 103 2 (([] ++ (r1.pt.l.flatMap ptc)) ++ (ps.flatMap ptc)) :: own a1 S1.length c1 99 3 ((S1.set (atR S u.lb.l) (⟨r1.lb, max r1.last u.last, r1.pt⟩ : MRow)).flatMap mrc) :: cel g2 [Value.slice u.lb.a u.lb.l.length u.lb.cap, Value.int .i64 u.last, Value.slice u.pt.a u.pt.l.length u.pt.cap] 99 :: (labA u.lb) :: Y :: L) w17 := hS17
  clear hS14
  refine WO.V (run_indexAddr (q := adr a1 ((atR S u.lb.l) * 3)) Tryz.underlying49 Ty.sz99 rfl rfl (by omega) (by omega) ((hS17.own_rd_i 4 rfl).2.1 (by omega)) rfl) ?_
  refine WO.V (run_fa 2 (adr a1 ((atR S u.lb.l) * 3 + 2)) rfl (adr_add _ (by assumption) _ _)) ?_
  refine WO.storeOwnAt 4 hS17 rfl Ty.sz66 rfl rfl rfl rfl (by rw [flat_len mrc_len, hlen2]; omega) (fun w20 hS20 => ?_)
  replace hS20 : St B ((labA r1.lb) :: (ptsA r1.pt) :: allA mrA S1 :: own a18 ((0 + r1.pt.l.length) + ps.length) c19 103 2 (([] ++ (r1.pt.l.flatMap ptc)) ++ (ps.flatMap ptc)) :: own a1 S1.length c1 99 3 (((S1.set (atR S u.lb.l) (⟨r1.lb, max r1.last u.last, r1.pt⟩ : MRow)).set (atR S u.lb.l) (⟨r1.lb, max r1.last u.last, ⟨a18, r1.pt.l ++ ps, c19⟩⟩ : MRow)).flatMap mrc) :: cel g2 [Value.slice u.lb.a u.lb.l.length u.lb.cap, Value.int .i64 u.last, Value.slice u.pt.a u.pt.l.length u.pt.cap] 99 :: (labA u.lb) :: Y :: L) w20 := (by have z := hS20; rw [flat_set mrc_len hr2 (j := 2) (y := (⟨r1.lb, max r1.last u.last, ⟨a18, r1.pt.l ++ ps, c19⟩⟩ : MRow)) (by decide) (by simp [mrc])] at z; exact z)
  clear hS17
  refine WO.nil (NX.go (WP.seq (WP.region rfl ?_)))
  refine WO.mv rfl rfl ?_
  refine WO.asg rfl rfl ?_
  refine WO.nil (NX.go (WP.ret ?_))
  refine NX.done (l := [.tmp 6]) rfl rfl ?_
  have hq : St B (ptsA (⟨a18, r1.pt.l ++ ps, c19⟩ : SlV Pt) :: (labA r1.lb) :: (ptsA r1.pt) :: allA mrA S1 :: own a1 S1.length c1 99 3 (((S1.set (atR S u.lb.l) (⟨r1.lb, max r1.last u.last, r1.pt⟩ : MRow)).set (atR S u.lb.l) (⟨r1.lb, max r1.last u.last, ⟨a18, r1.pt.l ++ ps, c19⟩⟩ : MRow)).flatMap mrc) :: cel g2 [Value.slice u.lb.a u.lb.l.length u.lb.cap, Value.int .i64 u.last, Value.slice u.pt.a u.pt.l.length u.pt.cap] 99 :: (labA u.lb) :: Y :: L) w20 := rdH_own (own_eqM (hS20.permT [3] (L' := own a18 ((0 + r1.pt.l.length) + ps.length) c19 103 2 (([] ++ (r1.pt.l.flatMap ptc)) ++ (ps.flatMap ptc)) :: (labA r1.lb) :: (ptsA r1.pt) :: allA mrA S1 :: own a1 S1.length c1 99 3 (((S1.set (atR S u.lb.l) (⟨r1.lb, max r1.last u.last, r1.pt⟩ : MRow)).set (atR S u.lb.l) (⟨r1.lb, max r1.last u.last, ⟨a18, r1.pt.l ++ ps, c19⟩⟩ : MRow)).flatMap mrc) :: cel g2 [Value.slice u.lb.a u.lb.l.length u.lb.cap, Value.int .i64 u.last, Value.slice u.pt.a u.pt.l.length u.pt.cap] 99 :: (labA u.lb) :: Y :: L) rfl) (by simp) (by simp))
  have hq2 := mrs_put2 (S2 := (S1.set (atR S u.lb.l) (⟨r1.lb, max r1.last u.last, ⟨a18, r1.pt.l ++ ps, c19⟩⟩ : MRow))) (r := (⟨r1.lb, max r1.last u.last, ⟨a18, r1.pt.l ++ ps, c19⟩⟩ : MRow)) (fun y hy => mem_set2 hy) (hq.permT [3] (L' := allA mrA S1 :: ptsA (⟨a18, r1.pt.l ++ ps, c19⟩ : SlV Pt) :: (labA r1.lb) :: (ptsA r1.pt) :: own a1 S1.length c1 99 3 (((S1.set (atR S u.lb.l) (⟨r1.lb, max r1.last u.last, r1.pt⟩ : MRow)).set (atR S u.lb.l) (⟨r1.lb, max r1.last u.last, ⟨a18, r1.pt.l ++ ps, c19⟩⟩ : MRow)).flatMap mrc) :: cel g2 [Value.slice u.lb.a u.lb.l.length u.lb.cap, Value.int .i64 u.last, Value.slice u.pt.a u.pt.l.length u.pt.cap] 99 :: (labA u.lb) :: Y :: L) rfl)
  exact ⟨a1, c1, (S1.set (atR S u.lb.l) (⟨r1.lb, max r1.last u.last, ⟨a18, r1.pt.l ++ ps, c19⟩⟩ : MRow)), by rw [List.length_set]; rfl, hadd _ rfl, by rw [List.length_set]; exact hn1, szSet (P := fun z => z.l.length ≤ 4398046511104) hsz1 (hsz1 r1 (List.mem_of_getElem? hr1)), setM hM1 (by simpa using hM1 r1 (List.mem_of_getElem? hr1)), own_eqM ((hq2.mask [true, false, true, false] (L' := allA mrA (S1.set (atR S u.lb.l) (⟨r1.lb, max r1.last u.last, ⟨a18, r1.pt.l ++ ps, c19⟩⟩ : MRow)) :: own a1 S1.length c1 99 3 (((S1.set (atR S u.lb.l) (⟨r1.lb, max r1.last u.last, r1.pt⟩ : MRow)).set (atR S u.lb.l) (⟨r1.lb, max r1.last u.last, ⟨a18, r1.pt.l ++ ps, c19⟩⟩ : MRow)).flatMap mrc) :: (labA u.lb) :: Y :: L) rfl).permT [1] (L' := own a1 S1.length c1 99 3 (((S1.set (atR S u.lb.l) (⟨r1.lb, max r1.last u.last, r1.pt⟩ : MRow)).set (atR S u.lb.l) (⟨r1.lb, max r1.last u.last, ⟨a18, r1.pt.l ++ ps, c19⟩⟩ : MRow)).flatMap mrc) :: allA mrA (S1.set (atR S u.lb.l) (⟨r1.lb, max r1.last u.last, ⟨a18, r1.pt.l ++ ps, c19⟩⟩ : MRow)) :: (labA u.lb) :: Y :: L) rfl) (by rw [List.length_set]) (by rw [List.set_set])⟩
 ·
  refine WP.condB rfl (fun g17 => ?_) (fun g17 => ?_)
  ·
   have hhas : hasR S u.lb.l = false := by simpa using g17
   have hoc := hS4.own_le_i 0 rfl
   refine WD.start (fun w => Rd w a S.length 3 (S.flatMap mrc) ∧ Rd w u.lb.a u.lb.l.length 2 (u.lb.l.flatMap prc) ∧ (∀ jz, World.cell? w ⟨g2, jz, none⟩ = [Value.slice u.lb.a u.lb.l.length u.lb.cap, Value.int .i64 u.last, Value.slice u.pt.a u.pt.l.length u.pt.cap][jz]?) ∧ Rd w b ps.length 2 (ps.flatMap ptc)) [] (bt 17 0) Ty.mo rfl (by kernel_rfl) hS4 (fun _ h => ⟨(h.own_rd_i 0 rfl), (rdH_rd (h.focus 2 rfl)), h.cel_at 3 rfl, (hY (h.focus 4 rfl))⟩) (fun w21 hS21 s22 => ?_)
   clear hS4
   refine DP (i := 1) t62_3 (bt 17 2) rfl rfl rfl rfl (fun w => run_move rfl) ?_
   refine DP (i := 2) t62_3 (bt 17 6) rfl rfl rfl rfl (fun w => run_move rfl) ?_
   refine DP (i := 3) t62_3 (bt 17 14) rfl rfl rfl rfl (fun w => run_sliceTo (j := (atR S u.lb.l)) Tryz.underlying49 Ty.sz99 rfl ⟨_, rfl⟩ (by omega)) ?_
   refine DP (i := 5) t62_3 (bt 17 46) rfl rfl rfl rfl (fun w => run_fa 0 ⟨g2, 0, none⟩ rfl rfl) ?_
   refine DT (i := 6) t62_3 (bt 17 110) s22 rfl rfl rfl rfl (fun w hs => run_load Ty.ag65 rfl ((hs.2.2.1 0).trans rfl)) ?_
   refine DP (i := 7) t62_3 (bt 17 238) rfl rfl rfl rfl (fun w => run_fa 1 ⟨g2, 1, none⟩ rfl rfl) ?_
   refine DT (i := 8) t62_3 (bt 17 494) s22 rfl rfl rfl rfl (fun w hs => run_load Ty.ag2 rfl ((hs.2.2.1 1).trans rfl)) ?_
   refine DP (i := 9) t62_3 (bt 17 1006) rfl rfl rfl rfl (fun w => run_build (v := Value.agg #[Value.slice u.lb.a u.lb.l.length u.lb.cap, Value.int .i64 u.last, Value.slice none 0 0]) rfl (fun w => by kernel_rfl)) ?_
   refine DP (i := 12) t62_3 (bt 17 5102) rfl rfl rfl rfl (fun w => run_move rfl) ?_
   refine DP (i := 13) t62_3 (bt 17 13294) rfl rfl rfl rfl (fun w => run_move rfl) ?_
   refine DP (i := 14) t62_3 (bt 17 29678) rfl rfl rfl rfl (fun w => run_sliceL (i := (atR S u.lb.l)) (j := S.length) Tryz.underlying49 Ty.sz99 rfl ⟨_, rfl⟩ rfl (by omega) (by omega)) ?_
   refine WD.two (i := 0) (k := 10) t62_3 (bt 17 29679) (bt 17 30702) rfl rfl (by kernel_rfl) ?_ ?_
   ·
    refine WO.buildSlice (l := []) hS21 Tryz.underlying49 rfl (fun w => by kernel_rfl) rfl (fun g24 w23 lg24 hS23 => ?_)
    clear hS21
    have hS23 := hS23.own_of_cel (m := 0) (k := 3) rfl
    refine WO.nil ?_
    have s25 : Rd w23 a S.length 3 (S.flatMap mrc) ∧ Rd w23 u.lb.a u.lb.l.length 2 (u.lb.l.flatMap prc) ∧ (∀ jz, World.cell? w23 ⟨g2, jz, none⟩ = [Value.slice u.lb.a u.lb.l.length u.lb.cap, Value.int .i64 u.last, Value.slice u.pt.a u.pt.l.length u.pt.cap][jz]?) ∧ Rd w23 b ps.length 2 (ps.flatMap ptc) := ⟨(hS23.own_rd_i 1 rfl), (rdH_rd (hS23.focus 3 rfl)), hS23.cel_at 4 rfl, (hY (hS23.focus 5 rfl))⟩
    refine NX.held s25 ?_
    refine WD.two (i := 4) (k := 10) t62_3 (bt 17 29695) (bt 17 30703) rfl rfl (by kernel_rfl) ?_ ?_
    ·
     refine WO.append (news := ((S.flatMap mrc).take ((atR S u.lb.l) * 3))) 0 rfl Tryz.underlying49 Tryz.underlying49 (fun _ h => by cases h) Ty.sz99 (by decide) Ty.by99 Ty.zr99 rfl rfl rfl rfl hS23 rfl (Rd.src (((hS23.own_rd_i 1 rfl)).take (m := (atR S u.lb.l)) hi0)) (all_takeM (flat_noAgg mrc_na _)) (by omega) (by omega) (fun a27 c28 w26 hS26 => ?_)
     replace hS26 : St B (own a27 (0 + (atR S u.lb.l)) c28 99 3 ([] ++ ((S.flatMap mrc).take ((atR S u.lb.l) * 3))) :: own a S.length cap 99 3 (S.flatMap mrc) :: allA mrA S :: (labA u.lb) :: cel g2 [Value.slice u.lb.a u.lb.l.length u.lb.cap, Value.int .i64 u.last, Value.slice u.pt.a u.pt.l.length u.pt.cap] 99 :: Y :: L) w26 := hS26
     clear hS23
     refine WO.nil ?_
     have s29 : Rd w26 a S.length 3 (S.flatMap mrc) ∧ Rd w26 u.lb.a u.lb.l.length 2 (u.lb.l.flatMap prc) ∧ (∀ jz, World.cell? w26 ⟨g2, jz, none⟩ = [Value.slice u.lb.a u.lb.l.length u.lb.cap, Value.int .i64 u.last, Value.slice u.pt.a u.pt.l.length u.pt.cap][jz]?) ∧ Rd w26 b ps.length 2 (ps.flatMap ptc) := ⟨(hS26.own_rd_i 1 rfl), (rdH_rd (hS26.focus 3 rfl)), hS26.cel_at 4 rfl, (hY (hS26.focus 5 rfl))⟩
     refine NX.held s29 ?_
     refine WD.one (i := 10) t62_3 (bt 17 30719) rfl (by kernel_rfl) ?_
     refine WO.buildSlice (l := [Value.slice u.lb.a u.lb.l.length u.lb.cap, Value.int .i64 u.last, Value.slice none 0 0]) hS26 Tryz.underlying49 rfl (fun w => by kernel_rfl) rfl (fun g31 w30 lg31 hS30 => ?_)
     clear hS26
     refine WO.nil ?_
     have s32 : Rd w30 a S.length 3 (S.flatMap mrc) ∧ Rd w30 u.lb.a u.lb.l.length 2 (u.lb.l.flatMap prc) ∧ (∀ jz, World.cell? w30 ⟨g2, jz, none⟩ = [Value.slice u.lb.a u.lb.l.length u.lb.cap, Value.int .i64 u.last, Value.slice u.pt.a u.pt.l.length u.pt.cap][jz]?) ∧ Rd w30 b ps.length 2 (ps.flatMap ptc) := ⟨(hS30.own_rd_i 2 rfl), (rdH_rd (hS30.focus 4 rfl)), hS30.cel_at 5 rfl, (hY (hS30.focus 6 rfl))⟩
     refine NX.held s32 ?_
     refine WD.one (i := 11) t62_3 (bt 17 32767) rfl (by kernel_rfl) ?_
     refine WO.append (news := [Value.slice u.lb.a u.lb.l.length u.lb.cap, Value.int .i64 u.last, Value.slice none 0 0]) 1 rfl Tryz.underlying49 Tryz.underlying49 (fun _ h => by cases h) Ty.sz99 (by decide) Ty.by99 Ty.zr99 rfl rfl rfl rfl hS30 rfl ((hS30.cel_rd 0 rfl (o := 0) (m := 1) (k := 3) rfl (Nat.le_of_ble_eq_true rfl)).src) (by simp [noAgg]) (by omega) (by omega) (fun a34 c35 w33 hS33 => ?_)
     replace hS33 : St B (cel g31 [Value.slice u.lb.a u.lb.l.length u.lb.cap, Value.int .i64 u.last, Value.slice none 0 0] 99 :: own a34 ((0 + (atR S u.lb.l)) + 1) c35 99 3 (([] ++ ((S.flatMap mrc).take ((atR S u.lb.l) * 3))) ++ [Value.slice u.lb.a u.lb.l.length u.lb.cap, Value.int .i64 u.last, Value.slice none 0 0]) :: own a S.length cap 99 3 (S.flatMap mrc) :: allA mrA S :: (labA u.lb) :: cel g2 [Value.slice u.lb.a u.lb.l.length u.lb.cap, Value.int .i64 u.last, Value.slice u.pt.a u.pt.l.length u.pt.cap] 99 :: Y :: L) w33 := hS33
     clear hS30
     refine WO.nil ?_
     have s36 : Rd w33 a S.length 3 (S.flatMap mrc) ∧ Rd w33 u.lb.a u.lb.l.length 2 (u.lb.l.flatMap prc) ∧ (∀ jz, World.cell? w33 ⟨g2, jz, none⟩ = [Value.slice u.lb.a u.lb.l.length u.lb.cap, Value.int .i64 u.last, Value.slice u.pt.a u.pt.l.length u.pt.cap][jz]?) ∧ Rd w33 b ps.length 2 (ps.flatMap ptc) := ⟨(hS33.own_rd_i 2 rfl), (rdH_rd (hS33.focus 4 rfl)), hS33.cel_at 5 rfl, (hY (hS33.focus 6 rfl))⟩
     refine NX.held s36 ?_
     refine WD.one (i := 15) t62_3 (bt 17 65535) rfl (by kernel_rfl) ?_
     refine WO.append (news := ((S.flatMap mrc).drop ((atR S u.lb.l) * 3))) 1 rfl Tryz.underlying49 Tryz.underlying49 (fun _ h => by cases h) Ty.sz99 (by decide) Ty.by99 Ty.zr99 rfl rfl rfl rfl hS33 rfl (Rd.src (Rd.dropM ((hS33.own_rd_i 2 rfl)) (i := (atR S u.lb.l)) hi0 hoc)) (all_dropM (flat_noAgg mrc_na _)) (by omega) (by omega) (fun a38 c39 w37 hS37 => ?_)
     replace hS37 : St B (cel g31 [Value.slice u.lb.a u.lb.l.length u.lb.cap, Value.int .i64 u.last, Value.slice none 0 0] 99 :: own a38 (((0 + (atR S u.lb.l)) + 1) + (S.length - (atR S u.lb.l))) c39 99 3 ((([] ++ ((S.flatMap mrc).take ((atR S u.lb.l) * 3))) ++ [Value.slice u.lb.a u.lb.l.length u.lb.cap, Value.int .i64 u.last, Value.slice none 0 0]) ++ ((S.flatMap mrc).drop ((atR S u.lb.l) * 3))) :: own a S.length cap 99 3 (S.flatMap mrc) :: allA mrA S :: (labA u.lb) :: cel g2 [Value.slice u.lb.a u.lb.l.length u.lb.cap, Value.int .i64 u.last, Value.slice u.pt.a u.pt.l.length u.pt.cap] 99 :: Y :: L) w37 := hS37
     clear hS33
     refine WO.nil ?_
     have s40 : Rd w37 a S.length 3 (S.flatMap mrc) ∧ Rd w37 u.lb.a u.lb.l.length 2 (u.lb.l.flatMap prc) ∧ (∀ jz, World.cell? w37 ⟨g2, jz, none⟩ = [Value.slice u.lb.a u.lb.l.length u.lb.cap, Value.int .i64 u.last, Value.slice u.pt.a u.pt.l.length u.pt.cap][jz]?) ∧ Rd w37 b ps.length 2 (ps.flatMap ptc) := ⟨(hS37.own_rd_i 2 rfl), (rdH_rd (hS37.focus 4 rfl)), hS37.cel_at 5 rfl, (hY (hS37.focus 6 rfl))⟩
     refine NX.held s40 ?_
     refine DP (i := 16) t62_3 (bt 17 131071) rfl rfl rfl rfl (fun w => run_assign rfl) ?_
     refine WD.done t62_3 (by kernel_rfl) ?_
     have hS41 := mrs_mid (S1 := (S.take (atR S u.lb.l) ++ newR u.lb u.last :: S.drop (atR S u.lb.l))) (t := u.last) (fun y hy => mem_mid hy) (hS37.permT [3, 3] (L' := allA mrA S :: (labA u.lb) :: cel g31 [Value.slice u.lb.a u.lb.l.length u.lb.cap, Value.int .i64 u.last, Value.slice none 0 0] 99 :: own a38 (((0 + (atR S u.lb.l)) + 1) + (S.length - (atR S u.lb.l))) c39 99 3 ((([] ++ ((S.flatMap mrc).take ((atR S u.lb.l) * 3))) ++ [Value.slice u.lb.a u.lb.l.length u.lb.cap, Value.int .i64 u.last, Value.slice none 0 0]) ++ ((S.flatMap mrc).drop ((atR S u.lb.l) * 3))) :: own a S.length cap 99 3 (S.flatMap mrc) :: cel g2 [Value.slice u.lb.a u.lb.l.length u.lb.cap, Value.int .i64 u.last, Value.slice u.pt.a u.pt.l.length u.pt.cap] 99 :: Y :: L) rfl)
     clear hS37
     exact K6 ((S.take (atR S u.lb.l) ++ newR u.lb u.last :: S.drop (atR S u.lb.l)), a38, c39, newR u.lb u.last) _ _ ⟨⟨mid_at hi0, by rw [mid_len hi0]; omega, szMid (P := fun z => z.l.length ≤ 4398046511104) hsz hx, midM hM, fun q hq => addF_new hhas hq, by rw [mid_len hi0]; exact Nat.le_refl _⟩, own_eqM ((hS41.mask [true, true, false, true, false] (L' := allA mrA (S.take (atR S u.lb.l) ++ newR u.lb u.last :: S.drop (atR S u.lb.l)) :: (labA u.lb) :: own a38 (((0 + (atR S u.lb.l)) + 1) + (S.length - (atR S u.lb.l))) c39 99 3 ((([] ++ ((S.flatMap mrc).take ((atR S u.lb.l) * 3))) ++ [Value.slice u.lb.a u.lb.l.length u.lb.cap, Value.int .i64 u.last, Value.slice none 0 0]) ++ ((S.flatMap mrc).drop ((atR S u.lb.l) * 3))) :: cel g2 [Value.slice u.lb.a u.lb.l.length u.lb.cap, Value.int .i64 u.last, Value.slice u.pt.a u.pt.l.length u.pt.cap] 99 :: Y :: L) rfl).permT [2, 0, 1] (L' := own a38 (((0 + (atR S u.lb.l)) + 1) + (S.length - (atR S u.lb.l))) c39 99 3 ((([] ++ ((S.flatMap mrc).take ((atR S u.lb.l) * 3))) ++ [Value.slice u.lb.a u.lb.l.length u.lb.cap, Value.int .i64 u.last, Value.slice none 0 0]) ++ ((S.flatMap mrc).drop ((atR S u.lb.l) * 3))) :: allA mrA (S.take (atR S u.lb.l) ++ newR u.lb u.last :: S.drop (atR S u.lb.l)) :: cel g2 [Value.slice u.lb.a u.lb.l.length u.lb.cap, Value.int .i64 u.last, Value.slice u.pt.a u.pt.l.length u.pt.cap] 99 :: (labA u.lb) :: Y :: L) rfl) (by rw [mid_len hi0]; omega) (by rw [flat_take mrc_len, flat_drop mrc_len]; simp [newR, mrc])⟩ (Sub.consE rfl (by rw [mid_len hi0]; congr 1; omega) (Sub.cons rfl (Sub.cons rfl (Sub.cons rfl (Sub.nil _)))))
    ·
     refine WO.buildSlice (l := [Value.slice u.lb.a u.lb.l.length u.lb.cap, Value.int .i64 u.last, Value.slice none 0 0]) hS23 Tryz.underlying49 rfl (fun w => by kernel_rfl) rfl (fun g43 w42 lg43 hS42 => ?_)
     clear hS23
     refine WO.nil ?_
     have s44 : Rd w42 a S.length 3 (S.flatMap mrc) ∧ Rd w42 u.lb.a u.lb.l.length 2 (u.lb.l.flatMap prc) ∧ (∀ jz, World.cell? w42 ⟨g2, jz, none⟩ = [Value.slice u.lb.a u.lb.l.length u.lb.cap, Value.int .i64 u.last, Value.slice u.pt.a u.pt.l.length u.pt.cap][jz]?) ∧ Rd w42 b ps.length 2 (ps.flatMap ptc) := ⟨(hS42.own_rd_i 2 rfl), (rdH_rd (hS42.focus 4 rfl)), hS42.cel_at 5 rfl, (hY (hS42.focus 6 rfl))⟩
     refine NX.held s44 ?_
     refine WD.one (i := 4) t62_3 (bt 17 30719) rfl (by kernel_rfl) ?_
     refine WO.append (news := ((S.flatMap mrc).take ((atR S u.lb.l) * 3))) 1 rfl Tryz.underlying49 Tryz.underlying49 (fun _ h => by cases h) Ty.sz99 (by decide) Ty.by99 Ty.zr99 rfl rfl rfl rfl hS42 rfl (Rd.src (((hS42.own_rd_i 2 rfl)).take (m := (atR S u.lb.l)) hi0)) (all_takeM (flat_noAgg mrc_na _)) (by omega) (by omega) (fun a46 c47 w45 hS45 => ?_)
     replace hS45 : St B (cel g43 [Value.slice u.lb.a u.lb.l.length u.lb.cap, Value.int .i64 u.last, Value.slice none 0 0] 99 :: own a46 (0 + (atR S u.lb.l)) c47 99 3 ([] ++ ((S.flatMap mrc).take ((atR S u.lb.l) * 3))) :: own a S.length cap 99 3 (S.flatMap mrc) :: allA mrA S :: (labA u.lb) :: cel g2 [Value.slice u.lb.a u.lb.l.length u.lb.cap, Value.int .i64 u.last, Value.slice u.pt.a u.pt.l.length u.pt.cap] 99 :: Y :: L) w45 := hS45
     clear hS42
     refine WO.nil ?_
     have s48 : Rd w45 a S.length 3 (S.flatMap mrc) ∧ Rd w45 u.lb.a u.lb.l.length 2 (u.lb.l.flatMap prc) ∧ (∀ jz, World.cell? w45 ⟨g2, jz, none⟩ = [Value.slice u.lb.a u.lb.l.length u.lb.cap, Value.int .i64 u.last, Value.slice u.pt.a u.pt.l.length u.pt.cap][jz]?) ∧ Rd w45 b ps.length 2 (ps.flatMap ptc) := ⟨(hS45.own_rd_i 2 rfl), (rdH_rd (hS45.focus 4 rfl)), hS45.cel_at 5 rfl, (hY (hS45.focus 6 rfl))⟩
     refine NX.held s48 ?_
     refine WD.one (i := 11) t62_3 (bt 17 32767) rfl (by kernel_rfl) ?_
     refine WO.append (news := [Value.slice u.lb.a u.lb.l.length u.lb.cap, Value.int .i64 u.last, Value.slice none 0 0]) 1 rfl Tryz.underlying49 Tryz.underlying49 (fun _ h => by cases h) Ty.sz99 (by decide) Ty.by99 Ty.zr99 rfl rfl rfl rfl hS45 rfl ((hS45.cel_rd 0 rfl (o := 0) (m := 1) (k := 3) rfl (Nat.le_of_ble_eq_true rfl)).src) (by simp [noAgg]) (by omega) (by omega) (fun a50 c51 w49 hS49 => ?_)
     replace hS49 : St B (cel g43 [Value.slice u.lb.a u.lb.l.length u.lb.cap, Value.int .i64 u.last, Value.slice none 0 0] 99 :: own a50 ((0 + (atR S u.lb.l)) + 1) c51 99 3 (([] ++ ((S.flatMap mrc).take ((atR S u.lb.l) * 3))) ++ [Value.slice u.lb.a u.lb.l.length u.lb.cap, Value.int .i64 u.last, Value.slice none 0 0]) :: own a S.length cap 99 3 (S.flatMap mrc) :: allA mrA S :: (labA u.lb) :: cel g2 [Value.slice u.lb.a u.lb.l.length u.lb.cap, Value.int .i64 u.last, Value.slice u.pt.a u.pt.l.length u.pt.cap] 99 :: Y :: L) w49 := hS49
     clear hS45
     refine WO.nil ?_
     have s52 : Rd w49 a S.length 3 (S.flatMap mrc) ∧ Rd w49 u.lb.a u.lb.l.length 2 (u.lb.l.flatMap prc) ∧ (∀ jz, World.cell? w49 ⟨g2, jz, none⟩ = [Value.slice u.lb.a u.lb.l.length u.lb.cap, Value.int .i64 u.last, Value.slice u.pt.a u.pt.l.length u.pt.cap][jz]?) ∧ Rd w49 b ps.length 2 (ps.flatMap ptc) := ⟨(hS49.own_rd_i 2 rfl), (rdH_rd (hS49.focus 4 rfl)), hS49.cel_at 5 rfl, (hY (hS49.focus 6 rfl))⟩
     refine NX.held s52 ?_
     refine WD.one (i := 15) t62_3 (bt 17 65535) rfl (by kernel_rfl) ?_
     refine WO.append (news := ((S.flatMap mrc).drop ((atR S u.lb.l) * 3))) 1 rfl Tryz.underlying49 Tryz.underlying49 (fun _ h => by cases h) Ty.sz99 (by decide) Ty.by99 Ty.zr99 rfl rfl rfl rfl hS49 rfl (Rd.src (Rd.dropM ((hS49.own_rd_i 2 rfl)) (i := (atR S u.lb.l)) hi0 hoc)) (all_dropM (flat_noAgg mrc_na _)) (by omega) (by omega) (fun a54 c55 w53 hS53 => ?_)
     replace hS53 : St B (cel g43 [Value.slice u.lb.a u.lb.l.length u.lb.cap, Value.int .i64 u.last, Value.slice none 0 0] 99 :: own a54 (((0 + (atR S u.lb.l)) + 1) + (S.length - (atR S u.lb.l))) c55 99 3 ((([] ++ ((S.flatMap mrc).take ((atR S u.lb.l) * 3))) ++ [Value.slice u.lb.a u.lb.l.length u.lb.cap, Value.int .i64 u.last, Value.slice none 0 0]) ++ ((S.flatMap mrc).drop ((atR S u.lb.l) * 3))) :: own a S.length cap 99 3 (S.flatMap mrc) :: allA mrA S :: (labA u.lb) :: cel g2 [Value.slice u.lb.a u.lb.l.length u.lb.cap, Value.int .i64 u.last, Value.slice u.pt.a u.pt.l.length u.pt.cap] 99 :: Y :: L) w53 := hS53
     clear hS49
     refine WO.nil ?_
     have s56 : Rd w53 a S.length 3 (S.flatMap mrc) ∧ Rd w53 u.lb.a u.lb.l.length 2 (u.lb.l.flatMap prc) ∧ (∀ jz, World.cell? w53 ⟨g2, jz, none⟩ = [Value.slice u.lb.a u.lb.l.length u.lb.cap, Value.int .i64 u.last, Value.slice u.pt.a u.pt.l.length u.pt.cap][jz]?) ∧ Rd w53 b ps.length 2 (ps.flatMap ptc) := ⟨(hS53.own_rd_i 2 rfl), (rdH_rd (hS53.focus 4 rfl)), hS53.cel_at 5 rfl, (hY (hS53.focus 6 rfl))⟩
     refine NX.held s56 ?_
     refine DP (i := 16) t62_3 (bt 17 131071) rfl rfl rfl rfl (fun w => run_assign rfl) ?_
     refine WD.done t62_3 (by kernel_rfl) ?_
     have hS57 := mrs_mid (S1 := (S.take (atR S u.lb.l) ++ newR u.lb u.last :: S.drop (atR S u.lb.l))) (t := u.last) (fun y hy => mem_mid hy) (hS53.permT [3, 3] (L' := allA mrA S :: (labA u.lb) :: cel g43 [Value.slice u.lb.a u.lb.l.length u.lb.cap, Value.int .i64 u.last, Value.slice none 0 0] 99 :: own a54 (((0 + (atR S u.lb.l)) + 1) + (S.length - (atR S u.lb.l))) c55 99 3 ((([] ++ ((S.flatMap mrc).take ((atR S u.lb.l) * 3))) ++ [Value.slice u.lb.a u.lb.l.length u.lb.cap, Value.int .i64 u.last, Value.slice none 0 0]) ++ ((S.flatMap mrc).drop ((atR S u.lb.l) * 3))) :: own a S.length cap 99 3 (S.flatMap mrc) :: cel g2 [Value.slice u.lb.a u.lb.l.length u.lb.cap, Value.int .i64 u.last, Value.slice u.pt.a u.pt.l.length u.pt.cap] 99 :: Y :: L) rfl)
     clear hS53
     exact K6 ((S.take (atR S u.lb.l) ++ newR u.lb u.last :: S.drop (atR S u.lb.l)), a54, c55, newR u.lb u.last) _ _ ⟨⟨mid_at hi0, by rw [mid_len hi0]; omega, szMid (P := fun z => z.l.length ≤ 4398046511104) hsz hx, midM hM, fun q hq => addF_new hhas hq, by rw [mid_len hi0]; exact Nat.le_refl _⟩, own_eqM ((hS57.mask [true, true, false, true, false] (L' := allA mrA (S.take (atR S u.lb.l) ++ newR u.lb u.last :: S.drop (atR S u.lb.l)) :: (labA u.lb) :: own a54 (((0 + (atR S u.lb.l)) + 1) + (S.length - (atR S u.lb.l))) c55 99 3 ((([] ++ ((S.flatMap mrc).take ((atR S u.lb.l) * 3))) ++ [Value.slice u.lb.a u.lb.l.length u.lb.cap, Value.int .i64 u.last, Value.slice none 0 0]) ++ ((S.flatMap mrc).drop ((atR S u.lb.l) * 3))) :: cel g2 [Value.slice u.lb.a u.lb.l.length u.lb.cap, Value.int .i64 u.last, Value.slice u.pt.a u.pt.l.length u.pt.cap] 99 :: Y :: L) rfl).permT [2, 0, 1] (L' := own a54 (((0 + (atR S u.lb.l)) + 1) + (S.length - (atR S u.lb.l))) c55 99 3 ((([] ++ ((S.flatMap mrc).take ((atR S u.lb.l) * 3))) ++ [Value.slice u.lb.a u.lb.l.length u.lb.cap, Value.int .i64 u.last, Value.slice none 0 0]) ++ ((S.flatMap mrc).drop ((atR S u.lb.l) * 3))) :: allA mrA (S.take (atR S u.lb.l) ++ newR u.lb u.last :: S.drop (atR S u.lb.l)) :: cel g2 [Value.slice u.lb.a u.lb.l.length u.lb.cap, Value.int .i64 u.last, Value.slice u.pt.a u.pt.l.length u.pt.cap] 99 :: (labA u.lb) :: Y :: L) rfl) (by rw [mid_len hi0]; omega) (by rw [flat_take mrc_len, flat_drop mrc_len]; simp [newR, mrc])⟩ (Sub.consE rfl (by rw [mid_len hi0]; congr 1; omega) (Sub.cons rfl (Sub.cons rfl (Sub.cons rfl (Sub.nil _)))))
   ·
    refine WO.buildSlice (l := [Value.slice u.lb.a u.lb.l.length u.lb.cap, Value.int .i64 u.last, Value.slice none 0 0]) hS21 Tryz.underlying49 rfl (fun w => by kernel_rfl) rfl (fun g59 w58 lg59 hS58 => ?_)
    clear hS21
    refine WO.nil ?_
    have s60 : Rd w58 a S.length 3 (S.flatMap mrc) ∧ Rd w58 u.lb.a u.lb.l.length 2 (u.lb.l.flatMap prc) ∧ (∀ jz, World.cell? w58 ⟨g2, jz, none⟩ = [Value.slice u.lb.a u.lb.l.length u.lb.cap, Value.int .i64 u.last, Value.slice u.pt.a u.pt.l.length u.pt.cap][jz]?) ∧ Rd w58 b ps.length 2 (ps.flatMap ptc) := ⟨(hS58.own_rd_i 1 rfl), (rdH_rd (hS58.focus 3 rfl)), hS58.cel_at 4 rfl, (hY (hS58.focus 5 rfl))⟩
    refine NX.held s60 ?_
    refine WD.one (i := 0) t62_3 (bt 17 30703) rfl (by kernel_rfl) ?_
    refine WO.buildSlice (l := []) hS58 Tryz.underlying49 rfl (fun w => by kernel_rfl) rfl (fun g62 w61 lg62 hS61 => ?_)
    clear hS58
    have hS61 := hS61.own_of_cel (m := 0) (k := 3) rfl
    refine WO.nil ?_
    have s63 : Rd w61 a S.length 3 (S.flatMap mrc) ∧ Rd w61 u.lb.a u.lb.l.length 2 (u.lb.l.flatMap prc) ∧ (∀ jz, World.cell? w61 ⟨g2, jz, none⟩ = [Value.slice u.lb.a u.lb.l.length u.lb.cap, Value.int .i64 u.last, Value.slice u.pt.a u.pt.l.length u.pt.cap][jz]?) ∧ Rd w61 b ps.length 2 (ps.flatMap ptc) := ⟨(hS61.own_rd_i 2 rfl), (rdH_rd (hS61.focus 4 rfl)), hS61.cel_at 5 rfl, (hY (hS61.focus 6 rfl))⟩
    refine NX.held s63 ?_
    refine WD.one (i := 4) t62_3 (bt 17 30719) rfl (by kernel_rfl) ?_
    refine WO.append (news := ((S.flatMap mrc).take ((atR S u.lb.l) * 3))) 0 rfl Tryz.underlying49 Tryz.underlying49 (fun _ h => by cases h) Ty.sz99 (by decide) Ty.by99 Ty.zr99 rfl rfl rfl rfl hS61 rfl (Rd.src (((hS61.own_rd_i 2 rfl)).take (m := (atR S u.lb.l)) hi0)) (all_takeM (flat_noAgg mrc_na _)) (by omega) (by omega) (fun a65 c66 w64 hS64 => ?_)
    replace hS64 : St B (own a65 (0 + (atR S u.lb.l)) c66 99 3 ([] ++ ((S.flatMap mrc).take ((atR S u.lb.l) * 3))) :: cel g59 [Value.slice u.lb.a u.lb.l.length u.lb.cap, Value.int .i64 u.last, Value.slice none 0 0] 99 :: own a S.length cap 99 3 (S.flatMap mrc) :: allA mrA S :: (labA u.lb) :: cel g2 [Value.slice u.lb.a u.lb.l.length u.lb.cap, Value.int .i64 u.last, Value.slice u.pt.a u.pt.l.length u.pt.cap] 99 :: Y :: L) w64 := hS64
    clear hS61
    refine WO.nil ?_
    have s67 : Rd w64 a S.length 3 (S.flatMap mrc) ∧ Rd w64 u.lb.a u.lb.l.length 2 (u.lb.l.flatMap prc) ∧ (∀ jz, World.cell? w64 ⟨g2, jz, none⟩ = [Value.slice u.lb.a u.lb.l.length u.lb.cap, Value.int .i64 u.last, Value.slice u.pt.a u.pt.l.length u.pt.cap][jz]?) ∧ Rd w64 b ps.length 2 (ps.flatMap ptc) := ⟨(hS64.own_rd_i 2 rfl), (rdH_rd (hS64.focus 4 rfl)), hS64.cel_at 5 rfl, (hY (hS64.focus 6 rfl))⟩
    refine NX.held s67 ?_
    refine WD.one (i := 11) t62_3 (bt 17 32767) rfl (by kernel_rfl) ?_
    refine WO.append (news := [Value.slice u.lb.a u.lb.l.length u.lb.cap, Value.int .i64 u.last, Value.slice none 0 0]) 0 rfl Tryz.underlying49 Tryz.underlying49 (fun _ h => by cases h) Ty.sz99 (by decide) Ty.by99 Ty.zr99 rfl rfl rfl rfl hS64 rfl ((hS64.cel_rd 1 rfl (o := 0) (m := 1) (k := 3) rfl (Nat.le_of_ble_eq_true rfl)).src) (by simp [noAgg]) (by omega) (by omega) (fun a69 c70 w68 hS68 => ?_)
    replace hS68 : St B (own a69 ((0 + (atR S u.lb.l)) + 1) c70 99 3 (([] ++ ((S.flatMap mrc).take ((atR S u.lb.l) * 3))) ++ [Value.slice u.lb.a u.lb.l.length u.lb.cap, Value.int .i64 u.last, Value.slice none 0 0]) :: cel g59 [Value.slice u.lb.a u.lb.l.length u.lb.cap, Value.int .i64 u.last, Value.slice none 0 0] 99 :: own a S.length cap 99 3 (S.flatMap mrc) :: allA mrA S :: (labA u.lb) :: cel g2 [Value.slice u.lb.a u.lb.l.length u.lb.cap, Value.int .i64 u.last, Value.slice u.pt.a u.pt.l.length u.pt.cap] 99 :: Y :: L) w68 := hS68
    clear hS64
    refine WO.nil ?_
    have s71 : Rd w68 a S.length 3 (S.flatMap mrc) ∧ Rd w68 u.lb.a u.lb.l.length 2 (u.lb.l.flatMap prc) ∧ (∀ jz, World.cell? w68 ⟨g2, jz, none⟩ = [Value.slice u.lb.a u.lb.l.length u.lb.cap, Value.int .i64 u.last, Value.slice u.pt.a u.pt.l.length u.pt.cap][jz]?) ∧ Rd w68 b ps.length 2 (ps.flatMap ptc) := ⟨(hS68.own_rd_i 2 rfl), (rdH_rd (hS68.focus 4 rfl)), hS68.cel_at 5 rfl, (hY (hS68.focus 6 rfl))⟩
    refine NX.held s71 ?_
    refine WD.one (i := 15) t62_3 (bt 17 65535) rfl (by kernel_rfl) ?_
    refine WO.append (news := ((S.flatMap mrc).drop ((atR S u.lb.l) * 3))) 0 rfl Tryz.underlying49 Tryz.underlying49 (fun _ h => by cases h) Ty.sz99 (by decide) Ty.by99 Ty.zr99 rfl rfl rfl rfl hS68 rfl (Rd.src (Rd.dropM ((hS68.own_rd_i 2 rfl)) (i := (atR S u.lb.l)) hi0 hoc)) (all_dropM (flat_noAgg mrc_na _)) (by omega) (by omega) (fun a73 c74 w72 hS72 => ?_)
    replace hS72 : St B (own a73 (((0 + (atR S u.lb.l)) + 1) + (S.length - (atR S u.lb.l))) c74 99 3 ((([] ++ ((S.flatMap mrc).take ((atR S u.lb.l) * 3))) ++ [Value.slice u.lb.a u.lb.l.length u.lb.cap, Value.int .i64 u.last, Value.slice none 0 0]) ++ ((S.flatMap mrc).drop ((atR S u.lb.l) * 3))) :: cel g59 [Value.slice u.lb.a u.lb.l.length u.lb.cap, Value.int .i64 u.last, Value.slice none 0 0] 99 :: own a S.length cap 99 3 (S.flatMap mrc) :: allA mrA S :: (labA u.lb) :: cel g2 [Value.slice u.lb.a u.lb.l.length u.lb.cap, Value.int .i64 u.last, Value.slice u.pt.a u.pt.l.length u.pt.cap] 99 :: Y :: L) w72 := hS72
    clear hS68
    refine WO.nil ?_
    have s75 : Rd w72 a S.length 3 (S.flatMap mrc) ∧ Rd w72 u.lb.a u.lb.l.length 2 (u.lb.l.flatMap prc) ∧ (∀ jz, World.cell? w72 ⟨g2, jz, none⟩ = [Value.slice u.lb.a u.lb.l.length u.lb.cap, Value.int .i64 u.last, Value.slice u.pt.a u.pt.l.length u.pt.cap][jz]?) ∧ Rd w72 b ps.length 2 (ps.flatMap ptc) := ⟨(hS72.own_rd_i 2 rfl), (rdH_rd (hS72.focus 4 rfl)), hS72.cel_at 5 rfl, (hY (hS72.focus 6 rfl))⟩
    refine NX.held s75 ?_
    refine DP (i := 16) t62_3 (bt 17 131071) rfl rfl rfl rfl (fun w => run_assign rfl) ?_
    refine WD.done t62_3 (by kernel_rfl) ?_
    have hS76 := mrs_mid (S1 := (S.take (atR S u.lb.l) ++ newR u.lb u.last :: S.drop (atR S u.lb.l))) (t := u.last) (fun y hy => mem_mid hy) (hS72.permT [3, 3] (L' := allA mrA S :: (labA u.lb) :: own a73 (((0 + (atR S u.lb.l)) + 1) + (S.length - (atR S u.lb.l))) c74 99 3 ((([] ++ ((S.flatMap mrc).take ((atR S u.lb.l) * 3))) ++ [Value.slice u.lb.a u.lb.l.length u.lb.cap, Value.int .i64 u.last, Value.slice none 0 0]) ++ ((S.flatMap mrc).drop ((atR S u.lb.l) * 3))) :: cel g59 [Value.slice u.lb.a u.lb.l.length u.lb.cap, Value.int .i64 u.last, Value.slice none 0 0] 99 :: own a S.length cap 99 3 (S.flatMap mrc) :: cel g2 [Value.slice u.lb.a u.lb.l.length u.lb.cap, Value.int .i64 u.last, Value.slice u.pt.a u.pt.l.length u.pt.cap] 99 :: Y :: L) rfl)
    clear hS72
    exact K6 ((S.take (atR S u.lb.l) ++ newR u.lb u.last :: S.drop (atR S u.lb.l)), a73, c74, newR u.lb u.last) _ _ ⟨⟨mid_at hi0, by rw [mid_len hi0]; omega, szMid (P := fun z => z.l.length ≤ 4398046511104) hsz hx, midM hM, fun q hq => addF_new hhas hq, by rw [mid_len hi0]; exact Nat.le_refl _⟩, own_eqM ((hS76.mask [true, true, true, false, false] (L' := allA mrA (S.take (atR S u.lb.l) ++ newR u.lb u.last :: S.drop (atR S u.lb.l)) :: (labA u.lb) :: own a73 (((0 + (atR S u.lb.l)) + 1) + (S.length - (atR S u.lb.l))) c74 99 3 ((([] ++ ((S.flatMap mrc).take ((atR S u.lb.l) * 3))) ++ [Value.slice u.lb.a u.lb.l.length u.lb.cap, Value.int .i64 u.last, Value.slice none 0 0]) ++ ((S.flatMap mrc).drop ((atR S u.lb.l) * 3))) :: cel g2 [Value.slice u.lb.a u.lb.l.length u.lb.cap, Value.int .i64 u.last, Value.slice u.pt.a u.pt.l.length u.pt.cap] 99 :: Y :: L) rfl).permT [2, 0, 1] (L' := own a73 (((0 + (atR S u.lb.l)) + 1) + (S.length - (atR S u.lb.l))) c74 99 3 ((([] ++ ((S.flatMap mrc).take ((atR S u.lb.l) * 3))) ++ [Value.slice u.lb.a u.lb.l.length u.lb.cap, Value.int .i64 u.last, Value.slice none 0 0]) ++ ((S.flatMap mrc).drop ((atR S u.lb.l) * 3))) :: allA mrA (S.take (atR S u.lb.l) ++ newR u.lb u.last :: S.drop (atR S u.lb.l)) :: cel g2 [Value.slice u.lb.a u.lb.l.length u.lb.cap, Value.int .i64 u.last, Value.slice u.pt.a u.pt.l.length u.pt.cap] 99 :: (labA u.lb) :: Y :: L) rfl) (by rw [mid_len hi0]; omega) (by rw [flat_take mrc_len, flat_drop mrc_len]; simp [newR, mrc])⟩ (Sub.consE rfl (by rw [mid_len hi0]; congr 1; omega) (Sub.cons rfl (Sub.cons rfl (Sub.cons rfl (Sub.nil _)))))
  ·
   have hhas : hasR S u.lb.l = true := by simpa using g17
   obtain ⟨r, hr⟩ := has_some hhas
   refine WP.skip ?_
   exact K6 (S, a, cap, r) _ _ ⟨⟨hr, hi0, hsz, hM, fun q hq => addF_has hhas hr hq, Nat.le_succ _⟩, (hS4.permT [0, 0, 1] (L' := own a S.length cap 99 3 (S.flatMap mrc) :: allA mrA S :: cel g2 [Value.slice u.lb.a u.lb.l.length u.lb.cap, Value.int .i64 u.last, Value.slice u.pt.a u.pt.l.length u.pt.cap] 99 :: (labA u.lb) :: Y :: L) rfl)⟩ (Sub.consE rfl (by first | rfl | first | rfl | (congr 1; omega) | (simp; done) | (simp; omega)) (Sub.cons rfl (Sub.cons rfl (Sub.cons rfl (Sub.nil _)))))
end Go.Proofs.YtidoidoelgfnaaaGreatDoor.SL

/- The reference: what is left. -/
namespace Go.Proofs.YtidoidoelgfnaaaGreatDoor.SL
open Go.RowKit Go.Proofs.YtidoidoelgfnaaaGreatDoor
open Go.Proofs.YtidoidoelgfnaaaGreatDoorW.PrintLast (rtab opsOf)
set_option linter.unusedVariables false
set_option linter.unusedSimpArgs false

def rsum : List MRow → Nat
  | [] => 0
  | r :: l => r.pt.l.length + rsum l
def ptot : List BlkV → Nat
  | [] => 0
  | b :: l => rsum b.rs.l + ptot l
def rtot : List BlkV → Nat
  | [] => 0
  | b :: l => b.rs.l.length + rtot l
def dtot : List BlkV → Nat
  | [] => 0
  | b :: l => b.ds.l.length + dtot l
theorem blA_get {B w : World} {L : List HP} {l : List BlkV} {b : BlkV} (hb : b ∈ l) (h : St B (allA blA l :: L) w) : St B (rsA b.rs :: allA mrA b.rs.l :: dsA b.ds :: allA recA b.ds.l :: allA blA l :: L) w := by
  have h1 := blA_open (allA_get blA_pers hb h)
  exact (h1.permT [4, 0, 0, 0, 0] (L' := blA b :: rsA b.rs :: allA mrA b.rs.l :: dsA b.ds :: allA recA b.ds.l :: allA blA l :: L) rfl).drop
theorem recs_app {B w : World} {L : List HP} {d e : List Rcd} (h : St B (allA recA d :: allA recA e :: L) w) : St B (allA recA (d ++ e) :: L) w := allA_app h
def ngone (d : List Rcd) (lb : List Pr) (p : Pt) : Bool := !goneR d lb p.t
theorem dels_p (d : List Rcd) (l : List BlkV) : (d ++ l.flatMap (·.ds.l)).map Rcd.p = d.map Rcd.p ++ (l.map BlkV.p).flatMap (·.dels) := by
  rw [List.map_append, List.map_flatMap, List.flatMap_map]; rfl
theorem leftA_cons {dels : List Rcd} {b : BlkV} {l : List BlkV} {S : List RowP} {dd : List Rcd} (h : dd = dels ++ l.flatMap (·.ds.l)) : leftA (dels.map Rcd.p) ((b :: l).map BlkV.p) S = leftA (dels.map Rcd.p) (l.map BlkV.p) (rowsA (dd.map Rcd.p) (b.rs.l.map MRow.p) S) := by
  rw [List.map_cons, leftA, h, dels_p]; rfl
theorem rowsA_cons {dd : List Rcd} {u : MRow} {l : List MRow} {S : List RowP} : rowsA (dd.map Rcd.p) ((u :: l).map MRow.p) S = rowsA (dd.map Rcd.p) (l.map MRow.p) (addF S u.lb.l u.last (u.pt.l.filter (ngone dd u.lb.l))) := by
  rw [List.map_cons, rowsA]
  congr 2
  show List.filter (fun p => !goneF (dd.map Rcd.p) u.lb.l p.t) u.pt.l = _
  congr 1; funext p; unfold ngone; rw [goneR_eq]

theorem dtot_drop : ∀ (l : List BlkV) (i : Nat), dtot (l.drop i) ≤ dtot l
  | [], i => by simp
  | b :: l, 0 => Nat.le_refl _
  | b :: l, i + 1 => by rw [List.drop_succ_cons, dtot]; exact Nat.le_trans (dtot_drop l i) (Nat.le_add_left _ _)
theorem dels_sz {dels : List Rcd} {bs : List BlkV} {i : Nat} {r : Rcd} (hd : ∀ r ∈ dels, SzR r) (hb : ∀ b ∈ bs, SzB b) (h : r ∈ dels ++ (bs.drop i).flatMap (·.ds.l)) : SzR r := by
  rcases List.mem_append.1 h with h | h
  · exact hd r h
  · obtain ⟨b, hb1, hr⟩ := List.mem_flatMap.1 h
    exact (hb b (List.mem_of_mem_drop hb1)).d r hr
theorem t55_18 : rtab .any (opsOf Tryz.f55 18) = (true, [([], []), ([], []), ([1], [1]), ([], []), ([3], [3]), ([], []), ([4, 5], [4, 5]), ([6], [6]), ([7], [7]), ([0, 2, 8], [0, 2, 8]), ([9], [9])]) := by kernel_rfl
set_option maxHeartbeats 1000000 in
theorem rleft_spec {B w : World} {L : List HP} {X D : HP} {a b : Option Addr} {cap cap2 : Nat} {bs : List BlkV} {dels : List Rcd} (hX : ∀ {L : List HP} {w : World}, St B (X :: L) w → Rd w a bs.length 4 (bs.flatMap blc)) (hD : ∀ {L : List HP} {w : World}, St B (D :: L) w → Rd w b dels.length 5 (dels.flatMap rcc)) (hbz : ∀ b ∈ bs, SzB b) (hdz : ∀ r ∈ dels, SzR r) (hbn : bs.length ≤ 1099511627776) (hrt : rtot bs ≤ 1099511627776) (hpt : ptot bs ≤ 4398046511104) (hdt : dels.length + dtot bs ≤ 1099511627776) (hS : St B (X :: allA blA bs :: D :: allA recA dels :: L) w) : Does Tryz.prog 55 [Value.slice a bs.length cap, Value.slice b dels.length cap2] w (fun v w1 => ∃ a1 c1, ∃ S1 : List MRow, v = .slice a1 S1.length c1 ∧ S1.map MRow.p = leftA (dels.map Rcd.p) (bs.map BlkV.p) [] ∧ S1.length ≤ 1099511627776 ∧ (∀ r ∈ S1, r.lb.l.length ≤ 4398046511104) ∧ (∀ r ∈ S1, r.pt.l.length ≤ 4398046511104) ∧ St B (own a1 S1.length c1 99 3 (S1.flatMap mrc) :: allA mrA S1 :: X :: allA blA bs :: D :: allA recA dels :: L) w1) := by
 refine enter (n := 86) Tryz.func55 rfl rfl [Value.slice a bs.length cap, Value.slice b dels.length cap2] rfl ?_
 refine WP.seq (WP.region rfl ?_)
 refine WO.asg rfl rfl ?_
 refine WO.nil (NX.go (WP.seq (WP.region rfl ?_)))
 refine WO.asg rfl rfl ?_
 refine WO.nil (NX.go (WP.seq (WP.seq (WP.region rfl ?_))))
 refine WO.asg rfl rfl ?_
 refine WO.nil (NX.go (WP.block ?_))
 replace hS := (St.addPure trivial hS : St B (allA mrA [] :: X :: allA blA bs :: D :: allA recA dels :: L) w)
 replace hS := hS.own_nil 99 3
 refine WP.loop (α := Nat × List MRow × Option Addr × Nat × Nat) (fun x => match x with | ⟨i, S, oa, oc, M⟩ => [(0, Value.slice a bs.length cap), (1, Value.slice b dels.length cap2), (5, Value.slice oa S.length oc), (6, Value.int .i64 (i : Int))]) (fun x w => match x with | ⟨i, S, oa, oc, M⟩ => (i ≤ bs.length ∧ leftA (dels.map Rcd.p) ((bs.drop i).map BlkV.p) (S.map MRow.p) = leftA (dels.map Rcd.p) (bs.map BlkV.p) [] ∧ (∀ r ∈ S, r.lb.l.length ≤ 4398046511104) ∧ (∀ r ∈ S, r.pt.l.length ≤ M) ∧ S.length + rtot (bs.drop i) ≤ 1099511627776 ∧ M + ptot (bs.drop i) ≤ 4398046511104) ∧ St B (own oa S.length oc 99 3 (S.flatMap mrc) :: allA mrA S :: X :: allA blA bs :: D :: allA recA dels :: L) w) (fun x => match x with | ⟨i, S, oa, oc, M⟩ => bs.length - i) (0, [], none, 0, 0) ⟨⟨Nat.zero_le _, rfl, (fun r h => by cases h), (fun r h => by cases h), (by simpa using hrt), (by simpa using hpt)⟩, hS⟩ (Sub.cons rfl (Sub.cons rfl (Sub.consE rfl (by first | rfl | first | rfl | (congr 1; omega) | (simp; done) | (simp; omega)) (Sub.consE rfl (by first | rfl | first | rfl | (congr 1; omega) | (simp; done) | (simp; omega)) (Sub.nil _))))) ?_
 rintro ⟨i, S, oa, oc, M⟩ w1 ⟨⟨hi, hgo, hlb, hM, hSn, hMn⟩, hS1⟩
 clear hS
 refine WP.seq (WP.seq (WP.region rfl ?_))
 refine WO.mv rfl rfl ?_
 refine WO.mv rfl rfl ?_
 refine WO.V (run_len rfl Tryz.underlying22 rfl) ?_
 refine WO.V (run_lss rfl rfl) ?_
 refine WO.nil (NX.go ?_)
 refine WP.condP rfl (fun g16 => ?_) (fun g16 => ?_)
 ·
  refine WP.skip (NX.go (WP.seq (WP.block (WP.seq ?_))))
  obtain ⟨b1, hbl⟩ : ∃ qq, bs[i]? = some qq := ⟨_, List.getElem?_eq_getElem (by omega)⟩
  have hbz1 := hbz b1 (List.mem_of_getElem? hbl)
  have hbr1 := hbz1.nr
  have hdt1 : dels.length + dtot (bs.drop (i + 1)) ≤ 1099511627776 := Nat.le_trans (Nat.add_le_add_left (dtot_drop bs (i + 1)) _) hdt
  refine WP.region rfl ?_
  refine WO.buildSlice (l := []) hS1 Tryz.underlying23 rfl (fun w => by kernel_rfl) rfl (fun g3 w2 lg3 hS2 => ?_)
  clear hS1
  have hS2 := hS2.own_of_cel (m := 0) (k := 5) rfl
  refine WO.mv rfl rfl ?_
  refine WO.append (news := (dels.flatMap rcc)) 0 rfl Tryz.underlying23 Tryz.underlying23 (fun _ h => by cases h) Ty.sz33 (by decide) Ty.by33 Ty.zr33 rfl rfl rfl rfl hS2 rfl ((hD (hS2.focus 5 rfl)).src) (flat_noAgg rcc_na _) (by omega) (by omega) (fun a5 c6 w4 hS4 => ?_)
  replace hS4 : St B (own a5 (0 + dels.length) c6 33 5 ([] ++ (dels.flatMap rcc)) :: own oa S.length oc 99 3 (S.flatMap mrc) :: allA mrA S :: X :: allA blA bs :: D :: allA recA dels :: L) w4 := hS4
  clear hS2
  refine WO.asg rfl rfl ?_
  refine WO.nil (NX.go (WP.seq (WP.seq (WP.region rfl ?_))))
  refine WO.mv rfl rfl ?_
  refine WO.V (run_add rfl rfl (IntWalk.i64_in _ (by omega))) ?_
  refine WO.asg rfl rfl ?_
  refine WO.nil (NX.go (WP.block ?_))
  have hS7 := St.dup (allA_pers recA_pers dels) (hS4.permT [6] (L' := allA recA dels :: own a5 (0 + dels.length) c6 33 5 ([] ++ (dels.flatMap rcc)) :: own oa S.length oc 99 3 (S.flatMap mrc) :: allA mrA S :: X :: allA blA bs :: D :: L) rfl)
  clear hS4
  have hS8 : St B (allA recA dels :: own a5 (0 + dels.length) c6 33 5 ([] ++ (dels.flatMap rcc)) :: X :: allA blA bs :: allA recA dels :: own oa S.length oc 99 3 (S.flatMap mrc) :: allA mrA S :: D :: L) w4 := (hS7.permT [0, 1, 3, 3] (L' := allA recA dels :: own a5 (0 + dels.length) c6 33 5 ([] ++ (dels.flatMap rcc)) :: X :: allA blA bs :: allA recA dels :: own oa S.length oc 99 3 (S.flatMap mrc) :: allA mrA S :: D :: L) rfl)
  clear hS7
  refine WP.loop (α := Nat × List Rcd × Option Addr × Nat) (fun x => match x with | ⟨k, dd, da, dc⟩ => [(0, Value.slice a bs.length cap), (1, Value.slice b dels.length cap2), (5, Value.slice oa S.length oc), (6, Value.int .i64 (i : Int)), (7, Value.slice da dd.length dc), (8, Value.int .i64 (k : Int))]) (fun x w => match x with | ⟨k, dd, da, dc⟩ => (k ≤ bs.length ∧ i + 1 ≤ k ∧ dd ++ (bs.drop k).flatMap (·.ds.l) = dels ++ (bs.drop (i + 1)).flatMap (·.ds.l) ∧ dd.length + dtot (bs.drop k) ≤ 1099511627776) ∧ St B (own da dd.length dc 33 5 (dd.flatMap rcc) :: allA recA dd :: X :: allA blA bs :: allA recA dels :: own oa S.length oc 99 3 (S.flatMap mrc) :: allA mrA S :: D :: L) w) (fun x => match x with | ⟨k, dd, da, dc⟩ => bs.length - k) (i + 1, dels, a5, c6) ⟨⟨by omega, Nat.le_refl _, rfl, by omega⟩, own_eqM (hS8.permT [1] (L' := own a5 (0 + dels.length) c6 33 5 ([] ++ (dels.flatMap rcc)) :: allA recA dels :: X :: allA blA bs :: allA recA dels :: own oa S.length oc 99 3 (S.flatMap mrc) :: allA mrA S :: D :: L) rfl) (by simp) (by simp)⟩ (Sub.cons rfl (Sub.cons rfl (Sub.cons rfl (Sub.cons rfl (Sub.consE rfl (by congr 1; omega) (Sub.consE rfl (by first | rfl | first | rfl | (congr 1; omega) | (simp; done) | (simp; omega)) (Sub.nil _))))))) ?_
  rintro ⟨k, dd, da, dc⟩ w9 ⟨⟨hk, hik, hdd, hdn⟩, hS9⟩
  clear hS8
  refine WP.seq (WP.seq (WP.region rfl ?_))
  refine WO.mv rfl rfl ?_
  refine WO.mv rfl rfl ?_
  refine WO.V (run_len rfl Tryz.underlying22 rfl) ?_
  refine WO.V (run_lss rfl rfl) ?_
  refine WO.nil (NX.go ?_)
  refine WP.condP rfl (fun g27 => ?_) (fun g27 => ?_)
  ·
   refine WP.skip (NX.go (WP.seq (WP.block ?_)))
   obtain ⟨c, hc⟩ : ∃ qq, bs[k]? = some qq := ⟨_, List.getElem?_eq_getElem (by omega)⟩
   have hS10 := blA_get (List.mem_of_getElem? hc) (hS9.permT [3] (L' := allA blA bs :: own da dd.length dc 33 5 (dd.flatMap rcc) :: allA recA dd :: X :: allA recA dels :: own oa S.length oc 99 3 (S.flatMap mrc) :: allA mrA S :: D :: L) rfl)
   clear hS9
   have hsa : a.isSome = true := rd_isSome ((hX (hS10.focus 7 rfl))) (by omega)
   have hdn2 := hdn
   rw [drop_cons hc] at hdn2
   simp only [dtot] at hdn2
   refine WP.region rfl ?_
   refine WO.mv rfl rfl ?_
   refine WO.mv rfl rfl ?_
   refine WO.mv rfl rfl ?_
   refine WO.V (run_indexAddr (q := adr a (k * 4)) Tryz.underlying22 Ty.sz51 rfl rfl (by omega) (by omega) ((hX (hS10.focus 7 rfl)).2.1 (by omega)) rfl) ?_
   refine WO.V (run_fa 3 (adr a (k * 4 + 3)) rfl (adr_add _ (by assumption) _ _)) ?_
   refine WO.V (run_load Ty.ag23 rfl ((hX (hS10.focus 7 rfl)).cell ((flat_get blc_len hc (j := 3) (by decide)).trans rfl))) ?_
   refine WO.append (news := (c.ds.l.flatMap rcc)) 5 rfl Tryz.underlying23 Tryz.underlying23 (fun _ h => by cases h) Ty.sz33 (by decide) Ty.by33 Ty.zr33 rfl rfl rfl rfl hS10 rfl ((rdH_rd (hS10.focus 2 rfl)).src) (flat_noAgg rcc_na _) (by omega) (by omega) (fun a12 c13 w11 hS11 => ?_)
   replace hS11 : St B ((rsA c.rs) :: allA mrA c.rs.l :: (dsA c.ds) :: allA recA c.ds.l :: allA blA bs :: own a12 (dd.length + c.ds.l.length) c13 33 5 ((dd.flatMap rcc) ++ (c.ds.l.flatMap rcc)) :: allA recA dd :: X :: allA recA dels :: own oa S.length oc 99 3 (S.flatMap mrc) :: allA mrA S :: D :: L) w11 := hS11
   clear hS10
   refine WO.asg rfl rfl ?_
   refine WO.nil (NX.blk (NX.go (WP.region rfl ?_)))
   refine WO.mv rfl rfl ?_
   refine WO.V (run_add rfl rfl (IntWalk.i64_in _ (by omega))) ?_
   refine WO.asg rfl rfl ?_
   refine WO.nil ?_
   have hS14 := recs_app (hS11.permT [6, 3] (L' := allA recA dd :: allA recA c.ds.l :: (rsA c.rs) :: allA mrA c.rs.l :: (dsA c.ds) :: allA blA bs :: own a12 (dd.length + c.ds.l.length) c13 33 5 ((dd.flatMap rcc) ++ (c.ds.l.flatMap rcc)) :: X :: allA recA dels :: own oa S.length oc 99 3 (S.flatMap mrc) :: allA mrA S :: D :: L) rfl)
   clear hS11
   exact NX.again (k + 1, dd ++ c.ds.l, a12, c13) ⟨⟨by omega, by omega, by rw [drop_cons hc] at hdd; rw [← hdd]; simp, by rw [drop_cons hc] at hdn; simp only [dtot] at hdn; rw [List.length_append]; omega⟩, own_eqM ((hS14.mask [true, false, false, false] (L' := allA recA (dd ++ c.ds.l) :: allA blA bs :: own a12 (dd.length + c.ds.l.length) c13 33 5 ((dd.flatMap rcc) ++ (c.ds.l.flatMap rcc)) :: X :: allA recA dels :: own oa S.length oc 99 3 (S.flatMap mrc) :: allA mrA S :: D :: L) rfl).permT [2, 0, 1] (L' := own a12 (dd.length + c.ds.l.length) c13 33 5 ((dd.flatMap rcc) ++ (c.ds.l.flatMap rcc)) :: allA recA (dd ++ c.ds.l) :: X :: allA blA bs :: allA recA dels :: own oa S.length oc 99 3 (S.flatMap mrc) :: allA mrA S :: D :: L) rfl) (by simp) (by simp)⟩ (by show bs.length - (k + 1) < bs.length - k; omega) (Sub.cons rfl (Sub.cons rfl (Sub.cons rfl (Sub.cons rfl (Sub.consE rfl (by simp) (Sub.consE rfl (by congr 1) (Sub.nil _)))))))
  ·
   refine WP.exit (NX.thenExit (NX.thenExit ?_))
   refine NX.blkExit ?_
   refine NX.go (WP.seq ?_)
   have hS15 := blA_get (List.mem_of_getElem? hbl) (hS9.permT [3] (L' := allA blA bs :: own da dd.length dc 33 5 (dd.flatMap rcc) :: allA recA dd :: X :: allA recA dels :: own oa S.length oc 99 3 (S.flatMap mrc) :: allA mrA S :: D :: L) rfl)
   clear hS9
   have hS16 : St B ((rsA b1.rs) :: allA mrA b1.rs.l :: allA blA bs :: own da dd.length dc 33 5 (dd.flatMap rcc) :: allA recA dd :: X :: allA recA dels :: own oa S.length oc 99 3 (S.flatMap mrc) :: allA mrA S :: D :: L) w9 := (hS15.mask [true, true, false, false] (L' := (rsA b1.rs) :: allA mrA b1.rs.l :: allA blA bs :: own da dd.length dc 33 5 (dd.flatMap rcc) :: allA recA dd :: X :: allA recA dels :: own oa S.length oc 99 3 (S.flatMap mrc) :: allA mrA S :: D :: L) rfl)
   clear hS15
   have hS17 : St B ((rsA b1.rs) :: allA mrA b1.rs.l :: own da dd.length dc 33 5 (dd.flatMap rcc) :: allA recA dd :: X :: own oa S.length oc 99 3 (S.flatMap mrc) :: allA mrA S :: allA blA bs :: allA recA dels :: D :: L) w9 := (hS16.permT [0, 0, 1, 1, 1, 2, 2] (L' := (rsA b1.rs) :: allA mrA b1.rs.l :: own da dd.length dc 33 5 (dd.flatMap rcc) :: allA recA dd :: X :: own oa S.length oc 99 3 (S.flatMap mrc) :: allA mrA S :: allA blA bs :: allA recA dels :: D :: L) rfl)
   clear hS16
   have hdd' : dd = dels ++ (bs.drop (i + 1)).flatMap (·.ds.l) := by rw [← hdd, List.drop_of_length_le (by omega)]; simp
   have hddz : ∀ r ∈ dd, SzR r := fun r hr => dels_sz hdz hbz (hdd' ▸ hr)
   have hddn : dd.length ≤ 1099511627776 := by omega
   obtain ⟨RA, hRA⟩ : ∃ qq, rowsA (dd.map Rcd.p) ((b1.rs.l.drop 0).map MRow.p) (S.map MRow.p) = qq := ⟨_, rfl⟩
   refine WP.region rfl ?_
   refine WO.asg rfl rfl ?_
   refine WO.nil (NX.go (WP.block ?_))
   refine WP.loop (α := Nat × List MRow × Option Addr × Nat × Nat) (fun x => match x with | ⟨k, S, oa, oc, M⟩ => [(0, Value.slice a bs.length cap), (1, Value.slice b dels.length cap2), (5, Value.slice oa S.length oc), (6, Value.int .i64 (i : Int)), (7, Value.slice da dd.length dc), (9, Value.int .i64 (k : Int))]) (fun x w => match x with | ⟨k, S, oa, oc, M⟩ => (k ≤ b1.rs.l.length ∧ rowsA (dd.map Rcd.p) ((b1.rs.l.drop k).map MRow.p) (S.map MRow.p) = RA ∧ (∀ r ∈ S, r.lb.l.length ≤ 4398046511104) ∧ (∀ r ∈ S, r.pt.l.length ≤ M) ∧ S.length + (b1.rs.l.length - k + rtot (bs.drop (i + 1))) ≤ 1099511627776 ∧ M + (rsum (b1.rs.l.drop k) + ptot (bs.drop (i + 1))) ≤ 4398046511104) ∧ St B (own oa S.length oc 99 3 (S.flatMap mrc) :: allA mrA S :: own da dd.length dc 33 5 (dd.flatMap rcc) :: allA recA dd :: (rsA b1.rs) :: allA mrA b1.rs.l :: X :: allA blA bs :: allA recA dels :: D :: L) w) (fun x => match x with | ⟨k, S, oa, oc, M⟩ => b1.rs.l.length - k) (0, S, oa, oc, M) ⟨⟨Nat.zero_le _, hRA, hlb, hM, by rw [drop_cons hbl] at hSn; simp only [rtot] at hSn; simp only [Nat.sub_zero]; omega, by rw [drop_cons hbl] at hMn; simp only [ptot] at hMn; rw [List.drop_zero]; omega⟩, (hS17.permT [5, 5, 2, 2] (L' := own oa S.length oc 99 3 (S.flatMap mrc) :: allA mrA S :: own da dd.length dc 33 5 (dd.flatMap rcc) :: allA recA dd :: (rsA b1.rs) :: allA mrA b1.rs.l :: X :: allA blA bs :: allA recA dels :: D :: L) rfl)⟩ (Sub.cons rfl (Sub.cons rfl (Sub.cons rfl (Sub.cons rfl (Sub.cons rfl (Sub.consE rfl (by first | rfl | first | rfl | (congr 1; omega) | (simp; done) | (simp; omega)) (Sub.nil _))))))) ?_
   rintro ⟨k, S, oa, oc, M⟩ w18 ⟨⟨hk4, hgo4, hlb, hM, hSn4, hMn4⟩, hS18⟩
   clear hS17
   refine WP.seq (WP.seq ?_)
   have hsa : a.isSome = true := rd_isSome ((hX (hS18.focus 6 rfl))) (by omega)
   refine WP.region rfl ?_
   refine WO.mv rfl rfl ?_
   refine WO.mv rfl rfl ?_
   refine WO.mv rfl rfl ?_
   refine WO.V (run_indexAddr (q := adr a (i * 4)) Tryz.underlying22 Ty.sz51 rfl rfl (by omega) (by omega) ((hX (hS18.focus 6 rfl)).2.1 (by omega)) rfl) ?_
   refine WO.V (run_fa 2 (adr a (i * 4 + 2)) rfl (adr_add _ (by assumption) _ _)) ?_
   refine WO.V (run_load Ty.ag49 rfl ((hX (hS18.focus 6 rfl)).cell ((flat_get blc_len hbl (j := 2) (by decide)).trans rfl))) ?_
   refine WO.V (run_len rfl Tryz.underlying49 rfl) ?_
   refine WO.V (run_lss rfl rfl) ?_
   refine WO.nil (NX.go ?_)
   refine WP.condP rfl (fun g44 => ?_) (fun g44 => ?_)
   ·
    refine WP.skip (NX.go (WP.seq (WP.block (WP.seq ?_))))
    obtain ⟨u, hu⟩ : ∃ qq, b1.rs.l[k]? = some qq := ⟨_, List.getElem?_eq_getElem (by omega)⟩
    have hsa : a.isSome = true := rd_isSome ((hX (hS18.focus 6 rfl))) (by omega)
    refine WP.region rfl ?_
    refine WO.mv rfl rfl ?_
    refine WO.mv rfl rfl ?_
    refine WO.V (run_indexAddr (q := adr a (i * 4)) Tryz.underlying22 Ty.sz51 rfl rfl (by omega) (by omega) ((hX (hS18.focus 6 rfl)).2.1 (by omega)) rfl) ?_
    refine WO.V (run_fa 2 (adr a (i * 4 + 2)) rfl (adr_add _ (by assumption) _ _)) ?_
    refine WO.V (run_load Ty.ag49 rfl ((hX (hS18.focus 6 rfl)).cell ((flat_get blc_len hbl (j := 2) (by decide)).trans rfl))) ?_
    refine WO.mv rfl rfl ?_
    refine WO.V (run_indexAddr (q := adr b1.rs.a (k * 3)) Tryz.underlying49 Ty.sz99 rfl rfl (by omega) (by omega) ((rdH_rd (hS18.focus 4 rfl)).2.1 (by omega)) rfl) ?_
    refine WO.V (run_loadAgg (vs := (mrc u)) Ty.ag99 Ty.sz99 rfl ((rdH_rd (hS18.focus 4 rfl)).cells (by rw [flat_len mrc_len]; omega) (flat_part mrc_len hu)).1 ((rdH_rd (hS18.focus 4 rfl)).cells (by rw [flat_len mrc_len]; omega) (flat_part mrc_len hu)).2) ?_
    refine WO.alloc (l := [Value.slice none 0 0, Value.int .i64 0, Value.slice none 0 0]) hS18 Ty.zr99 rfl rfl (fun g20 w19 lg20 hS19 => ?_)
    clear hS18
    refine WO.store (l' := (mrc u)) 0 hS19 rfl Ty.sz99 rfl rfl rfl rfl rfl (Nat.le_of_ble_eq_true rfl) rfl (fun w21 (hS21 : St B (cel g20 (mrc u) 99 :: own oa S.length oc 99 3 (S.flatMap mrc) :: allA mrA S :: own da dd.length dc 33 5 (dd.flatMap rcc) :: allA recA dd :: (rsA b1.rs) :: allA mrA b1.rs.l :: X :: allA blA bs :: allA recA dels :: D :: L) w21) => ?_)
    clear hS19
    refine WO.nil (NX.go (WP.seq ?_))
    have hS22 := mrA_get (List.mem_of_getElem? hu) (hS21.permT [6] (L' := allA mrA b1.rs.l :: cel g20 (mrc u) 99 :: own oa S.length oc 99 3 (S.flatMap mrc) :: allA mrA S :: own da dd.length dc 33 5 (dd.flatMap rcc) :: allA recA dd :: (rsA b1.rs) :: X :: allA blA bs :: allA recA dels :: D :: L) rfl)
    clear hS21
    have hup := (hbz1.r u (List.mem_of_getElem? hu)).2.1
    have hS23 : St B ((labA u.lb) :: (ptsA u.pt) :: cel g20 (mrc u) 99 :: own da dd.length dc 33 5 (dd.flatMap rcc) :: allA recA dd :: allA mrA b1.rs.l :: own oa S.length oc 99 3 (S.flatMap mrc) :: allA mrA S :: (rsA b1.rs) :: X :: allA blA bs :: allA recA dels :: D :: L) w21 := (hS22.permT [0, 0, 1, 3, 3] (L' := (labA u.lb) :: (ptsA u.pt) :: cel g20 (mrc u) 99 :: own da dd.length dc 33 5 (dd.flatMap rcc) :: allA recA dd :: allA mrA b1.rs.l :: own oa S.length oc 99 3 (S.flatMap mrc) :: allA mrA S :: (rsA b1.rs) :: X :: allA blA bs :: allA recA dels :: D :: L) rfl)
    clear hS22
    refine WP.region rfl ?_
    refine WO.asg rfl rfl ?_
    refine WO.nil (NX.go (WP.seq (WP.seq (WP.region rfl ?_))))
    refine WO.asg rfl rfl ?_
    refine WO.nil (NX.go (WP.block ?_))
    replace hS23 := hS23.own_nil 103 2
    refine WP.loop (α := Nat × Option Addr × Nat) (fun x => match x with | ⟨j, pa, pc⟩ => [(0, Value.slice a bs.length cap), (1, Value.slice b dels.length cap2), (5, Value.slice oa S.length oc), (6, Value.int .i64 (i : Int)), (7, Value.slice da dd.length dc), (9, Value.int .i64 (k : Int)), (10, Value.pointer (some ⟨g20, 0, none⟩)), (11, Value.slice pa (((u.pt.l.take j).filter (ngone dd u.lb.l)).length) pc), (12, Value.int .i64 (j : Int))]) (fun x w => match x with | ⟨j, pa, pc⟩ => (j ≤ u.pt.l.length) ∧ St B (own pa (((u.pt.l.take j).filter (ngone dd u.lb.l)).length) pc 103 2 (((u.pt.l.take j).filter (ngone dd u.lb.l)).flatMap ptc) :: cel g20 (mrc u) 99 :: (labA u.lb) :: (ptsA u.pt) :: own da dd.length dc 33 5 (dd.flatMap rcc) :: allA recA dd :: allA mrA b1.rs.l :: own oa S.length oc 99 3 (S.flatMap mrc) :: allA mrA S :: (rsA b1.rs) :: X :: allA blA bs :: allA recA dels :: D :: L) w) (fun x => match x with | ⟨j, pa, pc⟩ => u.pt.l.length - j) (0, none, 0) ⟨Nat.zero_le _, (hS23.permT [0, 2] (L' := own none 0 0 103 2 [] :: cel g20 (mrc u) 99 :: (labA u.lb) :: (ptsA u.pt) :: own da dd.length dc 33 5 (dd.flatMap rcc) :: allA recA dd :: allA mrA b1.rs.l :: own oa S.length oc 99 3 (S.flatMap mrc) :: allA mrA S :: (rsA b1.rs) :: X :: allA blA bs :: allA recA dels :: D :: L) rfl)⟩ (Sub.cons rfl (Sub.cons rfl (Sub.cons rfl (Sub.cons rfl (Sub.cons rfl (Sub.cons rfl (Sub.cons rfl (Sub.consE rfl (by first | rfl | first | rfl | (congr 1; omega) | (simp; done) | (simp; omega)) (Sub.consE rfl (by first | rfl | first | rfl | (congr 1; omega) | (simp; done) | (simp; omega)) (Sub.nil _)))))))))) ?_
    rintro ⟨j, pa, pc⟩ w24 ⟨hj, hS24⟩
    clear hS23
    refine WP.seq (WP.seq (WP.region rfl ?_))
    refine WO.mv rfl rfl ?_
    refine WO.V (run_fa 2 ⟨g20, 2, none⟩ rfl rfl) ?_
    refine WO.V (run_load Ty.ag66 rfl ((hS24.cel_at 1 rfl 2).trans rfl)) ?_
    refine WO.V (run_len rfl Tryz.underlying66 rfl) ?_
    refine WO.V (run_lss rfl rfl) ?_
    refine WO.nil (NX.go ?_)
    refine WP.condP rfl (fun g59 => ?_) (fun g59 => ?_)
    ·
     refine WP.skip (NX.go (WP.seq (WP.block (WP.seq ?_))))
     obtain ⟨p, hp⟩ : ∃ qq, u.pt.l[j]? = some qq := ⟨_, List.getElem?_eq_getElem (by omega)⟩
     have hsp : u.pt.a.isSome = true := rd_isSome ((rdH_rd (hS24.focus 3 rfl))) (by omega)
     have hfl := filter_take_le (ngone dd u.lb.l) u.pt.l j
     refine WD.start (fun w => Rd w pa (((u.pt.l.take j).filter (ngone dd u.lb.l)).length) 2 (((u.pt.l.take j).filter (ngone dd u.lb.l)).flatMap ptc) ∧ (∀ jz, World.cell? w ⟨g20, jz, none⟩ = (mrc u)[jz]?) ∧ Rd w u.lb.a u.lb.l.length 2 (u.lb.l.flatMap prc) ∧ Rd w u.pt.a u.pt.l.length 2 (u.pt.l.flatMap ptc) ∧ Rd w da dd.length 5 (dd.flatMap rcc)) [] (bt 11 0) Ty.mo rfl (by kernel_rfl) hS24 (fun _ h => ⟨(h.own_rd_i 0 rfl), h.cel_at 1 rfl, (rdH_rd (h.focus 2 rfl)), (rdH_rd (h.focus 3 rfl)), (h.own_rd_i 4 rfl)⟩) (fun w25 hS25 s26 => ?_)
     clear hS24
     refine DP (i := 0) t55_18 (bt 11 1) rfl rfl rfl rfl (fun w => run_move rfl) ?_
     refine DP (i := 1) t55_18 (bt 11 3) rfl rfl rfl rfl (fun w => run_fa 0 ⟨g20, 0, none⟩ rfl rfl) ?_
     refine DT (i := 2) t55_18 (bt 11 7) s26 rfl rfl rfl rfl (fun w hs => run_load Ty.ag65 rfl ((hs.2.1 0).trans rfl)) ?_
     refine DP (i := 3) t55_18 (bt 11 15) rfl rfl rfl rfl (fun w => run_fa 2 ⟨g20, 2, none⟩ rfl rfl) ?_
     refine DT (i := 4) t55_18 (bt 11 31) s26 rfl rfl rfl rfl (fun w hs => run_load Ty.ag66 rfl ((hs.2.1 2).trans rfl)) ?_
     refine DP (i := 5) t55_18 (bt 11 63) rfl rfl rfl rfl (fun w => run_move rfl) ?_
     refine DT (i := 6) t55_18 (bt 11 127) s26 rfl rfl rfl rfl (fun w hs => run_indexAddr (q := adr u.pt.a (j * 2)) Tryz.underlying66 Ty.sz103 rfl rfl (by omega) (by omega) ((hs.2.2.2.1).2.1 (by omega)) rfl) ?_
     refine DP (i := 7) t55_18 (bt 11 255) rfl rfl rfl rfl (fun w => run_fa 0 (adr u.pt.a (j * 2 + 0)) rfl (adr_add _ (by assumption) _ _)) ?_
     refine DT (i := 8) t55_18 (bt 11 511) s26 rfl rfl rfl rfl (fun w hs => run_load Ty.ag2 rfl ((hs.2.2.2.1).cell ((flat_get ptc_len hp (j := 0) (by decide)).trans rfl))) ?_
     refine WD.one (i := 9) t55_18 (bt 11 1023) rfl (by kernel_rfl) ?_
     have hS27 := hS25.permT [4, 4, 2] (L' := own da dd.length dc 33 5 (dd.flatMap rcc) :: allA recA dd :: (labA u.lb) :: own pa (((u.pt.l.take j).filter (ngone dd u.lb.l)).length) pc 103 2 (((u.pt.l.take j).filter (ngone dd u.lb.l)).flatMap ptc) :: cel g20 (mrc u) 99 :: (ptsA u.pt) :: allA mrA b1.rs.l :: own oa S.length oc 99 3 (S.flatMap mrc) :: allA mrA S :: (rsA b1.rs) :: X :: allA blA bs :: allA recA dels :: D :: L) rfl
     clear hS25
     refine WO.call rfl rfl Ty.hd92 rfl (rgone_spec (X := own da dd.length dc 33 5 (dd.flatMap rcc)) (fun h => h.own_rd.1) rdH_rd hddz (by omega) (hbz1.r u (List.mem_of_getElem? hu)).1 p.t hS27) (fun v29 w28 pv29 => ?_)
     obtain ⟨rfl, hS28⟩ := pv29
     clear hS27
     refine WO.nil ?_
     have s30 : Rd w28 pa (((u.pt.l.take j).filter (ngone dd u.lb.l)).length) 2 (((u.pt.l.take j).filter (ngone dd u.lb.l)).flatMap ptc) ∧ (∀ jz, World.cell? w28 ⟨g20, jz, none⟩ = (mrc u)[jz]?) ∧ Rd w28 u.lb.a u.lb.l.length 2 (u.lb.l.flatMap prc) ∧ Rd w28 u.pt.a u.pt.l.length 2 (u.pt.l.flatMap ptc) ∧ Rd w28 da dd.length 5 (dd.flatMap rcc) := ⟨(hS28.own_rd_i 3 rfl), hS28.cel_at 4 rfl, (rdH_rd (hS28.focus 2 rfl)), (rdH_rd (hS28.focus 5 rfl)), (hS28.own_rd_i 0 rfl)⟩
     refine NX.held s30 ?_
     refine DP (i := 10) t55_18 (bt 11 2047) rfl rfl rfl rfl (fun w => run_not rfl rfl) ?_
     refine WD.done t55_18 (by kernel_rfl) ?_
     refine NX.go ?_
     refine WP.condB rfl (fun g72 => ?_) (fun g72 => ?_)
     ·
      refine WP.region rfl ?_
      refine WO.mv rfl rfl ?_
      refine WO.V (run_fa 2 ⟨g20, 2, none⟩ rfl rfl) ?_
      refine WO.V (run_load Ty.ag66 rfl ((hS28.cel_at 4 rfl 2).trans rfl)) ?_
      refine WO.mv rfl rfl ?_
      refine WO.V (run_indexAddr (q := adr u.pt.a (j * 2)) Tryz.underlying66 Ty.sz103 rfl rfl (by omega) (by omega) ((rdH_rd (hS28.focus 5 rfl)).2.1 (by omega)) rfl) ?_
      refine WO.V (run_loadAgg (vs := (ptc p)) Ty.ag103 Ty.sz103 rfl ((rdH_rd (hS28.focus 5 rfl)).cells (by rw [flat_len ptc_len]; omega) (flat_part ptc_len hp)).1 ((rdH_rd (hS28.focus 5 rfl)).cells (by rw [flat_len ptc_len]; omega) (flat_part ptc_len hp)).2) ?_
      refine WO.buildSlice (l := (ptc p)) hS28 Tryz.underlying66 rfl (fun w => by kernel_rfl) rfl (fun g32 w31 lg32 hS31 => ?_)
      clear hS28
      refine WO.append (news := (ptc p)) 4 rfl Tryz.underlying66 Tryz.underlying66 (fun _ h => by cases h) Ty.sz103 (by decide) Ty.by103 Ty.zr103 rfl rfl rfl rfl hS31 rfl ((hS31.cel_rd 0 rfl (o := 0) (m := 1) (k := 2) rfl (Nat.le_of_ble_eq_true rfl)).src) rfl (by omega) (by omega) (fun a34 c35 w33 hS33 => ?_)
      replace hS33 : St B (cel g32 (ptc p) 103 :: own da dd.length dc 33 5 (dd.flatMap rcc) :: allA recA dd :: (labA u.lb) :: own a34 ((((u.pt.l.take j).filter (ngone dd u.lb.l)).length) + 1) c35 103 2 ((((u.pt.l.take j).filter (ngone dd u.lb.l)).flatMap ptc) ++ (ptc p)) :: cel g20 (mrc u) 99 :: (ptsA u.pt) :: allA mrA b1.rs.l :: own oa S.length oc 99 3 (S.flatMap mrc) :: allA mrA S :: (rsA b1.rs) :: X :: allA blA bs :: allA recA dels :: D :: L) w33 := hS33
      clear hS31
      refine WO.asg rfl rfl ?_
      refine WO.nil (NX.blk (NX.go (WP.region rfl ?_)))
      refine WO.mv rfl rfl ?_
      refine WO.V (run_add rfl rfl (IntWalk.i64_in _ (by omega))) ?_
      refine WO.asg rfl rfl ?_
      refine WO.nil ?_
      exact NX.again (j + 1, a34, c35) ⟨by omega, own_eqM (hS33.permT [0, 3, 3, 2, 2] (L' := cel g32 (ptc p) 103 :: own a34 ((((u.pt.l.take j).filter (ngone dd u.lb.l)).length) + 1) c35 103 2 ((((u.pt.l.take j).filter (ngone dd u.lb.l)).flatMap ptc) ++ (ptc p)) :: cel g20 (mrc u) 99 :: (labA u.lb) :: (ptsA u.pt) :: own da dd.length dc 33 5 (dd.flatMap rcc) :: allA recA dd :: allA mrA b1.rs.l :: own oa S.length oc 99 3 (S.flatMap mrc) :: allA mrA S :: (rsA b1.rs) :: X :: allA blA bs :: allA recA dels :: D :: L) rfl).drop (by rw [take_filter hp, if_pos (by simp [ngone, g72])]; simp) (by rw [take_filter hp, if_pos (by simp [ngone, g72])]; rw [flat_snoc] <;> rfl)⟩ (by show u.pt.l.length - (j + 1) < u.pt.l.length - j; omega) (Sub.cons rfl (Sub.cons rfl (Sub.cons rfl (Sub.cons rfl (Sub.cons rfl (Sub.cons rfl (Sub.cons rfl (Sub.consE rfl (by rw [take_filter hp, if_pos (by simp [ngone, g72])]; simp) (Sub.consE rfl (by congr 1) (Sub.nil _))))))))))
     ·
      refine WP.skip (NX.blk (NX.go (WP.region rfl ?_)))
      refine WO.mv rfl rfl ?_
      refine WO.V (run_add rfl rfl (IntWalk.i64_in _ (by omega))) ?_
      refine WO.asg rfl rfl ?_
      refine WO.nil ?_
      exact NX.again (j + 1, pa, pc) ⟨by omega, own_eqM (hS28.permT [3, 3, 2, 2] (L' := own pa (((u.pt.l.take j).filter (ngone dd u.lb.l)).length) pc 103 2 (((u.pt.l.take j).filter (ngone dd u.lb.l)).flatMap ptc) :: cel g20 (mrc u) 99 :: (labA u.lb) :: (ptsA u.pt) :: own da dd.length dc 33 5 (dd.flatMap rcc) :: allA recA dd :: allA mrA b1.rs.l :: own oa S.length oc 99 3 (S.flatMap mrc) :: allA mrA S :: (rsA b1.rs) :: X :: allA blA bs :: allA recA dels :: D :: L) rfl) (by rw [take_filter hp, if_neg (by simp [ngone, g72])]) (by rw [take_filter hp, if_neg (by simp [ngone, g72])])⟩ (by show u.pt.l.length - (j + 1) < u.pt.l.length - j; omega) (Sub.cons rfl (Sub.cons rfl (Sub.cons rfl (Sub.cons rfl (Sub.cons rfl (Sub.cons rfl (Sub.cons rfl (Sub.consE rfl (by rw [take_filter hp, if_neg (by simp [ngone, g72])]) (Sub.consE rfl (by congr 1) (Sub.nil _))))))))))
    ·
     refine WP.exit (NX.thenExit (NX.thenExit ?_))
     refine NX.blkExit ?_
     refine NX.go ?_
     have hjl : u.pt.l.take j = u.pt.l := List.take_of_length_le (by omega)
     have hfl2 := List.length_filter_le (ngone dd u.lb.l) u.pt.l
     have hMn5 := hMn4
     rw [drop_cons hu] at hMn5
     simp only [rsum] at hMn5
     have hS36 : St B (own pa ((u.pt.l.filter (ngone dd u.lb.l)).length) pc 103 2 ((u.pt.l.filter (ngone dd u.lb.l)).flatMap ptc) :: cel g20 (mrc u) 99 :: (labA u.lb) :: (ptsA u.pt) :: own da dd.length dc 33 5 (dd.flatMap rcc) :: allA recA dd :: allA mrA b1.rs.l :: own oa S.length oc 99 3 (S.flatMap mrc) :: allA mrA S :: (rsA b1.rs) :: X :: allA blA bs :: allA recA dels :: D :: L) w24 := by rw [hjl] at hS24; exact hS24
     clear hS24
     refine WP.as (d := 11) (v := Value.slice pa ((u.pt.l.filter (ngone dd u.lb.l)).length) pc) rfl (by rw [hjl]) ?_
     refine WP.region rfl ?_
     refine WO.mv rfl rfl ?_
     refine WO.V (run_loadAgg (vs := (mrc u)) Ty.ag99 Ty.sz99 rfl rfl (cell_all (hS36.cel_at 1 rfl) 0 rfl)) ?_
     refine WO.mv rfl rfl ?_
     have hS37 := hS36.permT [7, 7, 2] (L' := own oa S.length oc 99 3 (S.flatMap mrc) :: allA mrA S :: (labA u.lb) :: own pa ((u.pt.l.filter (ngone dd u.lb.l)).length) pc 103 2 ((u.pt.l.filter (ngone dd u.lb.l)).flatMap ptc) :: cel g20 (mrc u) 99 :: (ptsA u.pt) :: own da dd.length dc 33 5 (dd.flatMap rcc) :: allA recA dd :: allA mrA b1.rs.l :: (rsA b1.rs) :: X :: allA blA bs :: allA recA dels :: D :: L) rfl
     clear hS36
     refine WO.call rfl rfl Ty.hd62 rfl (radd_spec (Y := own pa ((u.pt.l.filter (ngone dd u.lb.l)).length) pc 103 2 ((u.pt.l.filter (ngone dd u.lb.l)).flatMap ptc)) (ps := u.pt.l.filter (ngone dd u.lb.l)) (M := M) (fun h => h.own_rd.1) u (by omega) hlb (hbz1.r u (List.mem_of_getElem? hu)).1 hM (by omega) hS37) (fun v39 w38 pv39 => ?_)
     obtain ⟨a2, c2, S2, rfl, hS2, hn2, hlb2, hM2, hS38⟩ := pv39
     clear hS37
     refine WO.asg rfl rfl ?_
     refine WO.nil (NX.blk (NX.go (WP.region rfl ?_)))
     refine WO.mv rfl rfl ?_
     refine WO.V (run_add rfl rfl (IntWalk.i64_in _ (by omega))) ?_
     refine WO.asg rfl rfl ?_
     refine WO.nil ?_
     exact NX.again (k + 1, S2, a2, c2, M + (u.pt.l.filter (ngone dd u.lb.l)).length) ⟨⟨by omega, by rw [drop_cons hu, rowsA_cons] at hgo4; rw [hS2]; exact hgo4, hlb2, hM2, by rw [drop_cons hu] at hMn4; simp only [rsum] at hMn4; have := List.length_filter_le (ngone dd u.lb.l) u.pt.l; omega, by rw [drop_cons hu] at hMn4; simp only [rsum] at hMn4; have := List.length_filter_le (ngone dd u.lb.l) u.pt.l; omega⟩, ((hS38.mask [true, true, false, false, false, false] (L' := own a2 S2.length c2 99 3 (S2.flatMap mrc) :: allA mrA S2 :: own da dd.length dc 33 5 (dd.flatMap rcc) :: allA recA dd :: allA mrA b1.rs.l :: (rsA b1.rs) :: X :: allA blA bs :: allA recA dels :: D :: L) rfl).permT [0, 0, 0, 0, 1] (L' := own a2 S2.length c2 99 3 (S2.flatMap mrc) :: allA mrA S2 :: own da dd.length dc 33 5 (dd.flatMap rcc) :: allA recA dd :: (rsA b1.rs) :: allA mrA b1.rs.l :: X :: allA blA bs :: allA recA dels :: D :: L) rfl)⟩ (by show b1.rs.l.length - (k + 1) < b1.rs.l.length - k; omega) (Sub.cons rfl (Sub.cons rfl (Sub.consE rfl (by first | rfl | (congr 1; omega) | (simp; done) | (simp; omega)) (Sub.cons rfl (Sub.cons rfl (Sub.consE rfl (by congr 1) (Sub.nil _)))))))
   ·
    refine WP.exit (NX.thenExit (NX.thenExit ?_))
    refine NX.blkExit ?_
    refine NX.blk (NX.go (WP.region rfl ?_))
    refine WO.mv rfl rfl ?_
    refine WO.V (run_add rfl rfl (IntWalk.i64_in _ (by omega))) ?_
    refine WO.asg rfl rfl ?_
    refine WO.nil ?_
    exact NX.again (i + 1, S, oa, oc, M) ⟨⟨by omega, by rw [List.drop_of_length_le (by omega)] at hgo4; rw [drop_cons hbl, leftA_cons hdd'] at hgo; rw [List.drop_zero] at hRA; rw [← hgo, hRA, ← hgo4]; rfl, hlb, hM, by omega, by omega⟩, ((hS18.mask [true, true, false, false, false, false] (L' := own oa S.length oc 99 3 (S.flatMap mrc) :: allA mrA S :: X :: allA blA bs :: allA recA dels :: D :: L) rfl).permT [0, 0, 0, 0, 1] (L' := own oa S.length oc 99 3 (S.flatMap mrc) :: allA mrA S :: X :: allA blA bs :: D :: allA recA dels :: L) rfl)⟩ (by show bs.length - (i + 1) < bs.length - i; omega) (Sub.cons rfl (Sub.cons rfl (Sub.consE rfl (by first | rfl | (congr 1; omega) | (simp; done) | (simp; omega)) (Sub.consE rfl (by congr 1) (Sub.nil _)))))
 ·
  refine WP.exit (NX.thenExit (NX.thenExit ?_))
  refine NX.blkExit ?_
  refine NX.go (WP.seq (WP.region rfl ?_))
  refine WO.mv rfl rfl ?_
  refine WO.asg rfl rfl ?_
  refine WO.nil (NX.go (WP.ret ?_))
  refine NX.done (l := [.tmp 4]) rfl rfl ?_
  have hend : S.map MRow.p = leftA (dels.map Rcd.p) (bs.map BlkV.p) [] := by rw [← hgo, List.drop_of_length_le (by omega)]; rfl
  exact ⟨oa, oc, S, rfl, hend, by omega, hlb, fun r hr => Nat.le_trans (hM r hr) (by omega), hS1⟩
end Go.Proofs.YtidoidoelgfnaaaGreatDoor.SL

/- The reference: queries. -/
namespace Go.Proofs.YtidoidoelgfnaaaGreatDoor.SL
open Go.RowKit Go.Proofs.YtidoidoelgfnaaaGreatDoor
open Go.Proofs.YtidoidoelgfnaaaGreatDoorW.PrintLast (rtab opsOf)
set_option linter.unusedVariables false
set_option linter.unusedSimpArgs false

end Go.Proofs.YtidoidoelgfnaaaGreatDoor.SL

/- Lists of series are compared. -/
namespace Go.Proofs.YtidoidoelgfnaaaGreatDoor.SL
open Go.RowKit Go.Proofs.YtidoidoelgfnaaaGreatDoor
open Go.Proofs.YtidoidoelgfnaaaGreatDoorW.PrintLast (rtab opsOf)
set_option linter.unusedVariables false
set_option linter.unusedSimpArgs false

end Go.Proofs.YtidoidoelgfnaaaGreatDoor.SL
