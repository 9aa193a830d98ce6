/- A disk: what is in it. -/
import Derived.Test.YtcehlnpbdffdhaaDoorDr2
namespace Go.Proofs.YtcehlnpbdffdhaaDoor.SL
open Go.RowKit Go.Proofs.YtcehlnpbdffdhaaDoor
open Go.Proofs.YtcehlnpbdffdhaaDoorW.PrintLast (rtab opsOf)
set_option linter.unusedVariables false
set_option linter.unusedSimpArgs false

theorem findN_mem {k : List UInt8} {i : Nat} : ∀ {l : Nm}, findN k l = some i → (k, i) ∈ l
  | [], h => by cases h
  | e :: l, h => by
    unfold findN at h
    split at h
    · rename_i e1; cases h; subst e1; exact List.mem_cons_self ..
    · exact List.mem_cons_of_mem _ (findN_mem h)
theorem esOf_step {gs : List Nat} {R : Nm} {pre post : List (List UInt8 × Value)} {k : List UInt8} {v : Value} (h : (pre ++ (k, v) :: post).Perm (esOf gs R)) :
    ∃ (e : List UInt8 × Nat) (R' : Nm), R.Perm (e :: R') ∧ k = e.1 ∧ v = ptrV (gs.getD e.2 0) ∧ (pre ++ post).Perm (esOf gs R') := by
  have hm : (k, v) ∈ esOf gs R := h.mem_iff.1 (by simp)
  obtain ⟨e, he, hkv⟩ := List.mem_map.1 hm
  cases hkv
  refine ⟨e, R.erase e, List.perm_cons_erase he, rfl, rfl, ?_⟩
  have h2 : (pre ++ (e.1, ptrV (gs.getD e.2 0)) :: post).Perm ((e.1, ptrV (gs.getD e.2 0)) :: (pre ++ post)) := List.perm_middle
  have h3 := (h2.symm.trans h).trans (esOf_perm (List.perm_cons_erase he))
  exact h3.cons_inv
theorem usedN_perm {f : List (List UInt8 × Nat)} {l m : Nm} (h : l.Perm m) : usedN f l = usedN f m := (h.map _).sum_nat
theorem usedN_cons (f : List (List UInt8 × Nat)) (e : List UInt8 × Nat) (l : Nm) : usedN f (e :: l) = (fileAt f e.2).1.length + usedN f l := rfl
/-- The address that a look-up hands out. -/
def findP (gs : List Nat) (k : List UInt8) (l : Nm) : Option Addr := (findN k l).map fun i => ⟨gs.getD i 0, 0, none⟩
theorem look_ok {dx : DkX} {D : Dk} (ok : OkX dx D) (hw : WFD D) (k : List UInt8) : (getS dx.e1 k).getD (.pointer none) = .pointer (findP dx.gs k D.nm) := by
  rw [getS_perm ok.p1 (by rw [esOf_keys]; exact hw.good.s.nodup), getS_esOf]
  unfold findP
  cases findN k D.nm <;> rfl
theorem findP_some {gs : List Nat} {k : List UInt8} {l : Nm} (h : (findP gs k l).isNone = false) : ∃ i, findN k l = some i := by
  unfold findP at h
  cases e : findN k l with
  | none => rw [e] at h; cases h
  | some i => exact ⟨i, rfl⟩
theorem findP_none {gs : List Nat} {k : List UInt8} {l : Nm} (h : (findP gs k l).isNone = true) : findN k l = none := by
  unfold findP at h
  cases e : findN k l with
  | none => rfl
  | some i => rw [e] at h; cases h
theorem findP_eq {gs : List Nat} {k : List UInt8} {l : Nm} {i q : Nat} (h : findN k l = some i) (hq : q = gs.getD i 0) : Value.pointer (findP gs k l) = .pointer (some ⟨q, 0, none⟩) := by
  unfold findP; rw [h, hq]; rfl
theorem WFD.find {D : Dk} (hw : WFD D) {k : List UInt8} {i : Nat} (h : findN k D.nm = some i) : i < D.f.length ∧ fileF k = true := findN_lt hw.good.f h
theorem filesA_cell {B w : World} {L : List HP} {gs : List Nat} {f : List (List UInt8 × Nat)} {i q : Nat} (h : St B (filesA gs f :: L) w) (hi : i < f.length) (hq : q = gs.getD i 0) : w.cell? ⟨q, 0, none⟩ = some (str (fileAt f i).1) ∧ w.cell? ⟨q, 1, none⟩ = some (.int .i64 ((fileAt f i).2 : Int)) := by
  have h1 := filesA_pick hi h
  rw [← hq] at h1
  exact ⟨(St.cel_at h1 0 rfl 0).trans rfl, (St.cel_at h1 0 rfl 1).trans rfl⟩
theorem fileAt_le {D : Dk} {n t : Nat} (hb : Bnd D n t) {i : Nat} (hi : i < D.f.length) : (fileAt D.f i).1.length ≤ t := hb.t _ (fileAt_mem hi)
theorem dused_open {B w : World} {L : List HP} {g : Nat} {D : Dk} {dx : DkX} {n t : Nat} (ok : OkX dx D) (hw : WFD D) (hb : Bnd D n t) (ht : t ≤ 1099511627776) (h0 : St B (cel g [Value.int .i64 D.room, Value.map (some dx.r1), Value.map (some dx.r2), Value.slice dx.a dx.vs.length dx.cap, Value.bool D.dead, Value.int .i64 D.left] 103 :: mpS dx.r1 dx.e1 :: mpS dx.r2 dx.e2 :: own dx.a dx.vs.length dx.cap 108 1 dx.vs :: chsA dx.gs D.ch dx.vs :: filesA dx.gs D.f :: L) w) : Does Tryd.prog 27 [Value.pointer (some ⟨g, 0, none⟩)] w (fun v w1 => v = .int .i64 ((usedN D.f D.nm : Nat) : Int) ∧ St B (cel g [Value.int .i64 D.room, Value.map (some dx.r1), Value.map (some dx.r2), Value.slice dx.a dx.vs.length dx.cap, Value.bool D.dead, Value.int .i64 D.left] 103 :: mpS dx.r1 dx.e1 :: mpS dx.r2 dx.e2 :: own dx.a dx.vs.length dx.cap 108 1 dx.vs :: chsA dx.gs D.ch dx.vs :: filesA dx.gs D.f :: L) w1) := by
 have hu := usedN_le hb D.nm
 have h64 := hw.nm64
 have hub : usedN D.f D.nm ≤ 70368744177664 := Nat.le_trans hu (Nat.mul_le_mul h64 ht)
 refine enter (n := 23) Tryd.func27 rfl rfl [Value.pointer (some ⟨g, 0, none⟩)] rfl ?_
 refine WP.seq ?_
 refine WP.region rfl ?_
 refine WO.val (run_assign rfl) rfl rfl rfl ?_
 refine WO.nil ?_
 refine NX.go ?_
 refine WP.seq ?_
 refine WP.region rfl ?_
 refine WO.val (run_assign rfl) rfl rfl rfl ?_
 refine WO.nil ?_
 refine NX.go ?_
 refine WP.seq ?_
 refine WP.seq ?_
 refine WP.region rfl ?_
 refine WO.val (run_move rfl) rfl rfl rfl ?_
 refine WO.val (run_nilCheck rfl) rfl rfl rfl ?_
 refine WO.val (run_fieldAddr (q := ⟨g, 1, none⟩) (show fieldB Tryd.prog 103 1 = some 1 from by kernel_rfl) rfl rfl) rfl rfl rfl ?_
 refine WO.val (run_load Ty.ag100 rfl ((h0.cel_at 0 rfl 1).trans rfl)) rfl rfl rfl ?_
 refine WO.rangeM 1 h0 rfl Tryd.underlying100 rfl rfl (fun r2 w1 hS1 => ?_)
 clear h0
 refine WO.nil ?_
 refine NX.go ?_
 refine WP.block ?_
 refine WP.loop (α := Nat × Nm × List (List UInt8 × Value) × Option (List UInt8 × Value)) (fun x => match x with | ⟨acc, R, rst, cur⟩ => [(3, Value.int .i64 (acc : Int)), (10, Value.pointer (some ⟨r2, 0, none⟩))]) (fun x w => match x with | ⟨acc, R, rst, cur⟩ => (rst.Perm (esOf dx.gs R) ∧ acc + usedN D.f R = usedN D.f D.nm ∧ (∀ e ∈ R, e.2 < D.f.length)) ∧ St B (cel g [Value.int .i64 D.room, Value.map (some dx.r1), Value.map (some dx.r2), Value.slice dx.a dx.vs.length dx.cap, Value.bool D.dead, Value.int .i64 D.left] 103 :: itM dx.r1 r2 dx.e1 rst cur :: mpS dx.r2 dx.e2 :: own dx.a dx.vs.length dx.cap 108 1 dx.vs :: chsA dx.gs D.ch dx.vs :: filesA dx.gs D.f :: L) w) (fun x => match x with | ⟨acc, R, rst, cur⟩ => rst.length) (0, D.nm, dx.e1, none) ⟨⟨ok.p1, Nat.zero_add _, fun e he => (hw.good.f e he).2⟩, hS1⟩ (Sub.consE rfl (by first | rfl | first | rfl | (congr 1; omega) | (simp; done) | (simp; omega)) (Sub.cons rfl (Sub.nil _))) ?_
 rintro ⟨acc, R, rst, cur⟩ w3 ⟨⟨hR, hacc, hin⟩, hS3⟩
 clear hS1
 refine WP.seq ?_
 refine WP.region rfl ?_
 refine WO.nextM 1 hS3 rfl rfl rfl (fun e11 => ?_) (fun pre11 nk nv post11 e11 w4 hS4 => ?_)
 ·
  refine WO.val (run_extract rfl rfl) rfl rfl rfl ?_
  refine WO.nil ?_
  refine NX.go ?_
  refine WP.seq ?_
  refine WP.condF rfl rfl ?_
  refine WP.exit ?_
  refine NX.thenExit ?_
  refine NX.thenExit ?_
  refine NX.blkExit ?_
  refine NX.go ?_
  refine WP.seq ?_
  refine WP.region rfl ?_
  refine WO.val (run_move rfl) rfl rfl rfl ?_
  refine WO.val (run_assign rfl) rfl rfl rfl ?_
  refine WO.nil ?_
  refine NX.go ?_
  refine WP.ret ?_
  have hS5 := St.itM_end (hS3.permT [1, 0, 0, 0, 0, 0] (L' := itM dx.r1 r2 dx.e1 rst cur :: cel g [Value.int .i64 D.room, Value.map (some dx.r1), Value.map (some dx.r2), Value.slice dx.a dx.vs.length dx.cap, Value.bool D.dead, Value.int .i64 D.left] 103 :: mpS dx.r2 dx.e2 :: own dx.a dx.vs.length dx.cap 108 1 dx.vs :: chsA dx.gs D.ch dx.vs :: filesA dx.gs D.f :: L) rfl)
  clear hS3
  refine NX.done (l := [.tmp 2]) rfl rfl ?_
  have hRn : R = [] := by subst e11; have := hR.length_eq; unfold esOf at this; rw [List.length_map] at this; exact List.length_eq_zero_iff.1 (by simpa using this.symm)
  have hfin : acc = usedN D.f D.nm := by rw [← hacc, hRn]; rfl
  exact ⟨by rw [hfin]; rfl, ((hS5.permT [1, 0, 0, 0, 0, 0] (L' := cel g [Value.int .i64 D.room, Value.map (some dx.r1), Value.map (some dx.r2), Value.slice dx.a dx.vs.length dx.cap, Value.bool D.dead, Value.int .i64 D.left] 103 :: mpS dx.r1 dx.e1 :: mpS dx.r2 dx.e2 :: own dx.a dx.vs.length dx.cap 108 1 dx.vs :: chsA dx.gs D.ch dx.vs :: filesA dx.gs D.f :: L) rfl))⟩
 ·
  rw [e11] at hR
  obtain ⟨e, R2, hR1, rfl, hv, hR4⟩ := esOf_step hR
  obtain ⟨q, hq⟩ : ∃ q, q = dx.gs.getD e.2 0 := ⟨_, rfl⟩
  rw [← hq] at hv
  subst hv
  have hlt : e.2 < D.f.length := hin e (hR1.mem_iff.2 (List.mem_cons_self ..))
  have hfl := fileAt_le hb hlt
  have hle : (fileAt D.f e.2).1.length ≤ usedN D.f R := by rw [usedN_perm hR1, usedN_cons]; omega
  refine WO.val (run_extract rfl rfl) rfl rfl rfl ?_
  refine WO.nil ?_
  refine NX.go ?_
  refine WP.seq ?_
  refine WP.condT rfl rfl ?_
  refine WP.skip ?_
  refine NX.go ?_
  refine WP.block ?_
  refine WP.seq ?_
  refine WP.region rfl ?_
  refine WO.val (run_entryM (d := 0) 1 hS4 rfl rfl) rfl rfl rfl ?_
  refine WO.val (run_extract rfl rfl) rfl rfl rfl ?_
  refine WO.val (run_assign rfl) rfl rfl rfl ?_
  refine WO.nil ?_
  refine NX.go ?_
  refine WP.region rfl ?_
  refine WO.val (run_move rfl) rfl rfl rfl ?_
  refine WO.val (run_move rfl) rfl rfl rfl ?_
  refine WO.val (run_nilCheck rfl) rfl rfl rfl ?_
  refine WO.val (run_fieldAddr (q := ⟨q, 0, none⟩) (show fieldB Tryd.prog 106 0 = some 0 from by kernel_rfl) rfl rfl) rfl rfl rfl ?_
  refine WO.val (run_load Ty.ag9 rfl (filesA_cell (hS4.focus 5 rfl) hlt hq).1) rfl rfl rfl ?_
  refine WO.val (run_lenS rfl Tryd.underlying9 rfl) rfl rfl rfl ?_
  refine WO.val (run_add rfl rfl (IntWalk.i64_in _ (by omega))) rfl rfl rfl ?_
  refine WO.val (run_assign rfl) rfl rfl rfl ?_
  refine WO.nil ?_
  refine NX.blk ?_
  exact NX.again (acc + (fileAt D.f e.2).1.length, R2, pre11 ++ post11, some (e.1, ptrV q)) ⟨⟨hR4, by rw [← hacc, usedN_perm hR1, usedN_cons]; omega, fun z hz => hin z (hR1.mem_iff.2 (List.mem_cons_of_mem _ hz))⟩, hS4⟩ (by show (pre11 ++ post11).length < rst.length; rw [e11]; simp only [List.length_append, List.length_cons]; omega) (Sub.consE rfl (by congr 1) (Sub.cons rfl (Sub.nil _)))

theorem dused_spec {B w : World} {L : List HP} {g : Nat} {D : Dk} {n t : Nat} (hw : WFD D) (hb : Bnd D n t) (ht : t ≤ 1099511627776) (hS : St B (dkA g D :: L) w) : Does Tryd.prog 27 [.pointer (some ⟨g, 0, none⟩)] w (fun v w1 => v = .int .i64 ((usedN D.f D.nm : Nat) : Int) ∧ St B (dkA g D :: L) w1) := by
  obtain ⟨dx, ok, h0⟩ := hS.dk_open
  exact (dused_open ok hw hb ht h0).mono fun v w1 ⟨e, h⟩ => ⟨e, h.dk_shut ok⟩
theorem dread_spec {B w : World} {L : List HP} {g : Nat} {D : Dk} (hw : WFD D) (k : List UInt8) (hS : St B (dkA g D :: L) w) : Does Tryd.prog 31 [Value.pointer (some ⟨g, 0, none⟩), str k] w (fun v w1 => v = .tuple #[str (readD D k).1, .int .i64 (readD D k).2] ∧ St B (dkA g D :: L) w1) := by
 obtain ⟨dx, ok, h0⟩ := hS.dk_open
 clear hS
 refine enter (n := 25) Tryd.func31 rfl rfl [Value.pointer (some ⟨g, 0, none⟩), str k] rfl ?_
 refine WP.seq ?_
 refine WP.region rfl ?_
 refine WO.val (run_assign rfl) rfl rfl rfl ?_
 refine WO.val (run_assign rfl) rfl rfl rfl ?_
 refine WO.nil ?_
 refine NX.go ?_
 refine WP.seq ?_
 refine WP.region rfl ?_
 refine WO.val (run_move rfl) rfl rfl rfl ?_
 refine WO.val (run_nilCheck rfl) rfl rfl rfl ?_
 refine WO.val (run_fieldAddr (q := ⟨g, 1, none⟩) (show fieldB Tryd.prog 103 1 = some 1 from by kernel_rfl) rfl rfl) rfl rfl rfl ?_
 refine WO.val (run_load Ty.ag100 rfl ((h0.cel_at 0 rfl 1).trans rfl)) rfl rfl rfl ?_
 refine WO.val (run_move rfl) rfl rfl rfl ?_
 refine WO.val (run_lookupS 1 h0 rfl Tryd.underlying100 Tryd.underlying9 Ty.zr104 rfl rfl (look_ok ok hw k)) rfl rfl rfl ?_
 refine WO.val (run_assign rfl) rfl rfl rfl ?_
 refine WO.nil ?_
 refine NX.go ?_
 refine WP.seq ?_
 refine WP.block ?_
 refine WP.seq ?_
 refine WP.region rfl ?_
 refine WO.val (run_move rfl) rfl rfl rfl ?_
 refine WO.val (run_nilCheck rfl) rfl rfl rfl ?_
 refine WO.val (run_fieldAddr (q := ⟨g, 4, none⟩) (show fieldB Tryd.prog 103 4 = some 4 from by kernel_rfl) rfl rfl) rfl rfl rfl ?_
 refine WO.val (run_load Ty.ag4 rfl ((h0.cel_at 0 rfl 4).trans rfl)) rfl rfl rfl ?_
 refine WO.val (run_assign rfl) rfl rfl rfl ?_
 refine WO.nil ?_
 refine NX.go ?_
 refine WP.condB rfl (fun g13 => ?_) (fun g13 => ?_)
 ·
  refine WP.seq ?_
  refine WP.region rfl ?_
  refine WO.val (run_assign rfl) rfl rfl rfl ?_
  refine WO.val (run_assign rfl) rfl rfl rfl ?_
  refine WO.nil ?_
  refine NX.go ?_
  refine WP.ret ?_
  refine NX.blkRet ?_
  refine NX.thenRet ?_
  refine NX.done (l := [.tmp 4, .tmp 5]) rfl rfl ?_
  have e : readD D k = ([], 11) := by unfold readD; rw [if_pos g13]
  rw [e]
  exact ⟨rfl, h0.dk_shut ok⟩
 ·
  refine WP.seq ?_
  refine WP.region rfl ?_
  refine WO.val (run_move rfl) rfl rfl rfl ?_
  refine WO.val (run_eqlNilP Tryd.underlying104 rfl rfl) rfl rfl rfl ?_
  refine WO.val (run_assign rfl) rfl rfl rfl ?_
  refine WO.nil ?_
  refine NX.go ?_
  refine WP.condB rfl (fun g18 => ?_) (fun g18 => ?_)
  ·
   refine WP.seq ?_
   refine WP.region rfl ?_
   refine WO.val (run_assign rfl) rfl rfl rfl ?_
   refine WO.val (run_assign rfl) rfl rfl rfl ?_
   refine WO.nil ?_
   refine NX.go ?_
   refine WP.ret ?_
   refine NX.blkRet ?_
   refine NX.thenRet ?_
   refine NX.done (l := [.tmp 4, .tmp 5]) rfl rfl ?_
   have e : readD D k = ([], 12) := by unfold readD; rw [if_neg (by rw [g13]; decide), findP_none g18]
   rw [e]
   exact ⟨rfl, h0.dk_shut ok⟩
  ·
   obtain ⟨i, hi⟩ := findP_some g18
   obtain ⟨q, hq⟩ : ∃ q, q = dx.gs.getD i 0 := ⟨_, rfl⟩
   have hlt := hw.find hi
   refine WP.as (d := 6) (v := Value.pointer (some ⟨q, 0, none⟩)) rfl (findP_eq hi hq) ?_
   refine WP.skip ?_
   refine NX.blk ?_
   refine NX.go ?_
   refine WP.seq ?_
   refine WP.region rfl ?_
   refine WO.val (run_move rfl) rfl rfl rfl ?_
   refine WO.val (run_nilCheck rfl) rfl rfl rfl ?_
   refine WO.val (run_fieldAddr (q := ⟨q, 0, none⟩) (show fieldB Tryd.prog 106 0 = some 0 from by kernel_rfl) rfl rfl) rfl rfl rfl ?_
   refine WO.val (run_load Ty.ag9 rfl (filesA_cell (h0.focus 5 rfl) hlt.1 hq).1) rfl rfl rfl ?_
   refine WO.val (run_assign rfl) rfl rfl rfl ?_
   refine WO.val (run_assign rfl) rfl rfl rfl ?_
   refine WO.nil ?_
   refine NX.go ?_
   refine WP.ret ?_
   refine NX.done (l := [.tmp 4, .tmp 5]) rfl rfl ?_
   have e : readD D k = ((fileAt D.f i).1, 0) := by unfold readD; rw [if_neg (by rw [g13]; decide), hi]
   rw [e]
   exact ⟨rfl, h0.dk_shut ok⟩
end Go.Proofs.YtcehlnpbdffdhaaDoor.SL
