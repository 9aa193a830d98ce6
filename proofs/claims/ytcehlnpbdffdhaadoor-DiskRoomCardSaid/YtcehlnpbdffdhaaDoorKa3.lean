/- No more than there is room for. -/
import Derived.Test.YtcehlnpbdffdhaaDoorKa
namespace Go.Proofs.YtcehlnpbdffdhaaDoor.SL
open Go.RowKit Go.Proofs.YtcehlnpbdffdhaaDoor
open Go.Proofs.YtcehlnpbdffdhaaDoorW.PrintLast (rtab opsOf)
set_option linter.unusedVariables false
set_option linter.unusedSimpArgs false

theorem rep_u8 (y : Nat) : (List.replicate y (0 : UInt8)).map (fun b => Value.int .u8 (b.toNat : Int)) = List.replicate y (Value.int .u8 0) := by rw [List.map_replicate]; rfl
theorem let_conv (i : Nat) : IntKind.u8.wrap (97 + (i : Int) % 5) = ((UInt8.ofNat (97 + i % 5)).toNat : Int) := by
  have : i % 5 = 0 ∨ i % 5 = 1 ∨ i % 5 = 2 ∨ i % 5 = 3 ∨ i % 5 = 4 := by omega
  rcases this with h | h | h | h | h <;> (rw [show (i : Int) % 5 = ((i % 5 : Nat) : Int) by omega, h]; rfl)
theorem diskRoom_core_t10 : rtab .any (opsOf Tryd.f5 10) = (true, [([], []), ([], []), ([1], [1]), ([2], [2]), ([3], [3]), ([4], [4]), ([5], [5]), ([], []), ([7, 7], [7]), ([8], [8]), ([0, 6, 9], [0, 6, 9]), ([10, 10, 0, 1, 2, 3, 4, 5, 6, 7, 8, 9, 10], [10])]) := by kernel_rfl
theorem diskRoom_core {B w : World} {L : List HP} (a : Int) {ka : Option Addr} {kc : Nat} {l : List Int} (hA : Rd B ka l.length 1 (ri l)) (hS : St B L w) : Does Tryd.prog 5 [Value.int .i64 a, Value.slice ka l.length kc] w (fun v w1 => v = .bool true ∧ St B L w1) := by
 replace hS := hS.addPure (p := True) trivial
 refine enter (n := 71) Tryd.func5 rfl rfl [Value.int .i64 a, Value.slice ka l.length kc] rfl ?_
 refine WP.seq ?_
 refine WP.region rfl ?_
 refine WO.val (run_assign rfl) rfl rfl rfl ?_
 refine WO.nil ?_
 refine NX.go ?_
 refine WP.seq ?_
 refine WP.seq ?_
 refine WP.region rfl ?_
 refine WO.call rfl rfl Ty.hd21 rfl (dworks_spec hS) (fun v2 w1 pv2 => ?_)
 obtain ⟨rfl, hS1⟩ := pv2
 clear hS
 refine WO.val (run_not rfl rfl) rfl rfl rfl ?_
 refine WO.nil ?_
 refine NX.go ?_
 refine WP.condF rfl (notB_t rfl) ?_
 refine WP.skip ?_
 refine NX.go ?_
 refine WP.seq ?_
 refine WP.region rfl ?_
 refine WO.val (run_move rfl) rfl rfl rfl ?_
 refine WO.val (run_convI Tryd.underlying44 (by kernel_rfl) rfl (IntKind.wrap_u64 _)) rfl rfl rfl ?_
 refine WO.val (run_rem rfl rfl (by omega) (IntWalk.rem_in _ _ (by omega))) rfl rfl rfl ?_
 obtain ⟨m, hm⟩ : ∃ m : Nat, (m : Int) = (a % 18446744073709551616) % 500 := ⟨((a % 18446744073709551616) % 500).toNat, by omega⟩
 refine WO.val (run_convI Tryd.underlying3 (by kernel_rfl) rfl (show IntKind.i64.wrap ((a % 18446744073709551616) % 500) = (m : Int) by rw [← hm]; exact IntWalk.i64_in _ (by omega))) rfl rfl rfl ?_
 refine WO.val (run_assign rfl) rfl rfl rfl ?_
 refine WO.nil ?_
 refine NX.go ?_
 refine WP.seq ?_
 refine WP.region rfl ?_
 refine WO.val (run_move rfl) rfl rfl rfl ?_
 refine WO.call rfl rfl Ty.hd22 rfl (dnew_spec (m : Int) hS1) (fun v6 w5 pv6 => ?_)
 obtain ⟨g4, rfl, hS5⟩ := pv6
 clear hS1
 obtain ⟨D3, eD3⟩ : ∃ qq, qq = newD (m : Int) := ⟨_, rfl⟩
 rw [← eD3] at hS5
 have kD3 : OkD D3 0 0 := by rw [eD3]; exact OkD.new (by omega)
 refine WO.val (run_assign rfl) rfl rfl rfl ?_
 refine WO.nil ?_
 refine NX.go ?_
 refine WP.seq ?_
 refine WP.region rfl ?_
 refine WO.val (run_assign rfl) rfl rfl rfl ?_
 refine WO.nil ?_
 refine NX.go ?_
 refine WP.seq ?_
 refine WP.seq ?_
 refine WP.region rfl ?_
 refine WO.val (run_assign rfl) rfl rfl rfl ?_
 refine WO.nil ?_
 refine NX.go ?_
 refine WP.block ?_
 refine WP.loop (α := Nat × Nat × Dk × Nat) (fun x => match x with | ⟨i, u, D, t⟩ => [(0, Value.int .i64 (m : Int)), (1, Value.slice ka l.length kc), (4, Value.bool false), (5, Value.pointer (some ⟨g4, 0, none⟩)), (6, Value.int .i64 (u : Int)), (7, Value.int .i64 (i : Int))]) (fun x w => match x with | ⟨i, u, D, t⟩ => (RI D (m : Int) u i ∧ OkD D i t ∧ i ≤ 50 ∧ t ≤ 100 * i ∧ u ≤ m) ∧ St B (dkA g4 D :: (.pure True) :: L) w) (fun x => match x with | ⟨i, u, D, t⟩ => 50 - i) (0, 0, D3, 0) ⟨⟨by rw [eD3]; exact RI.new _, kD3, Nat.zero_le _, Nat.zero_le _, Nat.zero_le _⟩, hS5⟩ (Sub.cons rfl (Sub.cons rfl (Sub.cons rfl (Sub.cons rfl (Sub.consE rfl (by first | rfl | first | rfl | (congr 1; omega) | (simp; done) | (simp; omega)) (Sub.consE rfl (by first | rfl | first | rfl | (congr 1; omega) | (simp; done) | (simp; omega)) (Sub.nil _))))))) ?_
 rintro ⟨i, u, D, t⟩ w7 ⟨⟨hf, kD, hi50, hti, hum⟩, hS7⟩
 clear hS5
 refine WP.seq ?_
 refine WP.seq ?_
 refine WP.region rfl ?_
 refine WO.val (run_move rfl) rfl rfl rfl ?_
 refine WO.val (run_move rfl) rfl rfl rfl ?_
 refine WO.val (run_len rfl Tryd.underlying50 rfl) rfl rfl rfl ?_
 refine WO.val (run_lss rfl rfl) rfl rfl rfl ?_
 refine WO.val (run_move rfl) rfl rfl rfl ?_
 by_cases g22 : (i : Int) < ((l.length : Nat) : Int)
 ·
  refine WO.on rfl rfl (decide_eq_true g22) ?_
  refine WO.val (run_move rfl) rfl rfl rfl ?_
  refine WO.on rfl rfl (decide_eq_true g22) ?_
  refine WO.val (run_lss rfl rfl) rfl rfl rfl ?_
  refine WO.val (run_pickT rfl (decide_eq_true g22) rfl) rfl rfl rfl ?_
  refine WO.nil ?_
  refine NX.go ?_
  refine WP.condP rfl (fun g25 => ?_) (fun g25 => ?_)
  ·
   refine WP.skip ?_
   refine NX.go ?_
   refine WP.seq ?_
   refine WP.block ?_
   refine WP.seq ?_
   refine WP.region rfl ?_
   refine WO.val (run_move rfl) rfl rfl rfl ?_
   refine WO.val (run_move rfl) rfl rfl rfl ?_
   refine WO.val (run_indexAddr (q := adr ka i) Tryd.underlying50 Ty.sz3 rfl rfl (by omega) (by omega) (((fun h => St.rdB h hA) (hS7.focus 1 rfl)).2.1 (by omega)) (by simp)) rfl rfl rfl ?_
   obtain ⟨z, hz0⟩ : ∃ z, l[i]? = some z := ⟨_, List.getElem?_eq_getElem (by omega)⟩
   refine WO.val (run_load Ty.ag3 rfl (((fun h => St.rdB h hA) (hS7.focus 1 rfl)).cell (ri_get hz0))) rfl rfl rfl ?_
   refine WO.val (run_convI Tryd.underlying44 (by kernel_rfl) rfl (IntKind.wrap_u64 _)) rfl rfl rfl ?_
   refine WO.val (run_rem rfl rfl (by omega) (IntWalk.rem_in _ _ (by omega))) rfl rfl rfl ?_
   obtain ⟨y, hy⟩ : ∃ y : Nat, (y : Int) = (z % 18446744073709551616) % 100 := ⟨((z % 18446744073709551616) % 100).toNat, by omega⟩
   refine WO.val (run_convI Tryd.underlying3 (by kernel_rfl) rfl (show IntKind.i64.wrap ((z % 18446744073709551616) % 100) = (y : Int) by rw [← hy]; exact IntWalk.i64_in _ (by omega))) rfl rfl rfl ?_
   refine WO.val (run_assign rfl) rfl rfl rfl ?_
   refine WO.nil ?_
   refine NX.go ?_
   refine WP.seq ?_
   refine WD.start (fun w => Rd w ka l.length 1 (ri l)) [] #[false, false, false, false, false, false, false, false, false, false, false, false] Ty.mo rfl (by kernel_rfl) hS7 (fun _ h => ((fun h => St.rdB h hA) (h.focus 1 rfl))) (fun w8 hS8 s9 => ?_)
   clear hS7
   refine WD.pure (i := 0) diskRoom_core_t10 #[true, false, false, false, false, false, false, false, false, false, false, false] rfl rfl rfl (by kernel_rfl) (PQ.then (PQ.blk (PQ.then (PQ.then (PQ.blk (PQ.then PQ.body)))))) rfl (fun w => run_move rfl) ?_
   refine WD.pure (i := 1) diskRoom_core_t10 #[true, true, false, false, false, false, false, false, false, false, false, false] rfl rfl rfl (by kernel_rfl) (PQ.then (PQ.blk (PQ.then (PQ.then (PQ.blk (PQ.then PQ.body)))))) rfl (fun w => run_move rfl) ?_
   refine WD.pure (i := 2) diskRoom_core_t10 #[true, true, true, false, false, false, false, false, false, false, false, false] rfl rfl rfl (by kernel_rfl) (PQ.then (PQ.blk (PQ.then (PQ.then (PQ.blk (PQ.then PQ.body)))))) rfl (fun w => run_rem rfl rfl (by omega) (IntWalk.rem_in _ _ (by omega))) ?_
   refine WD.pure (i := 3) diskRoom_core_t10 #[true, true, true, true, false, false, false, false, false, false, false, false] rfl rfl rfl (by kernel_rfl) (PQ.then (PQ.blk (PQ.then (PQ.then (PQ.blk (PQ.then PQ.body)))))) rfl (fun w => run_add rfl rfl (IntWalk.i64_in _ (by omega))) ?_
   refine WD.pure (i := 4) diskRoom_core_t10 #[true, true, true, true, true, false, false, false, false, false, false, false] rfl rfl rfl (by kernel_rfl) (PQ.then (PQ.blk (PQ.then (PQ.then (PQ.blk (PQ.then PQ.body)))))) rfl (fun w => run_convI Tryd.underlying5 (by kernel_rfl) rfl (let_conv i)) ?_
   refine WD.pure (i := 7) diskRoom_core_t10 #[true, true, true, true, true, false, false, true, false, false, false, false] rfl rfl rfl (by kernel_rfl) (PQ.then (PQ.blk (PQ.then (PQ.then (PQ.blk (PQ.then PQ.body)))))) rfl (fun w => run_move rfl) ?_
   refine WD.two (i := 5) (k := 8) diskRoom_core_t10 #[true, true, true, true, true, true, false, true, false, false, false, false] #[true, true, true, true, true, false, false, true, true, false, false, false] rfl rfl (by kernel_rfl) ?_ ?_
   ·
    refine WO.buildSlice (l := [Value.int .u8 (((UInt8.ofNat (97 + i % 5)).toNat : Nat) : Int)]) hS8 Tryd.underlying52 rfl (fun w => by kernel_rfl) rfl (fun g12 w10 lg12 hS10 => ?_)
    clear hS8
    have hS10 := hS10.own_of_cel (m := 1) (k := 1) rfl
    refine WO.nil ?_
    have s13 : Rd w10 ka l.length 1 (ri l) := ((fun h => St.rdB h hA) (hS10.focus 2 rfl))
    refine NX.held s13 ?_
    refine WD.two (i := 6) (k := 8) diskRoom_core_t10 #[true, true, true, true, true, true, true, true, false, false, false, false] #[true, true, true, true, true, true, false, true, true, false, false, false] rfl rfl (by kernel_rfl) ?_ ?_
    ·
     refine WO.val (run_bytesToStr Tryd.underlying52 Tryd.underlying5 Tryd.underlying9 rfl (show Rd w10 (some ⟨g12, 0, none⟩) 1 1 (List.map (fun b : UInt8 => Value.int .u8 (b.toNat : Int)) [UInt8.ofNat (97 + i % 5)]) from hS10.own_rd_i 0 rfl)) rfl rfl rfl ?_
     refine WO.nil ?_
     have s14 : Rd w10 ka l.length 1 (ri l) := ((fun h => St.rdB h hA) (hS10.focus 2 rfl))
     refine NX.held s14 ?_
     refine WD.one (i := 8) diskRoom_core_t10 #[true, true, true, true, true, true, true, true, true, false, false, false] rfl (by kernel_rfl) ?_
     refine WO.makeSlice (m := y) Tryd.underlying52 Ty.by5 Ty.sz5 Ty.zr5 rfl rfl rfl (by omega) (by omega) hS10 rfl (fun a16 w15 hS15 => ?_)
     clear hS10
     refine WO.nil ?_
     have s17 : Rd w15 ka l.length 1 (ri l) := ((fun h => St.rdB h hA) (hS15.focus 3 rfl))
     refine NX.held s17 ?_
     refine WD.one (i := 9) diskRoom_core_t10 #[true, true, true, true, true, true, true, true, true, true, false, false] rfl (by kernel_rfl) ?_
     refine WO.val (run_bytesToStr Tryd.underlying52 Tryd.underlying5 Tryd.underlying9 rfl (by have z := hS15.own_rd_i 0 rfl; rw [← rep_u8] at z; exact z)) rfl rfl rfl ?_
     refine WO.nil ?_
     have s18 : Rd w15 ka l.length 1 (ri l) := ((fun h => St.rdB h hA) (hS15.focus 3 rfl))
     refine NX.held s18 ?_
     refine WD.one (i := 10) diskRoom_core_t10 #[true, true, true, true, true, true, true, true, true, true, true, false] rfl (by kernel_rfl) ?_
     have hS21 := hS15.permT [2, 0, 0, 0] (L' := dkA g4 D :: own a16 y y 5 1 (List.replicate y (Value.int .u8 0)) :: own (some ⟨g12, 0, none⟩) 1 1 5 1 [Value.int .u8 (((UInt8.ofNat (97 + i % 5)).toNat : Nat) : Int)] :: (.pure True) :: L) rfl
     clear hS15
     refine WO.call rfl rfl Ty.hd24 rfl (dappend_spec kD.w kD.b (by omega) (by omega) [UInt8.ofNat (97 + i % 5)] (List.replicate y (0 : UInt8)) (by first | exact Nat.le_of_ble_eq_true rfl | omega | (simp; omega) | assumption) (by first | exact Nat.le_of_ble_eq_true rfl | omega | (simp; omega) | assumption) hS21) (fun v23 w22 pv23 => ?_)
     obtain ⟨hv, hS22⟩ := pv23
     clear hS21
     obtain ⟨r20, er20⟩ : ∃ qq, qq = (appendD D [UInt8.ofNat (97 + i % 5)] (List.replicate y (0 : UInt8))).2 := ⟨_, rfl⟩
     rw [← er20] at hv
     obtain ⟨D19, eD19⟩ : ∃ qq, qq = (appendD D [UInt8.ofNat (97 + i % 5)] (List.replicate y (0 : UInt8))).1 := ⟨_, rfl⟩
     rw [← eD19] at hS22
     have kD19 : OkD D19 (i + 1) (t + (List.replicate y (0 : UInt8)).length) := by rw [eD19]; exact kD.append
     subst hv
     refine WO.nil ?_
     have s24 : Rd w22 ka l.length 1 (ri l) := ((fun h => St.rdB h hA) (hS22.focus 3 rfl))
     refine NX.held s24 ?_
     refine WD.pure (i := 11) diskRoom_core_t10 #[true, true, true, true, true, true, true, true, true, true, true, true] rfl rfl rfl (by kernel_rfl) (PQ.then (PQ.blk (PQ.then (PQ.then (PQ.blk (PQ.then PQ.body)))))) rfl (fun w => run_assign rfl) ?_
     refine WD.done diskRoom_core_t10 (by kernel_rfl) ?_
     refine NX.go ?_
     refine WP.seq ?_
     refine WP.seq ?_
     refine WP.region rfl ?_
     have hlen : (List.replicate y (0 : UInt8)).length = y := List.length_replicate
     have hstep := hf.step (s := List.replicate y (0 : UInt8)) kD (by omega) (fileF_let (i := i))
     rw [← er20, ← eD19, hlen] at hstep
     rw [hlen] at kD19
     obtain ⟨u2, hu2, hri, hr⟩ : ∃ u2, u2 = (if ((u + y : Nat) : Int) ≤ m then u + y else u) ∧ RI D19 (m : Int) u2 (i + 1) ∧ r20 = (if ((u + y : Nat) : Int) ≤ m then 0 else 4) := by
      rcases hstep with ⟨h1, h2, h3⟩ | ⟨h1, h2, h3⟩
      · exact ⟨u + y, by rw [if_pos h2], h3, by rw [if_pos h2, h1]⟩
      · exact ⟨u, by rw [if_neg (by omega)], h3, by rw [if_neg (by omega), h1]⟩
     refine WO.val (run_move rfl) rfl rfl rfl ?_
     refine WO.val (run_eql rfl rfl) rfl rfl rfl ?_
     refine WO.val (run_move rfl) rfl rfl rfl ?_
     refine WO.val (run_move rfl) rfl rfl rfl ?_
     refine WO.val (run_add rfl rfl (IntWalk.i64_in _ (by omega))) rfl rfl rfl ?_
     refine WO.val (run_move rfl) rfl rfl rfl ?_
     refine WO.val (run_leq rfl rfl) rfl rfl rfl ?_
     refine WO.val (run_neqB Tryd.underlying4 rfl rfl rfl) rfl rfl rfl ?_
     refine WO.val (run_move rfl) rfl rfl rfl ?_
     rcases Bool.eq_false_or_eq_true (!(decide (r20 = 0) == decide (((u : Int) + (y : Int)) ≤ (m : Int)))) with g54 | g54
     ·
      exfalso; rw [hr] at g54; by_cases hin : ((u + y : Nat) : Int) ≤ m
      · have h2 : (u : Int) + (y : Int) ≤ m := (by omega); rw [if_pos hin, decide_eq_true h2] at g54; exact absurd g54 (by decide)
      · have h2 : ¬ (u : Int) + (y : Int) ≤ m := (by omega); rw [if_neg hin, decide_eq_false h2] at g54; exact absurd g54 (by decide)
     ·
      refine WO.on rfl rfl g54 ?_
      refine WO.val (run_move rfl) rfl rfl rfl ?_
      refine WO.on rfl rfl g54 ?_
      refine WO.val (run_neq rfl rfl) rfl rfl rfl ?_
      refine WO.on rfl rfl g54 ?_
      refine WO.val (run_move rfl) rfl rfl rfl ?_
      by_cases g57 : ¬ r20 = 0
      ·
       refine WO.on rfl rfl (decide_eq_true g57) ?_
       refine WO.val (run_move rfl) rfl rfl rfl ?_
       refine WO.on rfl rfl (decide_eq_true g57) ?_
       refine WO.val (run_neq rfl rfl) rfl rfl rfl ?_
       refine WO.on rfl rfl g54 ?_
       refine WO.val (run_pickT rfl (decide_eq_true g57) rfl) rfl rfl rfl ?_
       refine WO.val (run_pickF rfl g54 rfl) rfl rfl rfl ?_
       refine WO.nil ?_
       refine NX.go ?_
       refine WP.condP rfl (fun g61 => ?_) (fun g61 => ?_)
       ·
        exfalso; rw [hr] at g61; by_cases hin : ((u + y : Nat) : Int) ≤ m
        · rw [if_pos hin] at hr; omega
        · rw [if_neg hin] at g61; exact g61 rfl
       ·
        refine WP.skip ?_
        refine NX.go ?_
        refine WP.seq ?_
        refine WP.seq ?_
        refine WP.region rfl ?_
        refine WO.val (run_move rfl) rfl rfl rfl ?_
        refine WO.val (run_eql rfl rfl) rfl rfl rfl ?_
        refine WO.nil ?_
        refine NX.go ?_
        refine WP.condP rfl (fun g63 => ?_) (fun g63 => ?_)
        ·
         have hin : ((u + y : Nat) : Int) ≤ m := Decidable.byContradiction fun hin => by rw [if_neg hin] at hr; omega
         rw [if_pos hin] at hu2
         refine WP.region rfl ?_
         refine WO.val (run_move rfl) rfl rfl rfl ?_
         refine WO.val (run_move rfl) rfl rfl rfl ?_
         refine WO.val (run_add rfl rfl (IntWalk.i64_in _ (by omega))) rfl rfl rfl ?_
         refine WO.val (run_assign rfl) rfl rfl rfl ?_
         refine WO.nil ?_
         refine NX.go ?_
         refine WP.seq ?_
         refine WP.region rfl ?_
         refine WO.val (run_move rfl) rfl rfl rfl ?_
         refine WO.call rfl rfl Ty.hd27 rfl (dused_spec kD19.w kD19.b (by omega) hS22) (fun v26 w25 pv26 => ?_)
         obtain ⟨rfl, hS25⟩ := pv26
         clear hS22
         refine WO.val (run_move rfl) rfl rfl rfl ?_
         refine WO.val (run_neq rfl rfl) rfl rfl rfl ?_
         refine WO.nil ?_
         refine NX.go ?_
         refine WP.condP rfl (fun g70 => ?_) (fun g70 => ?_)
         ·
          exfalso; have := hri.u; omega
         ·
          refine WP.skip ?_
          refine NX.blk ?_
          refine NX.go ?_
          refine WP.region rfl ?_
          refine WO.val (run_move rfl) rfl rfl rfl ?_
          refine WO.val (run_add rfl rfl (IntWalk.i64_in _ (by omega))) rfl rfl rfl ?_
          refine WO.val (run_assign rfl) rfl rfl rfl ?_
          refine WO.nil ?_
          exact NX.again (i + 1, u2, D19, t + y) ⟨⟨hri, kD19, by omega, by omega, by omega⟩, (hS25.permT [1, 1, 0, 0] (L' := own a16 y y 5 1 (List.replicate y (Value.int .u8 0)) :: own (some ⟨g12, 0, none⟩) 1 1 5 1 [Value.int .u8 (((UInt8.ofNat (97 + i % 5)).toNat : Nat) : Int)] :: dkA g4 D19 :: (.pure True) :: L) rfl).drop.drop⟩ (by show 50 - (i + 1) < 50 - i; omega) (Sub.cons rfl (Sub.cons rfl (Sub.cons rfl (Sub.cons rfl (Sub.consE rfl (by subst hu2; first | rfl | exact congrArg _ (by omega)) (Sub.consE rfl (by congr 1) (Sub.nil _)))))))
        ·
         have hin : ¬ ((u + y : Nat) : Int) ≤ m := fun hin => by rw [if_pos hin] at hr; omega
         rw [if_neg hin] at hu2
         refine WP.skip ?_
         refine NX.go ?_
         refine WP.seq ?_
         refine WP.region rfl ?_
         refine WO.val (run_move rfl) rfl rfl rfl ?_
         refine WO.call rfl rfl Ty.hd27 rfl (dused_spec kD19.w kD19.b (by omega) hS22) (fun v28 w27 pv28 => ?_)
         obtain ⟨rfl, hS27⟩ := pv28
         clear hS22
         refine WO.val (run_move rfl) rfl rfl rfl ?_
         refine WO.val (run_neq rfl rfl) rfl rfl rfl ?_
         refine WO.nil ?_
         refine NX.go ?_
         refine WP.condP rfl (fun g70 => ?_) (fun g70 => ?_)
         ·
          exfalso; have := hri.u; omega
         ·
          refine WP.skip ?_
          refine NX.blk ?_
          refine NX.go ?_
          refine WP.region rfl ?_
          refine WO.val (run_move rfl) rfl rfl rfl ?_
          refine WO.val (run_add rfl rfl (IntWalk.i64_in _ (by omega))) rfl rfl rfl ?_
          refine WO.val (run_assign rfl) rfl rfl rfl ?_
          refine WO.nil ?_
          exact NX.again (i + 1, u2, D19, t + y) ⟨⟨hri, kD19, by omega, by omega, by omega⟩, (hS27.permT [1, 1, 0, 0] (L' := own a16 y y 5 1 (List.replicate y (Value.int .u8 0)) :: own (some ⟨g12, 0, none⟩) 1 1 5 1 [Value.int .u8 (((UInt8.ofNat (97 + i % 5)).toNat : Nat) : Int)] :: dkA g4 D19 :: (.pure True) :: L) rfl).drop.drop⟩ (by show 50 - (i + 1) < 50 - i; omega) (Sub.cons rfl (Sub.cons rfl (Sub.cons rfl (Sub.cons rfl (Sub.consE rfl (by subst hu2; first | rfl | exact congrArg _ (by omega)) (Sub.consE rfl (by congr 1) (Sub.nil _)))))))
      ·
       refine WO.off rfl rfl (decide_eq_false g57) rfl ?_
       refine WO.off rfl rfl (decide_eq_false g57) rfl ?_
       refine WO.on rfl rfl g54 ?_
       refine WO.val (run_pickF rfl (decide_eq_false g57) rfl) rfl rfl rfl ?_
       refine WO.val (run_pickF rfl g54 rfl) rfl rfl rfl ?_
       refine WO.nil ?_
       refine NX.go ?_
       refine WP.condF rfl rfl ?_
       refine WP.skip ?_
       refine NX.go ?_
       refine WP.seq ?_
       refine WP.seq ?_
       refine WP.region rfl ?_
       refine WO.val (run_move rfl) rfl rfl rfl ?_
       refine WO.val (run_eql rfl rfl) rfl rfl rfl ?_
       refine WO.nil ?_
       refine NX.go ?_
       refine WP.condP rfl (fun g63 => ?_) (fun g63 => ?_)
       ·
        have hin : ((u + y : Nat) : Int) ≤ m := Decidable.byContradiction fun hin => by rw [if_neg hin] at hr; omega
        rw [if_pos hin] at hu2
        refine WP.region rfl ?_
        refine WO.val (run_move rfl) rfl rfl rfl ?_
        refine WO.val (run_move rfl) rfl rfl rfl ?_
        refine WO.val (run_add rfl rfl (IntWalk.i64_in _ (by omega))) rfl rfl rfl ?_
        refine WO.val (run_assign rfl) rfl rfl rfl ?_
        refine WO.nil ?_
        refine NX.go ?_
        refine WP.seq ?_
        refine WP.region rfl ?_
        refine WO.val (run_move rfl) rfl rfl rfl ?_
        refine WO.call rfl rfl Ty.hd27 rfl (dused_spec kD19.w kD19.b (by omega) hS22) (fun v30 w29 pv30 => ?_)
        obtain ⟨rfl, hS29⟩ := pv30
        clear hS22
        refine WO.val (run_move rfl) rfl rfl rfl ?_
        refine WO.val (run_neq rfl rfl) rfl rfl rfl ?_
        refine WO.nil ?_
        refine NX.go ?_
        refine WP.condP rfl (fun g70 => ?_) (fun g70 => ?_)
        ·
         exfalso; have := hri.u; omega
        ·
         refine WP.skip ?_
         refine NX.blk ?_
         refine NX.go ?_
         refine WP.region rfl ?_
         refine WO.val (run_move rfl) rfl rfl rfl ?_
         refine WO.val (run_add rfl rfl (IntWalk.i64_in _ (by omega))) rfl rfl rfl ?_
         refine WO.val (run_assign rfl) rfl rfl rfl ?_
         refine WO.nil ?_
         exact NX.again (i + 1, u2, D19, t + y) ⟨⟨hri, kD19, by omega, by omega, by omega⟩, (hS29.permT [1, 1, 0, 0] (L' := own a16 y y 5 1 (List.replicate y (Value.int .u8 0)) :: own (some ⟨g12, 0, none⟩) 1 1 5 1 [Value.int .u8 (((UInt8.ofNat (97 + i % 5)).toNat : Nat) : Int)] :: dkA g4 D19 :: (.pure True) :: L) rfl).drop.drop⟩ (by show 50 - (i + 1) < 50 - i; omega) (Sub.cons rfl (Sub.cons rfl (Sub.cons rfl (Sub.cons rfl (Sub.consE rfl (by subst hu2; first | rfl | exact congrArg _ (by omega)) (Sub.consE rfl (by congr 1) (Sub.nil _)))))))
       ·
        have hin : ¬ ((u + y : Nat) : Int) ≤ m := fun hin => by rw [if_pos hin] at hr; omega
        rw [if_neg hin] at hu2
        refine WP.skip ?_
        refine NX.go ?_
        refine WP.seq ?_
        refine WP.region rfl ?_
        refine WO.val (run_move rfl) rfl rfl rfl ?_
        refine WO.call rfl rfl Ty.hd27 rfl (dused_spec kD19.w kD19.b (by omega) hS22) (fun v32 w31 pv32 => ?_)
        obtain ⟨rfl, hS31⟩ := pv32
        clear hS22
        refine WO.val (run_move rfl) rfl rfl rfl ?_
        refine WO.val (run_neq rfl rfl) rfl rfl rfl ?_
        refine WO.nil ?_
        refine NX.go ?_
        refine WP.condP rfl (fun g70 => ?_) (fun g70 => ?_)
        ·
         exfalso; have := hri.u; omega
        ·
         refine WP.skip ?_
         refine NX.blk ?_
         refine NX.go ?_
         refine WP.region rfl ?_
         refine WO.val (run_move rfl) rfl rfl rfl ?_
         refine WO.val (run_add rfl rfl (IntWalk.i64_in _ (by omega))) rfl rfl rfl ?_
         refine WO.val (run_assign rfl) rfl rfl rfl ?_
         refine WO.nil ?_
         exact NX.again (i + 1, u2, D19, t + y) ⟨⟨hri, kD19, by omega, by omega, by omega⟩, (hS31.permT [1, 1, 0, 0] (L' := own a16 y y 5 1 (List.replicate y (Value.int .u8 0)) :: own (some ⟨g12, 0, none⟩) 1 1 5 1 [Value.int .u8 (((UInt8.ofNat (97 + i % 5)).toNat : Nat) : Int)] :: dkA g4 D19 :: (.pure True) :: L) rfl).drop.drop⟩ (by show 50 - (i + 1) < 50 - i; omega) (Sub.cons rfl (Sub.cons rfl (Sub.cons rfl (Sub.cons rfl (Sub.consE rfl (by subst hu2; first | rfl | exact congrArg _ (by omega)) (Sub.consE rfl (by congr 1) (Sub.nil _)))))))
    ·
     refine WO.makeSlice (m := y) Tryd.underlying52 Ty.by5 Ty.sz5 Ty.zr5 rfl rfl rfl (by omega) (by omega) hS10 rfl (fun a34 w33 hS33 => ?_)
     clear hS10
     refine WO.nil ?_
     have s35 : Rd w33 ka l.length 1 (ri l) := ((fun h => St.rdB h hA) (hS33.focus 3 rfl))
     refine NX.held s35 ?_
     refine WD.two (i := 6) (k := 9) diskRoom_core_t10 #[true, true, true, true, true, true, true, true, true, false, false, false] #[true, true, true, true, true, true, false, true, true, true, false, false] rfl rfl (by kernel_rfl) ?_ ?_
     ·
      refine WO.val (run_bytesToStr Tryd.underlying52 Tryd.underlying5 Tryd.underlying9 rfl (show Rd w33 (some ⟨g12, 0, none⟩) 1 1 (List.map (fun b : UInt8 => Value.int .u8 (b.toNat : Int)) [UInt8.ofNat (97 + i % 5)]) from hS33.own_rd_i 1 rfl)) rfl rfl rfl ?_
      refine WO.nil ?_
      have s36 : Rd w33 ka l.length 1 (ri l) := ((fun h => St.rdB h hA) (hS33.focus 3 rfl))
      refine NX.held s36 ?_
      refine WD.one (i := 9) diskRoom_core_t10 #[true, true, true, true, true, true, true, true, true, true, false, false] rfl (by kernel_rfl) ?_
      refine WO.val (run_bytesToStr Tryd.underlying52 Tryd.underlying5 Tryd.underlying9 rfl (by have z := hS33.own_rd_i 0 rfl; rw [← rep_u8] at z; exact z)) rfl rfl rfl ?_
      refine WO.nil ?_
      have s37 : Rd w33 ka l.length 1 (ri l) := ((fun h => St.rdB h hA) (hS33.focus 3 rfl))
      refine NX.held s37 ?_
      refine WD.one (i := 10) diskRoom_core_t10 #[true, true, true, true, true, true, true, true, true, true, true, false] rfl (by kernel_rfl) ?_
      have hS40 := hS33.permT [2, 0, 0, 0] (L' := dkA g4 D :: own a34 y y 5 1 (List.replicate y (Value.int .u8 0)) :: own (some ⟨g12, 0, none⟩) 1 1 5 1 [Value.int .u8 (((UInt8.ofNat (97 + i % 5)).toNat : Nat) : Int)] :: (.pure True) :: L) rfl
      clear hS33
      refine WO.call rfl rfl Ty.hd24 rfl (dappend_spec kD.w kD.b (by omega) (by omega) [UInt8.ofNat (97 + i % 5)] (List.replicate y (0 : UInt8)) (by first | exact Nat.le_of_ble_eq_true rfl | omega | (simp; omega) | assumption) (by first | exact Nat.le_of_ble_eq_true rfl | omega | (simp; omega) | assumption) hS40) (fun v42 w41 pv42 => ?_)
      obtain ⟨hv, hS41⟩ := pv42
      clear hS40
      obtain ⟨r39, er39⟩ : ∃ qq, qq = (appendD D [UInt8.ofNat (97 + i % 5)] (List.replicate y (0 : UInt8))).2 := ⟨_, rfl⟩
      rw [← er39] at hv
      obtain ⟨D38, eD38⟩ : ∃ qq, qq = (appendD D [UInt8.ofNat (97 + i % 5)] (List.replicate y (0 : UInt8))).1 := ⟨_, rfl⟩
      rw [← eD38] at hS41
      have kD38 : OkD D38 (i + 1) (t + (List.replicate y (0 : UInt8)).length) := by rw [eD38]; exact kD.append
      subst hv
      refine WO.nil ?_
      have s43 : Rd w41 ka l.length 1 (ri l) := ((fun h => St.rdB h hA) (hS41.focus 3 rfl))
      refine NX.held s43 ?_
      refine WD.pure (i := 11) diskRoom_core_t10 #[true, true, true, true, true, true, true, true, true, true, true, true] rfl rfl rfl (by kernel_rfl) (PQ.then (PQ.blk (PQ.then (PQ.then (PQ.blk (PQ.then PQ.body)))))) rfl (fun w => run_assign rfl) ?_
      refine WD.done diskRoom_core_t10 (by kernel_rfl) ?_
      refine NX.go ?_
      refine WP.seq ?_
      refine WP.seq ?_
      refine WP.region rfl ?_
      have hlen : (List.replicate y (0 : UInt8)).length = y := List.length_replicate
      have hstep := hf.step (s := List.replicate y (0 : UInt8)) kD (by omega) (fileF_let (i := i))
      rw [← er39, ← eD38, hlen] at hstep
      rw [hlen] at kD38
      obtain ⟨u2, hu2, hri, hr⟩ : ∃ u2, u2 = (if ((u + y : Nat) : Int) ≤ m then u + y else u) ∧ RI D38 (m : Int) u2 (i + 1) ∧ r39 = (if ((u + y : Nat) : Int) ≤ m then 0 else 4) := by
       rcases hstep with ⟨h1, h2, h3⟩ | ⟨h1, h2, h3⟩
       · exact ⟨u + y, by rw [if_pos h2], h3, by rw [if_pos h2, h1]⟩
       · exact ⟨u, by rw [if_neg (by omega)], h3, by rw [if_neg (by omega), h1]⟩
      refine WO.val (run_move rfl) rfl rfl rfl ?_
      refine WO.val (run_eql rfl rfl) rfl rfl rfl ?_
      refine WO.val (run_move rfl) rfl rfl rfl ?_
      refine WO.val (run_move rfl) rfl rfl rfl ?_
      refine WO.val (run_add rfl rfl (IntWalk.i64_in _ (by omega))) rfl rfl rfl ?_
      refine WO.val (run_move rfl) rfl rfl rfl ?_
      refine WO.val (run_leq rfl rfl) rfl rfl rfl ?_
      refine WO.val (run_neqB Tryd.underlying4 rfl rfl rfl) rfl rfl rfl ?_
      refine WO.val (run_move rfl) rfl rfl rfl ?_
      rcases Bool.eq_false_or_eq_true (!(decide (r39 = 0) == decide (((u : Int) + (y : Int)) ≤ (m : Int)))) with g54 | g54
      ·
       exfalso; rw [hr] at g54; by_cases hin : ((u + y : Nat) : Int) ≤ m
       · have h2 : (u : Int) + (y : Int) ≤ m := (by omega); rw [if_pos hin, decide_eq_true h2] at g54; exact absurd g54 (by decide)
       · have h2 : ¬ (u : Int) + (y : Int) ≤ m := (by omega); rw [if_neg hin, decide_eq_false h2] at g54; exact absurd g54 (by decide)
      ·
       refine WO.on rfl rfl g54 ?_
       refine WO.val (run_move rfl) rfl rfl rfl ?_
       refine WO.on rfl rfl g54 ?_
       refine WO.val (run_neq rfl rfl) rfl rfl rfl ?_
       refine WO.on rfl rfl g54 ?_
       refine WO.val (run_move rfl) rfl rfl rfl ?_
       by_cases g57 : ¬ r39 = 0
       ·
        refine WO.on rfl rfl (decide_eq_true g57) ?_
        refine WO.val (run_move rfl) rfl rfl rfl ?_
        refine WO.on rfl rfl (decide_eq_true g57) ?_
        refine WO.val (run_neq rfl rfl) rfl rfl rfl ?_
        refine WO.on rfl rfl g54 ?_
        refine WO.val (run_pickT rfl (decide_eq_true g57) rfl) rfl rfl rfl ?_
        refine WO.val (run_pickF rfl g54 rfl) rfl rfl rfl ?_
        refine WO.nil ?_
        refine NX.go ?_
        refine WP.condP rfl (fun g61 => ?_) (fun g61 => ?_)
        ·
         exfalso; rw [hr] at g61; by_cases hin : ((u + y : Nat) : Int) ≤ m
         · rw [if_pos hin] at hr; omega
         · rw [if_neg hin] at g61; exact g61 rfl
        ·
         refine WP.skip ?_
         refine NX.go ?_
         refine WP.seq ?_
         refine WP.seq ?_
         refine WP.region rfl ?_
         refine WO.val (run_move rfl) rfl rfl rfl ?_
         refine WO.val (run_eql rfl rfl) rfl rfl rfl ?_
         refine WO.nil ?_
         refine NX.go ?_
         refine WP.condP rfl (fun g63 => ?_) (fun g63 => ?_)
         ·
          have hin : ((u + y : Nat) : Int) ≤ m := Decidable.byContradiction fun hin => by rw [if_neg hin] at hr; omega
          rw [if_pos hin] at hu2
          refine WP.region rfl ?_
          refine WO.val (run_move rfl) rfl rfl rfl ?_
          refine WO.val (run_move rfl) rfl rfl rfl ?_
          refine WO.val (run_add rfl rfl (IntWalk.i64_in _ (by omega))) rfl rfl rfl ?_
          refine WO.val (run_assign rfl) rfl rfl rfl ?_
          refine WO.nil ?_
          refine NX.go ?_
          refine WP.seq ?_
          refine WP.region rfl ?_
          refine WO.val (run_move rfl) rfl rfl rfl ?_
          refine WO.call rfl rfl Ty.hd27 rfl (dused_spec kD38.w kD38.b (by omega) hS41) (fun v45 w44 pv45 => ?_)
          obtain ⟨rfl, hS44⟩ := pv45
          clear hS41
          refine WO.val (run_move rfl) rfl rfl rfl ?_
          refine WO.val (run_neq rfl rfl) rfl rfl rfl ?_
          refine WO.nil ?_
          refine NX.go ?_
          refine WP.condP rfl (fun g70 => ?_) (fun g70 => ?_)
          ·
           exfalso; have := hri.u; omega
          ·
           refine WP.skip ?_
           refine NX.blk ?_
           refine NX.go ?_
           refine WP.region rfl ?_
           refine WO.val (run_move rfl) rfl rfl rfl ?_
           refine WO.val (run_add rfl rfl (IntWalk.i64_in _ (by omega))) rfl rfl rfl ?_
           refine WO.val (run_assign rfl) rfl rfl rfl ?_
           refine WO.nil ?_
           exact NX.again (i + 1, u2, D38, t + y) ⟨⟨hri, kD38, by omega, by omega, by omega⟩, (hS44.permT [1, 1, 0, 0] (L' := own a34 y y 5 1 (List.replicate y (Value.int .u8 0)) :: own (some ⟨g12, 0, none⟩) 1 1 5 1 [Value.int .u8 (((UInt8.ofNat (97 + i % 5)).toNat : Nat) : Int)] :: dkA g4 D38 :: (.pure True) :: L) rfl).drop.drop⟩ (by show 50 - (i + 1) < 50 - i; omega) (Sub.cons rfl (Sub.cons rfl (Sub.cons rfl (Sub.cons rfl (Sub.consE rfl (by subst hu2; first | rfl | exact congrArg _ (by omega)) (Sub.consE rfl (by congr 1) (Sub.nil _)))))))
         ·
          have hin : ¬ ((u + y : Nat) : Int) ≤ m := fun hin => by rw [if_pos hin] at hr; omega
          rw [if_neg hin] at hu2
          refine WP.skip ?_
          refine NX.go ?_
          refine WP.seq ?_
          refine WP.region rfl ?_
          refine WO.val (run_move rfl) rfl rfl rfl ?_
          refine WO.call rfl rfl Ty.hd27 rfl (dused_spec kD38.w kD38.b (by omega) hS41) (fun v47 w46 pv47 => ?_)
          obtain ⟨rfl, hS46⟩ := pv47
          clear hS41
          refine WO.val (run_move rfl) rfl rfl rfl ?_
          refine WO.val (run_neq rfl rfl) rfl rfl rfl ?_
          refine WO.nil ?_
          refine NX.go ?_
          refine WP.condP rfl (fun g70 => ?_) (fun g70 => ?_)
          ·
           exfalso; have := hri.u; omega
          ·
           refine WP.skip ?_
           refine NX.blk ?_
           refine NX.go ?_
           refine WP.region rfl ?_
           refine WO.val (run_move rfl) rfl rfl rfl ?_
           refine WO.val (run_add rfl rfl (IntWalk.i64_in _ (by omega))) rfl rfl rfl ?_
           refine WO.val (run_assign rfl) rfl rfl rfl ?_
           refine WO.nil ?_
           exact NX.again (i + 1, u2, D38, t + y) ⟨⟨hri, kD38, by omega, by omega, by omega⟩, (hS46.permT [1, 1, 0, 0] (L' := own a34 y y 5 1 (List.replicate y (Value.int .u8 0)) :: own (some ⟨g12, 0, none⟩) 1 1 5 1 [Value.int .u8 (((UInt8.ofNat (97 + i % 5)).toNat : Nat) : Int)] :: dkA g4 D38 :: (.pure True) :: L) rfl).drop.drop⟩ (by show 50 - (i + 1) < 50 - i; omega) (Sub.cons rfl (Sub.cons rfl (Sub.cons rfl (Sub.cons rfl (Sub.consE rfl (by subst hu2; first | rfl | exact congrArg _ (by omega)) (Sub.consE rfl (by congr 1) (Sub.nil _)))))))
       ·
        refine WO.off rfl rfl (decide_eq_false g57) rfl ?_
        refine WO.off rfl rfl (decide_eq_false g57) rfl ?_
        refine WO.on rfl rfl g54 ?_
        refine WO.val (run_pickF rfl (decide_eq_false g57) rfl) rfl rfl rfl ?_
        refine WO.val (run_pickF rfl g54 rfl) rfl rfl rfl ?_
        refine WO.nil ?_
        refine NX.go ?_
        refine WP.condF rfl rfl ?_
        refine WP.skip ?_
        refine NX.go ?_
        refine WP.seq ?_
        refine WP.seq ?_
        refine WP.region rfl ?_
        refine WO.val (run_move rfl) rfl rfl rfl ?_
        refine WO.val (run_eql rfl rfl) rfl rfl rfl ?_
        refine WO.nil ?_
        refine NX.go ?_
        refine WP.condP rfl (fun g63 => ?_) (fun g63 => ?_)
        ·
         have hin : ((u + y : Nat) : Int) ≤ m := Decidable.byContradiction fun hin => by rw [if_neg hin] at hr; omega
         rw [if_pos hin] at hu2
         refine WP.region rfl ?_
         refine WO.val (run_move rfl) rfl rfl rfl ?_
         refine WO.val (run_move rfl) rfl rfl rfl ?_
         refine WO.val (run_add rfl rfl (IntWalk.i64_in _ (by omega))) rfl rfl rfl ?_
         refine WO.val (run_assign rfl) rfl rfl rfl ?_
         refine WO.nil ?_
         refine NX.go ?_
         refine WP.seq ?_
         refine WP.region rfl ?_
         refine WO.val (run_move rfl) rfl rfl rfl ?_
         refine WO.call rfl rfl Ty.hd27 rfl (dused_spec kD38.w kD38.b (by omega) hS41) (fun v49 w48 pv49 => ?_)
         obtain ⟨rfl, hS48⟩ := pv49
         clear hS41
         refine WO.val (run_move rfl) rfl rfl rfl ?_
         refine WO.val (run_neq rfl rfl) rfl rfl rfl ?_
         refine WO.nil ?_
         refine NX.go ?_
         refine WP.condP rfl (fun g70 => ?_) (fun g70 => ?_)
         ·
          exfalso; have := hri.u; omega
         ·
          refine WP.skip ?_
          refine NX.blk ?_
          refine NX.go ?_
          refine WP.region rfl ?_
          refine WO.val (run_move rfl) rfl rfl rfl ?_
          refine WO.val (run_add rfl rfl (IntWalk.i64_in _ (by omega))) rfl rfl rfl ?_
          refine WO.val (run_assign rfl) rfl rfl rfl ?_
          refine WO.nil ?_
          exact NX.again (i + 1, u2, D38, t + y) ⟨⟨hri, kD38, by omega, by omega, by omega⟩, (hS48.permT [1, 1, 0, 0] (L' := own a34 y y 5 1 (List.replicate y (Value.int .u8 0)) :: own (some ⟨g12, 0, none⟩) 1 1 5 1 [Value.int .u8 (((UInt8.ofNat (97 + i % 5)).toNat : Nat) : Int)] :: dkA g4 D38 :: (.pure True) :: L) rfl).drop.drop⟩ (by show 50 - (i + 1) < 50 - i; omega) (Sub.cons rfl (Sub.cons rfl (Sub.cons rfl (Sub.cons rfl (Sub.consE rfl (by subst hu2; first | rfl | exact congrArg _ (by omega)) (Sub.consE rfl (by congr 1) (Sub.nil _)))))))
        ·
         have hin : ¬ ((u + y : Nat) : Int) ≤ m := fun hin => by rw [if_pos hin] at hr; omega
         rw [if_neg hin] at hu2
         refine WP.skip ?_
         refine NX.go ?_
         refine WP.seq ?_
         refine WP.region rfl ?_
         refine WO.val (run_move rfl) rfl rfl rfl ?_
         refine WO.call rfl rfl Ty.hd27 rfl (dused_spec kD38.w kD38.b (by omega) hS41) (fun v51 w50 pv51 => ?_)
         obtain ⟨rfl, hS50⟩ := pv51
         clear hS41
         refine WO.val (run_move rfl) rfl rfl rfl ?_
         refine WO.val (run_neq rfl rfl) rfl rfl rfl ?_
         refine WO.nil ?_
         refine NX.go ?_
         refine WP.condP rfl (fun g70 => ?_) (fun g70 => ?_)
         ·
          exfalso; have := hri.u; omega
         ·
          refine WP.skip ?_
          refine NX.blk ?_
          refine NX.go ?_
          refine WP.region rfl ?_
          refine WO.val (run_move rfl) rfl rfl rfl ?_
          refine WO.val (run_add rfl rfl (IntWalk.i64_in _ (by omega))) rfl rfl rfl ?_
          refine WO.val (run_assign rfl) rfl rfl rfl ?_
          refine WO.nil ?_
          exact NX.again (i + 1, u2, D38, t + y) ⟨⟨hri, kD38, by omega, by omega, by omega⟩, (hS50.permT [1, 1, 0, 0] (L' := own a34 y y 5 1 (List.replicate y (Value.int .u8 0)) :: own (some ⟨g12, 0, none⟩) 1 1 5 1 [Value.int .u8 (((UInt8.ofNat (97 + i % 5)).toNat : Nat) : Int)] :: dkA g4 D38 :: (.pure True) :: L) rfl).drop.drop⟩ (by show 50 - (i + 1) < 50 - i; omega) (Sub.cons rfl (Sub.cons rfl (Sub.cons rfl (Sub.cons rfl (Sub.consE rfl (by subst hu2; first | rfl | exact congrArg _ (by omega)) (Sub.consE rfl (by congr 1) (Sub.nil _)))))))
     ·
      refine WO.val (run_bytesToStr Tryd.underlying52 Tryd.underlying5 Tryd.underlying9 rfl (by have z := hS33.own_rd_i 0 rfl; rw [← rep_u8] at z; exact z)) rfl rfl rfl ?_
      refine WO.nil ?_
      have s52 : Rd w33 ka l.length 1 (ri l) := ((fun h => St.rdB h hA) (hS33.focus 3 rfl))
      refine NX.held s52 ?_
      refine WD.one (i := 6) diskRoom_core_t10 #[true, true, true, true, true, true, true, true, true, true, false, false] rfl (by kernel_rfl) ?_
      refine WO.val (run_bytesToStr Tryd.underlying52 Tryd.underlying5 Tryd.underlying9 rfl (show Rd w33 (some ⟨g12, 0, none⟩) 1 1 (List.map (fun b : UInt8 => Value.int .u8 (b.toNat : Int)) [UInt8.ofNat (97 + i % 5)]) from hS33.own_rd_i 1 rfl)) rfl rfl rfl ?_
      refine WO.nil ?_
      have s53 : Rd w33 ka l.length 1 (ri l) := ((fun h => St.rdB h hA) (hS33.focus 3 rfl))
      refine NX.held s53 ?_
      refine WD.one (i := 10) diskRoom_core_t10 #[true, true, true, true, true, true, true, true, true, true, true, false] rfl (by kernel_rfl) ?_
      have hS56 := hS33.permT [2, 0, 0, 0] (L' := dkA g4 D :: own a34 y y 5 1 (List.replicate y (Value.int .u8 0)) :: own (some ⟨g12, 0, none⟩) 1 1 5 1 [Value.int .u8 (((UInt8.ofNat (97 + i % 5)).toNat : Nat) : Int)] :: (.pure True) :: L) rfl
      clear hS33
      refine WO.call rfl rfl Ty.hd24 rfl (dappend_spec kD.w kD.b (by omega) (by omega) [UInt8.ofNat (97 + i % 5)] (List.replicate y (0 : UInt8)) (by first | exact Nat.le_of_ble_eq_true rfl | omega | (simp; omega) | assumption) (by first | exact Nat.le_of_ble_eq_true rfl | omega | (simp; omega) | assumption) hS56) (fun v58 w57 pv58 => ?_)
      obtain ⟨hv, hS57⟩ := pv58
      clear hS56
      obtain ⟨r55, er55⟩ : ∃ qq, qq = (appendD D [UInt8.ofNat (97 + i % 5)] (List.replicate y (0 : UInt8))).2 := ⟨_, rfl⟩
      rw [← er55] at hv
      obtain ⟨D54, eD54⟩ : ∃ qq, qq = (appendD D [UInt8.ofNat (97 + i % 5)] (List.replicate y (0 : UInt8))).1 := ⟨_, rfl⟩
      rw [← eD54] at hS57
      have kD54 : OkD D54 (i + 1) (t + (List.replicate y (0 : UInt8)).length) := by rw [eD54]; exact kD.append
      subst hv
      refine WO.nil ?_
      have s59 : Rd w57 ka l.length 1 (ri l) := ((fun h => St.rdB h hA) (hS57.focus 3 rfl))
      refine NX.held s59 ?_
      refine WD.pure (i := 11) diskRoom_core_t10 #[true, true, true, true, true, true, true, true, true, true, true, true] rfl rfl rfl (by kernel_rfl) (PQ.then (PQ.blk (PQ.then (PQ.then (PQ.blk (PQ.then PQ.body)))))) rfl (fun w => run_assign rfl) ?_
      refine WD.done diskRoom_core_t10 (by kernel_rfl) ?_
      refine NX.go ?_
      refine WP.seq ?_
      refine WP.seq ?_
      refine WP.region rfl ?_
      have hlen : (List.replicate y (0 : UInt8)).length = y := List.length_replicate
      have hstep := hf.step (s := List.replicate y (0 : UInt8)) kD (by omega) (fileF_let (i := i))
      rw [← er55, ← eD54, hlen] at hstep
      rw [hlen] at kD54
      obtain ⟨u2, hu2, hri, hr⟩ : ∃ u2, u2 = (if ((u + y : Nat) : Int) ≤ m then u + y else u) ∧ RI D54 (m : Int) u2 (i + 1) ∧ r55 = (if ((u + y : Nat) : Int) ≤ m then 0 else 4) := by
       rcases hstep with ⟨h1, h2, h3⟩ | ⟨h1, h2, h3⟩
       · exact ⟨u + y, by rw [if_pos h2], h3, by rw [if_pos h2, h1]⟩
       · exact ⟨u, by rw [if_neg (by omega)], h3, by rw [if_neg (by omega), h1]⟩
      refine WO.val (run_move rfl) rfl rfl rfl ?_
      refine WO.val (run_eql rfl rfl) rfl rfl rfl ?_
      refine WO.val (run_move rfl) rfl rfl rfl ?_
      refine WO.val (run_move rfl) rfl rfl rfl ?_
      refine WO.val (run_add rfl rfl (IntWalk.i64_in _ (by omega))) rfl rfl rfl ?_
      refine WO.val (run_move rfl) rfl rfl rfl ?_
      refine WO.val (run_leq rfl rfl) rfl rfl rfl ?_
      refine WO.val (run_neqB Tryd.underlying4 rfl rfl rfl) rfl rfl rfl ?_
      refine WO.val (run_move rfl) rfl rfl rfl ?_
      rcases Bool.eq_false_or_eq_true (!(decide (r55 = 0) == decide (((u : Int) + (y : Int)) ≤ (m : Int)))) with g54 | g54
      ·
       exfalso; rw [hr] at g54; by_cases hin : ((u + y : Nat) : Int) ≤ m
       · have h2 : (u : Int) + (y : Int) ≤ m := (by omega); rw [if_pos hin, decide_eq_true h2] at g54; exact absurd g54 (by decide)
       · have h2 : ¬ (u : Int) + (y : Int) ≤ m := (by omega); rw [if_neg hin, decide_eq_false h2] at g54; exact absurd g54 (by decide)
      ·
       refine WO.on rfl rfl g54 ?_
       refine WO.val (run_move rfl) rfl rfl rfl ?_
       refine WO.on rfl rfl g54 ?_
       refine WO.val (run_neq rfl rfl) rfl rfl rfl ?_
       refine WO.on rfl rfl g54 ?_
       refine WO.val (run_move rfl) rfl rfl rfl ?_
       by_cases g57 : ¬ r55 = 0
       ·
        refine WO.on rfl rfl (decide_eq_true g57) ?_
        refine WO.val (run_move rfl) rfl rfl rfl ?_
        refine WO.on rfl rfl (decide_eq_true g57) ?_
        refine WO.val (run_neq rfl rfl) rfl rfl rfl ?_
        refine WO.on rfl rfl g54 ?_
        refine WO.val (run_pickT rfl (decide_eq_true g57) rfl) rfl rfl rfl ?_
        refine WO.val (run_pickF rfl g54 rfl) rfl rfl rfl ?_
        refine WO.nil ?_
        refine NX.go ?_
        refine WP.condP rfl (fun g61 => ?_) (fun g61 => ?_)
        ·
         exfalso; rw [hr] at g61; by_cases hin : ((u + y : Nat) : Int) ≤ m
         · rw [if_pos hin] at hr; omega
         · rw [if_neg hin] at g61; exact g61 rfl
        ·
         refine WP.skip ?_
         refine NX.go ?_
         refine WP.seq ?_
         refine WP.seq ?_
         refine WP.region rfl ?_
         refine WO.val (run_move rfl) rfl rfl rfl ?_
         refine WO.val (run_eql rfl rfl) rfl rfl rfl ?_
         refine WO.nil ?_
         refine NX.go ?_
         refine WP.condP rfl (fun g63 => ?_) (fun g63 => ?_)
         ·
          have hin : ((u + y : Nat) : Int) ≤ m := Decidable.byContradiction fun hin => by rw [if_neg hin] at hr; omega
          rw [if_pos hin] at hu2
          refine WP.region rfl ?_
          refine WO.val (run_move rfl) rfl rfl rfl ?_
          refine WO.val (run_move rfl) rfl rfl rfl ?_
          refine WO.val (run_add rfl rfl (IntWalk.i64_in _ (by omega))) rfl rfl rfl ?_
          refine WO.val (run_assign rfl) rfl rfl rfl ?_
          refine WO.nil ?_
          refine NX.go ?_
          refine WP.seq ?_
          refine WP.region rfl ?_
          refine WO.val (run_move rfl) rfl rfl rfl ?_
          refine WO.call rfl rfl Ty.hd27 rfl (dused_spec kD54.w kD54.b (by omega) hS57) (fun v61 w60 pv61 => ?_)
          obtain ⟨rfl, hS60⟩ := pv61
          clear hS57
          refine WO.val (run_move rfl) rfl rfl rfl ?_
          refine WO.val (run_neq rfl rfl) rfl rfl rfl ?_
          refine WO.nil ?_
          refine NX.go ?_
          refine WP.condP rfl (fun g70 => ?_) (fun g70 => ?_)
          ·
           exfalso; have := hri.u; omega
          ·
           refine WP.skip ?_
           refine NX.blk ?_
           refine NX.go ?_
           refine WP.region rfl ?_
           refine WO.val (run_move rfl) rfl rfl rfl ?_
           refine WO.val (run_add rfl rfl (IntWalk.i64_in _ (by omega))) rfl rfl rfl ?_
           refine WO.val (run_assign rfl) rfl rfl rfl ?_
           refine WO.nil ?_
           exact NX.again (i + 1, u2, D54, t + y) ⟨⟨hri, kD54, by omega, by omega, by omega⟩, (hS60.permT [1, 1, 0, 0] (L' := own a34 y y 5 1 (List.replicate y (Value.int .u8 0)) :: own (some ⟨g12, 0, none⟩) 1 1 5 1 [Value.int .u8 (((UInt8.ofNat (97 + i % 5)).toNat : Nat) : Int)] :: dkA g4 D54 :: (.pure True) :: L) rfl).drop.drop⟩ (by show 50 - (i + 1) < 50 - i; omega) (Sub.cons rfl (Sub.cons rfl (Sub.cons rfl (Sub.cons rfl (Sub.consE rfl (by subst hu2; first | rfl | exact congrArg _ (by omega)) (Sub.consE rfl (by congr 1) (Sub.nil _)))))))
         ·
          have hin : ¬ ((u + y : Nat) : Int) ≤ m := fun hin => by rw [if_pos hin] at hr; omega
          rw [if_neg hin] at hu2
          refine WP.skip ?_
          refine NX.go ?_
          refine WP.seq ?_
          refine WP.region rfl ?_
          refine WO.val (run_move rfl) rfl rfl rfl ?_
          refine WO.call rfl rfl Ty.hd27 rfl (dused_spec kD54.w kD54.b (by omega) hS57) (fun v63 w62 pv63 => ?_)
          obtain ⟨rfl, hS62⟩ := pv63
          clear hS57
          refine WO.val (run_move rfl) rfl rfl rfl ?_
          refine WO.val (run_neq rfl rfl) rfl rfl rfl ?_
          refine WO.nil ?_
          refine NX.go ?_
          refine WP.condP rfl (fun g70 => ?_) (fun g70 => ?_)
          ·
           exfalso; have := hri.u; omega
          ·
           refine WP.skip ?_
           refine NX.blk ?_
           refine NX.go ?_
           refine WP.region rfl ?_
           refine WO.val (run_move rfl) rfl rfl rfl ?_
           refine WO.val (run_add rfl rfl (IntWalk.i64_in _ (by omega))) rfl rfl rfl ?_
           refine WO.val (run_assign rfl) rfl rfl rfl ?_
           refine WO.nil ?_
           exact NX.again (i + 1, u2, D54, t + y) ⟨⟨hri, kD54, by omega, by omega, by omega⟩, (hS62.permT [1, 1, 0, 0] (L' := own a34 y y 5 1 (List.replicate y (Value.int .u8 0)) :: own (some ⟨g12, 0, none⟩) 1 1 5 1 [Value.int .u8 (((UInt8.ofNat (97 + i % 5)).toNat : Nat) : Int)] :: dkA g4 D54 :: (.pure True) :: L) rfl).drop.drop⟩ (by show 50 - (i + 1) < 50 - i; omega) (Sub.cons rfl (Sub.cons rfl (Sub.cons rfl (Sub.cons rfl (Sub.consE rfl (by subst hu2; first | rfl | exact congrArg _ (by omega)) (Sub.consE rfl (by congr 1) (Sub.nil _)))))))
       ·
        refine WO.off rfl rfl (decide_eq_false g57) rfl ?_
        refine WO.off rfl rfl (decide_eq_false g57) rfl ?_
        refine WO.on rfl rfl g54 ?_
        refine WO.val (run_pickF rfl (decide_eq_false g57) rfl) rfl rfl rfl ?_
        refine WO.val (run_pickF rfl g54 rfl) rfl rfl rfl ?_
        refine WO.nil ?_
        refine NX.go ?_
        refine WP.condF rfl rfl ?_
        refine WP.skip ?_
        refine NX.go ?_
        refine WP.seq ?_
        refine WP.seq ?_
        refine WP.region rfl ?_
        refine WO.val (run_move rfl) rfl rfl rfl ?_
        refine WO.val (run_eql rfl rfl) rfl rfl rfl ?_
        refine WO.nil ?_
        refine NX.go ?_
        refine WP.condP rfl (fun g63 => ?_) (fun g63 => ?_)
        ·
         have hin : ((u + y : Nat) : Int) ≤ m := Decidable.byContradiction fun hin => by rw [if_neg hin] at hr; omega
         rw [if_pos hin] at hu2
         refine WP.region rfl ?_
         refine WO.val (run_move rfl) rfl rfl rfl ?_
         refine WO.val (run_move rfl) rfl rfl rfl ?_
         refine WO.val (run_add rfl rfl (IntWalk.i64_in _ (by omega))) rfl rfl rfl ?_
         refine WO.val (run_assign rfl) rfl rfl rfl ?_
         refine WO.nil ?_
         refine NX.go ?_
         refine WP.seq ?_
         refine WP.region rfl ?_
         refine WO.val (run_move rfl) rfl rfl rfl ?_
         refine WO.call rfl rfl Ty.hd27 rfl (dused_spec kD54.w kD54.b (by omega) hS57) (fun v65 w64 pv65 => ?_)
         obtain ⟨rfl, hS64⟩ := pv65
         clear hS57
         refine WO.val (run_move rfl) rfl rfl rfl ?_
         refine WO.val (run_neq rfl rfl) rfl rfl rfl ?_
         refine WO.nil ?_
         refine NX.go ?_
         refine WP.condP rfl (fun g70 => ?_) (fun g70 => ?_)
         ·
          exfalso; have := hri.u; omega
         ·
          refine WP.skip ?_
          refine NX.blk ?_
          refine NX.go ?_
          refine WP.region rfl ?_
          refine WO.val (run_move rfl) rfl rfl rfl ?_
          refine WO.val (run_add rfl rfl (IntWalk.i64_in _ (by omega))) rfl rfl rfl ?_
          refine WO.val (run_assign rfl) rfl rfl rfl ?_
          refine WO.nil ?_
          exact NX.again (i + 1, u2, D54, t + y) ⟨⟨hri, kD54, by omega, by omega, by omega⟩, (hS64.permT [1, 1, 0, 0] (L' := own a34 y y 5 1 (List.replicate y (Value.int .u8 0)) :: own (some ⟨g12, 0, none⟩) 1 1 5 1 [Value.int .u8 (((UInt8.ofNat (97 + i % 5)).toNat : Nat) : Int)] :: dkA g4 D54 :: (.pure True) :: L) rfl).drop.drop⟩ (by show 50 - (i + 1) < 50 - i; omega) (Sub.cons rfl (Sub.cons rfl (Sub.cons rfl (Sub.cons rfl (Sub.consE rfl (by subst hu2; first | rfl | exact congrArg _ (by omega)) (Sub.consE rfl (by congr 1) (Sub.nil _)))))))
        ·
         have hin : ¬ ((u + y : Nat) : Int) ≤ m := fun hin => by rw [if_pos hin] at hr; omega
         rw [if_neg hin] at hu2
         refine WP.skip ?_
         refine NX.go ?_
         refine WP.seq ?_
         refine WP.region rfl ?_
         refine WO.val (run_move rfl) rfl rfl rfl ?_
         refine WO.call rfl rfl Ty.hd27 rfl (dused_spec kD54.w kD54.b (by omega) hS57) (fun v67 w66 pv67 => ?_)
         obtain ⟨rfl, hS66⟩ := pv67
         clear hS57
         refine WO.val (run_move rfl) rfl rfl rfl ?_
         refine WO.val (run_neq rfl rfl) rfl rfl rfl ?_
         refine WO.nil ?_
         refine NX.go ?_
         refine WP.condP rfl (fun g70 => ?_) (fun g70 => ?_)
         ·
          exfalso; have := hri.u; omega
         ·
          refine WP.skip ?_
          refine NX.blk ?_
          refine NX.go ?_
          refine WP.region rfl ?_
          refine WO.val (run_move rfl) rfl rfl rfl ?_
          refine WO.val (run_add rfl rfl (IntWalk.i64_in _ (by omega))) rfl rfl rfl ?_
          refine WO.val (run_assign rfl) rfl rfl rfl ?_
          refine WO.nil ?_
          exact NX.again (i + 1, u2, D54, t + y) ⟨⟨hri, kD54, by omega, by omega, by omega⟩, (hS66.permT [1, 1, 0, 0] (L' := own a34 y y 5 1 (List.replicate y (Value.int .u8 0)) :: own (some ⟨g12, 0, none⟩) 1 1 5 1 [Value.int .u8 (((UInt8.ofNat (97 + i % 5)).toNat : Nat) : Int)] :: dkA g4 D54 :: (.pure True) :: L) rfl).drop.drop⟩ (by show 50 - (i + 1) < 50 - i; omega) (Sub.cons rfl (Sub.cons rfl (Sub.cons rfl (Sub.cons rfl (Sub.consE rfl (by subst hu2; first | rfl | exact congrArg _ (by omega)) (Sub.consE rfl (by congr 1) (Sub.nil _)))))))
   ·
    refine WO.makeSlice (m := y) Tryd.underlying52 Ty.by5 Ty.sz5 Ty.zr5 rfl rfl rfl (by omega) (by omega) hS8 rfl (fun a69 w68 hS68 => ?_)
    clear hS8
    refine WO.nil ?_
    have s70 : Rd w68 ka l.length 1 (ri l) := ((fun h => St.rdB h hA) (hS68.focus 2 rfl))
    refine NX.held s70 ?_
    refine WD.two (i := 5) (k := 9) diskRoom_core_t10 #[true, true, true, true, true, true, false, true, true, false, false, false] #[true, true, true, true, true, false, false, true, true, true, false, false] rfl rfl (by kernel_rfl) ?_ ?_
    ·
     refine WO.buildSlice (l := [Value.int .u8 (((UInt8.ofNat (97 + i % 5)).toNat : Nat) : Int)]) hS68 Tryd.underlying52 rfl (fun w => by kernel_rfl) rfl (fun g72 w71 lg72 hS71 => ?_)
     clear hS68
     have hS71 := hS71.own_of_cel (m := 1) (k := 1) rfl
     refine WO.nil ?_
     have s73 : Rd w71 ka l.length 1 (ri l) := ((fun h => St.rdB h hA) (hS71.focus 3 rfl))
     refine NX.held s73 ?_
     refine WD.two (i := 6) (k := 9) diskRoom_core_t10 #[true, true, true, true, true, true, true, true, true, false, false, false] #[true, true, true, true, true, true, false, true, true, true, false, false] rfl rfl (by kernel_rfl) ?_ ?_
     ·
      refine WO.val (run_bytesToStr Tryd.underlying52 Tryd.underlying5 Tryd.underlying9 rfl (show Rd w71 (some ⟨g72, 0, none⟩) 1 1 (List.map (fun b : UInt8 => Value.int .u8 (b.toNat : Int)) [UInt8.ofNat (97 + i % 5)]) from hS71.own_rd_i 0 rfl)) rfl rfl rfl ?_
      refine WO.nil ?_
      have s74 : Rd w71 ka l.length 1 (ri l) := ((fun h => St.rdB h hA) (hS71.focus 3 rfl))
      refine NX.held s74 ?_
      refine WD.one (i := 9) diskRoom_core_t10 #[true, true, true, true, true, true, true, true, true, true, false, false] rfl (by kernel_rfl) ?_
      refine WO.val (run_bytesToStr Tryd.underlying52 Tryd.underlying5 Tryd.underlying9 rfl (by have z := hS71.own_rd_i 1 rfl; rw [← rep_u8] at z; exact z)) rfl rfl rfl ?_
      refine WO.nil ?_
      have s75 : Rd w71 ka l.length 1 (ri l) := ((fun h => St.rdB h hA) (hS71.focus 3 rfl))
      refine NX.held s75 ?_
      refine WD.one (i := 10) diskRoom_core_t10 #[true, true, true, true, true, true, true, true, true, true, true, false] rfl (by kernel_rfl) ?_
      have hS78 := hS71.permT [2, 0, 0, 0] (L' := dkA g4 D :: own (some ⟨g72, 0, none⟩) 1 1 5 1 [Value.int .u8 (((UInt8.ofNat (97 + i % 5)).toNat : Nat) : Int)] :: own a69 y y 5 1 (List.replicate y (Value.int .u8 0)) :: (.pure True) :: L) rfl
      clear hS71
      refine WO.call rfl rfl Ty.hd24 rfl (dappend_spec kD.w kD.b (by omega) (by omega) [UInt8.ofNat (97 + i % 5)] (List.replicate y (0 : UInt8)) (by first | exact Nat.le_of_ble_eq_true rfl | omega | (simp; omega) | assumption) (by first | exact Nat.le_of_ble_eq_true rfl | omega | (simp; omega) | assumption) hS78) (fun v80 w79 pv80 => ?_)
      obtain ⟨hv, hS79⟩ := pv80
      clear hS78
      obtain ⟨r77, er77⟩ : ∃ qq, qq = (appendD D [UInt8.ofNat (97 + i % 5)] (List.replicate y (0 : UInt8))).2 := ⟨_, rfl⟩
      rw [← er77] at hv
      obtain ⟨D76, eD76⟩ : ∃ qq, qq = (appendD D [UInt8.ofNat (97 + i % 5)] (List.replicate y (0 : UInt8))).1 := ⟨_, rfl⟩
      rw [← eD76] at hS79
      have kD76 : OkD D76 (i + 1) (t + (List.replicate y (0 : UInt8)).length) := by rw [eD76]; exact kD.append
      subst hv
      refine WO.nil ?_
      have s81 : Rd w79 ka l.length 1 (ri l) := ((fun h => St.rdB h hA) (hS79.focus 3 rfl))
      refine NX.held s81 ?_
      refine WD.pure (i := 11) diskRoom_core_t10 #[true, true, true, true, true, true, true, true, true, true, true, true] rfl rfl rfl (by kernel_rfl) (PQ.then (PQ.blk (PQ.then (PQ.then (PQ.blk (PQ.then PQ.body)))))) rfl (fun w => run_assign rfl) ?_
      refine WD.done diskRoom_core_t10 (by kernel_rfl) ?_
      refine NX.go ?_
      refine WP.seq ?_
      refine WP.seq ?_
      refine WP.region rfl ?_
      have hlen : (List.replicate y (0 : UInt8)).length = y := List.length_replicate
      have hstep := hf.step (s := List.replicate y (0 : UInt8)) kD (by omega) (fileF_let (i := i))
      rw [← er77, ← eD76, hlen] at hstep
      rw [hlen] at kD76
      obtain ⟨u2, hu2, hri, hr⟩ : ∃ u2, u2 = (if ((u + y : Nat) : Int) ≤ m then u + y else u) ∧ RI D76 (m : Int) u2 (i + 1) ∧ r77 = (if ((u + y : Nat) : Int) ≤ m then 0 else 4) := by
       rcases hstep with ⟨h1, h2, h3⟩ | ⟨h1, h2, h3⟩
       · exact ⟨u + y, by rw [if_pos h2], h3, by rw [if_pos h2, h1]⟩
       · exact ⟨u, by rw [if_neg (by omega)], h3, by rw [if_neg (by omega), h1]⟩
      refine WO.val (run_move rfl) rfl rfl rfl ?_
      refine WO.val (run_eql rfl rfl) rfl rfl rfl ?_
      refine WO.val (run_move rfl) rfl rfl rfl ?_
      refine WO.val (run_move rfl) rfl rfl rfl ?_
      refine WO.val (run_add rfl rfl (IntWalk.i64_in _ (by omega))) rfl rfl rfl ?_
      refine WO.val (run_move rfl) rfl rfl rfl ?_
      refine WO.val (run_leq rfl rfl) rfl rfl rfl ?_
      refine WO.val (run_neqB Tryd.underlying4 rfl rfl rfl) rfl rfl rfl ?_
      refine WO.val (run_move rfl) rfl rfl rfl ?_
      rcases Bool.eq_false_or_eq_true (!(decide (r77 = 0) == decide (((u : Int) + (y : Int)) ≤ (m : Int)))) with g54 | g54
      ·
       exfalso; rw [hr] at g54; by_cases hin : ((u + y : Nat) : Int) ≤ m
       · have h2 : (u : Int) + (y : Int) ≤ m := (by omega); rw [if_pos hin, decide_eq_true h2] at g54; exact absurd g54 (by decide)
       · have h2 : ¬ (u : Int) + (y : Int) ≤ m := (by omega); rw [if_neg hin, decide_eq_false h2] at g54; exact absurd g54 (by decide)
      ·
       refine WO.on rfl rfl g54 ?_
       refine WO.val (run_move rfl) rfl rfl rfl ?_
       refine WO.on rfl rfl g54 ?_
       refine WO.val (run_neq rfl rfl) rfl rfl rfl ?_
       refine WO.on rfl rfl g54 ?_
       refine WO.val (run_move rfl) rfl rfl rfl ?_
       by_cases g57 : ¬ r77 = 0
       ·
        refine WO.on rfl rfl (decide_eq_true g57) ?_
        refine WO.val (run_move rfl) rfl rfl rfl ?_
        refine WO.on rfl rfl (decide_eq_true g57) ?_
        refine WO.val (run_neq rfl rfl) rfl rfl rfl ?_
        refine WO.on rfl rfl g54 ?_
        refine WO.val (run_pickT rfl (decide_eq_true g57) rfl) rfl rfl rfl ?_
        refine WO.val (run_pickF rfl g54 rfl) rfl rfl rfl ?_
        refine WO.nil ?_
        refine NX.go ?_
        refine WP.condP rfl (fun g61 => ?_) (fun g61 => ?_)
        ·
         exfalso; rw [hr] at g61; by_cases hin : ((u + y : Nat) : Int) ≤ m
         · rw [if_pos hin] at hr; omega
         · rw [if_neg hin] at g61; exact g61 rfl
        ·
         refine WP.skip ?_
         refine NX.go ?_
         refine WP.seq ?_
         refine WP.seq ?_
         refine WP.region rfl ?_
         refine WO.val (run_move rfl) rfl rfl rfl ?_
         refine WO.val (run_eql rfl rfl) rfl rfl rfl ?_
         refine WO.nil ?_
         refine NX.go ?_
         refine WP.condP rfl (fun g63 => ?_) (fun g63 => ?_)
         ·
          have hin : ((u + y : Nat) : Int) ≤ m := Decidable.byContradiction fun hin => by rw [if_neg hin] at hr; omega
          rw [if_pos hin] at hu2
          refine WP.region rfl ?_
          refine WO.val (run_move rfl) rfl rfl rfl ?_
          refine WO.val (run_move rfl) rfl rfl rfl ?_
          refine WO.val (run_add rfl rfl (IntWalk.i64_in _ (by omega))) rfl rfl rfl ?_
          refine WO.val (run_assign rfl) rfl rfl rfl ?_
          refine WO.nil ?_
          refine NX.go ?_
          refine WP.seq ?_
          refine WP.region rfl ?_
          refine WO.val (run_move rfl) rfl rfl rfl ?_
          refine WO.call rfl rfl Ty.hd27 rfl (dused_spec kD76.w kD76.b (by omega) hS79) (fun v83 w82 pv83 => ?_)
          obtain ⟨rfl, hS82⟩ := pv83
          clear hS79
          refine WO.val (run_move rfl) rfl rfl rfl ?_
          refine WO.val (run_neq rfl rfl) rfl rfl rfl ?_
          refine WO.nil ?_
          refine NX.go ?_
          refine WP.condP rfl (fun g70 => ?_) (fun g70 => ?_)
          ·
           exfalso; have := hri.u; omega
          ·
           refine WP.skip ?_
           refine NX.blk ?_
           refine NX.go ?_
           refine WP.region rfl ?_
           refine WO.val (run_move rfl) rfl rfl rfl ?_
           refine WO.val (run_add rfl rfl (IntWalk.i64_in _ (by omega))) rfl rfl rfl ?_
           refine WO.val (run_assign rfl) rfl rfl rfl ?_
           refine WO.nil ?_
           exact NX.again (i + 1, u2, D76, t + y) ⟨⟨hri, kD76, by omega, by omega, by omega⟩, (hS82.permT [1, 1, 0, 0] (L' := own (some ⟨g72, 0, none⟩) 1 1 5 1 [Value.int .u8 (((UInt8.ofNat (97 + i % 5)).toNat : Nat) : Int)] :: own a69 y y 5 1 (List.replicate y (Value.int .u8 0)) :: dkA g4 D76 :: (.pure True) :: L) rfl).drop.drop⟩ (by show 50 - (i + 1) < 50 - i; omega) (Sub.cons rfl (Sub.cons rfl (Sub.cons rfl (Sub.cons rfl (Sub.consE rfl (by subst hu2; first | rfl | exact congrArg _ (by omega)) (Sub.consE rfl (by congr 1) (Sub.nil _)))))))
         ·
          have hin : ¬ ((u + y : Nat) : Int) ≤ m := fun hin => by rw [if_pos hin] at hr; omega
          rw [if_neg hin] at hu2
          refine WP.skip ?_
          refine NX.go ?_
          refine WP.seq ?_
          refine WP.region rfl ?_
          refine WO.val (run_move rfl) rfl rfl rfl ?_
          refine WO.call rfl rfl Ty.hd27 rfl (dused_spec kD76.w kD76.b (by omega) hS79) (fun v85 w84 pv85 => ?_)
          obtain ⟨rfl, hS84⟩ := pv85
          clear hS79
          refine WO.val (run_move rfl) rfl rfl rfl ?_
          refine WO.val (run_neq rfl rfl) rfl rfl rfl ?_
          refine WO.nil ?_
          refine NX.go ?_
          refine WP.condP rfl (fun g70 => ?_) (fun g70 => ?_)
          ·
           exfalso; have := hri.u; omega
          ·
           refine WP.skip ?_
           refine NX.blk ?_
           refine NX.go ?_
           refine WP.region rfl ?_
           refine WO.val (run_move rfl) rfl rfl rfl ?_
           refine WO.val (run_add rfl rfl (IntWalk.i64_in _ (by omega))) rfl rfl rfl ?_
           refine WO.val (run_assign rfl) rfl rfl rfl ?_
           refine WO.nil ?_
           exact NX.again (i + 1, u2, D76, t + y) ⟨⟨hri, kD76, by omega, by omega, by omega⟩, (hS84.permT [1, 1, 0, 0] (L' := own (some ⟨g72, 0, none⟩) 1 1 5 1 [Value.int .u8 (((UInt8.ofNat (97 + i % 5)).toNat : Nat) : Int)] :: own a69 y y 5 1 (List.replicate y (Value.int .u8 0)) :: dkA g4 D76 :: (.pure True) :: L) rfl).drop.drop⟩ (by show 50 - (i + 1) < 50 - i; omega) (Sub.cons rfl (Sub.cons rfl (Sub.cons rfl (Sub.cons rfl (Sub.consE rfl (by subst hu2; first | rfl | exact congrArg _ (by omega)) (Sub.consE rfl (by congr 1) (Sub.nil _)))))))
       ·
        refine WO.off rfl rfl (decide_eq_false g57) rfl ?_
        refine WO.off rfl rfl (decide_eq_false g57) rfl ?_
        refine WO.on rfl rfl g54 ?_
        refine WO.val (run_pickF rfl (decide_eq_false g57) rfl) rfl rfl rfl ?_
        refine WO.val (run_pickF rfl g54 rfl) rfl rfl rfl ?_
        refine WO.nil ?_
        refine NX.go ?_
        refine WP.condF rfl rfl ?_
        refine WP.skip ?_
        refine NX.go ?_
        refine WP.seq ?_
        refine WP.seq ?_
        refine WP.region rfl ?_
        refine WO.val (run_move rfl) rfl rfl rfl ?_
        refine WO.val (run_eql rfl rfl) rfl rfl rfl ?_
        refine WO.nil ?_
        refine NX.go ?_
        refine WP.condP rfl (fun g63 => ?_) (fun g63 => ?_)
        ·
         have hin : ((u + y : Nat) : Int) ≤ m := Decidable.byContradiction fun hin => by rw [if_neg hin] at hr; omega
         rw [if_pos hin] at hu2
         refine WP.region rfl ?_
         refine WO.val (run_move rfl) rfl rfl rfl ?_
         refine WO.val (run_move rfl) rfl rfl rfl ?_
         refine WO.val (run_add rfl rfl (IntWalk.i64_in _ (by omega))) rfl rfl rfl ?_
         refine WO.val (run_assign rfl) rfl rfl rfl ?_
         refine WO.nil ?_
         refine NX.go ?_
         refine WP.seq ?_
         refine WP.region rfl ?_
         refine WO.val (run_move rfl) rfl rfl rfl ?_
         refine WO.call rfl rfl Ty.hd27 rfl (dused_spec kD76.w kD76.b (by omega) hS79) (fun v87 w86 pv87 => ?_)
         obtain ⟨rfl, hS86⟩ := pv87
         clear hS79
         refine WO.val (run_move rfl) rfl rfl rfl ?_
         refine WO.val (run_neq rfl rfl) rfl rfl rfl ?_
         refine WO.nil ?_
         refine NX.go ?_
         refine WP.condP rfl (fun g70 => ?_) (fun g70 => ?_)
         ·
          exfalso; have := hri.u; omega
         ·
          refine WP.skip ?_
          refine NX.blk ?_
          refine NX.go ?_
          refine WP.region rfl ?_
          refine WO.val (run_move rfl) rfl rfl rfl ?_
          refine WO.val (run_add rfl rfl (IntWalk.i64_in _ (by omega))) rfl rfl rfl ?_
          refine WO.val (run_assign rfl) rfl rfl rfl ?_
          refine WO.nil ?_
          exact NX.again (i + 1, u2, D76, t + y) ⟨⟨hri, kD76, by omega, by omega, by omega⟩, (hS86.permT [1, 1, 0, 0] (L' := own (some ⟨g72, 0, none⟩) 1 1 5 1 [Value.int .u8 (((UInt8.ofNat (97 + i % 5)).toNat : Nat) : Int)] :: own a69 y y 5 1 (List.replicate y (Value.int .u8 0)) :: dkA g4 D76 :: (.pure True) :: L) rfl).drop.drop⟩ (by show 50 - (i + 1) < 50 - i; omega) (Sub.cons rfl (Sub.cons rfl (Sub.cons rfl (Sub.cons rfl (Sub.consE rfl (by subst hu2; first | rfl | exact congrArg _ (by omega)) (Sub.consE rfl (by congr 1) (Sub.nil _)))))))
        ·
         have hin : ¬ ((u + y : Nat) : Int) ≤ m := fun hin => by rw [if_pos hin] at hr; omega
         rw [if_neg hin] at hu2
         refine WP.skip ?_
         refine NX.go ?_
         refine WP.seq ?_
         refine WP.region rfl ?_
         refine WO.val (run_move rfl) rfl rfl rfl ?_
         refine WO.call rfl rfl Ty.hd27 rfl (dused_spec kD76.w kD76.b (by omega) hS79) (fun v89 w88 pv89 => ?_)
         obtain ⟨rfl, hS88⟩ := pv89
         clear hS79
         refine WO.val (run_move rfl) rfl rfl rfl ?_
         refine WO.val (run_neq rfl rfl) rfl rfl rfl ?_
         refine WO.nil ?_
         refine NX.go ?_
         refine WP.condP rfl (fun g70 => ?_) (fun g70 => ?_)
         ·
          exfalso; have := hri.u; omega
         ·
          refine WP.skip ?_
          refine NX.blk ?_
          refine NX.go ?_
          refine WP.region rfl ?_
          refine WO.val (run_move rfl) rfl rfl rfl ?_
          refine WO.val (run_add rfl rfl (IntWalk.i64_in _ (by omega))) rfl rfl rfl ?_
          refine WO.val (run_assign rfl) rfl rfl rfl ?_
          refine WO.nil ?_
          exact NX.again (i + 1, u2, D76, t + y) ⟨⟨hri, kD76, by omega, by omega, by omega⟩, (hS88.permT [1, 1, 0, 0] (L' := own (some ⟨g72, 0, none⟩) 1 1 5 1 [Value.int .u8 (((UInt8.ofNat (97 + i % 5)).toNat : Nat) : Int)] :: own a69 y y 5 1 (List.replicate y (Value.int .u8 0)) :: dkA g4 D76 :: (.pure True) :: L) rfl).drop.drop⟩ (by show 50 - (i + 1) < 50 - i; omega) (Sub.cons rfl (Sub.cons rfl (Sub.cons rfl (Sub.cons rfl (Sub.consE rfl (by subst hu2; first | rfl | exact congrArg _ (by omega)) (Sub.consE rfl (by congr 1) (Sub.nil _)))))))
     ·
      refine WO.val (run_bytesToStr Tryd.underlying52 Tryd.underlying5 Tryd.underlying9 rfl (by have z := hS71.own_rd_i 1 rfl; rw [← rep_u8] at z; exact z)) rfl rfl rfl ?_
      refine WO.nil ?_
      have s90 : Rd w71 ka l.length 1 (ri l) := ((fun h => St.rdB h hA) (hS71.focus 3 rfl))
      refine NX.held s90 ?_
      refine WD.one (i := 6) diskRoom_core_t10 #[true, true, true, true, true, true, true, true, true, true, false, false] rfl (by kernel_rfl) ?_
      refine WO.val (run_bytesToStr Tryd.underlying52 Tryd.underlying5 Tryd.underlying9 rfl (show Rd w71 (some ⟨g72, 0, none⟩) 1 1 (List.map (fun b : UInt8 => Value.int .u8 (b.toNat : Int)) [UInt8.ofNat (97 + i % 5)]) from hS71.own_rd_i 0 rfl)) rfl rfl rfl ?_
      refine WO.nil ?_
      have s91 : Rd w71 ka l.length 1 (ri l) := ((fun h => St.rdB h hA) (hS71.focus 3 rfl))
      refine NX.held s91 ?_
      refine WD.one (i := 10) diskRoom_core_t10 #[true, true, true, true, true, true, true, true, true, true, true, false] rfl (by kernel_rfl) ?_
      have hS94 := hS71.permT [2, 0, 0, 0] (L' := dkA g4 D :: own (some ⟨g72, 0, none⟩) 1 1 5 1 [Value.int .u8 (((UInt8.ofNat (97 + i % 5)).toNat : Nat) : Int)] :: own a69 y y 5 1 (List.replicate y (Value.int .u8 0)) :: (.pure True) :: L) rfl
      clear hS71
      refine WO.call rfl rfl Ty.hd24 rfl (dappend_spec kD.w kD.b (by omega) (by omega) [UInt8.ofNat (97 + i % 5)] (List.replicate y (0 : UInt8)) (by first | exact Nat.le_of_ble_eq_true rfl | omega | (simp; omega) | assumption) (by first | exact Nat.le_of_ble_eq_true rfl | omega | (simp; omega) | assumption) hS94) (fun v96 w95 pv96 => ?_)
      obtain ⟨hv, hS95⟩ := pv96
      clear hS94
      obtain ⟨r93, er93⟩ : ∃ qq, qq = (appendD D [UInt8.ofNat (97 + i % 5)] (List.replicate y (0 : UInt8))).2 := ⟨_, rfl⟩
      rw [← er93] at hv
      obtain ⟨D92, eD92⟩ : ∃ qq, qq = (appendD D [UInt8.ofNat (97 + i % 5)] (List.replicate y (0 : UInt8))).1 := ⟨_, rfl⟩
      rw [← eD92] at hS95
      have kD92 : OkD D92 (i + 1) (t + (List.replicate y (0 : UInt8)).length) := by rw [eD92]; exact kD.append
      subst hv
      refine WO.nil ?_
      have s97 : Rd w95 ka l.length 1 (ri l) := ((fun h => St.rdB h hA) (hS95.focus 3 rfl))
      refine NX.held s97 ?_
      refine WD.pure (i := 11) diskRoom_core_t10 #[true, true, true, true, true, true, true, true, true, true, true, true] rfl rfl rfl (by kernel_rfl) (PQ.then (PQ.blk (PQ.then (PQ.then (PQ.blk (PQ.then PQ.body)))))) rfl (fun w => run_assign rfl) ?_
      refine WD.done diskRoom_core_t10 (by kernel_rfl) ?_
      refine NX.go ?_
      refine WP.seq ?_
      refine WP.seq ?_
      refine WP.region rfl ?_
      have hlen : (List.replicate y (0 : UInt8)).length = y := List.length_replicate
      have hstep := hf.step (s := List.replicate y (0 : UInt8)) kD (by omega) (fileF_let (i := i))
      rw [← er93, ← eD92, hlen] at hstep
      rw [hlen] at kD92
      obtain ⟨u2, hu2, hri, hr⟩ : ∃ u2, u2 = (if ((u + y : Nat) : Int) ≤ m then u + y else u) ∧ RI D92 (m : Int) u2 (i + 1) ∧ r93 = (if ((u + y : Nat) : Int) ≤ m then 0 else 4) := by
       rcases hstep with ⟨h1, h2, h3⟩ | ⟨h1, h2, h3⟩
       · exact ⟨u + y, by rw [if_pos h2], h3, by rw [if_pos h2, h1]⟩
       · exact ⟨u, by rw [if_neg (by omega)], h3, by rw [if_neg (by omega), h1]⟩
      refine WO.val (run_move rfl) rfl rfl rfl ?_
      refine WO.val (run_eql rfl rfl) rfl rfl rfl ?_
      refine WO.val (run_move rfl) rfl rfl rfl ?_
      refine WO.val (run_move rfl) rfl rfl rfl ?_
      refine WO.val (run_add rfl rfl (IntWalk.i64_in _ (by omega))) rfl rfl rfl ?_
      refine WO.val (run_move rfl) rfl rfl rfl ?_
      refine WO.val (run_leq rfl rfl) rfl rfl rfl ?_
      refine WO.val (run_neqB Tryd.underlying4 rfl rfl rfl) rfl rfl rfl ?_
      refine WO.val (run_move rfl) rfl rfl rfl ?_
      rcases Bool.eq_false_or_eq_true (!(decide (r93 = 0) == decide (((u : Int) + (y : Int)) ≤ (m : Int)))) with g54 | g54
      ·
       exfalso; rw [hr] at g54; by_cases hin : ((u + y : Nat) : Int) ≤ m
       · have h2 : (u : Int) + (y : Int) ≤ m := (by omega); rw [if_pos hin, decide_eq_true h2] at g54; exact absurd g54 (by decide)
       · have h2 : ¬ (u : Int) + (y : Int) ≤ m := (by omega); rw [if_neg hin, decide_eq_false h2] at g54; exact absurd g54 (by decide)
      ·
       refine WO.on rfl rfl g54 ?_
       refine WO.val (run_move rfl) rfl rfl rfl ?_
       refine WO.on rfl rfl g54 ?_
       refine WO.val (run_neq rfl rfl) rfl rfl rfl ?_
       refine WO.on rfl rfl g54 ?_
       refine WO.val (run_move rfl) rfl rfl rfl ?_
       by_cases g57 : ¬ r93 = 0
       ·
        refine WO.on rfl rfl (decide_eq_true g57) ?_
        refine WO.val (run_move rfl) rfl rfl rfl ?_
        refine WO.on rfl rfl (decide_eq_true g57) ?_
        refine WO.val (run_neq rfl rfl) rfl rfl rfl ?_
        refine WO.on rfl rfl g54 ?_
        refine WO.val (run_pickT rfl (decide_eq_true g57) rfl) rfl rfl rfl ?_
        refine WO.val (run_pickF rfl g54 rfl) rfl rfl rfl ?_
        refine WO.nil ?_
        refine NX.go ?_
        refine WP.condP rfl (fun g61 => ?_) (fun g61 => ?_)
        ·
         exfalso; rw [hr] at g61; by_cases hin : ((u + y : Nat) : Int) ≤ m
         · rw [if_pos hin] at hr; omega
         · rw [if_neg hin] at g61; exact g61 rfl
        ·
         refine WP.skip ?_
         refine NX.go ?_
         refine WP.seq ?_
         refine WP.seq ?_
         refine WP.region rfl ?_
         refine WO.val (run_move rfl) rfl rfl rfl ?_
         refine WO.val (run_eql rfl rfl) rfl rfl rfl ?_
         refine WO.nil ?_
         refine NX.go ?_
         refine WP.condP rfl (fun g63 => ?_) (fun g63 => ?_)
         ·
          have hin : ((u + y : Nat) : Int) ≤ m := Decidable.byContradiction fun hin => by rw [if_neg hin] at hr; omega
          rw [if_pos hin] at hu2
          refine WP.region rfl ?_
          refine WO.val (run_move rfl) rfl rfl rfl ?_
          refine WO.val (run_move rfl) rfl rfl rfl ?_
          refine WO.val (run_add rfl rfl (IntWalk.i64_in _ (by omega))) rfl rfl rfl ?_
          refine WO.val (run_assign rfl) rfl rfl rfl ?_
          refine WO.nil ?_
          refine NX.go ?_
          refine WP.seq ?_
          refine WP.region rfl ?_
          refine WO.val (run_move rfl) rfl rfl rfl ?_
          refine WO.call rfl rfl Ty.hd27 rfl (dused_spec kD92.w kD92.b (by omega) hS95) (fun v99 w98 pv99 => ?_)
          obtain ⟨rfl, hS98⟩ := pv99
          clear hS95
          refine WO.val (run_move rfl) rfl rfl rfl ?_
          refine WO.val (run_neq rfl rfl) rfl rfl rfl ?_
          refine WO.nil ?_
          refine NX.go ?_
          refine WP.condP rfl (fun g70 => ?_) (fun g70 => ?_)
          ·
           exfalso; have := hri.u; omega
          ·
           refine WP.skip ?_
           refine NX.blk ?_
           refine NX.go ?_
           refine WP.region rfl ?_
           refine WO.val (run_move rfl) rfl rfl rfl ?_
           refine WO.val (run_add rfl rfl (IntWalk.i64_in _ (by omega))) rfl rfl rfl ?_
           refine WO.val (run_assign rfl) rfl rfl rfl ?_
           refine WO.nil ?_
           exact NX.again (i + 1, u2, D92, t + y) ⟨⟨hri, kD92, by omega, by omega, by omega⟩, (hS98.permT [1, 1, 0, 0] (L' := own (some ⟨g72, 0, none⟩) 1 1 5 1 [Value.int .u8 (((UInt8.ofNat (97 + i % 5)).toNat : Nat) : Int)] :: own a69 y y 5 1 (List.replicate y (Value.int .u8 0)) :: dkA g4 D92 :: (.pure True) :: L) rfl).drop.drop⟩ (by show 50 - (i + 1) < 50 - i; omega) (Sub.cons rfl (Sub.cons rfl (Sub.cons rfl (Sub.cons rfl (Sub.consE rfl (by subst hu2; first | rfl | exact congrArg _ (by omega)) (Sub.consE rfl (by congr 1) (Sub.nil _)))))))
         ·
          have hin : ¬ ((u + y : Nat) : Int) ≤ m := fun hin => by rw [if_pos hin] at hr; omega
          rw [if_neg hin] at hu2
          refine WP.skip ?_
          refine NX.go ?_
          refine WP.seq ?_
          refine WP.region rfl ?_
          refine WO.val (run_move rfl) rfl rfl rfl ?_
          refine WO.call rfl rfl Ty.hd27 rfl (dused_spec kD92.w kD92.b (by omega) hS95) (fun v101 w100 pv101 => ?_)
          obtain ⟨rfl, hS100⟩ := pv101
          clear hS95
          refine WO.val (run_move rfl) rfl rfl rfl ?_
          refine WO.val (run_neq rfl rfl) rfl rfl rfl ?_
          refine WO.nil ?_
          refine NX.go ?_
          refine WP.condP rfl (fun g70 => ?_) (fun g70 => ?_)
          ·
           exfalso; have := hri.u; omega
          ·
           refine WP.skip ?_
           refine NX.blk ?_
           refine NX.go ?_
           refine WP.region rfl ?_
           refine WO.val (run_move rfl) rfl rfl rfl ?_
           refine WO.val (run_add rfl rfl (IntWalk.i64_in _ (by omega))) rfl rfl rfl ?_
           refine WO.val (run_assign rfl) rfl rfl rfl ?_
           refine WO.nil ?_
           exact NX.again (i + 1, u2, D92, t + y) ⟨⟨hri, kD92, by omega, by omega, by omega⟩, (hS100.permT [1, 1, 0, 0] (L' := own (some ⟨g72, 0, none⟩) 1 1 5 1 [Value.int .u8 (((UInt8.ofNat (97 + i % 5)).toNat : Nat) : Int)] :: own a69 y y 5 1 (List.replicate y (Value.int .u8 0)) :: dkA g4 D92 :: (.pure True) :: L) rfl).drop.drop⟩ (by show 50 - (i + 1) < 50 - i; omega) (Sub.cons rfl (Sub.cons rfl (Sub.cons rfl (Sub.cons rfl (Sub.consE rfl (by subst hu2; first | rfl | exact congrArg _ (by omega)) (Sub.consE rfl (by congr 1) (Sub.nil _)))))))
       ·
        refine WO.off rfl rfl (decide_eq_false g57) rfl ?_
        refine WO.off rfl rfl (decide_eq_false g57) rfl ?_
        refine WO.on rfl rfl g54 ?_
        refine WO.val (run_pickF rfl (decide_eq_false g57) rfl) rfl rfl rfl ?_
        refine WO.val (run_pickF rfl g54 rfl) rfl rfl rfl ?_
        refine WO.nil ?_
        refine NX.go ?_
        refine WP.condF rfl rfl ?_
        refine WP.skip ?_
        refine NX.go ?_
        refine WP.seq ?_
        refine WP.seq ?_
        refine WP.region rfl ?_
        refine WO.val (run_move rfl) rfl rfl rfl ?_
        refine WO.val (run_eql rfl rfl) rfl rfl rfl ?_
        refine WO.nil ?_
        refine NX.go ?_
        refine WP.condP rfl (fun g63 => ?_) (fun g63 => ?_)
        ·
         have hin : ((u + y : Nat) : Int) ≤ m := Decidable.byContradiction fun hin => by rw [if_neg hin] at hr; omega
         rw [if_pos hin] at hu2
         refine WP.region rfl ?_
         refine WO.val (run_move rfl) rfl rfl rfl ?_
         refine WO.val (run_move rfl) rfl rfl rfl ?_
         refine WO.val (run_add rfl rfl (IntWalk.i64_in _ (by omega))) rfl rfl rfl ?_
         refine WO.val (run_assign rfl) rfl rfl rfl ?_
         refine WO.nil ?_
         refine NX.go ?_
         refine WP.seq ?_
         refine WP.region rfl ?_
         refine WO.val (run_move rfl) rfl rfl rfl ?_
         refine WO.call rfl rfl Ty.hd27 rfl (dused_spec kD92.w kD92.b (by omega) hS95) (fun v103 w102 pv103 => ?_)
         obtain ⟨rfl, hS102⟩ := pv103
         clear hS95
         refine WO.val (run_move rfl) rfl rfl rfl ?_
         refine WO.val (run_neq rfl rfl) rfl rfl rfl ?_
         refine WO.nil ?_
         refine NX.go ?_
         refine WP.condP rfl (fun g70 => ?_) (fun g70 => ?_)
         ·
          exfalso; have := hri.u; omega
         ·
          refine WP.skip ?_
          refine NX.blk ?_
          refine NX.go ?_
          refine WP.region rfl ?_
          refine WO.val (run_move rfl) rfl rfl rfl ?_
          refine WO.val (run_add rfl rfl (IntWalk.i64_in _ (by omega))) rfl rfl rfl ?_
          refine WO.val (run_assign rfl) rfl rfl rfl ?_
          refine WO.nil ?_
          exact NX.again (i + 1, u2, D92, t + y) ⟨⟨hri, kD92, by omega, by omega, by omega⟩, (hS102.permT [1, 1, 0, 0] (L' := own (some ⟨g72, 0, none⟩) 1 1 5 1 [Value.int .u8 (((UInt8.ofNat (97 + i % 5)).toNat : Nat) : Int)] :: own a69 y y 5 1 (List.replicate y (Value.int .u8 0)) :: dkA g4 D92 :: (.pure True) :: L) rfl).drop.drop⟩ (by show 50 - (i + 1) < 50 - i; omega) (Sub.cons rfl (Sub.cons rfl (Sub.cons rfl (Sub.cons rfl (Sub.consE rfl (by subst hu2; first | rfl | exact congrArg _ (by omega)) (Sub.consE rfl (by congr 1) (Sub.nil _)))))))
        ·
         have hin : ¬ ((u + y : Nat) : Int) ≤ m := fun hin => by rw [if_pos hin] at hr; omega
         rw [if_neg hin] at hu2
         refine WP.skip ?_
         refine NX.go ?_
         refine WP.seq ?_
         refine WP.region rfl ?_
         refine WO.val (run_move rfl) rfl rfl rfl ?_
         refine WO.call rfl rfl Ty.hd27 rfl (dused_spec kD92.w kD92.b (by omega) hS95) (fun v105 w104 pv105 => ?_)
         obtain ⟨rfl, hS104⟩ := pv105
         clear hS95
         refine WO.val (run_move rfl) rfl rfl rfl ?_
         refine WO.val (run_neq rfl rfl) rfl rfl rfl ?_
         refine WO.nil ?_
         refine NX.go ?_
         refine WP.condP rfl (fun g70 => ?_) (fun g70 => ?_)
         ·
          exfalso; have := hri.u; omega
         ·
          refine WP.skip ?_
          refine NX.blk ?_
          refine NX.go ?_
          refine WP.region rfl ?_
          refine WO.val (run_move rfl) rfl rfl rfl ?_
          refine WO.val (run_add rfl rfl (IntWalk.i64_in _ (by omega))) rfl rfl rfl ?_
          refine WO.val (run_assign rfl) rfl rfl rfl ?_
          refine WO.nil ?_
          exact NX.again (i + 1, u2, D92, t + y) ⟨⟨hri, kD92, by omega, by omega, by omega⟩, (hS104.permT [1, 1, 0, 0] (L' := own (some ⟨g72, 0, none⟩) 1 1 5 1 [Value.int .u8 (((UInt8.ofNat (97 + i % 5)).toNat : Nat) : Int)] :: own a69 y y 5 1 (List.replicate y (Value.int .u8 0)) :: dkA g4 D92 :: (.pure True) :: L) rfl).drop.drop⟩ (by show 50 - (i + 1) < 50 - i; omega) (Sub.cons rfl (Sub.cons rfl (Sub.cons rfl (Sub.cons rfl (Sub.consE rfl (by subst hu2; first | rfl | exact congrArg _ (by omega)) (Sub.consE rfl (by congr 1) (Sub.nil _)))))))
    ·
     refine WO.val (run_bytesToStr Tryd.underlying52 Tryd.underlying5 Tryd.underlying9 rfl (by have z := hS68.own_rd_i 0 rfl; rw [← rep_u8] at z; exact z)) rfl rfl rfl ?_
     refine WO.nil ?_
     have s106 : Rd w68 ka l.length 1 (ri l) := ((fun h => St.rdB h hA) (hS68.focus 2 rfl))
     refine NX.held s106 ?_
     refine WD.one (i := 5) diskRoom_core_t10 #[true, true, true, true, true, true, false, true, true, true, false, false] rfl (by kernel_rfl) ?_
     refine WO.buildSlice (l := [Value.int .u8 (((UInt8.ofNat (97 + i % 5)).toNat : Nat) : Int)]) hS68 Tryd.underlying52 rfl (fun w => by kernel_rfl) rfl (fun g108 w107 lg108 hS107 => ?_)
     clear hS68
     have hS107 := hS107.own_of_cel (m := 1) (k := 1) rfl
     refine WO.nil ?_
     have s109 : Rd w107 ka l.length 1 (ri l) := ((fun h => St.rdB h hA) (hS107.focus 3 rfl))
     refine NX.held s109 ?_
     refine WD.one (i := 6) diskRoom_core_t10 #[true, true, true, true, true, true, true, true, true, true, false, false] rfl (by kernel_rfl) ?_
     refine WO.val (run_bytesToStr Tryd.underlying52 Tryd.underlying5 Tryd.underlying9 rfl (show Rd w107 (some ⟨g108, 0, none⟩) 1 1 (List.map (fun b : UInt8 => Value.int .u8 (b.toNat : Int)) [UInt8.ofNat (97 + i % 5)]) from hS107.own_rd_i 0 rfl)) rfl rfl rfl ?_
     refine WO.nil ?_
     have s110 : Rd w107 ka l.length 1 (ri l) := ((fun h => St.rdB h hA) (hS107.focus 3 rfl))
     refine NX.held s110 ?_
     refine WD.one (i := 10) diskRoom_core_t10 #[true, true, true, true, true, true, true, true, true, true, true, false] rfl (by kernel_rfl) ?_
     have hS113 := hS107.permT [2, 0, 0, 0] (L' := dkA g4 D :: own (some ⟨g108, 0, none⟩) 1 1 5 1 [Value.int .u8 (((UInt8.ofNat (97 + i % 5)).toNat : Nat) : Int)] :: own a69 y y 5 1 (List.replicate y (Value.int .u8 0)) :: (.pure True) :: L) rfl
     clear hS107
     refine WO.call rfl rfl Ty.hd24 rfl (dappend_spec kD.w kD.b (by omega) (by omega) [UInt8.ofNat (97 + i % 5)] (List.replicate y (0 : UInt8)) (by first | exact Nat.le_of_ble_eq_true rfl | omega | (simp; omega) | assumption) (by first | exact Nat.le_of_ble_eq_true rfl | omega | (simp; omega) | assumption) hS113) (fun v115 w114 pv115 => ?_)
     obtain ⟨hv, hS114⟩ := pv115
     clear hS113
     obtain ⟨r112, er112⟩ : ∃ qq, qq = (appendD D [UInt8.ofNat (97 + i % 5)] (List.replicate y (0 : UInt8))).2 := ⟨_, rfl⟩
     rw [← er112] at hv
     obtain ⟨D111, eD111⟩ : ∃ qq, qq = (appendD D [UInt8.ofNat (97 + i % 5)] (List.replicate y (0 : UInt8))).1 := ⟨_, rfl⟩
     rw [← eD111] at hS114
     have kD111 : OkD D111 (i + 1) (t + (List.replicate y (0 : UInt8)).length) := by rw [eD111]; exact kD.append
     subst hv
     refine WO.nil ?_
     have s116 : Rd w114 ka l.length 1 (ri l) := ((fun h => St.rdB h hA) (hS114.focus 3 rfl))
     refine NX.held s116 ?_
     refine WD.pure (i := 11) diskRoom_core_t10 #[true, true, true, true, true, true, true, true, true, true, true, true] rfl rfl rfl (by kernel_rfl) (PQ.then (PQ.blk (PQ.then (PQ.then (PQ.blk (PQ.then PQ.body)))))) rfl (fun w => run_assign rfl) ?_
     refine WD.done diskRoom_core_t10 (by kernel_rfl) ?_
     refine NX.go ?_
     refine WP.seq ?_
     refine WP.seq ?_
     refine WP.region rfl ?_
     have hlen : (List.replicate y (0 : UInt8)).length = y := List.length_replicate
     have hstep := hf.step (s := List.replicate y (0 : UInt8)) kD (by omega) (fileF_let (i := i))
     rw [← er112, ← eD111, hlen] at hstep
     rw [hlen] at kD111
     obtain ⟨u2, hu2, hri, hr⟩ : ∃ u2, u2 = (if ((u + y : Nat) : Int) ≤ m then u + y else u) ∧ RI D111 (m : Int) u2 (i + 1) ∧ r112 = (if ((u + y : Nat) : Int) ≤ m then 0 else 4) := by
      rcases hstep with ⟨h1, h2, h3⟩ | ⟨h1, h2, h3⟩
      · exact ⟨u + y, by rw [if_pos h2], h3, by rw [if_pos h2, h1]⟩
      · exact ⟨u, by rw [if_neg (by omega)], h3, by rw [if_neg (by omega), h1]⟩
     refine WO.val (run_move rfl) rfl rfl rfl ?_
     refine WO.val (run_eql rfl rfl) rfl rfl rfl ?_
     refine WO.val (run_move rfl) rfl rfl rfl ?_
     refine WO.val (run_move rfl) rfl rfl rfl ?_
     refine WO.val (run_add rfl rfl (IntWalk.i64_in _ (by omega))) rfl rfl rfl ?_
     refine WO.val (run_move rfl) rfl rfl rfl ?_
     refine WO.val (run_leq rfl rfl) rfl rfl rfl ?_
     refine WO.val (run_neqB Tryd.underlying4 rfl rfl rfl) rfl rfl rfl ?_
     refine WO.val (run_move rfl) rfl rfl rfl ?_
     rcases Bool.eq_false_or_eq_true (!(decide (r112 = 0) == decide (((u : Int) + (y : Int)) ≤ (m : Int)))) with g54 | g54
     ·
      exfalso; rw [hr] at g54; by_cases hin : ((u + y : Nat) : Int) ≤ m
      · have h2 : (u : Int) + (y : Int) ≤ m := (by omega); rw [if_pos hin, decide_eq_true h2] at g54; exact absurd g54 (by decide)
      · have h2 : ¬ (u : Int) + (y : Int) ≤ m := (by omega); rw [if_neg hin, decide_eq_false h2] at g54; exact absurd g54 (by decide)
     ·
      refine WO.on rfl rfl g54 ?_
      refine WO.val (run_move rfl) rfl rfl rfl ?_
      refine WO.on rfl rfl g54 ?_
      refine WO.val (run_neq rfl rfl) rfl rfl rfl ?_
      refine WO.on rfl rfl g54 ?_
      refine WO.val (run_move rfl) rfl rfl rfl ?_
      by_cases g57 : ¬ r112 = 0
      ·
       refine WO.on rfl rfl (decide_eq_true g57) ?_
       refine WO.val (run_move rfl) rfl rfl rfl ?_
       refine WO.on rfl rfl (decide_eq_true g57) ?_
       refine WO.val (run_neq rfl rfl) rfl rfl rfl ?_
       refine WO.on rfl rfl g54 ?_
       refine WO.val (run_pickT rfl (decide_eq_true g57) rfl) rfl rfl rfl ?_
       refine WO.val (run_pickF rfl g54 rfl) rfl rfl rfl ?_
       refine WO.nil ?_
       refine NX.go ?_
       refine WP.condP rfl (fun g61 => ?_) (fun g61 => ?_)
       ·
        exfalso; rw [hr] at g61; by_cases hin : ((u + y : Nat) : Int) ≤ m
        · rw [if_pos hin] at hr; omega
        · rw [if_neg hin] at g61; exact g61 rfl
       ·
        refine WP.skip ?_
        refine NX.go ?_
        refine WP.seq ?_
        refine WP.seq ?_
        refine WP.region rfl ?_
        refine WO.val (run_move rfl) rfl rfl rfl ?_
        refine WO.val (run_eql rfl rfl) rfl rfl rfl ?_
        refine WO.nil ?_
        refine NX.go ?_
        refine WP.condP rfl (fun g63 => ?_) (fun g63 => ?_)
        ·
         have hin : ((u + y : Nat) : Int) ≤ m := Decidable.byContradiction fun hin => by rw [if_neg hin] at hr; omega
         rw [if_pos hin] at hu2
         refine WP.region rfl ?_
         refine WO.val (run_move rfl) rfl rfl rfl ?_
         refine WO.val (run_move rfl) rfl rfl rfl ?_
         refine WO.val (run_add rfl rfl (IntWalk.i64_in _ (by omega))) rfl rfl rfl ?_
         refine WO.val (run_assign rfl) rfl rfl rfl ?_
         refine WO.nil ?_
         refine NX.go ?_
         refine WP.seq ?_
         refine WP.region rfl ?_
         refine WO.val (run_move rfl) rfl rfl rfl ?_
         refine WO.call rfl rfl Ty.hd27 rfl (dused_spec kD111.w kD111.b (by omega) hS114) (fun v118 w117 pv118 => ?_)
         obtain ⟨rfl, hS117⟩ := pv118
         clear hS114
         refine WO.val (run_move rfl) rfl rfl rfl ?_
         refine WO.val (run_neq rfl rfl) rfl rfl rfl ?_
         refine WO.nil ?_
         refine NX.go ?_
         refine WP.condP rfl (fun g70 => ?_) (fun g70 => ?_)
         ·
          exfalso; have := hri.u; omega
         ·
          refine WP.skip ?_
          refine NX.blk ?_
          refine NX.go ?_
          refine WP.region rfl ?_
          refine WO.val (run_move rfl) rfl rfl rfl ?_
          refine WO.val (run_add rfl rfl (IntWalk.i64_in _ (by omega))) rfl rfl rfl ?_
          refine WO.val (run_assign rfl) rfl rfl rfl ?_
          refine WO.nil ?_
          exact NX.again (i + 1, u2, D111, t + y) ⟨⟨hri, kD111, by omega, by omega, by omega⟩, (hS117.permT [1, 1, 0, 0] (L' := own (some ⟨g108, 0, none⟩) 1 1 5 1 [Value.int .u8 (((UInt8.ofNat (97 + i % 5)).toNat : Nat) : Int)] :: own a69 y y 5 1 (List.replicate y (Value.int .u8 0)) :: dkA g4 D111 :: (.pure True) :: L) rfl).drop.drop⟩ (by show 50 - (i + 1) < 50 - i; omega) (Sub.cons rfl (Sub.cons rfl (Sub.cons rfl (Sub.cons rfl (Sub.consE rfl (by subst hu2; first | rfl | exact congrArg _ (by omega)) (Sub.consE rfl (by congr 1) (Sub.nil _)))))))
        ·
         have hin : ¬ ((u + y : Nat) : Int) ≤ m := fun hin => by rw [if_pos hin] at hr; omega
         rw [if_neg hin] at hu2
         refine WP.skip ?_
         refine NX.go ?_
         refine WP.seq ?_
         refine WP.region rfl ?_
         refine WO.val (run_move rfl) rfl rfl rfl ?_
         refine WO.call rfl rfl Ty.hd27 rfl (dused_spec kD111.w kD111.b (by omega) hS114) (fun v120 w119 pv120 => ?_)
         obtain ⟨rfl, hS119⟩ := pv120
         clear hS114
         refine WO.val (run_move rfl) rfl rfl rfl ?_
         refine WO.val (run_neq rfl rfl) rfl rfl rfl ?_
         refine WO.nil ?_
         refine NX.go ?_
         refine WP.condP rfl (fun g70 => ?_) (fun g70 => ?_)
         ·
          exfalso; have := hri.u; omega
         ·
          refine WP.skip ?_
          refine NX.blk ?_
          refine NX.go ?_
          refine WP.region rfl ?_
          refine WO.val (run_move rfl) rfl rfl rfl ?_
          refine WO.val (run_add rfl rfl (IntWalk.i64_in _ (by omega))) rfl rfl rfl ?_
          refine WO.val (run_assign rfl) rfl rfl rfl ?_
          refine WO.nil ?_
          exact NX.again (i + 1, u2, D111, t + y) ⟨⟨hri, kD111, by omega, by omega, by omega⟩, (hS119.permT [1, 1, 0, 0] (L' := own (some ⟨g108, 0, none⟩) 1 1 5 1 [Value.int .u8 (((UInt8.ofNat (97 + i % 5)).toNat : Nat) : Int)] :: own a69 y y 5 1 (List.replicate y (Value.int .u8 0)) :: dkA g4 D111 :: (.pure True) :: L) rfl).drop.drop⟩ (by show 50 - (i + 1) < 50 - i; omega) (Sub.cons rfl (Sub.cons rfl (Sub.cons rfl (Sub.cons rfl (Sub.consE rfl (by subst hu2; first | rfl | exact congrArg _ (by omega)) (Sub.consE rfl (by congr 1) (Sub.nil _)))))))
      ·
       refine WO.off rfl rfl (decide_eq_false g57) rfl ?_
       refine WO.off rfl rfl (decide_eq_false g57) rfl ?_
       refine WO.on rfl rfl g54 ?_
       refine WO.val (run_pickF rfl (decide_eq_false g57) rfl) rfl rfl rfl ?_
       refine WO.val (run_pickF rfl g54 rfl) rfl rfl rfl ?_
       refine WO.nil ?_
       refine NX.go ?_
       refine WP.condF rfl rfl ?_
       refine WP.skip ?_
       refine NX.go ?_
       refine WP.seq ?_
       refine WP.seq ?_
       refine WP.region rfl ?_
       refine WO.val (run_move rfl) rfl rfl rfl ?_
       refine WO.val (run_eql rfl rfl) rfl rfl rfl ?_
       refine WO.nil ?_
       refine NX.go ?_
       refine WP.condP rfl (fun g63 => ?_) (fun g63 => ?_)
       ·
        have hin : ((u + y : Nat) : Int) ≤ m := Decidable.byContradiction fun hin => by rw [if_neg hin] at hr; omega
        rw [if_pos hin] at hu2
        refine WP.region rfl ?_
        refine WO.val (run_move rfl) rfl rfl rfl ?_
        refine WO.val (run_move rfl) rfl rfl rfl ?_
        refine WO.val (run_add rfl rfl (IntWalk.i64_in _ (by omega))) rfl rfl rfl ?_
        refine WO.val (run_assign rfl) rfl rfl rfl ?_
        refine WO.nil ?_
        refine NX.go ?_
        refine WP.seq ?_
        refine WP.region rfl ?_
        refine WO.val (run_move rfl) rfl rfl rfl ?_
        refine WO.call rfl rfl Ty.hd27 rfl (dused_spec kD111.w kD111.b (by omega) hS114) (fun v122 w121 pv122 => ?_)
        obtain ⟨rfl, hS121⟩ := pv122
        clear hS114
        refine WO.val (run_move rfl) rfl rfl rfl ?_
        refine WO.val (run_neq rfl rfl) rfl rfl rfl ?_
        refine WO.nil ?_
        refine NX.go ?_
        refine WP.condP rfl (fun g70 => ?_) (fun g70 => ?_)
        ·
         exfalso; have := hri.u; omega
        ·
         refine WP.skip ?_
         refine NX.blk ?_
         refine NX.go ?_
         refine WP.region rfl ?_
         refine WO.val (run_move rfl) rfl rfl rfl ?_
         refine WO.val (run_add rfl rfl (IntWalk.i64_in _ (by omega))) rfl rfl rfl ?_
         refine WO.val (run_assign rfl) rfl rfl rfl ?_
         refine WO.nil ?_
         exact NX.again (i + 1, u2, D111, t + y) ⟨⟨hri, kD111, by omega, by omega, by omega⟩, (hS121.permT [1, 1, 0, 0] (L' := own (some ⟨g108, 0, none⟩) 1 1 5 1 [Value.int .u8 (((UInt8.ofNat (97 + i % 5)).toNat : Nat) : Int)] :: own a69 y y 5 1 (List.replicate y (Value.int .u8 0)) :: dkA g4 D111 :: (.pure True) :: L) rfl).drop.drop⟩ (by show 50 - (i + 1) < 50 - i; omega) (Sub.cons rfl (Sub.cons rfl (Sub.cons rfl (Sub.cons rfl (Sub.consE rfl (by subst hu2; first | rfl | exact congrArg _ (by omega)) (Sub.consE rfl (by congr 1) (Sub.nil _)))))))
       ·
        have hin : ¬ ((u + y : Nat) : Int) ≤ m := fun hin => by rw [if_pos hin] at hr; omega
        rw [if_neg hin] at hu2
        refine WP.skip ?_
        refine NX.go ?_
        refine WP.seq ?_
        refine WP.region rfl ?_
        refine WO.val (run_move rfl) rfl rfl rfl ?_
        refine WO.call rfl rfl Ty.hd27 rfl (dused_spec kD111.w kD111.b (by omega) hS114) (fun v124 w123 pv124 => ?_)
        obtain ⟨rfl, hS123⟩ := pv124
        clear hS114
        refine WO.val (run_move rfl) rfl rfl rfl ?_
        refine WO.val (run_neq rfl rfl) rfl rfl rfl ?_
        refine WO.nil ?_
        refine NX.go ?_
        refine WP.condP rfl (fun g70 => ?_) (fun g70 => ?_)
        ·
         exfalso; have := hri.u; omega
        ·
         refine WP.skip ?_
         refine NX.blk ?_
         refine NX.go ?_
         refine WP.region rfl ?_
         refine WO.val (run_move rfl) rfl rfl rfl ?_
         refine WO.val (run_add rfl rfl (IntWalk.i64_in _ (by omega))) rfl rfl rfl ?_
         refine WO.val (run_assign rfl) rfl rfl rfl ?_
         refine WO.nil ?_
         exact NX.again (i + 1, u2, D111, t + y) ⟨⟨hri, kD111, by omega, by omega, by omega⟩, (hS123.permT [1, 1, 0, 0] (L' := own (some ⟨g108, 0, none⟩) 1 1 5 1 [Value.int .u8 (((UInt8.ofNat (97 + i % 5)).toNat : Nat) : Int)] :: own a69 y y 5 1 (List.replicate y (Value.int .u8 0)) :: dkA g4 D111 :: (.pure True) :: L) rfl).drop.drop⟩ (by show 50 - (i + 1) < 50 - i; omega) (Sub.cons rfl (Sub.cons rfl (Sub.cons rfl (Sub.cons rfl (Sub.consE rfl (by subst hu2; first | rfl | exact congrArg _ (by omega)) (Sub.consE rfl (by congr 1) (Sub.nil _)))))))
  ·
   refine WP.exit ?_
   refine NX.thenExit ?_
   refine NX.thenExit ?_
   refine NX.blkExit ?_
   refine NX.go ?_
   refine WP.seq ?_
   refine WP.region rfl ?_
   refine WO.val (run_assign rfl) rfl rfl rfl ?_
   refine WO.nil ?_
   refine NX.go ?_
   refine WP.ret ?_
   refine NX.done (l := [.tmp 4]) rfl rfl ?_
   exact ⟨rfl, hS7.drop.drop⟩
 ·
  refine WO.off rfl rfl (decide_eq_false g22) rfl ?_
  refine WO.off rfl rfl (decide_eq_false g22) rfl ?_
  refine WO.val (run_pickF rfl (decide_eq_false g22) rfl) rfl rfl rfl ?_
  refine WO.nil ?_
  refine NX.go ?_
  refine WP.condF rfl rfl ?_
  refine WP.exit ?_
  refine NX.thenExit ?_
  refine NX.thenExit ?_
  refine NX.blkExit ?_
  refine NX.go ?_
  refine WP.seq ?_
  refine WP.region rfl ?_
  refine WO.val (run_assign rfl) rfl rfl rfl ?_
  refine WO.nil ?_
  refine NX.go ?_
  refine WP.ret ?_
  refine NX.done (l := [.tmp 4]) rfl rfl ?_
  exact ⟨rfl, hS7.drop.drop⟩
end Go.Proofs.YtcehlnpbdffdhaaDoor.SL
