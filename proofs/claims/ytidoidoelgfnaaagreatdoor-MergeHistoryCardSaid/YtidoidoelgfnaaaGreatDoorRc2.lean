/- What is wrong with a record. -/
import Derived.Test.YtidoidoelgfnaaaGreatDoorRv
import Derived.Test.YtidoidoelgfnaaaGreatDoorRc1
namespace Go.Proofs.YtidoidoelgfnaaaGreatDoor.SL
open Go.RowKit Go.Proofs.YtidoidoelgfnaaaGreatDoor
open Go.Proofs.YtidoidoelgfnaaaGreatDoorW.PrintLast (rtab opsOf)
set_option linter.unusedVariables false
set_option linter.unusedSimpArgs false
theorem chk_t {l : List Pr} (h : (if chk l = true then (0 : Int) else 16) = 0) : chk l = true := by
  cases hq : chk l with
  | true => rfl
  | false => rw [hq] at h; exact absurd h (by decide)
theorem chk_f {l : List Pr} (h : ¬ (if chk l = true then (0 : Int) else 16) = 0) : chk l = false := by
  cases hq : chk l with
  | false => rfl
  | true => rw [hq] at h; exact absurd rfl h
theorem rec_check {B w : World} {L : List HP} (r : Rcd) (hz : SzR r) (hS : St B (recA r :: L) w) : Does Tryz.prog 70 [Value.agg #[Value.int .i64 r.k, Value.slice r.ss.a r.ss.l.length r.ss.cap, Value.slice r.ms.a r.ms.l.length r.ms.cap, Value.int .i64 r.fr, Value.int .i64 r.to]] w (fun v w1 => v = .int .i64 (rcheck r) ∧ St B (recA r :: L) w1) := by
 replace hS := recA_open hS
 have hns := hz.ns
 have hnm := hz.nm2
 refine enterD (n := 69) Tryz.func70 rfl rfl [Value.agg #[Value.int .i64 r.k, Value.slice r.ss.a r.ss.l.length r.ss.cap, Value.slice r.ms.a r.ms.l.length r.ms.cap, Value.int .i64 r.fr, Value.int .i64 r.to]] rfl ?_
 refine WP.seq (WP.region rfl ?_)
 refine WO.box (l := [Value.int .i64 r.k, Value.slice r.ss.a r.ss.l.length r.ss.cap, Value.slice r.ms.a r.ms.l.length r.ms.cap, Value.int .i64 r.fr, Value.int .i64 r.to]) hS rfl rfl rfl (fun g2 w1 lg2 hS1 => ?_)
 clear hS
 refine WO.alloc (l := [Value.int .i64 0]) hS1 Ty.zr28 rfl rfl (fun g4 w3 lg4 hS3 => ?_)
 clear hS1
 refine WO.nil (NX.go (WP.seq (WP.region rfl ?_)))
 refine WO.defer (us := []) (cs := []) rfl rfl rfl ?_
 refine WO.nil (NX.go (WP.seq (WP.seq (WP.region rfl ?_))))
 refine WO.V (run_fa 0 ⟨g2, 0, none⟩ rfl rfl) ?_
 refine WO.V (run_load Ty.ag3 rfl ((hS3.cel_at 1 rfl 0).trans rfl)) ?_
 refine WO.nil (NX.go (WP.block (WP.seq (WP.region rfl ?_))))
 refine WO.V (run_eql rfl rfl) ?_
 refine WO.asg rfl rfl ?_
 refine WO.nil (NX.go ?_)
 refine WP.condP rfl (fun g8 => ?_) (fun g8 => ?_)
 ·
  refine WP.seq (WP.region rfl ?_)
  refine WO.V (run_fa 2 ⟨g2, 2, none⟩ rfl rfl) ?_
  refine WO.V (run_load Ty.ag24 rfl ((hS3.cel_at 1 rfl 2).trans rfl)) ?_
  refine WO.V (run_len rfl Tryz.underlying24 rfl) ?_
  refine WO.V (run_eql rfl rfl) ?_
  refine WO.mv rfl rfl ?_
  refine dcase (p := ((r.ms.l.length : Nat) : Int) = 0) (fun g14 d14 => ?_) (fun g14 d14 => ?_)
  ·
   refine WO.on rfl rfl d14 ?_
   refine WO.V (run_fa 3 ⟨g2, 3, none⟩ rfl rfl) ?_
   refine WO.on rfl rfl d14 ?_
   refine WO.V (run_load Ty.ag2 rfl ((hS3.cel_at 1 rfl 3).trans rfl)) ?_
   refine WO.on rfl rfl d14 ?_
   refine WO.V (run_eql rfl rfl) ?_
   refine WO.V (run_pickT rfl d14 rfl) ?_
   refine WO.mv rfl rfl ?_
   refine dcase (p := r.fr = 0) (fun g19 d19 => ?_) (fun g19 d19 => ?_)
   ·
    refine WO.on rfl rfl d19 ?_
    refine WO.V (run_fa 4 ⟨g2, 4, none⟩ rfl rfl) ?_
    refine WO.on rfl rfl d19 ?_
    refine WO.V (run_load Ty.ag2 rfl ((hS3.cel_at 1 rfl 4).trans rfl)) ?_
    refine WO.on rfl rfl d19 ?_
    refine WO.V (run_eql rfl rfl) ?_
    refine WO.V (run_pickT rfl d19 rfl) ?_
    refine dcase (p := r.to = 0) (fun g23 d23 => ?_) (fun g23 d23 => ?_)
    ·
     refine WO.call rfl rfl Ty.hd111 rfl (check_ok d23 3 hS3) (fun v5 w5 p5 => ?_)
     obtain ⟨rfl, hS5⟩ := p5
     clear hS3
     refine WO.nil (NX.go (WP.seq (WP.region rfl ?_)))
     refine WO.V (run_fa 1 ⟨g2, 1, none⟩ rfl rfl) ?_
     refine WO.V (run_load Ty.ag31 rfl ((hS5.cel_at 1 rfl 1).trans rfl)) ?_
     refine WO.V (run_len rfl Tryz.underlying31 rfl) ?_
     refine WO.V (run_geq rfl rfl) ?_
     refine WO.mv rfl rfl ?_
     refine dcase (p := 1 ≤ ((r.ss.l.length : Nat) : Int)) (fun g29 d29 => ?_) (fun g29 d29 => ?_)
     ·
      refine WO.on rfl rfl d29 ?_
      refine WO.V (run_fa 1 ⟨g2, 1, none⟩ rfl rfl) ?_
      refine WO.on rfl rfl d29 ?_
      refine WO.V (run_load Ty.ag31 rfl ((hS5.cel_at 1 rfl 1).trans rfl)) ?_
      refine WO.on rfl rfl d29 ?_
      refine WO.V (run_len rfl Tryz.underlying31 rfl) ?_
      refine WO.on rfl rfl d29 ?_
      refine WO.V (run_leq rfl rfl) ?_
      refine WO.V (run_pickT rfl d29 rfl) ?_
      refine dcase (p := ((r.ss.l.length : Nat) : Int) ≤ 32) (fun g34 d34 => ?_) (fun g34 d34 => ?_)
      ·
       refine WO.call rfl rfl Ty.hd111 rfl (check_ok d34 2 hS5) (fun v6 w6 p6 => ?_)
       obtain ⟨rfl, hS6⟩ := p6
       clear hS5
       refine WO.nil (NX.go (WP.seq (WP.region rfl ?_)))
       refine WO.V (run_fa 1 ⟨g2, 1, none⟩ rfl rfl) ?_
       refine WO.V (run_load Ty.ag31 rfl ((hS6.cel_at 1 rfl 1).trans rfl)) ?_
       refine WO.V (run_len rfl Tryz.underlying31 rfl) ?_
       refine WO.mv rfl rfl ?_
       refine WO.nil (NX.go (WP.block ?_))
       refine WP.loop (α := Nat) (fun x => match x with | i => [(1, Value.pointer (some ⟨g2, 0, none⟩)), (2, Value.pointer (some ⟨g4, 0, none⟩)), (37, Value.slice r.ss.a r.ss.l.length r.ss.cap), (38, Value.int .i64 ((r.ss.l.length : Nat) : Int)), (39, Value.int .i64 (i : Int))]) (fun x w => match x with | i => (i ≤ r.ss.l.length ∧ smsGo (r.ss.l.drop i) = smsGo r.ss.l) ∧ St B (cel g4 [Value.int .i64 0] 28 :: cel g2 [Value.int .i64 r.k, Value.slice r.ss.a r.ss.l.length r.ss.cap, Value.slice r.ms.a r.ms.l.length r.ms.cap, Value.int .i64 r.fr, Value.int .i64 r.to] 33 :: (rdH r.ss.a r.ss.l.length 3 (r.ss.l.flatMap smc)) :: (rdH r.ms.a r.ms.l.length 3 (r.ms.l.flatMap mtc)) :: smsA r.ss.l :: recA r :: L) w) (fun x => match x with | i => r.ss.l.length - i) 0 ⟨⟨Nat.zero_le _, rfl⟩, hS6⟩ (Sub.cons rfl (Sub.cons rfl (Sub.cons rfl (Sub.cons rfl (Sub.consE rfl (by first | rfl | first | rfl | (congr 1; omega) | (simp; done) | (simp; omega)) (Sub.nil _)))))) ?_
       rintro i w7 ⟨⟨hi, hgo⟩, hS7⟩
       clear hS6
       refine WP.seq (WP.region rfl ?_)
       refine WO.V (run_lss rfl rfl) ?_
       refine WO.nil (NX.go (WP.seq ?_))
       refine WP.condP rfl (fun g40 => ?_) (fun g40 => ?_)
       ·
        refine WP.skip (NX.go (WP.seq (WP.block (WP.seq ?_))))
        obtain ⟨s1, hs1⟩ : ∃ s1, r.ss.l[i]? = some s1 := ⟨_, List.getElem?_eq_getElem (by omega)⟩
        have hsa : r.ss.a.isSome = true := by obtain ⟨q, hq, _⟩ := ((rdH_rd (hS7.focus 2 rfl))).2.1 (by omega); rw [hq]; rfl
        refine WP.region rfl ?_
        refine WO.V (run_indexAddr (q := adr r.ss.a (i * 3)) Tryz.underlying31 Ty.sz83 rfl rfl (by omega) (by omega) ((rdH_rd (hS7.focus 2 rfl)).2.1 (by omega)) rfl) ?_
        refine WO.V (run_loadAgg (vs := [Value.slice s1.lb.a s1.lb.l.length s1.lb.cap, Value.int .i64 s1.t, Value.int .u64 s1.v]) Ty.ag83 Ty.sz83 rfl ((rdH_rd (hS7.focus 2 rfl)).cells (by rw [flat_len smc_len]; omega) (flat_part smc_len hs1)).1 ((rdH_rd (hS7.focus 2 rfl)).cells (by rw [flat_len smc_len]; omega) (flat_part smc_len hs1)).2) ?_
        refine WO.alloc (l := [Value.slice none 0 0, Value.int .i64 0, Value.int .u64 0]) hS7 Ty.zr83 rfl rfl (fun g9 w8 lg9 hS8 => ?_)
        clear hS7
        refine WO.store (l' := [Value.slice s1.lb.a s1.lb.l.length s1.lb.cap, Value.int .i64 s1.t, Value.int .u64 s1.v]) 0 hS8 rfl Ty.sz83 rfl rfl rfl rfl rfl (Nat.le_of_ble_eq_true rfl) rfl (fun w10 (hS10 : St B (cel g9 [Value.slice s1.lb.a s1.lb.l.length s1.lb.cap, Value.int .i64 s1.t, Value.int .u64 s1.v] 83 :: _::_::_::_::_::_::L) w10) => ?_)
        clear hS8
        refine WO.nil (NX.go ?_)
        have hS11 := smsA_get hs1 (hS10.permT [5] (L' := _::_::_::_::_::_::_::L) rfl)
        clear hS10
        refine WP.region rfl ?_
        refine WO.V (run_fa 0 ⟨g9, 0, none⟩ rfl rfl) ?_
        refine WO.V (run_load Ty.ag65 rfl ((hS11.cel_at 2 rfl 0).trans rfl)) ?_
        refine WO.call rfl rfl Ty.hd94 rfl (lcheck_spec (X := labA s1.lb) rdH_rd (hz.s s1 (List.mem_of_getElem? hs1)).2 (hz.s s1 (List.mem_of_getElem? hs1)).1 hS11) (fun v13 w12 pv13 => ?_)
        obtain ⟨rfl, hS12⟩ := pv13
        clear hS11
        refine WO.V (run_eql rfl rfl) ?_
        refine dcase (p := (if chk s1.lb.l = true then (0 : Int) else 16) = 0) (fun g46 d46 => ?_) (fun g46 d46 => ?_)
        ·
         have hck : chk s1.lb.l = true := chk_t g46
         refine WO.call rfl rfl Ty.hd111 rfl (check_ok d46 16 hS12) (fun v14 w14 p14 => ?_)
         obtain ⟨rfl, hS14⟩ := p14
         clear hS12
         refine WO.nil (NX.blk (NX.go (WP.region rfl ?_)))
         refine WO.V (run_add rfl rfl (IntWalk.i64_in _ (by omega))) ?_
         refine WO.mv rfl rfl ?_
         refine WO.nil ?_
         exact NX.again (i + 1) ⟨⟨by omega, by rw [← hgo, drop_cons hs1, smsGo, hck, Bool.true_and]⟩, ((hS14.mask [false, true, false] (L' := _::_::_::_::_::_::L) rfl).permT [1, 1, 1, 1] (L' := _::_::_::_::_::_::L) rfl)⟩ (by show r.ss.l.length - (i + 1) < r.ss.l.length - i; omega) (Sub.cons rfl (Sub.cons rfl (Sub.cons rfl (Sub.cons rfl (Sub.consE rfl (by congr 1) (Sub.nil _))))))
        ·
         have hck : chk s1.lb.l = false := chk_f g46
         have hsg : smsGo r.ss.l = false := by rw [← hgo, drop_cons hs1, smsGo, hck]; rfl
         refine WO.callX rfl rfl Ty.hd111 rfl (check_no d46 16 hS12) (fun ch15 w15 p15 => ?_) (fun _ _ p => p.elim)
         obtain ⟨rfl, hS15⟩ := p15
         clear hS12
         refine NX.blkPanic ?_
         refine NX.thenPanic ?_
         refine NX.thenPanic ?_
         refine NX.blkPanic ?_
         refine NX.blkPanic ?_
         refine NX.thenPanic ?_
         refine NX.doorP ?_
         refine LVS.call (vs := [Value.pointer (some ⟨g4, 0, none⟩)]) (cs := []) Ty.hd110 (by simp) (caught_err 16 (hS15.permT [3] (L' := _::_::_::_::_::_::_::_::L) rfl)) (fun u16 w16 p16 => ?_)
         obtain ⟨rfl, hS16⟩ := p16
         clear hS15
         refine LVS.done (l := [.cell 2 28]) rfl (.cons (.cell rfl (loadVar_one Ty.ag28 ((hS16.cel_at 0 rfl 0).trans rfl))) .nil) ?_
         refine ⟨congrArg (Value.int .i64) ?_, hS16.drop.drop.drop.drop.drop.drop.drop⟩
         clear hS16
         unfold rcheck
         repeat' split
         all_goals first | rfl | omega | (exfalso; omega) | (simp_all; done) | (exfalso; simp_all; done)
       ·
        refine WP.exit (NX.thenExit (NX.thenExit ?_))
        refine NX.blkExit ?_
        refine NX.blk (NX.go (WP.seq (WP.region rfl ?_)))
        refine WO.store (l' := [Value.int .i64 0]) 0 hS7 rfl Ty.sz28 rfl rfl rfl rfl rfl (Nat.le_of_ble_eq_true rfl) rfl (fun w17 (hS17 : St B (_::_::_::_::_::_::L) w17) => ?_)
        clear hS7
        refine WO.nil (NX.go (WP.ret ?_))
        refine NX.door ?_
        refine LVS.call (vs := [Value.pointer (some ⟨g4, 0, none⟩)]) (cs := []) Ty.hd110 (by simp) (caught_ret hS17) (fun u18 w18 p18 => ?_)
        obtain ⟨rfl, hS18⟩ := p18
        clear hS17
        refine LVS.done (l := [.cell 2 28]) rfl (.cons (.cell rfl (loadVar_one Ty.ag28 ((hS18.cel_at 0 rfl 0).trans rfl))) .nil) ?_
        have hsg : smsGo r.ss.l = true := by rw [← hgo, List.drop_of_length_le (by omega)]; rfl
        refine ⟨congrArg (Value.int .i64) ?_, hS18.drop.drop.drop.drop.drop⟩
        clear hS18
        unfold rcheck
        repeat' split
        all_goals first | rfl | omega | (exfalso; omega) | (simp_all; done) | (exfalso; simp_all; done)
      ·
       refine WO.callX rfl rfl Ty.hd111 rfl (check_no d34 2 hS5) (fun ch19 w19 p19 => ?_) (fun _ _ p => p.elim)
       obtain ⟨rfl, hS19⟩ := p19
       clear hS5
       refine NX.thenPanic ?_
       refine NX.blkPanic ?_
       refine NX.thenPanic ?_
       refine NX.doorP ?_
       refine LVS.call (vs := [Value.pointer (some ⟨g4, 0, none⟩)]) (cs := []) Ty.hd110 (by simp) (caught_err 2 hS19) (fun u20 w20 p20 => ?_)
       obtain ⟨rfl, hS20⟩ := p20
       clear hS19
       refine LVS.done (l := [.cell 2 28]) rfl (.cons (.cell rfl (loadVar_one Ty.ag28 ((hS20.cel_at 0 rfl 0).trans rfl))) .nil) ?_
       refine ⟨congrArg (Value.int .i64) ?_, hS20.drop.drop.drop.drop.drop⟩
       clear hS20
       unfold rcheck
       repeat' split
       all_goals first | rfl | omega | (exfalso; omega) | (simp_all; done) | (exfalso; simp_all; done)
     ·
      refine WO.off rfl rfl d29 rfl ?_
      refine WO.off rfl rfl d29 rfl ?_
      refine WO.off rfl rfl d29 rfl ?_
      refine WO.off rfl rfl d29 rfl ?_
      refine WO.V (run_pickF rfl d29 rfl) ?_
      refine WO.callX rfl rfl Ty.hd111 rfl (check_no rfl 2 hS5) (fun ch21 w21 p21 => ?_) (fun _ _ p => p.elim)
      obtain ⟨rfl, hS21⟩ := p21
      clear hS5
      refine NX.thenPanic ?_
      refine NX.blkPanic ?_
      refine NX.thenPanic ?_
      refine NX.doorP ?_
      refine LVS.call (vs := [Value.pointer (some ⟨g4, 0, none⟩)]) (cs := []) Ty.hd110 (by simp) (caught_err 2 hS21) (fun u22 w22 p22 => ?_)
      obtain ⟨rfl, hS22⟩ := p22
      clear hS21
      refine LVS.done (l := [.cell 2 28]) rfl (.cons (.cell rfl (loadVar_one Ty.ag28 ((hS22.cel_at 0 rfl 0).trans rfl))) .nil) ?_
      refine ⟨congrArg (Value.int .i64) ?_, hS22.drop.drop.drop.drop.drop⟩
      clear hS22
      unfold rcheck
      repeat' split
      all_goals first | rfl | omega | (exfalso; omega) | (simp_all; done) | (exfalso; simp_all; done)
    ·
     refine WO.callX rfl rfl Ty.hd111 rfl (check_no d23 3 hS3) (fun ch23 w23 p23 => ?_) (fun _ _ p => p.elim)
     obtain ⟨rfl, hS23⟩ := p23
     clear hS3
     refine NX.thenPanic ?_
     refine NX.blkPanic ?_
     refine NX.thenPanic ?_
     refine NX.doorP ?_
     refine LVS.call (vs := [Value.pointer (some ⟨g4, 0, none⟩)]) (cs := []) Ty.hd110 (by simp) (caught_err 3 hS23) (fun u24 w24 p24 => ?_)
     obtain ⟨rfl, hS24⟩ := p24
     clear hS23
     refine LVS.done (l := [.cell 2 28]) rfl (.cons (.cell rfl (loadVar_one Ty.ag28 ((hS24.cel_at 0 rfl 0).trans rfl))) .nil) ?_
     refine ⟨congrArg (Value.int .i64) ?_, hS24.drop.drop.drop.drop.drop⟩
     clear hS24
     unfold rcheck
     repeat' split
     all_goals first | rfl | omega | (exfalso; omega) | (simp_all; done) | (exfalso; simp_all; done)
   ·
    refine WO.off rfl rfl d19 rfl ?_
    refine WO.off rfl rfl d19 rfl ?_
    refine WO.off rfl rfl d19 rfl ?_
    refine WO.V (run_pickF rfl d19 rfl) ?_
    refine WO.callX rfl rfl Ty.hd111 rfl (check_no rfl 3 hS3) (fun ch25 w25 p25 => ?_) (fun _ _ p => p.elim)
    obtain ⟨rfl, hS25⟩ := p25
    clear hS3
    refine NX.thenPanic ?_
    refine NX.blkPanic ?_
    refine NX.thenPanic ?_
    refine NX.doorP ?_
    refine LVS.call (vs := [Value.pointer (some ⟨g4, 0, none⟩)]) (cs := []) Ty.hd110 (by simp) (caught_err 3 hS25) (fun u26 w26 p26 => ?_)
    obtain ⟨rfl, hS26⟩ := p26
    clear hS25
    refine LVS.done (l := [.cell 2 28]) rfl (.cons (.cell rfl (loadVar_one Ty.ag28 ((hS26.cel_at 0 rfl 0).trans rfl))) .nil) ?_
    refine ⟨congrArg (Value.int .i64) ?_, hS26.drop.drop.drop.drop.drop⟩
    clear hS26
    unfold rcheck
    repeat' split
    all_goals first | rfl | omega | (exfalso; omega) | (simp_all; done) | (exfalso; simp_all; done)
  ·
   refine WO.off rfl rfl d14 rfl ?_
   refine WO.off rfl rfl d14 rfl ?_
   refine WO.off rfl rfl d14 rfl ?_
   refine WO.V (run_pickF rfl d14 rfl) ?_
   refine WO.mv rfl rfl ?_
   refine WO.off rfl rfl rfl rfl ?_
   refine WO.off rfl rfl rfl rfl ?_
   refine WO.off rfl rfl rfl rfl ?_
   refine WO.V (run_pickF rfl rfl rfl) ?_
   refine WO.callX rfl rfl Ty.hd111 rfl (check_no rfl 3 hS3) (fun ch27 w27 p27 => ?_) (fun _ _ p => p.elim)
   obtain ⟨rfl, hS27⟩ := p27
   clear hS3
   refine NX.thenPanic ?_
   refine NX.blkPanic ?_
   refine NX.thenPanic ?_
   refine NX.doorP ?_
   refine LVS.call (vs := [Value.pointer (some ⟨g4, 0, none⟩)]) (cs := []) Ty.hd110 (by simp) (caught_err 3 hS27) (fun u28 w28 p28 => ?_)
   obtain ⟨rfl, hS28⟩ := p28
   clear hS27
   refine LVS.done (l := [.cell 2 28]) rfl (.cons (.cell rfl (loadVar_one Ty.ag28 ((hS28.cel_at 0 rfl 0).trans rfl))) .nil) ?_
   refine ⟨congrArg (Value.int .i64) ?_, hS28.drop.drop.drop.drop.drop⟩
   clear hS28
   unfold rcheck
   repeat' split
   all_goals first | rfl | omega | (exfalso; omega) | (simp_all; done) | (exfalso; simp_all; done)
 ·
  refine WP.seq (WP.region rfl ?_)
  refine WO.V (run_eql rfl rfl) ?_
  refine WO.asg rfl rfl ?_
  refine WO.nil (NX.go ?_)
  refine WP.condP rfl (fun g49 => ?_) (fun g49 => ?_)
  ·
   refine WP.seq (WP.region rfl ?_)
   refine WO.V (run_fa 1 ⟨g2, 1, none⟩ rfl rfl) ?_
   refine WO.V (run_load Ty.ag31 rfl ((hS3.cel_at 1 rfl 1).trans rfl)) ?_
   refine WO.V (run_len rfl Tryz.underlying31 rfl) ?_
   refine WO.V (run_eql rfl rfl) ?_
   refine dcase (p := ((r.ss.l.length : Nat) : Int) = 0) (fun g54 d54 => ?_) (fun g54 d54 => ?_)
   ·
    refine WO.call rfl rfl Ty.hd111 rfl (check_ok d54 3 hS3) (fun v29 w29 p29 => ?_)
    obtain ⟨rfl, hS29⟩ := p29
    clear hS3
    refine WO.nil (NX.go (WP.seq (WP.region rfl ?_)))
    refine WO.V (run_fa 2 ⟨g2, 2, none⟩ rfl rfl) ?_
    refine WO.V (run_load Ty.ag24 rfl ((hS29.cel_at 1 rfl 2).trans rfl)) ?_
    have hS30 := hS29.permT [3] (L' := _::_::_::_::_::_::L) rfl
    clear hS29
    refine WO.call rfl rfl Ty.hd89 rfl (lcheckm_spec (X := (rdH r.ms.a r.ms.l.length 3 (r.ms.l.flatMap mtc))) rdH_rd hz.m hz.nm2 hS30) (fun v32 w31 pv32 => ?_)
    obtain ⟨rfl, hS31⟩ := pv32
    clear hS30
    refine WO.asg rfl rfl ?_
    refine WO.nil (NX.go (WP.seq (WP.region rfl ?_)))
    refine WO.mv rfl rfl ?_
    refine WO.V (run_eql rfl rfl) ?_
    refine WO.mv rfl rfl ?_
    refine dcase (p := (mchk r.ms.l) = 0) (fun g60 d60 => ?_) (fun g60 d60 => ?_)
    ·
     refine WO.call rfl rfl Ty.hd111 rfl (check_ok d60 (mchk r.ms.l) hS31) (fun v33 w33 p33 => ?_)
     obtain ⟨rfl, hS33⟩ := p33
     clear hS31
     refine WO.nil (NX.go (WP.region rfl ?_))
     refine WO.V (run_fa 3 ⟨g2, 3, none⟩ rfl rfl) ?_
     refine WO.V (run_load Ty.ag2 rfl ((hS33.cel_at 2 rfl 3).trans rfl)) ?_
     refine WO.V (run_fa 4 ⟨g2, 4, none⟩ rfl rfl) ?_
     refine WO.V (run_load Ty.ag2 rfl ((hS33.cel_at 2 rfl 4).trans rfl)) ?_
     refine WO.V (run_leq rfl rfl) ?_
     refine dcase (p := r.fr ≤ r.to) (fun g67 d67 => ?_) (fun g67 d67 => ?_)
     ·
      refine WO.call rfl rfl Ty.hd111 rfl (check_ok d67 9 hS33) (fun v34 w34 p34 => ?_)
      obtain ⟨rfl, hS34⟩ := p34
      clear hS33
      refine WO.nil (NX.blk (NX.go (WP.seq (WP.region rfl ?_))))
      refine WO.store (l' := [Value.int .i64 0]) 1 hS34 rfl Ty.sz28 rfl rfl rfl rfl rfl (Nat.le_of_ble_eq_true rfl) rfl (fun w35 (hS35 : St B (_::_::_::_::_::_::L) w35) => ?_)
      clear hS34
      refine WO.nil (NX.go (WP.ret ?_))
      refine NX.door ?_
      refine LVS.call (vs := [Value.pointer (some ⟨g4, 0, none⟩)]) (cs := []) Ty.hd110 (by simp) (caught_ret (hS35.permT [1] (L' := _::_::_::_::_::_::L) rfl)) (fun u36 w36 p36 => ?_)
      obtain ⟨rfl, hS36⟩ := p36
      clear hS35
      refine LVS.done (l := [.cell 2 28]) rfl (.cons (.cell rfl (loadVar_one Ty.ag28 ((hS36.cel_at 0 rfl 0).trans rfl))) .nil) ?_
      refine ⟨congrArg (Value.int .i64) ?_, hS36.drop.drop.drop.drop.drop⟩
      clear hS36
      unfold rcheck
      repeat' split
      all_goals first | rfl | omega | (exfalso; omega) | (simp_all; done) | (exfalso; simp_all; done)
     ·
      refine WO.callX rfl rfl Ty.hd111 rfl (check_no d67 9 hS33) (fun ch37 w37 p37 => ?_) (fun _ _ p => p.elim)
      obtain ⟨rfl, hS37⟩ := p37
      clear hS33
      refine NX.blkPanic ?_
      refine NX.thenPanic ?_
      refine NX.doorP ?_
      refine LVS.call (vs := [Value.pointer (some ⟨g4, 0, none⟩)]) (cs := []) Ty.hd110 (by simp) (caught_err 9 (hS37.permT [1] (L' := _::_::_::_::_::_::L) rfl)) (fun u38 w38 p38 => ?_)
      obtain ⟨rfl, hS38⟩ := p38
      clear hS37
      refine LVS.done (l := [.cell 2 28]) rfl (.cons (.cell rfl (loadVar_one Ty.ag28 ((hS38.cel_at 0 rfl 0).trans rfl))) .nil) ?_
      refine ⟨congrArg (Value.int .i64) ?_, hS38.drop.drop.drop.drop.drop⟩
      clear hS38
      unfold rcheck
      repeat' split
      all_goals first | rfl | omega | (exfalso; omega) | (simp_all; done) | (exfalso; simp_all; done)
    ·
     refine WO.callX rfl rfl Ty.hd111 rfl (check_no d60 (mchk r.ms.l) hS31) (fun ch39 w39 p39 => ?_) (fun _ _ p => p.elim)
     obtain ⟨rfl, hS39⟩ := p39
     clear hS31
     refine NX.thenPanic ?_
     refine NX.blkPanic ?_
     refine NX.thenPanic ?_
     refine NX.doorP ?_
     refine LVS.call (vs := [Value.pointer (some ⟨g4, 0, none⟩)]) (cs := []) Ty.hd110 (by simp) (caught_err (mchk r.ms.l) (hS39.permT [1] (L' := _::_::_::_::_::_::L) rfl)) (fun u40 w40 p40 => ?_)
     obtain ⟨rfl, hS40⟩ := p40
     clear hS39
     refine LVS.done (l := [.cell 2 28]) rfl (.cons (.cell rfl (loadVar_one Ty.ag28 ((hS40.cel_at 0 rfl 0).trans rfl))) .nil) ?_
     refine ⟨congrArg (Value.int .i64) ?_, hS40.drop.drop.drop.drop.drop⟩
     clear hS40
     unfold rcheck
     repeat' split
     all_goals first | rfl | omega | (exfalso; omega) | (simp_all; done) | (exfalso; simp_all; done)
   ·
    refine WO.callX rfl rfl Ty.hd111 rfl (check_no d54 3 hS3) (fun ch41 w41 p41 => ?_) (fun _ _ p => p.elim)
    obtain ⟨rfl, hS41⟩ := p41
    clear hS3
    refine NX.thenPanic ?_
    refine NX.blkPanic ?_
    refine NX.thenPanic ?_
    refine NX.doorP ?_
    refine LVS.call (vs := [Value.pointer (some ⟨g4, 0, none⟩)]) (cs := []) Ty.hd110 (by simp) (caught_err 3 hS41) (fun u42 w42 p42 => ?_)
    obtain ⟨rfl, hS42⟩ := p42
    clear hS41
    refine LVS.done (l := [.cell 2 28]) rfl (.cons (.cell rfl (loadVar_one Ty.ag28 ((hS42.cel_at 0 rfl 0).trans rfl))) .nil) ?_
    refine ⟨congrArg (Value.int .i64) ?_, hS42.drop.drop.drop.drop.drop⟩
    clear hS42
    unfold rcheck
    repeat' split
    all_goals first | rfl | omega | (exfalso; omega) | (simp_all; done) | (exfalso; simp_all; done)
  ·
   refine WP.seq (WP.region rfl ?_)
   refine WO.store (l' := [Value.int .i64 5]) 0 hS3 rfl Ty.sz28 rfl rfl rfl rfl rfl (Nat.le_of_ble_eq_true rfl) rfl (fun w43 (hS43 : St B (cel g4 [Value.int .i64 5] 28 :: _::_::_::_::_::L) w43) => ?_)
   clear hS3
   refine WO.nil (NX.go (WP.ret (NX.blkRet (NX.thenRet ?_))))
   refine NX.door ?_
   refine LVS.call (vs := [Value.pointer (some ⟨g4, 0, none⟩)]) (cs := []) Ty.hd110 (by simp) (caught_ret hS43) (fun u44 w44 p44 => ?_)
   obtain ⟨rfl, hS44⟩ := p44
   clear hS43
   refine LVS.done (l := [.cell 2 28]) rfl (.cons (.cell rfl (loadVar_one Ty.ag28 ((hS44.cel_at 0 rfl 0).trans rfl))) .nil) ?_
   refine ⟨congrArg (Value.int .i64) ?_, hS44.drop.drop.drop.drop.drop⟩
   clear hS44
   unfold rcheck
   repeat' split
   all_goals first | rfl | omega | (exfalso; omega) | (simp_all; done) | (exfalso; simp_all; done)
end Go.Proofs.YtidoidoelgfnaaaGreatDoor.SL
