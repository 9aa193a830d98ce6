import Derived.Test.YtidoidoelgfnaaaGreatDoorMhM
import Derived.Test.YtidoidoelgfnaaaGreatDoorBo1M
import Derived.Test.YtidoidoelgfnaaaGreatDoorRhM
import Derived.Test.YtidoidoelgfnaaaGreatDoorHl1M
import Derived.Test.YtidoidoelgfnaaaGreatDoorKp1M
import Derived.Test.YtidoidoelgfnaaaGreatDoorKj1M
/- A history cut into blocks. -/
namespace Go.Proofs.YtidoidoelgfnaaaGreatDoor.SL
open Go.RowKit Go.Proofs.YtidoidoelgfnaaaGreatDoor
open Go.Proofs.YtidoidoelgfnaaaGreatDoorW.PrintLast (rtab opsOf)
set_option linter.unusedVariables false
set_option linter.unusedSimpArgs false
theorem spans_spec {B w : World} {L : List HP} {a b : Option Addr} {cap cap2 : Nat} {rs : List Rcd} {cl : List Bool} (hrz : ∀ r ∈ rs, SzR r) (hrng : ∀ r ∈ rs, RngP r.p) (hrn : rs.length ≤ 2814749767106) (hcn : cl.length ≤ 140737488355328) (hS : St B ((rdH a rs.length 5 (rs.flatMap rcc)) :: allA recA rs :: (rdH b cl.length 1 (cl.map Value.bool)) :: L) w) : Does Tryz.prog 43 [Value.slice a rs.length cap, Value.slice b cl.length cap2] w (fun v w1 => ∃ (cs : List (List RcP)) (bs : List BlkV) (ba : Option Addr) (bc : Nat) (il : List Rcd) (ia : Option Addr) (ic : Nat) (A : List RowP), v = .tuple #[.slice ba bs.length bc, .slice ia il.length ic, .bool true] ∧ Cut cs bs ∧ cs.flatten = il.map Rcd.p ∧ runP [] (il.map Rcd.p) = (0, A) ∧ il.length ≤ 30 ∧ A.length ≤ 256 ∧ (∀ r ∈ il, r ∈ rs) ∧ St B (own ba bs.length bc 46 4 (bs.flatMap blc) :: allA blA bs :: own ia il.length ic 33 5 (il.flatMap rcc) :: allA recA il :: (rdH a rs.length 5 (rs.flatMap rcc)) :: allA recA rs :: (rdH b cl.length 1 (cl.map Value.bool)) :: L) w1) := by
 refine enter (n := 89) Tryz.func43 rfl rfl [Value.slice a rs.length cap, Value.slice b cl.length cap2] rfl ?_
 refine WP.seq (WP.region rfl ?_)
 refine WO.asg rfl rfl ?_
 refine WO.asg rfl rfl ?_
 refine WO.asg rfl rfl ?_
 refine WO.nil (NX.go (WP.seq (WP.region rfl ?_)))
 refine WO.asg rfl rfl ?_
 refine WO.asg rfl rfl ?_
 refine WO.nil (NX.go (WP.seq (WP.region rfl ?_)))
 refine WO.asg rfl rfl ?_
 refine WO.nil (NX.go (WP.seq (WP.region rfl ?_)))
 refine WO.V (run_build (v := Value.agg #[Value.slice none 0 0]) rfl (fun w => by kernel_rfl)) ?_
 refine WO.box (l := [Value.slice none 0 0]) hS rfl rfl rfl (fun g2 w1 lg2 hS1 => ?_)
 clear hS
 refine WO.asg rfl rfl ?_
 refine WO.nil (NX.go (WP.seq (WP.seq ?_)))
 have hS3 := (hS1.own_nil 95 3)
 clear hS1
 have hS4 : St B (allA (rhwA 103) [] :: own none 0 0 95 3 [] :: cel g2 [Value.slice none 0 0] 79 :: _::_::_::L) w1 := hS3.addPure trivial
 clear hS3
 have hS5 := rf_shut (tH := 79) (tR := 95) (tP := 103) (g := g2) (S := []) (A := []) rfl (hS4.permT [2, 1] (L' := _::_::_::_::_::_::L) rfl)
 clear hS4
 obtain ⟨gr, hgr, hS6⟩ : ∃ qq, g2 = qq ∧ St B (rfA 79 95 103 qq [] :: (rdH a rs.length 5 (rs.flatMap rcc)) :: allA recA rs :: (rdH b cl.length 1 (cl.map Value.bool)) :: L) w1 := ⟨_, rfl, hS5⟩
 clear hS5
 refine WP.as (d := 17) (v := Value.pointer (some ⟨gr, 0, none⟩)) rfl (by rw [hgr]) ?_
 refine WP.as (d := 10) (v := Value.pointer (some ⟨gr, 0, none⟩)) rfl (by rw [hgr]) ?_
 refine WP.region rfl ?_
 refine WO.asg rfl rfl ?_
 refine WO.nil (NX.go ?_)
 refine WP.meet (α := List Rcd × Option Addr × Nat × List RowP) (fun x => match x with | ⟨il, ia, ic, A⟩ => [(0, Value.slice a rs.length cap), (1, Value.slice b cl.length cap2), (7, Value.slice ia il.length ic), (8, Value.slice none 0 0), (9, Value.slice none 0 0)]) (fun x w => match x with | ⟨il, ia, ic, A⟩ => (runP [] (il.map Rcd.p) = (0, A) ∧ (∀ r ∈ il, r ∈ rs) ∧ il.length ≤ 30 ∧ A.length ≤ 256) ∧ St B (own ia il.length ic 33 5 (il.flatMap rcc) :: allA recA il :: (rdH a rs.length 5 (rs.flatMap rcc)) :: allA recA rs :: (rdH b cl.length 1 (cl.map Value.bool)) :: L) w) ?_ (fun K7 => ?_)
 ·
  rintro ⟨il, ia, ic, A⟩ w8 ⟨⟨hrun, hsub, hil30, hAl⟩, hS8⟩
  clear hS6
  refine NX.go (WP.seq (WP.region rfl ?_))
  refine WO.asg rfl rfl ?_
  refine WO.nil (NX.go (WP.seq (WP.seq (WP.region rfl ?_))))
  refine WO.asg rfl rfl ?_
  refine WO.nil (NX.go (WP.block ?_))
  replace hS8 := (St.addPure trivial hS8 : St B (allA blA [] :: own ia il.length ic 33 5 (il.flatMap rcc) :: allA recA il :: (rdH a rs.length 5 (rs.flatMap rcc)) :: allA recA rs :: (rdH b cl.length 1 (cl.map Value.bool)) :: L) w8)
  replace hS8 := hS8.own_nil 46 4
  replace hS8 := (St.addPure trivial hS8 : St B (allA recA [] :: own none 0 0 46 4 [] :: allA blA [] :: own ia il.length ic 33 5 (il.flatMap rcc) :: allA recA il :: (rdH a rs.length 5 (rs.flatMap rcc)) :: allA recA rs :: (rdH b cl.length 1 (cl.map Value.bool)) :: L) w8)
  replace hS8 := hS8.own_nil 33 5
  refine WP.loop (α := Nat × List (List RcP) × List Rcd × Option Addr × Nat × List BlkV × Option Addr × Nat) (fun x => match x with | ⟨j, cs, pl, pa, pc, bs, ba, bc⟩ => [(0, Value.slice a rs.length cap), (1, Value.slice b cl.length cap2), (7, Value.slice ia il.length ic), (8, Value.slice pa pl.length pc), (9, Value.slice ba bs.length bc), (12, Value.int .i64 (((cs.flatten.length : Nat) : Int) + 1)), (13, Value.int .i64 (j : Int))]) (fun x w => match x with | ⟨j, cs, pl, pa, pc, bs, ba, bc⟩ => (j ≤ il.length ∧ cs.flatten ++ pl.map Rcd.p = (il.take j).map Rcd.p ∧ Cut cs bs ∧ (pl = [] ∨ j < il.length) ∧ (∀ r ∈ pl, SzR r) ∧ (∀ r ∈ pl, RngP r.p)) ∧ St B (own pa pl.length pc 33 5 (pl.flatMap rcc) :: allA recA pl :: own ba bs.length bc 46 4 (bs.flatMap blc) :: allA blA bs :: own ia il.length ic 33 5 (il.flatMap rcc) :: allA recA il :: (rdH a rs.length 5 (rs.flatMap rcc)) :: allA recA rs :: (rdH b cl.length 1 (cl.map Value.bool)) :: L) w) (fun x => match x with | ⟨j, cs, pl, pa, pc, bs, ba, bc⟩ => il.length - j) (0, [], [], none, 0, [], none, 0) ⟨⟨Nat.zero_le _, rfl, Cut.nil, .inl rfl, (fun r h => by cases h), fun r h => by cases h⟩, hS8⟩ (Sub.cons rfl (Sub.cons rfl (Sub.cons rfl (Sub.consE rfl (by first | rfl | first | rfl | (congr 1; omega) | (simp; done) | (simp; omega)) (Sub.consE rfl (by first | rfl | first | rfl | (congr 1; omega) | (simp; done) | (simp; omega)) (Sub.consE rfl (by first | rfl | first | rfl | (congr 1; omega) | (simp; done) | (simp; omega)) (Sub.consE rfl (by first | rfl | first | rfl | (congr 1; omega) | (simp; done) | (simp; omega)) (Sub.nil _)))))))) ?_
  rintro ⟨j, cs, pl, pa, pc, bs, ba, bc⟩ w9 ⟨⟨hj, hfl, hC, hpl, hpz, hpr⟩, hS9⟩
  clear hS8
  refine WP.seq (WP.seq (WP.region rfl ?_))
  refine WO.mv rfl rfl ?_
  refine WO.mv rfl rfl ?_
  refine WO.V (run_len rfl Tryz.underlying23 rfl) ?_
  refine WO.V (run_lss rfl rfl) ?_
  refine WO.nil (NX.go ?_)
  refine WP.condP rfl (fun g45 => ?_) (fun g45 => ?_)
  ·
   refine WP.skip (NX.go (WP.seq (WP.block (WP.seq ?_))))
   have hpll : cs.flatten.length + pl.length = j := by have h9 := congrArg List.length hfl; rw [List.length_append, List.length_map, List.length_map, List.length_take] at h9; omega
   have hcl9 := flat_ge hC.ne
   have hbl9 := hC.len
   obtain ⟨d2, hd2⟩ : ∃ qq, il[j]? = some qq := ⟨_, List.getElem?_eq_getElem (by omega)⟩
   have hzd := hrz d2 (hsub d2 (List.mem_of_getElem? hd2))
   have hS10 := allA_get recA_pers (List.mem_of_getElem? hd2) (hS9.permT [5] (L' := _::_::_::_::_::_::_::_::_::L) rfl)
   clear hS9
   have hsi : ia.isSome = true := rd_isSome ((hS10.own_rd_i 6 rfl)) (by omega)
   refine WP.region rfl ?_
   refine WO.mv rfl rfl ?_
   refine WO.mv rfl rfl ?_
   refine WO.mv rfl rfl ?_
   refine WO.V (run_indexAddr (q := adr ia (j * 5)) Tryz.underlying23 Ty.sz33 rfl rfl (by omega) (by omega) ((hS10.own_rd_i 6 rfl).2.1 (by omega)) rfl) ?_
   refine WO.V (run_loadAgg (vs := (rcc d2)) Ty.ag33 Ty.sz33 rfl ((hS10.own_rd_i 6 rfl).cells (by rw [flat_len rcc_len]; omega) (flat_part rcc_len hd2)).1 ((hS10.own_rd_i 6 rfl).cells (by rw [flat_len rcc_len]; omega) (flat_part rcc_len hd2)).2) ?_
   refine WO.call rfl rfl Ty.hd16 rfl (own12_spec d2 hzd hS10) (fun v12 w11 pv12 => ?_)
   obtain ⟨r1, rfl, hr1, hS11⟩ := pv12
   clear hS10
   refine WO.buildSlice (l := (rcc r1)) hS11 Tryz.underlying23 rfl (fun w => by kernel_rfl) rfl (fun g14 w13 lg14 hS13 => ?_)
   clear hS11
   refine WO.append (news := (rcc r1)) 4 rfl Tryz.underlying23 Tryz.underlying23 (fun _ h => by cases h) Ty.sz33 (by decide) Ty.by33 Ty.zr33 rfl rfl rfl rfl hS13 rfl ((hS13.cel_rd 0 rfl (o := 0) (m := 1) (k := 5) rfl (Nat.le_of_ble_eq_true rfl)).src) (by simp [rcc, noAgg]) (by omega) (by omega) (fun a16 c17 w15 hS15 => ?_)
   replace hS15 : St B (cel g14 (rcc r1) 33 :: recA r1 :: recA d2 :: _::own a16 (pl.length + 1) c17 33 5 ((pl.flatMap rcc) ++ (rcc r1)) :: _::_::_::_::_::_::_::L) w15 := hS15
   clear hS13
   refine WO.asg rfl rfl ?_
   refine WO.nil (NX.go (WP.seq ?_))
   have hS18 := allA_snoc (x := r1) (hS15.permT [5, 1] (L' := _::_::_::_::_::_::_::_::_::_::_::_::L) rfl)
   clear hS15
   have hcut : cs.flatten ++ (pl ++ [r1]).map Rcd.p = (il.take (j + 1)).map Rcd.p := by rw [take_snocM hd2, List.map_append, List.map_append, ← List.append_assoc, hfl, List.map_cons, hr1]; rfl
   have hpz1 : ∀ r ∈ pl ++ [r1], SzR r := fun r hr => by rcases List.mem_append.1 hr with hr | hr; (· exact hpz r hr); (· rw [List.mem_singleton.1 hr]; exact SzR.of_p hr1 hzd)
   have hpr1 : ∀ r ∈ pl ++ [r1], RngP r.p := fun r hr => by rcases List.mem_append.1 hr with hr | hr; (· exact hpr r hr); (· rw [List.mem_singleton.1 hr, hr1]; exact hrng d2 (hsub d2 (List.mem_of_getElem? hd2)))
   have hflen : cs.flatten.length + (pl.length + 1) = j + 1 := by have h9 := congrArg List.length hcut; rw [List.length_append, List.length_map, List.length_map, List.length_take, List.length_append] at h9; simp at h9; omega
   have hpl2 : (pl ++ [r1]).length = pl.length + 1 := by rw [List.length_append]; rfl
   have hpl1 : ((pl ++ [r1]).map Rcd.p).length = pl.length + 1 := by rw [List.length_map, hpl2]
   have hS19 : St B (own a16 ((pl ++ [r1]).length) c17 33 5 ((pl ++ [r1]).flatMap rcc) :: allA recA (pl ++ [r1]) :: _::_::_::_::_::_::_::_::_::L) w15 := own_eqM (hS18.permT [4] (L' := _::_::_::_::_::_::_::_::_::_::_::L) rfl) (by simp) (by simp)
   clear hS18
   refine WP.as (d := 8) (v := Value.slice a16 ((pl ++ [r1]).length) c17) rfl (by rw [hpl2]) ?_
   refine WP.meet (α := Bool) (fun x => match x with | qq => [(0, Value.slice a rs.length cap), (1, Value.slice b cl.length cap2), (7, Value.slice ia il.length ic), (8, Value.slice a16 ((pl ++ [r1]).length) c17), (9, Value.slice ba bs.length bc), (12, Value.int .i64 (((cs.flatten.length : Nat) : Int) + 1)), (13, Value.int .i64 (j : Int)), (72, Value.bool qq)]) (fun x w => match x with | qq => (qq = false → ¬ ((j : Int) = ((il.length : Nat) : Int) - 1)) ∧ St B (own a16 ((pl ++ [r1]).length) c17 33 5 ((pl ++ [r1]).flatMap rcc) :: allA recA (pl ++ [r1]) :: cel g14 (rcc r1) 33 :: recA d2 :: allA recA il :: own ba bs.length bc 46 4 (bs.flatMap blc) :: allA blA bs :: own ia il.length ic 33 5 (il.flatMap rcc) :: (rdH a rs.length 5 (rs.flatMap rcc)) :: allA recA rs :: (rdH b cl.length 1 (cl.map Value.bool)) :: L) w) ?_ (fun K20 => ?_)
   ·
    rintro qq w21 ⟨hqq, hS21⟩
    clear hS19
    refine NX.go ?_
    refine WP.condB rfl (fun g72 => ?_) (fun g72 => ?_)
    ·
     refine WP.seq (WP.region rfl ?_)
     refine WO.mv rfl rfl ?_
     refine WO.mv rfl rfl ?_
     have hfl12 : (cs ++ [(pl ++ [r1]).map Rcd.p]).flatten.length = j + 1 := by rw [List.flatten_append, List.length_append, List.flatten_cons, List.flatten_nil, List.append_nil, hpl1]; omega
     obtain ⟨H9, hH9⟩ := span_ok (a := cs.flatten) (c := (pl ++ [r1]).map Rcd.p) (b := (il.drop (j + 1)).map Rcd.p) (W := A) (by rw [← List.append_assoc, hcut, ← List.map_append, List.take_append_drop]; exact hrun)
     have he0 : ofE (((cs.flatten.length : Nat) : Int) + 1) ((pl ++ [r1]).map Rcd.p) = 0 := ofE_ok hH9 (by omega) (by omega) (by omega)
     refine WO.call rfl rfl Ty.hd80 rfl ((by have z := bof_spec (cap := c17) (X := own a16 ((pl ++ [r1]).length) c17 33 5 ((pl ++ [r1]).flatMap rcc)) (fun h => h.own_rd.1) (((cs.flatten.length : Nat) : Int) + 1) hpr1 hpz1 (by omega) (by omega) hS21; rw [he0] at z; exact z)) (fun v23 w22 pv23 => ?_)
     obtain ⟨b1, rfl, hb1, _, hs1, hn1, hS22⟩ := pv23
     clear hS21
     refine WO.mv rfl rfl ?_
     refine WO.V (run_extract rfl rfl) ?_
     refine WO.V (run_extract rfl rfl) ?_
     refine WO.alloc (l := [Value.int .i64 0, Value.int .i64 0, Value.slice none 0 0, Value.slice none 0 0]) hS22 Ty.zr46 rfl rfl (fun g26 w24 lg26 hS24 => ?_)
     clear hS22
     refine WO.store (l' := (blc b1)) 0 hS24 rfl Ty.sz46 rfl rfl rfl rfl rfl (Nat.le_of_ble_eq_true rfl) rfl (fun w27 (hS27 : St B (cel g26 (blc b1) 46 :: blA b1 :: _::_::_::_::_::_::_::_::_::_::_::L) w27) => ?_)
     clear hS24
     refine WO.asg rfl rfl ?_
     refine WO.nil (NX.go (WP.seq (WP.seq (WP.region rfl ?_))))
     refine WO.mv rfl rfl ?_
     refine WO.V (run_neq rfl rfl) ?_
     refine WO.nil (NX.go ?_)
     refine WP.condF rfl (by decide) ?_
     refine WP.skip (NX.go (WP.seq (WP.region rfl ?_)))
     refine WO.mv rfl rfl ?_
     refine WO.V (run_loadAgg (vs := (blc b1)) Ty.ag46 Ty.sz46 rfl rfl (cell_all (hS27.cel_at 0 rfl) 0 rfl)) ?_
     refine WO.buildSlice (l := (blc b1)) hS27 Tryz.underlying39 rfl (fun w => by kernel_rfl) rfl (fun g29 w28 lg29 hS28 => ?_)
     clear hS27
     refine WO.append (news := (blc b1)) 8 rfl Tryz.underlying39 Tryz.underlying39 (fun _ h => by cases h) Ty.sz46 (by decide) Ty.by46 Ty.zr46 rfl rfl rfl rfl hS28 rfl ((hS28.cel_rd 0 rfl (o := 0) (m := 1) (k := 4) rfl (Nat.le_of_ble_eq_true rfl)).src) rfl (by omega) (by omega) (fun a31 c32 w30 hS30 => ?_)
     replace hS30 : St B (cel g29 (blc b1) 46 :: _::_::_::_::_::_::_::own a31 (bs.length + 1) c32 46 4 ((bs.flatMap blc) ++ (blc b1)) :: _::_::_::_::_::L) w30 := hS30
     clear hS28
     refine WO.asg rfl rfl ?_
     refine WO.nil (NX.go (WP.seq (WP.region rfl ?_)))
     refine WO.asg rfl rfl ?_
     refine WO.nil (NX.go (WP.region rfl ?_))
     refine WO.mv rfl rfl ?_
     refine WO.V (run_add rfl rfl (IntWalk.i64_in _ (by omega))) ?_
     refine WO.asg rfl rfl ?_
     refine WO.nil (NX.blk (NX.go (WP.region rfl ?_)))
     refine WO.mv rfl rfl ?_
     refine WO.V (run_add rfl rfl (IntWalk.i64_in _ (by omega))) ?_
     refine WO.asg rfl rfl ?_
     refine WO.nil ?_
     have hS33 := allA_snoc (x := b1) (hS30.permT [9, 2] (L' := _::_::_::_::_::_::_::_::_::_::_::_::_::_::L) rfl)
     clear hS30
     replace hS33 := (St.addPure trivial hS33 : St B (allA recA [] :: allA blA (bs ++ [b1]) :: cel g29 (blc b1) 46 :: cel g26 (blc b1) 46 :: own a16 ((pl ++ [r1]).length) c17 33 5 ((pl ++ [r1]).flatMap rcc) :: allA recA (pl ++ [r1]) :: cel g14 (rcc r1) 33 :: recA d2 :: allA recA il :: own a31 (bs.length + 1) c32 46 4 ((bs.flatMap blc) ++ (blc b1)) :: own ia il.length ic 33 5 (il.flatMap rcc) :: (rdH a rs.length 5 (rs.flatMap rcc)) :: allA recA rs :: (rdH b cl.length 1 (cl.map Value.bool)) :: L) w30)
     replace hS33 := hS33.own_nil 33 5
     exact NX.again (j + 1, cs ++ [(pl ++ [r1]).map Rcd.p], [], none, 0, bs ++ [b1], a31, c32) ⟨⟨by omega, by rw [List.flatten_append, List.map_nil, List.append_nil, ← hcut]; simp, hC.snoc (by omega) (by rw [hb1 rfl]; congr 1; omega) hs1 hn1, .inl rfl, (fun r h => by cases h), (fun r h => by cases h)⟩, by have z9 := own_eqM (n' := (bs ++ [b1]).length) (l' := (bs ++ [b1]).flatMap blc) (((hS33.mask [true, true, true, false, false, false, false, false, false] (L' := _::_::_::_::_::_::_::_::_::L) rfl).permT [4, 2, 0, 0, 1] (L' := _::_::_::_::_::_::_::_::_::L) rfl)) (by simp) (by simp [blc]); exact z9.permT [2, 2, 0, 0] rfl⟩ (by show il.length - (j + 1) < il.length - j; omega) (Sub.cons rfl (Sub.cons rfl (Sub.cons rfl (Sub.consE rfl (by first | rfl | (congr 1; omega) | (simp; done) | (simp; omega)) (Sub.consE rfl (by simp) (Sub.consE rfl (by rw [hfl12]; congr 1) (Sub.consE rfl (by congr 1) (Sub.nil _))))))))
    ·
     refine WP.skip (NX.blk (NX.go (WP.region rfl ?_)))
     refine WO.mv rfl rfl ?_
     refine WO.V (run_add rfl rfl (IntWalk.i64_in _ (by omega))) ?_
     refine WO.asg rfl rfl ?_
     refine WO.nil ?_
     exact NX.again (j + 1, cs, (pl ++ [r1]), a16, c17, bs, ba, bc) ⟨⟨by omega, hcut, hC, .inr (by have h9 := hqq g72; omega), hpz1, hpr1⟩, own_eqM ((hS21.mask [true, true, false, false] (L' := _::_::_::_::_::_::_::_::_::L) rfl).permT [0, 0, 1, 1, 1] (L' := _::_::_::_::_::_::_::_::_::L) rfl) (by simp) (by simp)⟩ (by show il.length - (j + 1) < il.length - j; omega) (Sub.cons rfl (Sub.cons rfl (Sub.cons rfl (Sub.consE rfl (by simp) (Sub.consE rfl (by first | rfl | (congr 1; omega) | (simp; done) | (simp; omega)) (Sub.consE rfl (by first | rfl | (congr 1; omega) | (simp; done) | (simp; omega)) (Sub.consE rfl (by congr 1) (Sub.nil _))))))))
   ·
    refine WP.region rfl ?_
    refine WO.mv rfl rfl ?_
    refine WO.mv rfl rfl ?_
    refine WO.V (run_len rfl Tryz.underlying86 rfl) ?_
    refine WO.V (run_lss rfl rfl) ?_
    refine WO.mv rfl rfl ?_
    refine dcase (p := (j : Int) < ((cl.length : Nat) : Int)) (fun g60 d60 => ?_) (fun g60 d60 => ?_)
    ·
     obtain ⟨cq, hcq⟩ : ∃ qq, cl[j]? = some qq := ⟨_, List.getElem?_eq_getElem (by omega)⟩
     have hsb : b.isSome = true := rd_isSome ((rdH_rd (hS19.focus 10 rfl))) (by omega)
     refine WO.on rfl rfl d60 ?_
     refine WO.mv rfl rfl ?_
     refine WO.on rfl rfl d60 ?_
     refine WO.mv rfl rfl ?_
     refine WO.on rfl rfl d60 ?_
     refine WO.V (run_indexAddr (q := adr b j) Tryz.underlying86 Ty.sz4 rfl rfl (by omega) (by omega) ((rdH_rd (hS19.focus 10 rfl)).2.1 (by omega)) (by simp)) ?_
     refine WO.on rfl rfl d60 ?_
     refine WO.V (run_load Ty.ag4 rfl ((rdH_rd (hS19.focus 10 rfl)).cell (by rw [List.getElem?_map, hcq]; rfl))) ?_
     refine WO.V (run_pickT rfl d60 rfl) ?_
     refine WO.mv rfl rfl ?_
     rcases Bool.eq_false_or_eq_true cq with g66 | g66
     ·
      refine WO.off rfl rfl g66 rfl ?_
      refine WO.off rfl rfl g66 rfl ?_
      refine WO.off rfl rfl g66 rfl ?_
      refine WO.off rfl rfl g66 rfl ?_
      refine WO.off rfl rfl g66 rfl ?_
      refine WO.V (run_pickT rfl g66 rfl) ?_
      refine WO.nil ?_
      exact K20 true _ _ ⟨fun h => (by cases h), hS19⟩ (Sub.cons rfl (Sub.cons rfl (Sub.cons rfl (Sub.cons rfl (Sub.cons rfl (Sub.cons rfl (Sub.cons rfl (Sub.consE rfl (by first | rfl | first | rfl | (congr 1; omega) | (simp; done) | (simp; omega)) (Sub.nil _)))))))))
     ·
      refine WO.on rfl rfl g66 ?_
      refine WO.mv rfl rfl ?_
      refine WO.on rfl rfl g66 ?_
      refine WO.mv rfl rfl ?_
      refine WO.on rfl rfl g66 ?_
      refine WO.V (run_len rfl Tryz.underlying23 rfl) ?_
      refine WO.on rfl rfl g66 ?_
      refine WO.V (run_sub rfl rfl (IntWalk.i64_in _ (by omega))) ?_
      refine WO.on rfl rfl g66 ?_
      refine WO.V (run_eql rfl rfl) ?_
      refine WO.V (run_pickF rfl g66 rfl) ?_
      refine WO.nil ?_
      exact K20 (decide ((j : Int) = (((il.length : Nat) : Int) - 1))) _ _ ⟨fun h => of_decide_eq_false h, hS19⟩ (Sub.cons rfl (Sub.cons rfl (Sub.cons rfl (Sub.cons rfl (Sub.cons rfl (Sub.cons rfl (Sub.cons rfl (Sub.consE rfl (by first | rfl | first | rfl | (congr 1; omega) | (simp; done) | (simp; omega)) (Sub.nil _)))))))))
    ·
     refine WO.off rfl rfl d60 rfl ?_
     refine WO.off rfl rfl d60 rfl ?_
     refine WO.off rfl rfl d60 rfl ?_
     refine WO.off rfl rfl d60 rfl ?_
     refine WO.V (run_pickF rfl d60 rfl) ?_
     refine WO.mv rfl rfl ?_
     refine WO.on rfl rfl rfl ?_
     refine WO.mv rfl rfl ?_
     refine WO.on rfl rfl rfl ?_
     refine WO.mv rfl rfl ?_
     refine WO.on rfl rfl rfl ?_
     refine WO.V (run_len rfl Tryz.underlying23 rfl) ?_
     refine WO.on rfl rfl rfl ?_
     refine WO.V (run_sub rfl rfl (IntWalk.i64_in _ (by omega))) ?_
     refine WO.on rfl rfl rfl ?_
     refine WO.V (run_eql rfl rfl) ?_
     refine WO.V (run_pickF rfl rfl rfl) ?_
     refine WO.nil ?_
     exact K20 (decide ((j : Int) = (((il.length : Nat) : Int) - 1))) _ _ ⟨fun h => of_decide_eq_false h, hS19⟩ (Sub.cons rfl (Sub.cons rfl (Sub.cons rfl (Sub.cons rfl (Sub.cons rfl (Sub.cons rfl (Sub.cons rfl (Sub.consE rfl (by first | rfl | first | rfl | (congr 1; omega) | (simp; done) | (simp; omega)) (Sub.nil _)))))))))
  ·
   refine WP.exit (NX.thenExit (NX.thenExit ?_))
   refine NX.blkExit ?_
   refine NX.go (WP.seq (WP.region rfl ?_))
   refine WO.mv rfl rfl ?_
   refine WO.mv rfl rfl ?_
   refine WO.asg rfl rfl ?_
   refine WO.asg rfl rfl ?_
   refine WO.asg rfl rfl ?_
   refine WO.nil (NX.go (WP.ret ?_))
   refine NX.done (l := [.tmp 4, .tmp 5, .tmp 6]) rfl rfl ?_
   have hpn : pl = [] := hpl.resolve_right (by omega)
   subst hpn
   rw [List.map_nil, List.append_nil, List.take_of_length_le (by omega)] at hfl
   exact ⟨cs, bs, ba, bc, il, ia, ic, A, rfl, hC, hfl, hrun, by omega, hAl, hsub, hS9.drop.drop⟩
 ·
  refine WP.block ?_
  replace hS6 := (St.addPure trivial hS6 : St B (allA recA [] :: rfA 79 95 103 gr [] :: (rdH a rs.length 5 (rs.flatMap rcc)) :: allA recA rs :: (rdH b cl.length 1 (cl.map Value.bool)) :: L) w1)
  replace hS6 := hS6.own_nil 33 5
  refine WP.loop (α := Nat × List Rcd × Option Addr × Nat × List RowP) (fun x => match x with | ⟨i, il, ia, ic, A⟩ => [(0, Value.slice a rs.length cap), (1, Value.slice b cl.length cap2), (7, Value.slice ia il.length ic), (8, Value.slice none 0 0), (9, Value.slice none 0 0), (10, Value.pointer (some ⟨gr, 0, none⟩)), (11, Value.int .i64 (i : Int))]) (fun x w => match x with | ⟨i, il, ia, ic, A⟩ => (i ≤ rs.length ∧ i ≤ 30 ∧ WfH A (32 * i) ∧ A.length ≤ 256 ∧ runP [] (il.map Rcd.p) = (0, A) ∧ (∀ r ∈ il, r ∈ rs) ∧ il.length ≤ i) ∧ St B (own ia il.length ic 33 5 (il.flatMap rcc) :: allA recA il :: rfA 79 95 103 gr A :: (rdH a rs.length 5 (rs.flatMap rcc)) :: allA recA rs :: (rdH b cl.length 1 (cl.map Value.bool)) :: L) w) (fun x => match x with | ⟨i, il, ia, ic, A⟩ => rs.length - i) (0, [], none, 0, []) ⟨⟨Nat.zero_le _, Nat.zero_le _, wf_nil _, Nat.zero_le _, rfl, (fun r h => by cases h), Nat.le_refl _⟩, hS6⟩ (Sub.cons rfl (Sub.cons rfl (Sub.consE rfl (by first | rfl | first | rfl | (congr 1; omega) | (simp; done) | (simp; omega)) (Sub.cons rfl (Sub.cons rfl (Sub.cons rfl (Sub.consE rfl (by first | rfl | first | rfl | (congr 1; omega) | (simp; done) | (simp; omega)) (Sub.nil _)))))))) ?_
  rintro ⟨i, il, ia, ic, A⟩ w34 ⟨⟨hi, hi3, hA, hAl, hrun, hsub, hiln⟩, hS34⟩
  clear hS6
  refine WP.seq (WP.seq (WP.region rfl ?_))
  refine WO.mv rfl rfl ?_
  refine WO.mv rfl rfl ?_
  refine WO.V (run_len rfl Tryz.underlying23 rfl) ?_
  refine WO.V (run_lss rfl rfl) ?_
  refine WO.mv rfl rfl ?_
  refine dcase (p := (i : Int) < ((rs.length : Nat) : Int)) (fun g22 d22 => ?_) (fun g22 d22 => ?_)
  ·
   refine WO.on rfl rfl d22 ?_
   refine WO.mv rfl rfl ?_
   refine WO.on rfl rfl d22 ?_
   refine WO.V (run_lss rfl rfl) ?_
   refine WO.V (run_pickT rfl d22 rfl) ?_
   refine WO.nil (NX.go ?_)
   refine WP.condP rfl (fun g25 => ?_) (fun g25 => ?_)
   ·
    refine WP.skip (NX.go (WP.seq (WP.block (WP.seq ?_))))
    obtain ⟨d1, hd1⟩ : ∃ qq, rs[i]? = some qq := ⟨_, List.getElem?_eq_getElem (by omega)⟩
    have hzd := hrz d1 (List.mem_of_getElem? hd1)
    have hS35 := allA_get recA_pers (List.mem_of_getElem? hd1) (hS34.permT [4] (L' := _::_::_::_::_::_::L) rfl)
    clear hS34
    have hsa : a.isSome = true := rd_isSome ((rdH_rd (hS35.focus 5 rfl))) (by omega)
    refine WP.region rfl ?_
    refine WO.mv rfl rfl ?_
    refine WO.mv rfl rfl ?_
    refine WO.mv rfl rfl ?_
    refine WO.V (run_indexAddr (q := adr a (i * 5)) Tryz.underlying23 Ty.sz33 rfl rfl (by omega) (by omega) ((rdH_rd (hS35.focus 5 rfl)).2.1 (by omega)) rfl) ?_
    refine WO.V (run_loadAgg (vs := (rcc d1)) Ty.ag33 Ty.sz33 rfl ((rdH_rd (hS35.focus 5 rfl)).cells (by rw [flat_len rcc_len]; omega) (flat_part rcc_len hd1)).1 ((rdH_rd (hS35.focus 5 rfl)).cells (by rw [flat_len rcc_len]; omega) (flat_part rcc_len hd1)).2) ?_
    have hS36 := hS35.permT [4] (L' := _::_::_::_::_::_::_::L) rfl
    clear hS35
    refine WO.call rfl rfl Ty.hd39 rfl (rhapply_spec (g := gr) hA (by omega) (by omega) d1 hzd hS36) (fun v38 w37 pv38 => ?_)
    obtain ⟨rfl, hS37⟩ := pv38
    clear hS36
    refine WO.V (run_eql rfl rfl) ?_
    refine WO.nil (NX.go ?_)
    refine WP.condP rfl (fun g34 => ?_) (fun g34 => ?_)
    ·
     refine WP.region rfl ?_
     refine WO.mv rfl rfl ?_
     refine WO.mv rfl rfl ?_
     refine WO.mv rfl rfl ?_
     refine WO.V (run_indexAddr (q := adr a (i * 5)) Tryz.underlying23 Ty.sz33 rfl rfl (by omega) (by omega) ((rdH_rd (hS37.focus 5 rfl)).2.1 (by omega)) rfl) ?_
     refine WO.V (run_loadAgg (vs := (rcc d1)) Ty.ag33 Ty.sz33 rfl ((rdH_rd (hS37.focus 5 rfl)).cells (by rw [flat_len rcc_len]; omega) (flat_part rcc_len hd1)).1 ((rdH_rd (hS37.focus 5 rfl)).cells (by rw [flat_len rcc_len]; omega) (flat_part rcc_len hd1)).2) ?_
     refine WO.buildSlice (l := (rcc d1)) hS37 Tryz.underlying23 rfl (fun w => by kernel_rfl) rfl (fun g40 w39 lg40 hS39 => ?_)
     clear hS37
     refine WO.append (news := (rcc d1)) 4 rfl Tryz.underlying23 Tryz.underlying23 (fun _ h => by cases h) Ty.sz33 (by decide) Ty.by33 Ty.zr33 rfl rfl rfl rfl hS39 rfl ((hS39.cel_rd 0 rfl (o := 0) (m := 1) (k := 5) rfl (Nat.le_of_ble_eq_true rfl)).src) (by simp [rcc, noAgg]) (by omega) (by omega) (fun a42 c43 w41 hS41 => ?_)
     replace hS41 : St B (cel g40 (rcc d1) 33 :: rfA 79 95 103 gr (applyP A d1.p) :: _::_::own a42 (il.length + 1) c43 33 5 ((il.flatMap rcc) ++ (rcc d1)) :: _::_::_::L) w41 := hS41
     clear hS39
     refine WO.asg rfl rfl ?_
     refine WO.nil (NX.blk (NX.go (WP.region rfl ?_)))
     refine WO.mv rfl rfl ?_
     refine WO.V (run_add rfl rfl (IntWalk.i64_in _ (by omega))) ?_
     refine WO.asg rfl rfl ?_
     refine WO.nil ?_
     have hS44 := allA_snoc (x := d1) (hS41.permT [5, 2] (L' := _::_::_::_::_::_::_::_::L) rfl)
     clear hS41
     exact NX.again (i + 1, il ++ [d1], a42, c43, applyP A d1.p) ⟨⟨by omega, by omega, wf_applyP hA, applyP_len hAl, by rw [List.map_append]; exact runP_snoc hrun g34, fun r hr => by rcases List.mem_append.1 hr with hr | hr; (· exact hsub r hr); (· rw [List.mem_singleton.1 hr]; exact List.mem_of_getElem? hd1), by rw [List.length_append]; simp; omega⟩, own_eqM ((hS44.mask [true, false] (L' := _::_::_::_::_::_::L) rfl).permT [3, 0, 0, 1] (L' := _::_::_::_::_::_::L) rfl) (by simp) (by simp)⟩ (by show rs.length - (i + 1) < rs.length - i; omega) (Sub.cons rfl (Sub.cons rfl (Sub.consE rfl (by simp) (Sub.cons rfl (Sub.cons rfl (Sub.cons rfl (Sub.consE rfl (by congr 1) (Sub.nil _))))))))
    ·
     refine WP.skip (NX.blk (NX.go (WP.region rfl ?_)))
     refine WO.mv rfl rfl ?_
     refine WO.V (run_add rfl rfl (IntWalk.i64_in _ (by omega))) ?_
     refine WO.asg rfl rfl ?_
     refine WO.nil ?_
     have hS45 : St B (rfA 79 95 103 gr A :: recA d1 :: allA recA rs :: own ia il.length ic 33 5 (il.flatMap rcc) :: allA recA il :: (rdH a rs.length 5 (rs.flatMap rcc)) :: (rdH b cl.length 1 (cl.map Value.bool)) :: L) w37 := by have z9 := hS37; rw [applyP_bad g34] at z9; exact z9
     clear hS37
     exact NX.again (i + 1, il, ia, ic, A) ⟨⟨by omega, by omega, hA.mono (by omega), hAl, hrun, hsub, by omega⟩, ((hS45.mask [true, false] (L' := _::_::_::_::_::_::L) rfl).permT [2, 2, 0, 1] (L' := _::_::_::_::_::_::L) rfl)⟩ (by show rs.length - (i + 1) < rs.length - i; omega) (Sub.cons rfl (Sub.cons rfl (Sub.consE rfl (by first | rfl | (congr 1; omega) | (simp; done) | (simp; omega)) (Sub.cons rfl (Sub.cons rfl (Sub.cons rfl (Sub.consE rfl (by congr 1) (Sub.nil _))))))))
   ·
    refine WP.exit (NX.thenExit (NX.thenExit ?_))
    refine NX.blkExit ?_
    exact K7 (il, ia, ic, A) _ _ ⟨⟨hrun, hsub, by omega, hAl⟩, (hS34.mask [true, true, false] (L' := _::_::_::_::_::L) rfl)⟩ (Sub.cons rfl (Sub.cons rfl (Sub.cons rfl (Sub.cons rfl (Sub.cons rfl (Sub.nil _))))))
  ·
   refine WO.off rfl rfl d22 rfl ?_
   refine WO.off rfl rfl d22 rfl ?_
   refine WO.V (run_pickF rfl d22 rfl) ?_
   refine WO.nil (NX.go ?_)
   refine WP.condF rfl rfl ?_
   refine WP.exit (NX.thenExit (NX.thenExit ?_))
   refine NX.blkExit ?_
   exact K7 (il, ia, ic, A) _ _ ⟨⟨hrun, hsub, by omega, hAl⟩, (hS34.mask [true, true, false] (L' := _::_::_::_::_::L) rfl)⟩ (Sub.cons rfl (Sub.cons rfl (Sub.cons rfl (Sub.cons rfl (Sub.cons rfl (Sub.nil _))))))
end Go.Proofs.YtidoidoelgfnaaaGreatDoor.SL

/- A commit. -/
namespace Go.Proofs.YtidoidoelgfnaaaGreatDoor.SL
open Go.RowKit Go.Proofs.YtidoidoelgfnaaaGreatDoor
open Go.Proofs.YtidoidoelgfnaaaGreatDoorW.PrintLast (rtab opsOf)
set_option linter.unusedVariables false
set_option linter.unusedSimpArgs false
theorem commit_spec {B w : World} {L : List HP} (t : Int) (hS : St B L w) : Does Tryz.prog 81 [Value.int .i64 t] w (fun q w1 => ∃ r : Rcd, q = .agg (rcc r).toArray ∧ r.p = rOne t 0 ∧ St B (recA r :: L) w1) := by
 refine enter (n := 9) Tryz.func81 rfl rfl [Value.int .i64 t] rfl ?_
 refine WP.seq (WP.region rfl ?_)
 refine WO.alloc (l := [Value.int .i64 0, Value.slice none 0 0, Value.slice none 0 0, Value.int .i64 0, Value.int .i64 0]) hS Ty.zr33 rfl rfl (fun g2 w1 lg2 hS1 => ?_)
 clear hS
 refine WO.nil (NX.go (WP.seq (WP.region rfl ?_)))
 refine WO.V (run_build (v := Value.agg #[str [97], str [49]]) rfl (fun w => by kernel_rfl)) ?_
 refine WO.buildSlice (l := [str [97], str [49]]) hS1 Tryz.underlying65 rfl (fun w => by kernel_rfl) rfl (fun g4 w3 lg4 hS3 => ?_)
 clear hS1
 have hS3 := hS3.own_of_cel (m := 1) (k := 2) rfl
 refine WO.mv rfl rfl ?_
 refine WO.V (run_build (v := Value.agg #[Value.slice (some ⟨g4, 0, none⟩) 1 1, Value.int .i64 t, Value.int .u64 0]) rfl (fun w => by kernel_rfl)) ?_
 refine WO.buildSlice (l := [Value.slice (some ⟨g4, 0, none⟩) 1 1, Value.int .i64 t, Value.int .u64 0]) hS3 Tryz.underlying31 rfl (fun w => by kernel_rfl) rfl (fun g6 w5 lg6 hS5 => ?_)
 clear hS3
 have hS5 := hS5.own_of_cel (m := 1) (k := 3) rfl
 refine WO.V (run_build (v := Value.agg #[Value.int .i64 1, Value.slice (some ⟨g6, 0, none⟩) 1 1, Value.slice none 0 0, Value.int .i64 0, Value.int .i64 0]) rfl (fun w => by kernel_rfl)) ?_
 refine WO.store (l' := [Value.int .i64 1, Value.slice (some ⟨g6, 0, none⟩) 1 1, Value.slice none 0 0, Value.int .i64 0, Value.int .i64 0]) 2 hS5 rfl Ty.sz33 rfl rfl rfl rfl rfl (Nat.le_of_ble_eq_true rfl) rfl (fun w7 (hS7 : St B (own (some ⟨g6, 0, none⟩) 1 1 83 3 [Value.slice (some ⟨g4, 0, none⟩) 1 1, Value.int .i64 t, Value.int .u64 0] :: own (some ⟨g4, 0, none⟩) 1 1 105 2 [str [97], str [49]] :: cel g2 [Value.int .i64 1, Value.slice (some ⟨g6, 0, none⟩) 1 1, Value.slice none 0 0, Value.int .i64 0, Value.int .i64 0] 33 :: L) w7) => ?_)
 clear hS5
 refine WO.nil (NX.go (WP.ret ?_))
 refine NX.doneC (l := [.cell 2 33]) rfl (.cons (.cell rfl (loadVar_agg (vs := [Value.int .i64 1, Value.slice (some ⟨g6, 0, none⟩) 1 1, Value.slice none 0 0, Value.int .i64 0, Value.int .i64 0]) Ty.ag33 Ty.sz33 rfl (cell_all (hS7.cel_at 2 rfl) 0 rfl))) .nil) ?_
 have hq1 : St B (labA (⟨⟨some ⟨g4, 0, none⟩, laP, 1⟩, t, 0⟩ : Smp).lb :: _::_::L) w7 := rdH_own (hS7.permT [1] (L' := _::_::_::L) rfl)
 have hq2 : St B (rdH (⟨1, ⟨some ⟨g6, 0, none⟩, [⟨⟨some ⟨g4, 0, none⟩, laP, 1⟩, t, 0⟩], 1⟩, ⟨none, [], 0⟩, 0, 0⟩ : Rcd).ss.a (⟨1, ⟨some ⟨g6, 0, none⟩, [⟨⟨some ⟨g4, 0, none⟩, laP, 1⟩, t, 0⟩], 1⟩, ⟨none, [], 0⟩, 0, 0⟩ : Rcd).ss.l.length 3 ((⟨1, ⟨some ⟨g6, 0, none⟩, [⟨⟨some ⟨g4, 0, none⟩, laP, 1⟩, t, 0⟩], 1⟩, ⟨none, [], 0⟩, 0, 0⟩ : Rcd).ss.l.flatMap smc) :: _::_::L) w7 := rdH_own (hq1.permT [1] (L' := _::_::_::L) rfl)
 have hq3 : St B (.pure True :: _::_::L) w7 := (((hq2.mask [true, true, false] (L' := _::_::L) rfl).permT [1] (L' := _::_::L) rfl)).addPure trivial
 have hq4 : St B (smsA [(⟨⟨some ⟨g4, 0, none⟩, laP, 1⟩, t, 0⟩ : Smp)] :: _::L) w7 := (hq3.permT [1] (L' := _::_::_::L) rfl).join
 have hq5 : St B (rdH none 0 3 [] :: _::_::L) w7 := rdH_zero rfl hq4
 have hq6 := hq5.join
 exact ⟨(⟨1, ⟨some ⟨g6, 0, none⟩, [⟨⟨some ⟨g4, 0, none⟩, laP, 1⟩, t, 0⟩], 1⟩, ⟨none, [], 0⟩, 0, 0⟩ : Rcd), rfl, rfl, (hq6.permT [1] (L' := _::_::L) rfl).join⟩
end Go.Proofs.YtidoidoelgfnaaaGreatDoor.SL

/- Histories work: plain. -/
namespace Go.Proofs.YtidoidoelgfnaaaGreatDoor.SL
open Go.RowKit Go.Proofs.YtidoidoelgfnaaaGreatDoor
open Go.Proofs.YtidoidoelgfnaaaGreatDoorW.PrintLast (rtab opsOf)
set_option linter.unusedVariables false
set_option linter.unusedSimpArgs false

def z1B : BlkV := ⟨1, 1, ⟨none, [⟨⟨none, laP, 0⟩, 5, ⟨none, [⟨5, 0⟩], 0⟩⟩], 0⟩, ⟨none, [], 0⟩⟩
def z2B : BlkV := ⟨2, 3, ⟨none, [⟨⟨none, laP, 0⟩, 12, ⟨none, [⟨12, 0⟩], 0⟩⟩], 0⟩, ⟨none, [⟨2, ⟨none, [], 0⟩, ⟨none, [], 0⟩, 0, 9⟩], 0⟩⟩
theorem v_e1 : ofE 1 [rOne 5 0] = 0 := by kernel_rfl
theorem v_b1 : ofB 1 [rOne 5 0] = z1B.p := by kernel_rfl
theorem v_e2 : ofE 2 [rDel, rOne 12 0] = 0 := by kernel_rfl
theorem v_b2 : ofB 2 [rDel, rOne 12 0] = z2B.p := by kernel_rfl
theorem v_q : qryR [] 0 99 (leftA [] [z1B.p, z2B.p] []) = [⟨laP, [⟨12, 0⟩]⟩] := by kernel_rfl
theorem v_f : followV [z1B, z2B] = 0 := by kernel_rfl
theorem v_j : joinV [z1B, z2B] 0 = (⟨1, 3, [⟨laP, 12, [⟨12, 0⟩]⟩], []⟩, 0) := by kernel_rfl
theorem row_one {o : List MRow} {lb : List Pr} {t : Int} {ps : List Pt} (h : o.map MRow.p = [⟨lb, t, ps⟩]) : ∃ la lc pa pc, o = [(⟨⟨la, lb, lc⟩, t, ⟨pa, ps, pc⟩⟩ : MRow)] := by
  match o, h with
  | [⟨⟨la, l1, lc⟩, t1, ⟨pa, p1, pc⟩⟩], h =>
    simp only [List.map_cons, List.map_nil, List.cons.injEq, and_true] at h
    have e1 : l1 = lb := congrArg RowP.lb h
    have e2 : p1 = ps := congrArg RowP.pts h
    have e3 : t1 = t := congrArg RowP.last h
    subst e1; subst e2; subst e3
    exact ⟨la, lc, pa, pc, rfl⟩

theorem v_l2 : lastsA [z1B.p, z2B.p] [] = [⟨laP, 12, []⟩] := by kernel_rfl
theorem blk_one {b : BlkV} {f t u : Int} {lb : List Pr} {ps : List Pt} (h : b.p = ⟨f, t, [⟨lb, u, ps⟩], []⟩) : ∃ ra rc la lc pa pc da dc, b = ⟨f, t, ⟨ra, [⟨⟨la, lb, lc⟩, u, ⟨pa, ps, pc⟩⟩], rc⟩, ⟨da, [], dc⟩⟩ := by
  obtain ⟨bf, bt, ⟨ra, rl, rc⟩, ⟨da, dl, dc⟩⟩ := b
  have e1 : bf = f := congrArg BlkP.first h
  have e2 : bt = t := congrArg BlkP.to h
  have e3 : rl.map MRow.p = [⟨lb, u, ps⟩] := congrArg BlkP.rows h
  have e4 : dl.map Rcd.p = [] := congrArg BlkP.dels h
  obtain ⟨la, lc, pa, pc, rfl⟩ := row_one e3
  have e5 : dl = [] := List.map_eq_nil_iff.1 e4
  subst e1; subst e2; subst e5
  exact ⟨ra, rc, la, lc, pa, pc, da, dc, rfl⟩
theorem mz_of {b : BlkV} (z : SzB b) : MzB b := ⟨z.nr, z.nd, fun r hr => ⟨(z.r r hr).1, by have := (z.r r hr).2.1; omega, (z.r r hr).2.2⟩, z.d⟩
theorem rt_two {b c : BlkV} (h1 : b.p = z1B.p) (h2 : c.p = z2B.p) : rtot [b, c] = 2 ∧ ptot [b, c] = 2 ∧ dtot [b, c] = 1 ∧ wgt b ≤ 1000000 ∧ wgt c ≤ 1000000 ∧ (∀ x ∈ [b, c], ∀ r ∈ x.rs.l, chk r.lb.l = true) := by
  obtain ⟨ra, rc, la, lc, pa, pc, da, dc, rfl⟩ := blk_one (b := b) h1
  obtain ⟨bf, bt, ⟨ra2, rl, rc2⟩, ⟨da2, dl, dc2⟩⟩ := c
  have e3 : rl.map MRow.p = [⟨laP, 12, [⟨12, 0⟩]⟩] := congrArg BlkP.rows h2
  have e4 : dl.map Rcd.p = [rDel] := congrArg BlkP.dels h2
  obtain ⟨la2, lc2, pa2, pc2, rfl⟩ := row_one e3
  have e5 : dl.length = 1 := by have := congrArg List.length e4; rwa [List.length_map] at this
  refine ⟨rfl, rfl, by show 0 + (dl.length + 0) = 1; omega, (by show (11 : Nat) ≤ 1000000; decide), ?_, ?_⟩
  · show (11 : Nat) + dl.length ≤ 1000000
    omega
  · intro x hx r hr
    rcases List.mem_cons.1 hx with e | hx
    · subst e; rw [List.mem_singleton.1 hr]; show SL.chk laP = true; decide
    · rw [List.mem_singleton.1 hx] at hr; rw [List.mem_singleton.1 hr]; show SL.chk laP = true; decide
end Go.Proofs.YtidoidoelgfnaaaGreatDoor.SL

/- Histories work. -/
namespace Go.Proofs.YtidoidoelgfnaaaGreatDoor.SL
open Go.RowKit Go.Proofs.YtidoidoelgfnaaaGreatDoor
open Go.Proofs.YtidoidoelgfnaaaGreatDoorW.PrintLast (rtab opsOf)
set_option linter.unusedVariables false
set_option linter.unusedSimpArgs false

theorem rngA (t : Int) (h : -9223372036854775808 ≤ t ∧ t ≤ 9223372036854775807) {v : Int} : RngP (rOne t v) := fun s hs => by
  rw [List.mem_singleton.1 hs]; exact h
theorem works16_spec {B w : World} {L : List HP} (hS : St B L w) : Does Tryz.prog 42 [] w (fun v w1 => v = .bool true ∧ St B L w1) := by
 refine enter (n := 102) Tryz.func42 rfl rfl [] rfl ?_
 refine WP.seq (WP.region rfl ?_)
 refine WO.asg rfl rfl ?_
 refine WO.nil (NX.go (WP.seq (WP.region rfl ?_)))
 refine WO.call rfl rfl Ty.hd81 rfl (commit_spec 5 hS) (fun v2 w1 pv2 => ?_)
 obtain ⟨r1, rfl, hr1, hS1⟩ := pv2
 clear hS
 refine WO.buildSlice (l := (rcc r1)) hS1 Tryz.underlying23 rfl (fun w => by kernel_rfl) rfl (fun g4 w3 lg4 hS3 => ?_)
 clear hS1
 have hS3 := hS3.own_of_cel (m := 1) (k := 5) rfl
 replace hS3 := (St.addPure trivial hS3 : St B (allA recA [] :: own (some ⟨g4, 0, none⟩) 1 1 33 5 (rcc r1) :: recA r1 :: L) w3)
 have hS5 := allA_snoc (f := recA) (l := []) (x := r1) (hS3.permT [0, 1] (L' := _::_::_::L) rfl)
 clear hS3
 have hS6 : St B (own (some ⟨g4, 0, none⟩) ([r1].length) 1 33 5 ([r1].flatMap rcc) :: allA recA [r1] :: L) w3 := (hS5.permT [1] (L' := _::_::L) rfl)
 clear hS5
 refine WO.call rfl rfl Ty.hd80 rfl ((by have z := bof_spec (cap := 1) (X := own (some ⟨g4, 0, none⟩) ([r1].length) 1 33 5 ([r1].flatMap rcc)) (rs := [r1]) (fun h => h.own_rd.1) 1 (fun r hr => by rw [List.mem_singleton.1 hr, hr1]; exact rngA 5 (by decide)) (fun r hr => by rw [List.mem_singleton.1 hr]; exact szR_one hr1) (by show (1 : Nat) ≤ _; decide) (by decide) hS6; rw [show [r1].map Rcd.p = [rOne 5 0] by rw [List.map_cons, hr1]; rfl, v_e1] at z; exact z)) (fun v8 w7 pv8 => ?_)
 obtain ⟨b1, rfl, hb1, _, hs1, hn1, hS7⟩ := pv8
 clear hS6
 replace hb1 := (hb1 rfl).trans v_b1
 have hS9 : St B (blA b1 :: L) w7 := (hS7.mask [true, false, false] (L' := _::L) rfl)
 clear hS7
 refine WO.mv rfl rfl ?_
 refine WO.V (run_extract rfl rfl) ?_
 refine WO.V (run_extract rfl rfl) ?_
 refine WO.alloc (l := [Value.int .i64 0, Value.int .i64 0, Value.slice none 0 0, Value.slice none 0 0]) hS9 Ty.zr46 rfl rfl (fun g11 w10 lg11 hS10 => ?_)
 clear hS9
 refine WO.store (l' := (blc b1)) 0 hS10 rfl Ty.sz46 rfl rfl rfl rfl rfl (Nat.le_of_ble_eq_true rfl) rfl (fun w12 (hS12 : St B (cel g11 (blc b1) 46 :: _::L) w12) => ?_)
 clear hS10
 refine WO.asg rfl rfl ?_
 refine WO.nil (NX.go (WP.seq (WP.region rfl ?_)))
 refine WO.V (run_build (v := Value.agg #[Value.int .i64 2, Value.slice none 0 0, Value.slice none 0 0, Value.int .i64 0, Value.int .i64 9]) rfl (fun w => by kernel_rfl)) ?_
 refine WO.call rfl rfl Ty.hd81 rfl (commit_spec 12 hS12) (fun v14 w13 pv14 => ?_)
 obtain ⟨r2, rfl, hr2, hS13⟩ := pv14
 clear hS12
 refine WO.buildSlice (l := [Value.int .i64 2, Value.slice none 0 0, Value.slice none 0 0, Value.int .i64 0, Value.int .i64 9, Value.int .i64 r2.k, Value.slice r2.ss.a r2.ss.l.length r2.ss.cap, Value.slice r2.ms.a r2.ms.l.length r2.ms.cap, Value.int .i64 r2.fr, Value.int .i64 r2.to]) hS13 Tryz.underlying23 rfl (fun w => by kernel_rfl) rfl (fun g16 w15 lg16 hS15 => ?_)
 clear hS13
 have hS15 := hS15.own_of_cel (m := 2) (k := 5) rfl
 have hS17 : St B (recA (⟨2, ⟨none, [], 0⟩, ⟨none, [], 0⟩, 0, 9⟩ : Rcd) :: own (some ⟨g16, 0, none⟩) 2 2 33 5 [Value.int .i64 2, Value.slice none 0 0, Value.slice none 0 0, Value.int .i64 0, Value.int .i64 9, Value.int .i64 r2.k, Value.slice r2.ss.a r2.ss.l.length r2.ss.cap, Value.slice r2.ms.a r2.ms.l.length r2.ms.cap, Value.int .i64 r2.fr, Value.int .i64 r2.to] :: recA r2 :: _::_::L) w15 := recA_nil 2 0 9 (ms := ⟨none, [], 0⟩) (rdH_zero rfl hS15)
 clear hS15
 replace hS17 := (St.addPure trivial hS17 : St B (allA recA [] :: recA (⟨2, ⟨none, [], 0⟩, ⟨none, [], 0⟩, 0, 9⟩ : Rcd) :: own (some ⟨g16, 0, none⟩) 2 2 33 5 [Value.int .i64 2, Value.slice none 0 0, Value.slice none 0 0, Value.int .i64 0, Value.int .i64 9, Value.int .i64 r2.k, Value.slice r2.ss.a r2.ss.l.length r2.ss.cap, Value.slice r2.ms.a r2.ms.l.length r2.ms.cap, Value.int .i64 r2.fr, Value.int .i64 r2.to] :: recA r2 :: cel g11 (blc b1) 46 :: blA b1 :: L) w15)
 have hS18 := allA_snoc (f := recA) (l := []) (x := (⟨2, ⟨none, [], 0⟩, ⟨none, [], 0⟩, 0, 9⟩ : Rcd)) hS17
 clear hS17
 have hS19 := allA_snoc (f := recA) (l := [(⟨2, ⟨none, [], 0⟩, ⟨none, [], 0⟩, 0, 9⟩ : Rcd)]) (x := r2) (hS18.permT [0, 1] (L' := _::_::_::_::_::L) rfl)
 clear hS18
 have hS20 : St B (own (some ⟨g16, 0, none⟩) ([(⟨2, ⟨none, [], 0⟩, ⟨none, [], 0⟩, 0, 9⟩ : Rcd), r2].length) 2 33 5 ([(⟨2, ⟨none, [], 0⟩, ⟨none, [], 0⟩, 0, 9⟩ : Rcd), r2].flatMap rcc) :: allA recA [(⟨2, ⟨none, [], 0⟩, ⟨none, [], 0⟩, 0, 9⟩ : Rcd), r2] :: _::_::L) w15 := (hS19.permT [1] (L' := _::_::_::_::L) rfl)
 clear hS19
 refine WO.call rfl rfl Ty.hd80 rfl ((by have z := bof_spec (cap := 2) (X := own (some ⟨g16, 0, none⟩) ([(⟨2, ⟨none, [], 0⟩, ⟨none, [], 0⟩, 0, 9⟩ : Rcd), r2].length) 2 33 5 ([(⟨2, ⟨none, [], 0⟩, ⟨none, [], 0⟩, 0, 9⟩ : Rcd), r2].flatMap rcc)) (rs := [(⟨2, ⟨none, [], 0⟩, ⟨none, [], 0⟩, 0, 9⟩ : Rcd), r2]) (fun h => h.own_rd.1) 2 (fun r hr => by rcases List.mem_cons.1 hr with e | hr; (· subst e; exact fun s hs => by cases hs); (· rw [List.mem_singleton.1 hr, hr2]; exact rngA 12 (by decide))) (fun r hr => by rcases List.mem_cons.1 hr with e | hr; (· subst e; exact szR_del rfl); (· rw [List.mem_singleton.1 hr]; exact szR_one hr2)) (by show (2 : Nat) ≤ _; decide) (by decide) hS20; rw [show [(⟨2, ⟨none, [], 0⟩, ⟨none, [], 0⟩, 0, 9⟩ : Rcd), r2].map Rcd.p = [rDel, rOne 12 0] by rw [List.map_cons, List.map_cons, hr2]; rfl, v_e2] at z; exact z)) (fun v22 w21 pv22 => ?_)
 obtain ⟨b2, rfl, hb2, _, hs2, hn2, hS21⟩ := pv22
 clear hS20
 replace hb2 := (hb2 rfl).trans v_b2
 have hS23 : St B (blA b2 :: _::_::L) w21 := (hS21.mask [true, false, false] (L' := _::_::_::L) rfl)
 clear hS21
 refine WO.mv rfl rfl ?_
 refine WO.V (run_extract rfl rfl) ?_
 refine WO.V (run_extract rfl rfl) ?_
 refine WO.alloc (l := [Value.int .i64 0, Value.int .i64 0, Value.slice none 0 0, Value.slice none 0 0]) hS23 Ty.zr46 rfl rfl (fun g25 w24 lg25 hS24 => ?_)
 clear hS23
 refine WO.store (l' := (blc b2)) 0 hS24 rfl Ty.sz46 rfl rfl rfl rfl rfl (Nat.le_of_ble_eq_true rfl) rfl (fun w26 (hS26 : St B (cel g25 (blc b2) 46 :: _::_::_::L) w26) => ?_)
 clear hS24
 refine WO.asg rfl rfl ?_
 refine WO.nil (NX.go (WP.seq (WP.seq (WP.region rfl ?_))))
 refine WO.mv rfl rfl ?_
 refine WO.V (run_neq rfl rfl) ?_
 refine WO.mv rfl rfl ?_
 refine WO.on rfl rfl (by decide) ?_
 refine WO.mv rfl rfl ?_
 refine WO.on rfl rfl (by decide) ?_
 refine WO.V (run_neq rfl rfl) ?_
 refine WO.V (run_pickF rfl (by decide) rfl) ?_
 refine WO.nil (NX.go ?_)
 refine WP.condF rfl (by decide) ?_
 refine WP.skip (NX.go (WP.seq (WP.region rfl ?_)))
 refine WO.V (run_loadAgg (vs := (blc b1)) Ty.ag46 Ty.sz46 rfl rfl (cell_all (hS26.cel_at 2 rfl) 0 rfl)) ?_
 refine WO.V (run_loadAgg (vs := (blc b2)) Ty.ag46 Ty.sz46 rfl rfl (cell_all (hS26.cel_at 0 rfl) 0 rfl)) ?_
 refine WO.buildSlice (l := [Value.int .i64 b1.first, Value.int .i64 b1.to, Value.slice b1.rs.a b1.rs.l.length b1.rs.cap, Value.slice b1.ds.a b1.ds.l.length b1.ds.cap, Value.int .i64 b2.first, Value.int .i64 b2.to, Value.slice b2.rs.a b2.rs.l.length b2.rs.cap, Value.slice b2.ds.a b2.ds.l.length b2.ds.cap]) hS26 Tryz.underlying39 rfl (fun w => by kernel_rfl) rfl (fun g28 w27 lg28 hS27 => ?_)
 clear hS26
 have hS27 := hS27.own_of_cel (m := 2) (k := 4) rfl
 refine WO.asg rfl rfl ?_
 refine WO.nil (NX.go (WP.seq ?_))
 replace hS27 := (St.addPure trivial hS27 : St B (allA blA [] :: own (some ⟨g28, 0, none⟩) 2 2 46 4 [Value.int .i64 b1.first, Value.int .i64 b1.to, Value.slice b1.rs.a b1.rs.l.length b1.rs.cap, Value.slice b1.ds.a b1.ds.l.length b1.ds.cap, Value.int .i64 b2.first, Value.int .i64 b2.to, Value.slice b2.rs.a b2.rs.l.length b2.rs.cap, Value.slice b2.ds.a b2.ds.l.length b2.ds.cap] :: cel g25 (blc b2) 46 :: blA b2 :: cel g11 (blc b1) 46 :: blA b1 :: L) w27)
 have hS29 := allA_snoc (f := blA) (l := []) (x := b1) (hS27.permT [0, 4] (L' := _::_::_::_::_::_::L) rfl)
 clear hS27
 have hS30 := allA_snoc (f := blA) (l := [b1]) (x := b2) (hS29.permT [0, 2] (L' := _::_::_::_::_::L) rfl)
 clear hS29
 have hS31 : St B (own (some ⟨g28, 0, none⟩) ([b1, b2].length) 2 46 4 ([b1, b2].flatMap blc) :: allA blA [b1, b2] :: _::_::L) w27 := (hS30.permT [1] (L' := _::_::_::_::L) rfl)
 clear hS30
 obtain ⟨t1, t2, t3, t4, t5, t6⟩ := rt_two hb1 hb2
 have hzb : ∀ b ∈ [b1, b2], SzB b := fun b hb => by rcases List.mem_cons.1 hb with e | hb; (· rw [e]; exact hs1); (· rw [List.mem_singleton.1 hb]; exact hs2)
 have hwg : ∀ b ∈ [b1, b2], wgt b ≤ 1000000 := fun b hb => by rcases List.mem_cons.1 hb with e | hb; (· rw [e]; exact t4); (· rw [List.mem_singleton.1 hb]; exact t5)
 have hmp : [b1, b2].map BlkV.p = [z1B, z2B].map BlkV.p := by rw [List.map_cons, List.map_cons, hb1, hb2]; rfl
 have hcap := hS31.own_le_i 0 rfl
 refine WP.region rfl ?_
 refine WO.mv rfl rfl ?_
 have hS32 : St B (.pure True :: _::_::_::_::L) w27 := hS31.addPure trivial
 clear hS31
 have hS33 : St B (_::_::_::_::_::_::L) w27 := hS32.addPure trivial
 clear hS32
 have hS34 : St B (_::_::_::_::_::_::_::L) w27 := hS33.addPure trivial
 clear hS33
 have hS35 := hS34.permT [3, 3] (L' := _::_::_::_::_::_::_::L) rfl
 clear hS34
 refine WO.call rfl rfl Ty.hd18 rfl (pquery_spec (cap := 2) (cap2 := 0) (cap3 := 0) (a := some ⟨g28, 0, none⟩) (b := none) (m := none) (bs := [b1, b2]) (dels := []) (ask := []) (X := own (some ⟨g28, 0, none⟩) ([b1, b2].length) 2 46 4 ([b1, b2].flatMap blc)) (D := .pure True) (M := .pure True) (fun h => h.own_rd.1) (fun _ => rd_nilQ 5) (fun _ => rd_nilQ 3) hzb (fun r hr => by cases hr) t6 (fun p hp => by cases hp) (by decide) hcap (by show (2 : Nat) ≤ _; decide) (by omega) (by omega) (by show (0 : Nat) + dtot [b1, b2] ≤ _; rw [t3]; decide) 0 99 hS35) (fun v37 w36 pv37 => ?_)
 obtain ⟨a1, c1, o1, rfl, ho1, hn1b, hz1, hS36⟩ := pv37
 clear hS35
 obtain ⟨la9, lc9, pa9, pc9, rfl⟩ := ser_one (lb := laP) (ps := [⟨12, 0⟩]) (ho1.trans (by rw [hmp]; exact v_q))
 have hS38 := serA_get (x := (⟨⟨la9, laP, lc9⟩, ⟨pa9, [⟨12, 0⟩], pc9⟩⟩ : MSer)) (List.mem_singleton_self _) (hS36.permT [1] (L' := _::_::_::_::_::_::_::_::_::L) rfl)
 replace hS38 : St B (labA ⟨la9, laP, lc9⟩ :: (rdH pa9 1 2 [Value.int .i64 12, Value.int .u64 0]) :: _::own a1 1 c1 68 2 [Value.slice la9 1 lc9, Value.slice pa9 1 pc9] :: _::_::_::_::_::_::_::L) w36 := hS38
 clear hS36
 have hS39 : St B (_::_::_::_::_::_::L) w36 := (hS38.mask [false, true, false, true, true, true, false, false, false] (L' := _::_::_::_::_::_::L) rfl)
 clear hS38
 refine WO.asg rfl rfl ?_
 refine WO.nil (NX.go (WP.seq (WP.region rfl ?_)))
 refine WO.mv rfl rfl ?_
 have hS40 := hS39.permT [2, 2] (L' := _::_::_::_::_::_::L) rfl
 clear hS39
 refine WO.call rfl rfl Ty.hd22 rfl ((by have z := pjoin_spec (cap := 2) (a := some ⟨g28, 0, none⟩) (bs := [b1, b2]) (X := own (some ⟨g28, 0, none⟩) ([b1, b2].length) 2 46 4 ([b1, b2].flatMap blc)) (fun h => h.own_rd.1) (fun b hb => mz_of (hzb b hb)) (by show (2 : Nat) ≤ 64; decide) hwg hcap 0 hS40; rw [joinV_p hmp, v_j] at z; exact z)) (fun v42 w41 pv42 => ?_)
 obtain ⟨c9, rfl, hp9, hs9, hS41⟩ := pv42
 clear hS40
 obtain ⟨ja, jc, jl, jlc, jp, jpc, jd, jdc, rfl⟩ := blk_one hp9
 have hS43 := blA_open (b := (⟨1, 3, ⟨ja, [⟨⟨jl, laP, jlc⟩, 12, ⟨jp, [⟨12, 0⟩], jpc⟩⟩], jc⟩, ⟨jd, [], jdc⟩⟩ : BlkV)) hS41
 replace hS43 : St B ((rdH ja 1 3 [Value.slice jl 1 jlc, Value.int .i64 12, Value.slice jp 1 jpc]) :: allA mrA (⟨1, 3, ⟨ja, [⟨⟨jl, laP, jlc⟩, 12, ⟨jp, [⟨12, 0⟩], jpc⟩⟩], jc⟩, ⟨jd, [], jdc⟩⟩ : BlkV).rs.l :: dsA (⟨1, 3, ⟨ja, [⟨⟨jl, laP, jlc⟩, 12, ⟨jp, [⟨12, 0⟩], jpc⟩⟩], jc⟩, ⟨jd, [], jdc⟩⟩ : BlkV).ds :: allA recA (⟨1, 3, ⟨ja, [⟨⟨jl, laP, jlc⟩, 12, ⟨jp, [⟨12, 0⟩], jpc⟩⟩], jc⟩, ⟨jd, [], jdc⟩⟩ : BlkV).ds.l :: blA (⟨1, 3, ⟨ja, [⟨⟨jl, laP, jlc⟩, 12, ⟨jp, [⟨12, 0⟩], jpc⟩⟩], jc⟩, ⟨jd, [], jdc⟩⟩ : BlkV) :: _::_::_::_::_::_::L) w41 := hS43
 clear hS41
 have hS44 : St B (_::_::_::_::_::_::_::L) w41 := (hS43.mask [true, false, false, false, false] (L' := _::_::_::_::_::_::_::L) rfl)
 clear hS43
 refine WO.mv rfl rfl ?_
 refine WO.V (run_extract rfl rfl) ?_
 refine WO.V (run_extract rfl rfl) ?_
 refine WO.alloc (l := [Value.int .i64 0, Value.int .i64 0, Value.slice none 0 0, Value.slice none 0 0]) hS44 Ty.zr46 rfl rfl (fun g47 w45 lg47 hS45 => ?_)
 clear hS44
 refine WO.store (l' := [Value.int .i64 1, Value.int .i64 3, Value.slice ja 1 jc, Value.slice jd 0 jdc]) 0 hS45 rfl Ty.sz46 rfl rfl rfl rfl rfl (Nat.le_of_ble_eq_true rfl) rfl (fun w48 (hS48 : St B (cel g47 [Value.int .i64 1, Value.int .i64 3, Value.slice ja 1 jc, Value.slice jd 0 jdc] 46 :: _::_::_::_::_::_::_::L) w48) => ?_)
 clear hS45
 refine WO.asg rfl rfl ?_
 refine WO.nil (NX.go (WP.seq ?_))
 have hs1a : a1.isSome = true := rd_isSome ((hS48.own_rd_i 5 rfl)) (by omega)
 have hs2a : pa9.isSome = true := rd_isSome ((rdH_rd (hS48.focus 4 rfl))) (by omega)
 have hs3a : ja.isSome = true := rd_isSome ((rdH_rd (hS48.focus 1 rfl))) (by omega)
 refine WP.region rfl ?_
 refine WO.mv rfl rfl ?_
 have hS49 := hS48.permT [2, 2] (L' := _::_::_::_::_::_::_::_::L) rfl
 clear hS48
 refine WO.call rfl rfl Ty.hd21 rfl ((by have z := pfollow_spec (cap := 2) (a := some ⟨g28, 0, none⟩) (bs := [b1, b2]) (X := own (some ⟨g28, 0, none⟩) ([b1, b2].length) 2 46 4 ([b1, b2].flatMap blc)) (fun h => h.own_rd.1) (fun b hb => mz_of (hzb b hb)) (by show (2 : Nat) ≤ 64; decide) hwg hS49; rw [followV_p hmp, v_f] at z; exact z)) (fun v51 w50 pv51 => ?_)
 obtain ⟨rfl, hS50⟩ := pv51
 clear hS49
 refine WO.V (run_eql rfl rfl) ?_
 refine WO.mv rfl rfl ?_
 refine WO.on rfl rfl (by decide) ?_
 refine WO.mv rfl rfl ?_
 refine WO.on rfl rfl (by decide) ?_
 refine WO.V (run_len rfl Tryz.underlying37 rfl) ?_
 refine WO.on rfl rfl (by decide) ?_
 refine WO.V (run_eql rfl rfl) ?_
 refine WO.V (run_pickT rfl (by decide) rfl) ?_
 refine WO.mv rfl rfl ?_
 refine dcase (p := (1 : Int) = 1) (fun g46 d46 => ?_) (fun g46 d46 => ?_)
 ·
  refine WO.on rfl rfl d46 ?_
  refine WO.mv rfl rfl ?_
  refine WO.on rfl rfl d46 ?_
  refine WO.V (run_indexAddr (q := adr a1 (0 * 2)) Tryz.underlying37 Ty.sz68 rfl rfl (by omega) (Int.ofNat_lt.2 (Nat.zero_lt_succ 0)) ((hS50.own_rd_i 5 rfl).2.1 (by omega)) rfl) ?_
  refine WO.on rfl rfl d46 ?_
  refine WO.V (run_fa 1 (adr a1 (0 * 2 + 1)) rfl (adr_add _ (by assumption) _ _)) ?_
  refine WO.on rfl rfl d46 ?_
  refine WO.V (run_load Ty.ag66 rfl ((hS50.own_rd_i 5 rfl).cell rfl)) ?_
  refine WO.on rfl rfl d46 ?_
  refine WO.V (run_len rfl Tryz.underlying66 rfl) ?_
  refine WO.on rfl rfl d46 ?_
  refine WO.V (run_eql rfl rfl) ?_
  refine WO.V (run_pickT rfl d46 rfl) ?_
  refine WO.mv rfl rfl ?_
  refine dcase (p := (1 : Int) = 1) (fun g54 d54 => ?_) (fun g54 d54 => ?_)
  ·
   refine WO.on rfl rfl d54 ?_
   refine WO.mv rfl rfl ?_
   refine WO.on rfl rfl d54 ?_
   refine WO.V (run_indexAddr (q := adr a1 (0 * 2)) Tryz.underlying37 Ty.sz68 rfl rfl (by omega) (Int.ofNat_lt.2 (Nat.zero_lt_succ 0)) ((hS50.own_rd_i 5 rfl).2.1 (by omega)) rfl) ?_
   refine WO.on rfl rfl d54 ?_
   refine WO.V (run_fa 1 (adr a1 (0 * 2 + 1)) rfl (adr_add _ (by assumption) _ _)) ?_
   refine WO.on rfl rfl d54 ?_
   refine WO.V (run_load Ty.ag66 rfl ((hS50.own_rd_i 5 rfl).cell rfl)) ?_
   refine WO.on rfl rfl d54 ?_
   refine WO.V (run_indexAddr (q := adr pa9 (0 * 2)) Tryz.underlying66 Ty.sz103 rfl rfl (by omega) (Int.ofNat_lt.2 (Nat.zero_lt_succ 0)) ((rdH_rd (hS50.focus 4 rfl)).2.1 (by omega)) rfl) ?_
   refine WO.on rfl rfl d54 ?_
   refine WO.V (run_fa 0 (adr pa9 (0 * 2 + 0)) rfl (adr_add _ (by assumption) _ _)) ?_
   refine WO.on rfl rfl d54 ?_
   refine WO.V (run_load Ty.ag2 rfl ((rdH_rd (hS50.focus 4 rfl)).cell rfl)) ?_
   refine WO.on rfl rfl d54 ?_
   refine WO.V (run_eql rfl rfl) ?_
   refine WO.V (run_pickT rfl d54 rfl) ?_
   refine WO.mv rfl rfl ?_
   refine WO.on rfl rfl (by decide) ?_
   refine WO.mv rfl rfl ?_
   refine WO.on rfl rfl (by decide) ?_
   refine WO.V (run_eql rfl rfl) ?_
   refine WO.V (run_pickT rfl (by decide) rfl) ?_
   refine WO.mv rfl rfl ?_
   refine WO.on rfl rfl (by decide) ?_
   refine WO.V (run_fa 2 ⟨g47, 2, none⟩ rfl rfl) ?_
   refine WO.on rfl rfl (by decide) ?_
   refine WO.V (run_load Ty.ag44 rfl ((hS50.cel_at 2 rfl 2).trans rfl)) ?_
   refine WO.on rfl rfl (by decide) ?_
   refine WO.V (run_len rfl Tryz.underlying44 rfl) ?_
   refine WO.on rfl rfl (by decide) ?_
   refine WO.V (run_eql rfl rfl) ?_
   refine WO.V (run_pickT rfl (by decide) rfl) ?_
   refine WO.mv rfl rfl ?_
   refine dcase (p := (1 : Int) = 1) (fun g74 d74 => ?_) (fun g74 d74 => ?_)
   ·
    refine WO.on rfl rfl d74 ?_
    refine WO.V (run_fa 2 ⟨g47, 2, none⟩ rfl rfl) ?_
    refine WO.on rfl rfl d74 ?_
    refine WO.V (run_load Ty.ag44 rfl ((hS50.cel_at 2 rfl 2).trans rfl)) ?_
    refine WO.on rfl rfl d74 ?_
    refine WO.V (run_indexAddr (q := adr ja (0 * 3)) Tryz.underlying44 Ty.sz93 rfl rfl (by omega) (Int.ofNat_lt.2 (Nat.zero_lt_succ 0)) ((rdH_rd (hS50.focus 3 rfl)).2.1 (by omega)) rfl) ?_
    refine WO.on rfl rfl d74 ?_
    refine WO.V (run_fa 2 (adr ja (0 * 3 + 2)) rfl (adr_add _ (by assumption) _ _)) ?_
    refine WO.on rfl rfl d74 ?_
    refine WO.V (run_load Ty.ag66 rfl ((rdH_rd (hS50.focus 3 rfl)).cell rfl)) ?_
    refine WO.on rfl rfl d74 ?_
    refine WO.V (run_len rfl Tryz.underlying66 rfl) ?_
    refine WO.on rfl rfl d74 ?_
    refine WO.V (run_eql rfl rfl) ?_
    refine WO.V (run_pickT rfl d74 rfl) ?_
    refine WO.mv rfl rfl ?_
    refine dcase (p := (1 : Int) = 1) (fun g83 d83 => ?_) (fun g83 d83 => ?_)
    ·
     refine WO.on rfl rfl d83 ?_
     refine WO.V (run_fa 2 ⟨g47, 2, none⟩ rfl rfl) ?_
     refine WO.on rfl rfl d83 ?_
     refine WO.V (run_load Ty.ag44 rfl ((hS50.cel_at 2 rfl 2).trans rfl)) ?_
     refine WO.on rfl rfl d83 ?_
     refine WO.V (run_indexAddr (q := adr ja (0 * 3)) Tryz.underlying44 Ty.sz93 rfl rfl (by omega) (Int.ofNat_lt.2 (Nat.zero_lt_succ 0)) ((rdH_rd (hS50.focus 3 rfl)).2.1 (by omega)) rfl) ?_
     refine WO.on rfl rfl d83 ?_
     refine WO.V (run_fa 1 (adr ja (0 * 3 + 1)) rfl (adr_add _ (by assumption) _ _)) ?_
     refine WO.on rfl rfl d83 ?_
     refine WO.V (run_load Ty.ag2 rfl ((rdH_rd (hS50.focus 3 rfl)).cell rfl)) ?_
     refine WO.on rfl rfl d83 ?_
     refine WO.V (run_eql rfl rfl) ?_
     refine WO.V (run_pickT rfl d83 rfl) ?_
     refine WO.mv rfl rfl ?_
     refine WO.on rfl rfl (by decide) ?_
     refine WO.V (run_fa 1 ⟨g47, 1, none⟩ rfl rfl) ?_
     refine WO.on rfl rfl (by decide) ?_
     refine WO.V (run_load Ty.ag3 rfl ((hS50.cel_at 2 rfl 1).trans rfl)) ?_
     refine WO.on rfl rfl (by decide) ?_
     refine WO.V (run_eql rfl rfl) ?_
     refine WO.V (run_pickT rfl (by decide) rfl) ?_
     refine WO.mv rfl rfl ?_
     refine WO.on rfl rfl (by decide) ?_
     refine WO.mv rfl rfl ?_
     refine WO.on rfl rfl (by decide) ?_
     refine WO.call rfl rfl Ty.hd27 rfl (plasts_spec (cap := 2) (a := some ⟨g28, 0, none⟩) (bs := [b1, b2]) (X := own (some ⟨g28, 0, none⟩) ([b1, b2].length) 2 46 4 ([b1, b2].flatMap blc)) (fun h => h.own_rd.1) (fun b hb => mz_of (hzb b hb)) (by show (2 : Nat) ≤ 64; decide) hwg (follow_chk ((followV_p hmp).trans v_f)) hS50) (fun v53 w52 pv53 => ?_)
     obtain ⟨xa, xc, l1, rfl, hm1, hl1, hc1, hq1, hS52⟩ := pv53
     clear hS50
     obtain ⟨u1, u2, u3, u4, rfl⟩ := row_one (hm1.trans (by rw [hmp]; exact v_l2))
     have hS54 : St B (_::_::_::_::_::_::_::_::L) w52 := hS52.drop.drop
     clear hS52
     refine WO.on rfl rfl (by decide) ?_
     refine WO.V (run_len rfl Tryz.underlying44 rfl) ?_
     refine WO.on rfl rfl (by decide) ?_
     refine WO.V (run_eql rfl rfl) ?_
     refine WO.V (run_pickT rfl (by decide) rfl) ?_
     refine WO.asg rfl rfl ?_
     refine WO.nil (NX.go (WP.ret ?_))
     refine NX.done (l := [.tmp 0]) rfl rfl ?_
     exact ⟨rfl, hS54.drop.drop.drop.drop.drop.drop.drop.drop⟩
    ·
     exact absurd rfl g83
   ·
    exact absurd rfl g74
  ·
   exact absurd rfl g54
 ·
  exact absurd rfl g46
end Go.Proofs.YtidoidoelgfnaaaGreatDoor.SL
