/- The head: the greatest time. -/
import Derived.Test.YtidoidoelgfnaaaDoorHk1M
import Derived.Test.YtidoidoelgfnaaaDoorHdM
namespace Go.Proofs.YtidoidoelgfnaaaDoor.SL
open Go.RowKit Go.Proofs.YtidoidoelgfnaaaDoor
open Go.Proofs.YtidoidoelgfnaaaDoorW.PrintLast (rtab opsOf)
set_option linter.unusedVariables false
set_option linter.unusedSimpArgs false

theorem topOf_first (r : RowP) : TopOf [r] r.last := .inr ⟨⟨r, List.mem_singleton_self _, rfl⟩, fun q hq => by rw [List.mem_singleton.1 hq]; exact Int.le_refl _⟩
theorem topOf_gt {A : List RowP} {t : Int} {r : RowP} (h : TopOf A t) (hg : t < r.last) : TopOf (A ++ [r]) r.last := by
  refine .inr ⟨⟨r, by simp, rfl⟩, fun q hq => ?_⟩
  rcases List.mem_append.1 hq with hq | hq
  · rcases h with ⟨e, _⟩ | ⟨_, h2⟩
    · rw [e] at hq; cases hq
    · have := h2 q hq; omega
  · rw [List.mem_singleton.1 hq]; exact Int.le_refl _
theorem topOf_le {A : List RowP} {t : Int} {r : RowP} (h : TopOf A t) (hA : 0 < A.length) (hg : r.last ≤ t) : TopOf (A ++ [r]) t := by
  rcases h with ⟨e, _⟩ | ⟨⟨x, hx, h1⟩, h2⟩
  · rw [e] at hA; simp at hA
  · refine .inr ⟨⟨x, by simp [hx], h1⟩, fun q hq => ?_⟩
    rcases List.mem_append.1 hq with hq | hq
    · exact h2 q hq
    · rw [List.mem_singleton.1 hq]; exact hg
theorem htop_spec {B w : World} {L : List HP} {g : Nat} {A : List RowP} (hS : St B (hdA 56 61 51 g A :: L) w) : Does Tryd.prog 13 [Value.pointer (some ⟨g, 0, none⟩)] w (fun v w1 => ∃ t, TopOf A t ∧ v = .tuple #[.int .i64 t, .bool (decide (0 < A.length))] ∧ St B (hdA 56 61 51 g A :: L) w1) := by
 obtain ⟨m, gs, S, hp, hlen, hS⟩ := hd_open hS
 have hSl : S.length = A.length := by have := hp.length_eq; rwa [List.length_map] at this
 refine enter (n := 31) Tryd.func13 rfl rfl [Value.pointer (some ⟨g, 0, none⟩)] rfl ?_
 refine WP.seq (WP.region rfl ?_)
 refine WO.asg rfl rfl ?_
 refine WO.asg rfl rfl ?_
 refine WO.nil (NX.go (WP.seq (WP.seq (WP.region rfl ?_))))
 refine WO.mv rfl rfl ?_
 refine WO.V (run_nilCheck rfl) ?_
 refine WO.V (run_fa 0 ⟨g, 0, none⟩ rfl rfl) ?_
 refine WO.V (run_load Ty.ag54 rfl ((hS.cel_at 0 rfl 0).trans rfl)) ?_
 refine WO.rangeM 1 hS rfl Tryd.underlying54 rfl rfl (fun r2 w1 hS1 => ?_)
 clear hS
 refine WO.nil (NX.go (WP.block ?_))
 refine WP.loop (α := List (Nat × MRow) × List MRow × Int × List (List UInt8 × Value) × Option (List UInt8 × Value)) (fun x => match x with | ⟨rr, ol, t, rst, cur⟩ => [(0, Value.pointer (some ⟨g, 0, none⟩)), (2, Value.int .i64 t), (3, Value.bool (decide (0 < ol.length))), (10, Value.pointer (some ⟨r2, 0, none⟩))]) (fun x w => match x with | ⟨rr, ol, t, rst, cur⟩ => (rst.Perm (entO rr) ∧ (rr.map Prod.snd ++ ol).Perm S ∧ (∀ z ∈ rr, z ∈ gs.zip S) ∧ TopOf (ol.map MRow.p) t) ∧ St B (itM m r2 (entR gs S) rst cur :: sqA (hsA 61 51) gs S :: cel g [Value.map (some m)] 56 :: L) w) (fun x => match x with | ⟨rr, ol, t, rst, cur⟩ => rst.length) (gs.zip S, [], 0, entR gs S, none) ⟨⟨List.Perm.refl _, by rw [show (gs.zip S).map Prod.snd = S from zip_snd hlen, List.append_nil], fun z hz => hz, .inl ⟨rfl, rfl⟩⟩, (hS1.permT [1, 1] (L' := itM m r2 (entR gs S) (entR gs S) none :: sqA (hsA 61 51) gs S :: cel g [Value.map (some m)] 56 :: L) rfl)⟩ (Sub.cons rfl (Sub.consE rfl (by first | rfl | first | rfl | (congr 1; omega) | (simp; done) | (simp; omega)) (Sub.consE rfl (by first | rfl | first | rfl | (congr 1; omega) | (simp; done) | (simp; omega)) (Sub.cons rfl (Sub.nil _))))) ?_
 rintro ⟨rr, ol, t, rst, cur⟩ w3 ⟨⟨hR, hperm, hin, htop⟩, hS3⟩
 clear hS1
 refine WP.seq (WP.region rfl ?_)
 refine WO.nextM 0 hS3 rfl rfl rfl (fun e11 => ?_) (fun pre11 nk nv post11 e11 w4 hS4 => ?_)
 ·
  refine WO.V (run_extract rfl rfl) ?_
  refine WO.nil (NX.go (WP.seq ?_))
  refine WP.condF rfl rfl ?_
  refine WP.exit (NX.thenExit (NX.thenExit ?_))
  refine NX.blkExit ?_
  refine NX.go (WP.seq ?_)
  have hrn : rr = [] := by subst e11; have := hR.length_eq; unfold entO at this; rw [List.length_map] at this; exact List.length_eq_zero_iff.1 (by simpa using this.symm)
  subst hrn
  have hEnd := St.itM_end hS3
  clear hS3
  refine WP.region rfl ?_
  refine WO.mv rfl rfl ?_
  refine WO.mv rfl rfl ?_
  refine WO.asg rfl rfl ?_
  refine WO.asg rfl rfl ?_
  refine WO.nil (NX.go (WP.ret ?_))
  refine NX.done (l := [.tmp 2, .tmp 3]) rfl rfl ?_
  have hol : ol.Perm S := by simpa using hperm
  have hln : ol.length = A.length := by rw [hol.length_eq, hSl]
  exact ⟨t, topOf_perm ((hol.map MRow.p).trans hp) htop, by rw [hln]; rfl, hd_shut hp ((hEnd.permT [2] (L' := cel g [Value.map (some m)] 56 :: mpS m (entR gs S) :: sqA (hsA 61 51) gs S :: L) rfl))⟩
 ·
  obtain ⟨⟨q, row⟩, rr2, hp1, rfl, hp2⟩ := ent_step hR e11
  obtain ⟨j, hj1, hj2⟩ := zip_at (hin (q, row) (hp1.mem_iff.2 (List.mem_cons_self ..)))
  simp only at hj1 hj2
  obtain ⟨q', hq', hS5⟩ := sqA_pick hj2 (hS4.permT [1] (L' := sqA (hsA 61 51) gs S :: itM m r2 (entR gs S) (pre11 ++ post11) (some (nk, ptrG q)) :: cel g [Value.map (some m)] 56 :: L) rfl)
  have hqq : q' = q := by rw [hj1] at hq'; exact (Option.some.inj hq').symm
  subst hqq
  clear hS4
  have hS6 : St B (cel q' (hsc row) 61 :: (labA row.lb) :: own row.pt.a row.pt.l.length row.pt.cap 51 2 (row.pt.l.flatMap ptc) :: sqBut (hsA 61 51) j gs S :: itM m r2 (entR gs S) (pre11 ++ post11) (some (nk, ptrG q')) :: cel g [Value.map (some m)] 56 :: L) w4 := hs_open hS5
  clear hS5
  refine WO.V (run_extract rfl rfl) ?_
  refine WO.nil (NX.go (WP.seq ?_))
  refine WP.condT rfl rfl ?_
  refine WP.skip (NX.go (WP.block (WP.seq (WP.region rfl ?_))))
  refine WO.V (run_entryM (d := 0) 4 hS6 rfl rfl) ?_
  refine WO.V (run_extract rfl rfl) ?_
  refine WO.asg rfl rfl ?_
  refine WO.nil (NX.go (WP.seq (WP.region rfl ?_)))
  refine WO.mv rfl rfl ?_
  refine WO.V (run_notP rfl) ?_
  refine WO.mv rfl rfl ?_
  refine dcase (p := ¬ (0 < ol.length)) (fun g17 d17 => ?_) (fun g17 d17 => ?_)
  ·
   refine WO.off rfl rfl d17 rfl ?_
   refine WO.off rfl rfl d17 rfl ?_
   refine WO.off rfl rfl d17 rfl ?_
   refine WO.off rfl rfl d17 rfl ?_
   refine WO.off rfl rfl d17 rfl ?_
   refine WO.off rfl rfl d17 rfl ?_
   refine WO.V (run_pickT rfl d17 rfl) ?_
   refine WO.nil (NX.go ?_)
   refine WP.condT rfl rfl ?_
   refine WP.region rfl ?_
   refine WO.mv rfl rfl ?_
   refine WO.V (run_nilCheck rfl) ?_
   refine WO.V (run_fa 2 ⟨q', 2, none⟩ rfl rfl) ?_
   refine WO.V (run_load Ty.ag2 rfl ((hS6.cel_at 0 rfl 2).trans rfl)) ?_
   refine WO.asg rfl rfl ?_
   refine WO.asg rfl rfl ?_
   refine WO.nil (NX.blk ?_)
   have hS7 := hs_shut (tS := 61) (tP := 51) (g := q') (r := row) hS6
   clear hS6
   have hS8 := sqA_same hj2 hj1 hS7
   clear hS7
   exact NX.again (rr2, ol ++ [row], row.last, pre11 ++ post11, some (nk, ptrG q')) ⟨⟨hp2, by rw [← List.append_assoc]; exact (List.perm_append_comm.trans ((List.Perm.cons row (List.Perm.refl _)))).trans ((hp1.map Prod.snd).append_right ol).symm |>.trans hperm, fun z hz => hin z (hp1.mem_iff.2 (List.mem_cons_of_mem _ hz)), by rw [List.map_append]; exact (by obtain rfl : ol = [] := List.length_eq_zero_iff.1 (by omega); exact topOf_first row.p)⟩, (hS8.permT [1] (L' := itM m r2 (entR gs S) (pre11 ++ post11) (some (nk, ptrG q')) :: sqA (hsA 61 51) gs S :: cel g [Value.map (some m)] 56 :: L) rfl)⟩ (by show (pre11 ++ post11).length < rst.length; rw [e11]; simp only [List.length_append, List.length_cons]; omega) (Sub.cons rfl (Sub.consE rfl rfl (Sub.consE rfl (congrArg Value.bool (by simp)) (Sub.cons rfl (Sub.nil _)))))
  ·
   refine WO.on rfl rfl d17 ?_
   refine WO.mv rfl rfl ?_
   refine WO.on rfl rfl d17 ?_
   refine WO.V (run_nilCheck rfl) ?_
   refine WO.on rfl rfl d17 ?_
   refine WO.V (run_fa 2 ⟨q', 2, none⟩ rfl rfl) ?_
   refine WO.on rfl rfl d17 ?_
   refine WO.V (run_load Ty.ag2 rfl ((hS6.cel_at 0 rfl 2).trans rfl)) ?_
   refine WO.on rfl rfl d17 ?_
   refine WO.mv rfl rfl ?_
   refine WO.on rfl rfl d17 ?_
   refine WO.V (run_gtr rfl rfl) ?_
   refine WO.V (run_pickF rfl d17 rfl) ?_
   refine WO.nil (NX.go ?_)
   refine WP.condP rfl (fun g24 => ?_) (fun g24 => ?_)
   ·
    refine WP.region rfl ?_
    refine WO.mv rfl rfl ?_
    refine WO.V (run_nilCheck rfl) ?_
    refine WO.V (run_fa 2 ⟨q', 2, none⟩ rfl rfl) ?_
    refine WO.V (run_load Ty.ag2 rfl ((hS6.cel_at 0 rfl 2).trans rfl)) ?_
    refine WO.asg rfl rfl ?_
    refine WO.asg rfl rfl ?_
    refine WO.nil (NX.blk ?_)
    have hS9 := hs_shut (tS := 61) (tP := 51) (g := q') (r := row) hS6
    clear hS6
    have hS10 := sqA_same hj2 hj1 hS9
    clear hS9
    exact NX.again (rr2, ol ++ [row], row.last, pre11 ++ post11, some (nk, ptrG q')) ⟨⟨hp2, by rw [← List.append_assoc]; exact (List.perm_append_comm.trans ((List.Perm.cons row (List.Perm.refl _)))).trans ((hp1.map Prod.snd).append_right ol).symm |>.trans hperm, fun z hz => hin z (hp1.mem_iff.2 (List.mem_cons_of_mem _ hz)), by rw [List.map_append]; exact (topOf_gt (r := row.p) htop g24)⟩, (hS10.permT [1] (L' := itM m r2 (entR gs S) (pre11 ++ post11) (some (nk, ptrG q')) :: sqA (hsA 61 51) gs S :: cel g [Value.map (some m)] 56 :: L) rfl)⟩ (by show (pre11 ++ post11).length < rst.length; rw [e11]; simp only [List.length_append, List.length_cons]; omega) (Sub.cons rfl (Sub.consE rfl rfl (Sub.consE rfl (congrArg Value.bool (by simp)) (Sub.cons rfl (Sub.nil _)))))
   ·
    refine WP.skip (NX.blk ?_)
    have hS11 := hs_shut (tS := 61) (tP := 51) (g := q') (r := row) hS6
    clear hS6
    have hS12 := sqA_same hj2 hj1 hS11
    clear hS11
    exact NX.again (rr2, ol ++ [row], t, pre11 ++ post11, some (nk, ptrG q')) ⟨⟨hp2, by rw [← List.append_assoc]; exact (List.perm_append_comm.trans ((List.Perm.cons row (List.Perm.refl _)))).trans ((hp1.map Prod.snd).append_right ol).symm |>.trans hperm, fun z hz => hin z (hp1.mem_iff.2 (List.mem_cons_of_mem _ hz)), by rw [List.map_append]; exact (topOf_le (r := row.p) htop (by rw [List.length_map]; omega) (by show row.last ≤ t; omega))⟩, (hS12.permT [1] (L' := itM m r2 (entR gs S) (pre11 ++ post11) (some (nk, ptrG q')) :: sqA (hsA 61 51) gs S :: cel g [Value.map (some m)] 56 :: L) rfl)⟩ (by show (pre11 ++ post11).length < rst.length; rw [e11]; simp only [List.length_append, List.length_cons]; omega) (Sub.cons rfl (Sub.consE rfl rfl (Sub.consE rfl (congrArg Value.bool (by simp; omega)) (Sub.cons rfl (Sub.nil _)))))
end Go.Proofs.YtidoidoelgfnaaaDoor.SL
