/- strings.Trim at an ASCII cutset. -/
import Derived.Test.YtidoidoelgfnaaaGreatDoorTy
import Derived.Test.YtidoidoelgfnaaaGreatDoorSh
import Derived.Test.YtidoidoelgfnaaaGreatDoorShelf
namespace Go.Proofs.YtidoidoelgfnaaaGreatDoor.SL
open Go.RowKit Go.Proofs.YtidoidoelgfnaaaGreatDoor
open Go.Proofs.YtidoidoelgfnaaaGreatDoorW.PrintLast (rtab opsOf)
set_option linter.unusedVariables false
set_option linter.unusedSimpArgs false

open Go.Lib
def setC (cs : List UInt8) : List Value := (Lib.setCells cs).toList
theorem setC_len (cs : List UInt8) : (setC cs).length = 256 := by unfold setC; rw [Array.length_toList, Lib.setCells_size]
theorem setC_at (cs : List UInt8) (x : UInt8) : (setC cs)[x.toNat]? = some (.bool (cs.contains x)) := by unfold setC; rw [Array.getElem?_toList, Lib.setCells_at]
theorem noAgg_of_one {v : Value} (h : v.oneCell' = true) : noAgg v = true := by cases v <;> first | rfl | cases h
theorem setC_noAgg (cs : List UInt8) : (setC cs).all noAgg = true := by
  have h := Lib.setCells_one cs
  rw [← Array.all_toList] at h
  exact List.all_eq_true.2 fun v hv => noAgg_of_one (List.all_eq_true.1 h v hv)
def trimL (l cs : List UInt8) : List UInt8 := l.dropWhile (cs.contains ·)
def trimR (l cs : List UInt8) : List UInt8 := (l.reverse.dropWhile (cs.contains ·)).reverse
def trimA (l cs : List UInt8) : List UInt8 := trimL (trimR l cs) cs
theorem zeroSet : zeroB Tryz.prog 216 = some (.agg (Array.replicate 256 (.bool false))) := by kernel_rfl
def Ascii (cs : List UInt8) : Prop := ∀ (j : Nat) b, cs[j]? = some b → b.toNat < 128
theorem mkset_spec {B w : World} {L : List HP} (cs : List UInt8) (h1 : cs.length < 4294967281) (ha : Ascii cs) (hS : St B L w) : Does Tryz.prog 152 [str cs] w (fun v w1 => v = .tuple #[.agg (Lib.setCells cs), .bool true] ∧ St B L w1) := by
  refine (Tryz.strings_makeASCIISet (run_zero zeroSet) (bs cs) w h1 ha).mono ?_
  rintro e w' ⟨rfl, rfl⟩
  exact ⟨_, rfl, rfl, show St B L (w.alloc (.cells (Lib.setCells cs) 216)) from (St.new (w' := w.alloc (.cells (Lib.setCells cs) 216)) hS (.cells (Lib.setCells cs) 216) rfl rfl rfl rfl).drop⟩
theorem trimL_step {cs z : List UInt8} {c : UInt8} (h : cs.contains c = true) : trimL (c :: z) cs = trimL z cs := by unfold trimL; rw [List.dropWhile_cons_of_pos h]
theorem trimL_stop {cs z : List UInt8} {c : UInt8} (h : cs.contains c = false) : trimL (c :: z) cs = c :: z := by unfold trimL; rw [List.dropWhile_cons_of_neg (by rw [h]; decide)]
theorem trimR_step {cs z : List UInt8} {c : UInt8} (h : cs.contains c = true) : trimR (z ++ [c]) cs = trimR z cs := by unfold trimR; rw [List.reverse_append]; show (List.dropWhile _ (c :: z.reverse)).reverse = _; rw [List.dropWhile_cons_of_pos h]
theorem trimR_stop {cs z : List UInt8} {c : UInt8} (h : cs.contains c = false) : trimR (z ++ [c]) cs = z ++ [c] := by unfold trimR; rw [List.reverse_append]; show (List.dropWhile _ (c :: z.reverse)).reverse = _; rw [List.dropWhile_cons_of_neg (by rw [h]; decide)]; simp
theorem trimR_le (l cs : List UInt8) : (trimR l cs).length ≤ l.length := by
  unfold trimR; rw [List.length_reverse]
  have := (List.dropWhile_sublist (cs.contains ·) (l := l.reverse)).length_le
  simpa using this
theorem contains_spec {B w : World} {L : List HP} {g : Nat} {cs : List UInt8} (x : UInt8) (hS : St B (cel g (setC cs) 216 :: L) w) : Does Tryz.prog 171 [Value.pointer (some ⟨g, 0, none⟩), Value.int .u8 (x.toNat : Int)] w (fun v w1 => v = .bool (cs.contains x) ∧ St B (cel g (setC cs) 216 :: L) w1) := by
 have hx8 := UInt8.toNat_lt x
 refine enter (n := 10) Tryz.func171 rfl rfl [Value.pointer (some ⟨g, 0, none⟩), Value.int .u8 (x.toNat : Int)] rfl ?_
 refine WP.seq (WP.region rfl ?_)
 refine WO.asg rfl rfl ?_
 refine WO.nil (NX.go (WP.seq (WP.region rfl ?_)))
 refine WO.mv rfl rfl ?_
 refine WO.mv rfl rfl ?_
 refine WO.V (run_nilCheck rfl) ?_
 refine WO.V (run_indexAddrA (q := ⟨g, x.toNat, none⟩) Tryz.underlying216 Ty.sz4 rfl rfl (by omega) (by omega) (by simp)) ?_
 refine WO.V (run_load Ty.ag4 rfl ((hS.cel_at 0 rfl _).trans (setC_at cs x))) ?_
 refine WO.asg rfl rfl ?_
 refine WO.nil (NX.go (WP.ret ?_))
 refine NX.done (l := [.tmp 4]) rfl rfl ?_
 exact ⟨rfl, hS⟩
theorem trimLA_spec {B w : World} {L : List HP} {g : Nat} {cs : List UInt8} (s : List UInt8) (hs : s.length ≤ 9223372036854775807) (hS : St B (cel g (setC cs) 216 :: L) w) : Does Tryz.prog 153 [str s, Value.pointer (some ⟨g, 0, none⟩)] w (fun v w1 => v = str (trimL s cs) ∧ St B (cel g (setC cs) 216 :: L) w1) := by
 refine enter (n := 16) Tryz.func153 rfl rfl [str s, Value.pointer (some ⟨g, 0, none⟩)] rfl ?_
 refine WP.seq (WP.region rfl ?_)
 refine WO.asg rfl rfl ?_
 refine WO.nil (NX.go (WP.seq ?_))
 refine WP.meet (α := List UInt8) (fun x => match x with | z => [(0, str z), (1, Value.pointer (some ⟨g, 0, none⟩))]) (fun x w => match x with | z => (z = trimL s cs) ∧ St B (cel g (setC cs) 216 :: L) w) ?_ (fun K1 => ?_)
 ·
  rintro z w2 ⟨hzz, hS2⟩
  clear hS
  refine NX.go (WP.seq (WP.region rfl ?_))
  refine WO.mv rfl rfl ?_
  refine WO.asg rfl rfl ?_
  refine WO.nil (NX.go (WP.ret ?_))
  refine NX.done (l := [.tmp 4]) rfl rfl ?_
  exact ⟨by rw [hzz]; rfl, hS2⟩
 ·
  refine WP.block ?_
  refine WP.loop (α := List UInt8) (fun x => match x with | z => [(0, str z), (1, Value.pointer (some ⟨g, 0, none⟩))]) (fun x w => match x with | z => (z.length ≤ s.length ∧ trimL z cs = trimL s cs) ∧ St B (cel g (setC cs) 216 :: L) w) (fun x => match x with | z => z.length) s ⟨⟨Nat.le_refl _, rfl⟩, hS⟩ (Sub.consE rfl (by first | rfl | first | rfl | (congr 1; omega) | (simp; done) | (simp; omega)) (Sub.cons rfl (Sub.nil _))) ?_
  rintro z w3 ⟨⟨hz, hzs⟩, hS3⟩
  clear hS
  refine WP.seq (WP.seq (WP.region rfl ?_))
  refine WO.mv rfl rfl ?_
  refine WO.V (run_lenS rfl Tryz.underlying9 rfl) ?_
  refine WO.V (run_gtr rfl rfl) ?_
  refine WO.nil (NX.go ?_)
  refine WP.condP rfl (fun g7 => ?_) (fun g7 => ?_)
  ·
   obtain ⟨c, z1, hz0⟩ : ∃ c z1, z = c :: z1 := by
    cases z with
    | nil => simp at g7
    | cons c z1 => exact ⟨c, z1, rfl⟩
   refine WP.skip (NX.go (WP.block (WP.seq (WP.seq (WP.region rfl ?_)))))
   refine WO.mv rfl rfl ?_
   refine WO.mv rfl rfl ?_
   refine WO.V (run_indexS Tryz.underlying9 rfl rfl (by omega) (by rw [hz0]; rfl)) ?_
   refine WO.call rfl rfl Ty.hd171 rfl (contains_spec c hS3) (fun v5 w4 pv5 => ?_)
   obtain ⟨rfl, hS4⟩ := pv5
   clear hS3
   refine WO.V (run_not rfl rfl) ?_
   refine WO.nil (NX.go ?_)
   refine WP.condB rfl (fun g12 => ?_) (fun g12 => ?_)
   ·
    have hcn : cs.contains c = false := by simpa using g12
    refine WP.exit (NX.thenExit ?_)
    refine NX.blkPass rfl ?_
    refine NX.thenExit ?_
    refine NX.blkExit ?_
    exact K1 z _ _ ⟨by rw [← hzs, hz0]; exact (trimL_stop hcn).symm, hS4⟩ (Sub.cons rfl (Sub.cons rfl (Sub.nil _)))
   ·
    have hcc : cs.contains c = true := by simpa using g12
    refine WP.skip (NX.go (WP.region rfl ?_))
    refine WO.mv rfl rfl ?_
    refine WO.V (run_sliceS (i := 1) (j := z.length) Tryz.underlying9 rfl ⟨_, rfl⟩ rfl (by omega) (Nat.le_refl _) (by rw [List.take_length])) ?_
    refine WO.asg rfl rfl ?_
    refine WO.nil (NX.blk ?_)
    exact NX.again (z.drop 1) ⟨⟨by rw [List.length_drop]; omega, by rw [← hzs, hz0]; exact (trimL_step hcc).symm⟩, hS4⟩ (by show (z.drop 1).length < z.length; rw [List.length_drop]; omega) (Sub.consE rfl rfl (Sub.cons rfl (Sub.nil _)))
  ·
   refine WP.exit (NX.thenExit (NX.thenExit ?_))
   refine NX.blkExit ?_
   exact K1 z _ _ ⟨by rw [← hzs, List.length_eq_zero_iff.1 (show z.length = 0 by omega)]; rfl, hS3⟩ (Sub.cons rfl (Sub.cons rfl (Sub.nil _)))
theorem trimRA_spec {B w : World} {L : List HP} {g : Nat} {cs : List UInt8} (s : List UInt8) (hs : s.length ≤ 9223372036854775807) (hS : St B (cel g (setC cs) 216 :: L) w) : Does Tryz.prog 154 [str s, Value.pointer (some ⟨g, 0, none⟩)] w (fun v w1 => v = str (trimR s cs) ∧ St B (cel g (setC cs) 216 :: L) w1) := by
 refine enter (n := 22) Tryz.func154 rfl rfl [str s, Value.pointer (some ⟨g, 0, none⟩)] rfl ?_
 refine WP.seq (WP.region rfl ?_)
 refine WO.asg rfl rfl ?_
 refine WO.nil (NX.go (WP.seq ?_))
 refine WP.meet (α := List UInt8) (fun x => match x with | z => [(0, str z), (1, Value.pointer (some ⟨g, 0, none⟩))]) (fun x w => match x with | z => (z = trimR s cs) ∧ St B (cel g (setC cs) 216 :: L) w) ?_ (fun K1 => ?_)
 ·
  rintro z w2 ⟨hzz, hS2⟩
  clear hS
  refine NX.go (WP.seq (WP.region rfl ?_))
  refine WO.mv rfl rfl ?_
  refine WO.asg rfl rfl ?_
  refine WO.nil (NX.go (WP.ret ?_))
  refine NX.done (l := [.tmp 4]) rfl rfl ?_
  exact ⟨by rw [hzz]; rfl, hS2⟩
 ·
  refine WP.block ?_
  refine WP.loop (α := List UInt8) (fun x => match x with | z => [(0, str z), (1, Value.pointer (some ⟨g, 0, none⟩))]) (fun x w => match x with | z => (z.length ≤ s.length ∧ trimR z cs = trimR s cs) ∧ St B (cel g (setC cs) 216 :: L) w) (fun x => match x with | z => z.length) s ⟨⟨Nat.le_refl _, rfl⟩, hS⟩ (Sub.consE rfl (by first | rfl | first | rfl | (congr 1; omega) | (simp; done) | (simp; omega)) (Sub.cons rfl (Sub.nil _))) ?_
  rintro z w3 ⟨⟨hz, hzs⟩, hS3⟩
  clear hS
  refine WP.seq (WP.seq (WP.region rfl ?_))
  refine WO.mv rfl rfl ?_
  refine WO.V (run_lenS rfl Tryz.underlying9 rfl) ?_
  refine WO.V (run_gtr rfl rfl) ?_
  refine WO.nil (NX.go ?_)
  refine WP.condP rfl (fun g7 => ?_) (fun g7 => ?_)
  ·
   obtain ⟨c, z1, hz0⟩ : ∃ c z1, z = z1 ++ [c] := by
    rcases List.eq_nil_or_concat z with e | ⟨z1, c, e⟩
    · subst e; simp at g7
    · exact ⟨c, z1, by rw [e, List.concat_eq_append]⟩
   have hzl : z.length = z1.length + 1 := by rw [hz0]; simp
   refine WP.skip (NX.go (WP.block (WP.seq (WP.seq (WP.region rfl ?_)))))
   refine WO.mv rfl rfl ?_
   refine WO.mv rfl rfl ?_
   refine WO.mv rfl rfl ?_
   refine WO.V (run_lenS rfl Tryz.underlying9 rfl) ?_
   refine WO.V (run_sub rfl rfl (IntWalk.i64_in _ (by omega))) ?_
   refine WO.V (run_indexS Tryz.underlying9 rfl rfl (by omega) (by rw [show ((z.length : Int) - 1).toNat = z1.length by omega, hz0, List.getElem?_append_right (Nat.le_refl _), Nat.sub_self]; rfl)) ?_
   refine WO.call rfl rfl Ty.hd171 rfl (contains_spec c hS3) (fun v5 w4 pv5 => ?_)
   obtain ⟨rfl, hS4⟩ := pv5
   clear hS3
   refine WO.V (run_not rfl rfl) ?_
   refine WO.nil (NX.go ?_)
   refine WP.condB rfl (fun g15 => ?_) (fun g15 => ?_)
   ·
    have hcn : cs.contains c = false := by simpa using g15
    refine WP.exit (NX.thenExit ?_)
    refine NX.blkPass rfl ?_
    refine NX.thenExit ?_
    refine NX.blkExit ?_
    exact K1 z _ _ ⟨by rw [← hzs, hz0]; exact (trimR_stop hcn).symm, hS4⟩ (Sub.cons rfl (Sub.cons rfl (Sub.nil _)))
   ·
    have hcc : cs.contains c = true := by simpa using g15
    refine WP.skip (NX.go (WP.region rfl ?_))
    refine WO.mv rfl rfl ?_
    refine WO.mv rfl rfl ?_
    refine WO.V (run_lenS rfl Tryz.underlying9 rfl) ?_
    refine WO.V (run_sub rfl rfl (show IntKind.i64.wrap ((z.length : Int) - 1) = (z1.length : Int) by rw [IntWalk.i64_in _ (by omega)]; omega)) ?_
    refine WO.V (run_sliceS (i := 0) (j := z1.length) Tryz.underlying9 rfl rfl ⟨_, rfl⟩ (Nat.zero_le _) (by omega) (by rw [hz0, List.take_left])) ?_
    refine WO.asg rfl rfl ?_
    refine WO.nil (NX.blk ?_)
    exact NX.again z1 ⟨⟨by omega, by rw [← hzs, hz0]; exact (trimR_step hcc).symm⟩, hS4⟩ (by show z1.length < z.length; omega) (Sub.consE rfl rfl (Sub.cons rfl (Sub.nil _)))
  ·
   refine WP.exit (NX.thenExit (NX.thenExit ?_))
   refine NX.blkExit ?_
   exact K1 z _ _ ⟨by rw [← hzs, List.length_eq_zero_iff.1 (show z.length = 0 by omega)]; rfl, hS3⟩ (Sub.cons rfl (Sub.cons rfl (Sub.nil _)))

theorem sz_of {P : Program} {t : TypeId} {k : Nat} (h : sizeB P t = some k) : sizeB P t = some k := h
theorem splice_all {l l' : List Value} (h : l.length = l'.length) : splice l 0 l' = l' := by simp [splice, h]
theorem trim_spec {B w : World} {L : List HP} {cs : List UInt8} (s : List UInt8) (hs : s.length ≤ 9223372036854775807) (h1 : 2 ≤ cs.length) (h2 : cs.length < 1000000) (ha : Ascii cs) (hS : St B L w) : Does Tryz.prog 135 [str s, str cs] w (fun v w1 => v = str (trimA s cs) ∧ St B L w1) := by
 refine enter (n := 43) Tryz.func135 rfl rfl [str s, str cs] rfl ?_
 refine WP.seq (WP.region rfl ?_)
 refine WO.asg rfl rfl ?_
 refine WO.nil (NX.go (WP.seq (WP.seq (WP.region rfl ?_))))
 refine WO.mv rfl rfl ?_
 refine WO.V (run_eqlS rfl rfl) ?_
 refine WO.mv rfl rfl ?_
 refine dcase (p := s = []) (fun g9 d9 => ?_) (fun g9 d9 => ?_)
 ·
  have hsn : s = [] := by simpa using g9
  refine WO.off rfl rfl d9 rfl ?_
  refine WO.off rfl rfl d9 rfl ?_
  refine WO.V (run_pickT rfl d9 rfl) ?_
  refine WO.nil (NX.go ?_)
  refine WP.condT rfl rfl ?_
  refine WP.seq (WP.region rfl ?_)
  refine WO.mv rfl rfl ?_
  refine WO.asg rfl rfl ?_
  refine WO.nil (NX.go (WP.ret (NX.thenRet ?_)))
  refine NX.done (l := [.tmp 4]) rfl rfl ?_
  exact ⟨by subst hsn; rfl, hS⟩
 ·
  refine WO.on rfl rfl d9 ?_
  refine WO.mv rfl rfl ?_
  refine WO.on rfl rfl d9 ?_
  refine WO.V (run_eqlS rfl rfl) ?_
  refine WO.V (run_pickF rfl d9 rfl) ?_
  refine WO.nil (NX.go ?_)
  refine WP.condP rfl (fun g12 => ?_) (fun g12 => ?_)
  ·
   exact absurd h1 (by rw [g12]; simp)
  ·
   refine WP.skip (NX.go (WP.seq (WP.seq (WP.region rfl ?_))))
   refine WO.mv rfl rfl ?_
   refine WO.V (run_lenS rfl Tryz.underlying9 rfl) ?_
   refine WO.V (run_eql rfl rfl) ?_
   refine WO.mv rfl rfl ?_
   refine dcase (p := (cs.length : Int) = 1) (fun g17 d17 => ?_) (fun g17 d17 => ?_)
   ·
    exact absurd h1 (by omega)
   ·
    refine WO.off rfl rfl d17 rfl ?_
    refine WO.off rfl rfl d17 rfl ?_
    refine WO.off rfl rfl d17 rfl ?_
    refine WO.V (run_pickF rfl d17 rfl) ?_
    refine WO.nil (NX.go ?_)
    refine WP.condF rfl rfl ?_
    refine WP.skip (NX.go (WP.seq (WP.seq (WP.region rfl ?_))))
    refine WO.mv rfl rfl ?_
    refine WO.call rfl rfl Ty.hd152 rfl (mkset_spec cs (by omega) ha hS) (fun v2 w1 pv2 => ?_)
    obtain ⟨rfl, hS1⟩ := pv2
    clear hS
    refine WO.mv rfl rfl ?_
    refine WO.V (run_extract rfl rfl) ?_
    refine WO.V (run_extract rfl rfl) ?_
    refine WO.alloc (l := List.replicate 256 (Value.bool false)) hS1 zeroSet (by rw [List.toArray_replicate]; rfl) rfl (fun g4 w3 lg4 hS3 => ?_)
    clear hS1
    refine WO.store (l' := setC cs) (k := 256) 0 hS3 rfl (sz_of (by kernel_rfl)) rfl rfl rfl (setC_len cs) (setC_noAgg cs) (by rw [List.length_replicate]; exact Nat.le_refl _) (splice_all (l' := setC cs) (by rw [setC_len, List.length_replicate])) (fun w5 (hS5 : St B (cel g4 (setC cs) 216 :: L) w5) => ?_)
    clear hS3
    refine WO.asg rfl rfl ?_
    refine WO.nil (NX.go (WP.seq (WP.region rfl ?_)))
    refine WO.mv rfl rfl ?_
    refine WO.nil (NX.go ?_)
    refine WP.condT rfl rfl ?_
    refine WP.seq (WP.region rfl ?_)
    refine WO.mv rfl rfl ?_
    refine WO.call rfl rfl Ty.hd154 rfl (trimRA_spec s (by first | exact hs | exact Nat.le_trans (trimR_le _ _) hs) hS5) (fun v7 w6 pv7 => ?_)
    obtain ⟨rfl, hS6⟩ := pv7
    clear hS5
    refine WO.call rfl rfl Ty.hd153 rfl (trimLA_spec (trimR s cs) (by first | exact hs | exact Nat.le_trans (trimR_le _ _) hs) hS6) (fun v9 w8 pv9 => ?_)
    obtain ⟨rfl, hS8⟩ := pv9
    clear hS6
    refine WO.asg rfl rfl ?_
    refine WO.nil (NX.go (WP.ret (NX.thenRet ?_)))
    refine NX.done (l := [.tmp 4]) rfl rfl ?_
    exact ⟨rfl, hS8.drop⟩
end Go.Proofs.YtidoidoelgfnaaaGreatDoor.SL
