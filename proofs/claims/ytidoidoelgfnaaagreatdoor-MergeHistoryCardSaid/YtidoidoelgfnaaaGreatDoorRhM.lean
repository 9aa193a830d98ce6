import Derived.Test.YtidoidoelgfnaaaGreatDoorHdM
import Derived.Test.YtidoidoelgfnaaaGreatDoorKrmM
import Derived.Test.YtidoidoelgfnaaaGreatDoorHq
import Derived.Test.YtidoidoelgfnaaaGreatDoorHk1M
import Derived.Test.YtidoidoelgfnaaaGreatDoorKg1M
import Derived.Test.YtidoidoelgfnaaaGreatDoorKk1M
/- The document's head in memory: rows, in the order of their labels. -/
namespace Go.Proofs.YtidoidoelgfnaaaGreatDoor.SL
open Go.RowKit
set_option linter.unusedVariables false
section
variable {α : Type} {f : α → HP} {B w : World}
theorem allA_perm {l l' : List α} (hp : l.Perm l') : ∀ {L : List HP}, St B (allA f l :: L) w → St B (allA f l' :: L) w := by
  induction hp with
  | nil => exact fun h => h
  | @cons x l l' _ ih =>
    intro L h
    have h1 := h.sep
    have h2 := ih (h1.permT [1, 0] (L' := allA f l :: f x :: L) rfl)
    exact (h2.permT [1, 0] (L' := f x :: allA f l' :: L) rfl).join
  | swap x y l =>
    intro L h
    have h1 := h.sep
    have h2 := (h1.permT [1, 0] (L' := allA f (x :: l) :: f y :: L) rfl).sep
    have h3 : St B (allA f (y :: l) :: f x :: L) w := (h2.permT [2, 1, 0] (L' := f y :: allA f l :: f x :: L) rfl).join
    exact (h3.permT [1, 0] (L' := f x :: allA f (y :: l) :: L) rfl).join
  | trans _ _ ih1 ih2 => exact fun h => ih2 (ih1 h)
theorem perm_erase : ∀ {l : List α} {i : Nat} {x : α}, l[i]? = some x → l.Perm (x :: l.eraseIdx i)
  | [], i, x, h => by simp at h
  | y :: l, 0, x, h => by simp at h; subst h; exact List.Perm.refl _
  | y :: l, i + 1, x, h => ((perm_erase (l := l) (i := i) (by simpa using h)).cons y).trans (List.Perm.swap ..)
theorem perm_set {y : α} : ∀ {l : List α} {i : Nat} {x : α}, l[i]? = some x → (l.set i y).Perm (y :: l.eraseIdx i)
  | [], i, x, h => by simp at h
  | z :: l, 0, x, h => List.Perm.refl _
  | z :: l, i + 1, x, h => ((perm_set (l := l) (i := i) (by simpa using h)).cons z).trans (List.Perm.swap ..)
theorem allA_pick {l : List α} {i : Nat} {x : α} {L : List HP} (hi : l[i]? = some x) (h : St B (allA f l :: L) w) : St B (f x :: allA f (l.eraseIdx i) :: L) w := by
  exact (allA_perm (perm_erase hi) h).sep
theorem allA_back {l : List α} {i : Nat} {x y : α} {L : List HP} (hi : l[i]? = some x) (h : St B (f y :: allA f (l.eraseIdx i) :: L) w) : St B (allA f (l.set i y) :: L) w :=
  allA_perm (l := y :: l.eraseIdx i) (perm_set hi).symm h.join
theorem set_same {l : List α} {i : Nat} {x : α} (hi : l[i]? = some x) : l.set i x = l := by
  obtain ⟨hlt, he⟩ := List.getElem?_eq_some_iff.1 hi
  rw [← he, List.set_getElem_self]
theorem allA_same {l : List α} {i : Nat} {x : α} {L : List HP} (hi : l[i]? = some x) (h : St B (f x :: allA f (l.eraseIdx i) :: L) w) : St B (allA f l :: L) w := by
  have h1 := allA_back hi h
  rwa [set_same hi] at h1
theorem allA_mid {l : List α} {y : α} {L : List HP} (i : Nat) (h : St B (f y :: allA f l :: L) w) : St B (allA f (l.take i ++ y :: l.drop i) :: L) w :=
  allA_perm (l := y :: l) (by have z := List.perm_middle (a := y) (l₁ := l.take i) (l₂ := l.drop i); rw [List.take_append_drop] at z; exact z.symm) h.join
theorem mid_set {l : List α} {i : Nat} {y z : α} (h : i ≤ l.length) : (l.take i ++ z :: l.drop i).set i y = l.take i ++ y :: l.drop i := by
  rw [List.set_append, List.length_take, Nat.min_eq_left h, if_neg (Nat.lt_irrefl i), Nat.sub_self]; rfl
end
section
variable {B w : World} {L : List HP} {tH tR tP : TypeId}
theorem hsc_len (r : MRow) : (hsc r).length = 3 := rfl
theorem hsc_na (r : MRow) : (hsc r).all noAgg = true := by simp [hsc, noAgg]
def rhwA (tP : TypeId) (r : MRow) : HP := .sep (labA r.lb) (own r.pt.a r.pt.l.length r.pt.cap tP 2 (r.pt.l.flatMap ptc))
theorem rw_get {S : List MRow} {i : Nat} {r : MRow} (hi : S[i]? = some r) (h : St B (allA (rhwA tP) S :: L) w) : St B (labA r.lb :: own r.pt.a r.pt.l.length r.pt.cap tP 2 (r.pt.l.flatMap ptc) :: allA (rhwA tP) (S.eraseIdx i) :: L) w := (allA_pick hi h).sep
theorem rw_same {S : List MRow} {i : Nat} {r : MRow} (hi : S[i]? = some r) (h : St B (labA r.lb :: own r.pt.a r.pt.l.length r.pt.cap tP 2 (r.pt.l.flatMap ptc) :: allA (rhwA tP) (S.eraseIdx i) :: L) w) : St B (allA (rhwA tP) S :: L) w := allA_same hi h.join
theorem rw_back {S : List MRow} {i : Nat} {r : MRow} (y : MRow) (hi : S[i]? = some r) (h : St B (labA y.lb :: own y.pt.a y.pt.l.length y.pt.cap tP 2 (y.pt.l.flatMap ptc) :: allA (rhwA tP) (S.eraseIdx i) :: L) w) : St B (allA (rhwA tP) (S.set i y) :: L) w := allA_back (y := y) hi h.join
theorem rw_lab {S : List MRow} {i : Nat} {r : MRow} (hi : S[i]? = some r) (h : St B (allA (rhwA tP) S :: L) w) : St B (labA r.lb :: allA (rhwA tP) S :: L) w := by
  have h1 := St.dup (labA_pers r.lb) (rw_get hi h)
  have h2 := rw_same hi (h1.permT [1, 1, 1, 0] (L' := labA r.lb :: own r.pt.a r.pt.l.length r.pt.cap tP 2 (r.pt.l.flatMap ptc) :: allA (rhwA tP) (S.eraseIdx i) :: labA r.lb :: L) rfl)
  exact h2.permT [1, 0] rfl
theorem rw_mid {S : List MRow} (y : MRow) (i : Nat) (h : St B (labA y.lb :: own y.pt.a y.pt.l.length y.pt.cap tP 2 (y.pt.l.flatMap ptc) :: allA (rhwA tP) S :: L) w) : St B (allA (rhwA tP) (S.take i ++ y :: S.drop i) :: L) w := allA_mid (y := y) i h.join
theorem rw_snoc {S : List MRow} (y : MRow) (h : St B (labA y.lb :: own y.pt.a y.pt.l.length y.pt.cap tP 2 (y.pt.l.flatMap ptc) :: allA (rhwA tP) S :: L) w) : St B (allA (rhwA tP) (S ++ [y]) :: L) w :=
  allA_snoc (h.join.permT [1, 0] (L' := allA (rhwA tP) S :: rhwA tP y :: L) rfl)
def rfA (tH tR tP : TypeId) (g : Nat) (A : List RowP) : HP := .ex fun q : List MRow × Option Addr × Nat => .sep (.pure (q.1.map MRow.p = A)) (.sep (cel g [.slice q.2.1 q.1.length q.2.2] tH) (.sep (own q.2.1 q.1.length q.2.2 tR 3 (q.1.flatMap hsc)) (allA (rhwA tP) q.1)))
theorem rf_open {g : Nat} {A : List RowP} (h : St B (rfA tH tR tP g A :: L) w) : ∃ (S : List MRow) (a : Option Addr) (c : Nat), S.map MRow.p = A ∧ St B (cel g [.slice a S.length c] tH :: own a S.length c tR 3 (S.flatMap hsc) :: allA (rhwA tP) S :: L) w := by
  obtain ⟨⟨S, a, c⟩, h1⟩ := h.ex
  obtain ⟨hp, h2⟩ := h1.sep.pure
  have h3 := h2.sep
  have h4 := (h3.permT [1, 0] (L' := .sep (own a S.length c tR 3 (S.flatMap hsc)) (allA (rhwA tP) S) :: cel g [.slice a S.length c] tH :: L) rfl).sep
  exact ⟨S, a, c, hp, h4.permT [2, 0, 0] rfl⟩
theorem rf_shut {g c : Nat} {a : Option Addr} {S : List MRow} {A : List RowP} (hp : S.map MRow.p = A) (h : St B (cel g [.slice a S.length c] tH :: own a S.length c tR 3 (S.flatMap hsc) :: allA (rhwA tP) S :: L) w) : St B (rfA tH tR tP g A :: L) w := by
  have h1 := (h.permT [1, 1, 0] (L' := own a S.length c tR 3 (S.flatMap hsc) :: allA (rhwA tP) S :: cel g [.slice a S.length c] tH :: L) rfl).join
  have h2 := (h1.permT [1, 0] (L' := cel g [.slice a S.length c] tH :: .sep (own a S.length c tR 3 (S.flatMap hsc)) (allA (rhwA tP) S) :: L) rfl).join
  have h3 : St B (.pure (S.map MRow.p = A) :: .sep (cel g [.slice a S.length c] tH) (.sep (own a S.length c tR 3 (S.flatMap hsc)) (allA (rhwA tP) S)) :: L) w := h2.addPure hp
  exact St.give (⟨S, a, c⟩ : List MRow × Option Addr × Nat) h3.join
end
/-! What stands at labels. -/
theorem has_lb {S : List MRow} {lb : List Pr} {r : MRow} (h : hasR S lb = true) (hr : S[atR S lb]? = some r) : r.lb.l = lb := by
  unfold hasR at h; rw [hr] at h; exact of_decide_eq_true h
theorem has_last {S : List MRow} {lb : List Pr} {r : MRow} (hs : SrtR (S.map MRow.p)) (h : hasR S lb = true) (hr : S[atR S lb]? = some r) : lastF (S.map MRow.p) lb = some r.last := by
  have := lastF_mem hs (List.mem_map.2 ⟨r, List.mem_of_getElem? hr, rfl⟩)
  rw [show r.p.lb = lb from has_lb h hr] at this; exact this
theorem has_none : ∀ {S : List MRow} {lb : List Pr}, SrtR (S.map MRow.p) → hasR S lb = false → lastF (S.map MRow.p) lb = none
  | [], _, _, _ => rfl
  | z :: l, lb, hs, h => by
    by_cases c : cmpF z.lb.l lb < 0
    · have e : atR (z :: l) lb = atR l lb + 1 := by rw [atR, if_pos c]
      have hh : hasR l lb = false := by unfold hasR at h ⊢; rw [e, List.getElem?_cons_succ] at h; exact h
      rw [List.map_cons, lastF, if_neg (fun k => by rw [show z.lb.l = lb from k, cmp_self] at c; omega)]
      exact has_none (List.pairwise_cons.1 hs).2 hh
    · have e : atR (z :: l) lb = 0 := by rw [atR, if_neg c]
      unfold hasR at h
      rw [e] at h
      simp at h
      exact lastF_gt hs c fun k => h (cmp_zero k)
theorem oldR_has {S : List MRow} {lb : List Pr} {t v : Int} {r : MRow} (hs : SrtR (S.map MRow.p)) (h : hasR S lb = true) (hr : S[atR S lb]? = some r) : oldF (S.map MRow.p) (lb, t, v) = decide (t ≤ r.last) := by
  unfold oldF; rw [show lastF (S.map MRow.p) ((lb, t, v) : SmpP).1 = some r.last from has_last hs h hr]
theorem oldR_none {S : List MRow} {lb : List Pr} {t v : Int} (hs : SrtR (S.map MRow.p)) (h : hasR S lb = false) : oldF (S.map MRow.p) (lb, t, v) = false := by
  unfold oldF; rw [show lastF (S.map MRow.p) ((lb, t, v) : SmpP).1 = none from has_none hs h]
theorem put_has {S : List MRow} {lb : List Pr} {t : Int} {r : MRow} {ps : List Pt} {q : SlV Pt} (h : hasR S lb = true) (hr : S[atR S lb]? = some r) (hlt : r.last < t) (hq : q.l = r.pt.l ++ ps) : (S.set (atR S lb) ⟨r.lb, t, q⟩).map MRow.p = addF (S.map MRow.p) lb t ps := by
  have := addF_has (t := t) h hr hq
  rwa [Int.max_eq_right (Int.le_of_lt hlt)] at this
theorem put_new {S : List MRow} {lb : SlV Pr} {t : Int} {z : MRow} {ps : List Pt} {q : SlV Pt} (h : hasR S lb.l = false) (hq : q.l = ps) : ((S.take (atR S lb.l) ++ z :: S.drop (atR S lb.l)).set (atR S lb.l) ⟨lb, t, q⟩).map MRow.p = addF (S.map MRow.p) lb.l t ps := by
  have := addF_new (t := t) h hq
  rw [mid_set (atR_le S lb.l), Int.max_self] at this
  rw [mid_set (atR_le S lb.l)]; exact this
end Go.Proofs.YtidoidoelgfnaaaGreatDoor.SL

/- What a delete takes away, and no more (plain). -/
namespace Go.Proofs.YtidoidoelgfnaaaGreatDoor.SL
open Go.RowKit
set_option linter.unusedVariables false
def outF (fr to : Int) (p : Pt) : Bool := !(decide (fr ≤ p.t ∧ p.t ≤ to))
end Go.Proofs.YtidoidoelgfnaaaGreatDoor.SL

/- The head: the greatest time. -/
namespace Go.Proofs.YtidoidoelgfnaaaGreatDoor.SL
open Go.RowKit Go.Proofs.YtidoidoelgfnaaaGreatDoor
open Go.Proofs.YtidoidoelgfnaaaGreatDoorW.PrintLast (rtab opsOf)
set_option linter.unusedVariables false
set_option linter.unusedSimpArgs false

end Go.Proofs.YtidoidoelgfnaaaGreatDoor.SL

/- The head: a last time. -/
namespace Go.Proofs.YtidoidoelgfnaaaGreatDoor.SL
open Go.RowKit Go.Proofs.YtidoidoelgfnaaaGreatDoor
open Go.Proofs.YtidoidoelgfnaaaGreatDoorW.PrintLast (rtab opsOf)
set_option linter.unusedVariables false
set_option linter.unusedSimpArgs false

theorem run_lookSW {P : Program} {n : Nat} {D : List Deferred} {T : Tm} {w : World} {dst : Option Nat} {ty : TypeId} {pos : String} {aft : Array Edge} {t e : TypeId} {x y : Operand} {r kt : TypeId} {k : List UInt8} {es : List (List UInt8 × Value)} {z v : Value} (hm : ∃ (BB : World) (LL : List HP), St BB (mpS r es :: LL) w) (ht : P.underlying t = some (.map kt e)) (hk : P.underlying kt = some .string) (hz : zeroB P e = some z)
    (hx : ev T x = some (.map (some r))) (hy : ev T y = some (str k)) (hv : (getS es k).getD z = v) : Run P n D T w ⟨dst, .lookup t x y false, ty, pos, aft, none⟩ v w := by
  obtain ⟨BB, LL, h⟩ := hm
  exact run_lookupS 0 h rfl ht hk hz hx hy hv
theorem t78_3 : rtab .any (opsOf Tryz.f78 3) = (true, [([], []), ([0], [0]), ([1], [1]), ([2], [2]), ([], []), ([4], [4]), ([3, 5], [3, 5]), ([6, 5, 0, 1, 2, 3, 4, 5, 6], [6])]) := by kernel_rfl
theorem hlast_spec {B w : World} {L : List HP} {Y : HP} {g M : Nat} {b : Option Addr} {cap2 : Nat} {A : List RowP} {p : List Pr} (hY : ∀ {L : List HP} {w : World}, St B (Y :: L) w → Rd w b p.length 2 (p.flatMap prc)) (hA : WfH A M) (hzp : SzP p) (hpl : p.length ≤ 4398046511104) (hS : St B (hdA 126 131 103 g A :: Y :: L) w) : Does Tryz.prog 78 [Value.pointer (some ⟨g, 0, none⟩), Value.slice b p.length cap2] w (fun v w1 => v = .tuple #[.int .i64 ((lastF A p).getD 0), .bool (lastF A p).isSome] ∧ St B (hdA 126 131 103 g A :: Y :: L) w1) := by
 obtain ⟨m, gs, S, hp, hlen, hS⟩ := hd_open hS
 have hcS := perm_chk hp hA.chk
 refine enter (n := 23) Tryz.func78 rfl rfl [Value.pointer (some ⟨g, 0, none⟩), Value.slice b p.length cap2] rfl ?_
 refine WP.seq (WP.region rfl ?_)
 refine WO.asg rfl rfl ?_
 refine WO.asg rfl rfl ?_
 refine WO.nil (NX.go (WP.seq (WP.seq (WP.region rfl ?_))))
 refine WO.mv rfl rfl ?_
 have hS1 := hS.permT [3] (L' := _::_::_::_::L) rfl
 clear hS
 refine WO.call rfl rfl Ty.hd94 rfl (lcheck_spec hY hzp hpl hS1) (fun v3 w2 pv3 => ?_)
 obtain ⟨rfl, hS2⟩ := pv3
 clear hS1
 refine WO.V (run_neq rfl rfl) ?_
 refine WO.nil (NX.go ?_)
 refine WP.condP rfl (fun g9 => ?_) (fun g9 => ?_)
 ·
  have hcz : ¬ chk p = true := fun h => by rw [h] at g9; simp at g9
  refine WP.seq (WP.region rfl ?_)
  refine WO.asg rfl rfl ?_
  refine WO.asg rfl rfl ?_
  refine WO.nil (NX.go (WP.ret (NX.thenRet ?_)))
  refine NX.done (l := [.tmp 4, .tmp 5]) rfl rfl ?_
  have hln : lastF A p = none := lastF_none fun r hr e => hcz (e ▸ hA.chk r hr)
  exact ⟨by rw [hln]; rfl, hd_shut hp ((hS2.permT [1, 1, 1] (L' := _::_::_::_::L) rfl))⟩
 ·
  have hcz : chk p = true := by cases hq : chk p with | true => rfl | false => (rw [hq] at g9; simp at g9)
  refine WP.skip (NX.go (WP.seq ?_))
  refine WD.start (fun w => (∀ jz, World.cell? w ⟨g, jz, none⟩ = [Value.map (some m)][jz]?) ∧ (∃ (BB : World) (LL : List HP), St BB (mpS m (entR gs S) :: LL) w )) [] (bt 8 0) Ty.mo rfl (by kernel_rfl) hS2 (fun _ h => ⟨h.cel_at 1 rfl, (by first | exact ⟨_, _, h.focus 1 rfl⟩ | exact ⟨_, _, h.focus 2 rfl⟩)⟩) (fun w4 hS4 s5 => ?_)
  clear hS2
  refine DP (i := 0) t78_3 (bt 8 1) rfl rfl rfl rfl (fun w => run_move rfl) ?_
  refine DP (i := 1) t78_3 (bt 8 3) rfl rfl rfl rfl (fun w => run_nilCheck rfl) ?_
  refine DP (i := 2) t78_3 (bt 8 7) rfl rfl rfl rfl (fun w => run_fa 0 ⟨g, 0, none⟩ rfl rfl) ?_
  refine DT (i := 3) t78_3 (bt 8 15) s5 rfl rfl rfl rfl (fun w hs => run_load Ty.ag124 rfl ((hs.1 0).trans rfl)) ?_
  refine DP (i := 4) t78_3 (bt 8 31) rfl rfl rfl rfl (fun w => run_move rfl) ?_
  refine WD.one (i := 5) t78_3 (bt 8 63) rfl (by kernel_rfl) ?_
  refine WO.call rfl rfl Ty.hd64 rfl (hkey_spec hY hzp hpl hS4) (fun v7 w6 pv7 => ?_)
  obtain ⟨rfl, hS6⟩ := pv7
  clear hS4
  refine WO.nil ?_
  have s8 : (∀ jz, World.cell? w6 ⟨g, jz, none⟩ = [Value.map (some m)][jz]?) ∧ (∃ (BB : World) (LL : List HP), St BB (mpS m (entR gs S) :: LL) w6 ) := ⟨hS6.cel_at 1 rfl, (by first | exact ⟨_, _, hS6.focus 1 rfl⟩ | exact ⟨_, _, hS6.focus 2 rfl⟩)⟩
  refine NX.held s8 ?_
  refine DT (i := 6) t78_3 (bt 8 127) s8 rfl rfl rfl rfl (fun w hs => run_lookSW hs.2 Tryz.underlying124 Tryz.underlying9 Ty.zr128 rfl rfl (look_row hcz hcS)) ?_
  refine DP (i := 7) t78_3 (bt 8 255) rfl rfl rfl rfl (fun w => run_assign rfl) ?_
  refine WD.done t78_3 (by kernel_rfl) ?_
  refine NX.go (WP.seq (WP.seq (WP.region rfl ?_)))
  refine WO.mv rfl rfl ?_
  refine WO.V (run_eqlNilP Tryz.underlying128 rfl rfl) ?_
  refine WO.nil (NX.go ?_)
  refine WP.condB rfl (fun g18 => ?_) (fun g18 => ?_)
  ·
   have hgn : findG gs S p = none := by cases hq : findG gs S p with | none => rfl | some g => (rw [hq] at g18; simp at g18)
   refine WP.seq (WP.region rfl ?_)
   refine WO.asg rfl rfl ?_
   refine WO.asg rfl rfl ?_
   refine WO.nil (NX.go (WP.ret (NX.thenRet ?_)))
   refine NX.done (l := [.tmp 4, .tmp 5]) rfl rfl ?_
   have hln : lastF A p = none := last_none hlen hp hgn
   exact ⟨by rw [hln]; rfl, hd_shut hp ((hS6.permT [1, 1, 1] (L' := _::_::_::_::L) rfl))⟩
  ·
   obtain ⟨q, hgq⟩ : ∃ g, findG gs S p = some g := by cases hq : findG gs S p with | none => (rw [hq] at g18; simp at g18) | some g => exact ⟨g, rfl⟩
   obtain ⟨j, row, hj1, hj2, hj3, hlast⟩ := last_find hA.srt hp hgq
   obtain ⟨q', hq', hS9⟩ := sqA_pick hj2 (hS6.permT [3] (L' := _::_::_::_::L) rfl)
   have hqq : q' = q := by rw [hj1] at hq'; exact (Option.some.inj hq').symm
   subst hqq
   clear hS6
   have hS10 : St B (cel q' (hsc row) 131 :: (labA row.lb) :: own row.pt.a row.pt.l.length row.pt.cap 103 2 (row.pt.l.flatMap ptc) :: sqBut (hsA 131 103) j gs S :: _::_::_::L) w6 := hs_open hS9
   clear hS9
   refine WP.skip (NX.go (WP.seq (WP.region rfl ?_)))
   refine WO.mv rfl rfl ?_
   refine WO.V (run_nilCheck (ptr_findH hgq)) ?_
   refine WO.V (run_fa 2 ⟨q', 2, none⟩ rfl rfl) ?_
   refine WO.V (run_load Ty.ag2 rfl ((hS10.cel_at 0 rfl 2).trans rfl)) ?_
   refine WO.asg rfl rfl ?_
   refine WO.asg rfl rfl ?_
   refine WO.nil (NX.go (WP.ret ?_))
   have hS11 := hs_shut (tS := 131) (tP := 103) (g := q') (r := row) hS10
   clear hS10
   have hS12 := sqA_same hj2 hj1 hS11
   clear hS11
   refine NX.done (l := [.tmp 4, .tmp 5]) rfl rfl ?_
   exact ⟨by rw [hlast]; rfl, hd_shut hp ((hS12.permT [2, 2] (L' := _::_::_::_::L) rfl))⟩
end Go.Proofs.YtidoidoelgfnaaaGreatDoor.SL

/- The document's head: where labels stand. -/
namespace Go.Proofs.YtidoidoelgfnaaaGreatDoor.SL
open Go.RowKit Go.Proofs.YtidoidoelgfnaaaGreatDoor
open Go.Proofs.YtidoidoelgfnaaaGreatDoorW.PrintLast (rtab opsOf)
set_option linter.unusedVariables false
set_option linter.unusedSimpArgs false
theorem rhat_spec {B w : World} {L : List HP} {Y : HP} {g : Nat} {ra b : Option Addr} {rc cap2 : Nat} {S : List MRow} {p : List Pr} (hY : ∀ {L : List HP} {w : World}, St B (Y :: L) w → Rd w b p.length 2 (p.flatMap prc)) (hs : S.length ≤ 1000000) (hsz : ∀ r ∈ S, r.lb.l.length ≤ 4398046511104) (hp : p.length ≤ 4398046511104) (hS : St B (cel g [Value.slice ra S.length rc] 79 :: own ra S.length rc 95 3 (S.flatMap hsc) :: allA (rhwA 103) S :: Y :: L) w) : Does Tryz.prog 112 [Value.pointer (some ⟨g, 0, none⟩), Value.slice b p.length cap2] w (fun v w1 => v = .tuple #[.int .i64 (atR S p : Int), .bool (hasR S p)] ∧ St B (cel g [Value.slice ra S.length rc] 79 :: own ra S.length rc 95 3 (S.flatMap hsc) :: allA (rhwA 103) S :: Y :: L) w1) := by
 refine enter (n := 49) Tryz.func112 rfl rfl [Value.pointer (some ⟨g, 0, none⟩), Value.slice b p.length cap2] rfl ?_
 refine WP.seq (WP.region rfl ?_)
 refine WO.asg rfl rfl ?_
 refine WO.asg rfl rfl ?_
 refine WO.nil (NX.go (WP.seq (WP.region rfl ?_)))
 refine WO.asg rfl rfl ?_
 refine WO.nil (NX.go (WP.seq (WP.block ?_)))
 refine WP.loop (α := Nat) (fun x => match x with | i => [(0, Value.pointer (some ⟨g, 0, none⟩)), (1, Value.slice b p.length cap2), (6, Value.int .i64 (i : Int))]) (fun x w => match x with | i => (i ≤ S.length ∧ atR S p = i + atR (S.drop i) p) ∧ St B (cel g [Value.slice ra S.length rc] 79 :: own ra S.length rc 95 3 (S.flatMap hsc) :: allA (rhwA 103) S :: Y :: L) w) (fun x => match x with | i => S.length - i) 0 ⟨⟨Nat.zero_le _, (Nat.zero_add _).symm⟩, hS⟩ (Sub.cons rfl (Sub.cons rfl (Sub.consE rfl (by first | rfl | first | rfl | (congr 1; omega) | (simp; done) | (simp; omega)) (Sub.nil _)))) ?_
 rintro i w1 ⟨⟨hi, hgo⟩, hS1⟩
 clear hS
 refine WP.seq (WP.seq (WP.region rfl ?_))
 refine WO.mv rfl rfl ?_
 refine WO.mv rfl rfl ?_
 refine WO.V (run_nilCheck rfl) ?_
 refine WO.V (run_fa 0 ⟨g, 0, none⟩ rfl rfl) ?_
 refine WO.V (run_load Ty.ag77 rfl ((hS1.cel_at 0 rfl 0).trans rfl)) ?_
 refine WO.V (run_len rfl Tryz.underlying77 rfl) ?_
 refine WO.V (run_lss rfl rfl) ?_
 refine WO.mv rfl rfl ?_
 refine dcase (p := (i : Int) < ((S.length : Nat) : Int)) (fun g14 d14 => ?_) (fun g14 d14 => ?_)
 ·
  obtain ⟨r, hr⟩ : ∃ qq, S[i]? = some qq := ⟨_, List.getElem?_eq_getElem (by omega)⟩
  have hsa : ra.isSome = true := rd_isSome ((hS1.own_rd_i 1 rfl)) (by omega)
  refine WO.on rfl rfl d14 ?_
  refine WO.mv rfl rfl ?_
  refine WO.on rfl rfl d14 ?_
  refine WO.V (run_nilCheck rfl) ?_
  refine WO.on rfl rfl d14 ?_
  refine WO.V (run_fa 0 ⟨g, 0, none⟩ rfl rfl) ?_
  refine WO.on rfl rfl d14 ?_
  refine WO.V (run_load Ty.ag77 rfl ((hS1.cel_at 0 rfl 0).trans rfl)) ?_
  refine WO.on rfl rfl d14 ?_
  refine WO.mv rfl rfl ?_
  refine WO.on rfl rfl d14 ?_
  refine WO.V (run_indexAddr (q := adr ra (i * 3)) Tryz.underlying77 Ty.sz95 rfl rfl (by omega) (by omega) ((hS1.own_rd_i 1 rfl).2.1 (by omega)) rfl) ?_
  refine WO.on rfl rfl d14 ?_
  refine WO.V (run_fa 0 (adr ra (i * 3 + 0)) rfl (adr_add _ (by assumption) _ _)) ?_
  refine WO.on rfl rfl d14 ?_
  refine WO.V (run_load Ty.ag65 rfl ((hS1.own_rd_i 1 rfl).cell ((flat_get hsc_len hr (j := 0) (by decide)).trans rfl))) ?_
  refine WO.on rfl rfl d14 ?_
  refine WO.mv rfl rfl ?_
  refine WO.on rfl rfl d14 ?_
  have hS2 := rw_lab hr (hS1.permT [2] (L' := _::_::_::_::L) rfl)
  clear hS1
  have hS3 := hS2.permT [0, 3] (L' := _::_::_::_::_::L) rfl
  clear hS2
  refine WO.call rfl rfl Ty.hd82 rfl (rcmp_spec rdH_rd hY (hsz r (List.mem_of_getElem? hr)) hp hS3) (fun v5 w4 pv5 => ?_)
  obtain ⟨rfl, hS4⟩ := pv5
  clear hS3
  refine WO.on rfl rfl d14 ?_
  refine WO.V (run_lss rfl rfl) ?_
  refine WO.V (run_pickT rfl d14 rfl) ?_
  refine WO.nil (NX.go ?_)
  refine WP.condP rfl (fun g26 => ?_) (fun g26 => ?_)
  ·
   refine WP.skip (NX.go (WP.block (WP.region rfl ?_)))
   refine WO.mv rfl rfl ?_
   refine WO.V (run_add rfl rfl (IntWalk.i64_in _ (by omega))) ?_
   refine WO.asg rfl rfl ?_
   refine WO.nil (NX.blk ?_)
   exact NX.again (i + 1) ⟨⟨by omega, by rw [drop_cons hr, atR, if_pos g26] at hgo; omega⟩, (hS4.permT [0, 2, 2, 1] (L' := _::_::_::_::_::L) rfl).drop⟩ (by show S.length - (i + 1) < S.length - i; omega) (Sub.cons rfl (Sub.cons rfl (Sub.consE rfl (by congr 1) (Sub.nil _))))
  ·
   refine WP.exit (NX.thenExit (NX.thenExit ?_))
   refine NX.blkExit ?_
   refine NX.go (WP.seq (WP.region rfl ?_))
   refine WO.mv rfl rfl ?_
   refine WO.mv rfl rfl ?_
   refine WO.mv rfl rfl ?_
   refine WO.V (run_nilCheck rfl) ?_
   refine WO.V (run_fa 0 ⟨g, 0, none⟩ rfl rfl) ?_
   refine WO.V (run_load Ty.ag77 rfl ((hS4.cel_at 3 rfl 0).trans rfl)) ?_
   refine WO.V (run_len rfl Tryz.underlying77 rfl) ?_
   refine WO.V (run_lss rfl rfl) ?_
   refine WO.mv rfl rfl ?_
   refine dcase (p := (i : Int) < ((S.length : Nat) : Int)) (fun g37 d37 => ?_) (fun g37 d37 => ?_)
   ·
    refine WO.on rfl rfl d37 ?_
    refine WO.mv rfl rfl ?_
    refine WO.on rfl rfl d37 ?_
    refine WO.V (run_nilCheck rfl) ?_
    refine WO.on rfl rfl d37 ?_
    refine WO.V (run_fa 0 ⟨g, 0, none⟩ rfl rfl) ?_
    refine WO.on rfl rfl d37 ?_
    refine WO.V (run_load Ty.ag77 rfl ((hS4.cel_at 3 rfl 0).trans rfl)) ?_
    refine WO.on rfl rfl d37 ?_
    refine WO.mv rfl rfl ?_
    refine WO.on rfl rfl d37 ?_
    refine WO.V (run_indexAddr (q := adr ra (i * 3)) Tryz.underlying77 Ty.sz95 rfl rfl (by omega) (by omega) ((hS4.own_rd_i 4 rfl).2.1 (by omega)) rfl) ?_
    refine WO.on rfl rfl d37 ?_
    refine WO.V (run_fa 0 (adr ra (i * 3 + 0)) rfl (adr_add _ (by assumption) _ _)) ?_
    refine WO.on rfl rfl d37 ?_
    refine WO.V (run_load Ty.ag65 rfl ((hS4.own_rd_i 4 rfl).cell ((flat_get hsc_len hr (j := 0) (by decide)).trans rfl))) ?_
    refine WO.on rfl rfl d37 ?_
    refine WO.mv rfl rfl ?_
    refine WO.on rfl rfl d37 ?_
    have hS6 := rw_lab hr (hS4.permT [2] (L' := _::_::_::_::_::L) rfl)
    clear hS4
    have hS7 := hS6.permT [0, 2] (L' := _::_::_::_::_::_::L) rfl
    clear hS6
    refine WO.call rfl rfl Ty.hd45 rfl (rsame_spec rdH_rd hY (hsz r (List.mem_of_getElem? hr)) hp hS7) (fun v9 w8 pv9 => ?_)
    obtain ⟨rfl, hS8⟩ := pv9
    clear hS7
    refine WO.V (run_pickT rfl d37 rfl) ?_
    refine WO.asg rfl rfl ?_
    refine WO.asg rfl rfl ?_
    refine WO.nil (NX.go (WP.ret ?_))
    refine NX.done (l := [.tmp 4, .tmp 5]) rfl rfl ?_
    have hat : atR S p = i := by rw [hgo, drop_cons hr, atR, if_neg g26]; rfl
    have hhas : hasR S p = decide (r.lb.l = p) := by unfold hasR; rw [hat, hr]
    exact ⟨by rw [hat, hhas]; rfl, ((hS8.mask [false, true, true, false] (L' := _::_::_::_::L) rfl).permT [2, 2, 1] (L' := _::_::_::_::L) rfl)⟩
   ·
    exact absurd g14 g37
 ·
  refine WO.off rfl rfl d14 rfl ?_
  refine WO.off rfl rfl d14 rfl ?_
  refine WO.off rfl rfl d14 rfl ?_
  refine WO.off rfl rfl d14 rfl ?_
  refine WO.off rfl rfl d14 rfl ?_
  refine WO.off rfl rfl d14 rfl ?_
  refine WO.off rfl rfl d14 rfl ?_
  refine WO.off rfl rfl d14 rfl ?_
  refine WO.off rfl rfl d14 rfl ?_
  refine WO.off rfl rfl d14 rfl ?_
  refine WO.off rfl rfl d14 rfl ?_
  refine WO.V (run_pickF rfl d14 rfl) ?_
  refine WO.nil (NX.go ?_)
  refine WP.condF rfl rfl ?_
  refine WP.exit (NX.thenExit (NX.thenExit ?_))
  refine NX.blkExit ?_
  refine NX.go (WP.seq (WP.region rfl ?_))
  refine WO.mv rfl rfl ?_
  refine WO.mv rfl rfl ?_
  refine WO.mv rfl rfl ?_
  refine WO.V (run_nilCheck rfl) ?_
  refine WO.V (run_fa 0 ⟨g, 0, none⟩ rfl rfl) ?_
  refine WO.V (run_load Ty.ag77 rfl ((hS1.cel_at 0 rfl 0).trans rfl)) ?_
  refine WO.V (run_len rfl Tryz.underlying77 rfl) ?_
  refine WO.V (run_lss rfl rfl) ?_
  refine WO.mv rfl rfl ?_
  refine dcase (p := (i : Int) < ((S.length : Nat) : Int)) (fun g37 d37 => ?_) (fun g37 d37 => ?_)
  ·
   exact absurd g37 g14
  ·
   refine WO.off rfl rfl d37 rfl ?_
   refine WO.off rfl rfl d37 rfl ?_
   refine WO.off rfl rfl d37 rfl ?_
   refine WO.off rfl rfl d37 rfl ?_
   refine WO.off rfl rfl d37 rfl ?_
   refine WO.off rfl rfl d37 rfl ?_
   refine WO.off rfl rfl d37 rfl ?_
   refine WO.off rfl rfl d37 rfl ?_
   refine WO.off rfl rfl d37 rfl ?_
   refine WO.off rfl rfl d37 rfl ?_
   refine WO.V (run_pickF rfl d37 rfl) ?_
   refine WO.asg rfl rfl ?_
   refine WO.asg rfl rfl ?_
   refine WO.nil (NX.go (WP.ret ?_))
   refine NX.done (l := [.tmp 4, .tmp 5]) rfl rfl ?_
   have hat : atR S p = i := by rw [hgo, List.drop_of_length_le (by omega)]; rfl
   have hhas : hasR S p = false := by unfold hasR; rw [hat, List.getElem?_eq_none (by omega)]
   exact ⟨by rw [hat, hhas]; rfl, hS1⟩
end Go.Proofs.YtidoidoelgfnaaaGreatDoor.SL

/- The document's head: a copy. -/
namespace Go.Proofs.YtidoidoelgfnaaaGreatDoor.SL
open Go.RowKit Go.Proofs.YtidoidoelgfnaaaGreatDoor
open Go.Proofs.YtidoidoelgfnaaaGreatDoorW.PrintLast (rtab opsOf)
set_option linter.unusedVariables false
set_option linter.unusedSimpArgs false
theorem rhcopy_spec {B w : World} {L : List HP} {g : Nat} {A : List RowP} (hM : ∀ r ∈ A, r.pts.length ≤ 4398046511104) (hAn : A.length ≤ 1000000) (hS : St B (rfA 79 95 103 g A :: L) w) : Does Tryz.prog 71 [Value.pointer (some ⟨g, 0, none⟩)] w (fun v w1 => ∃ g2, v = .pointer (some ⟨g2, 0, none⟩) ∧ St B (rfA 79 95 103 g2 A :: rfA 79 95 103 g A :: L) w1) := by
 obtain ⟨S, ra, rc, hSA, hS⟩ := rf_open hS
 have hSl : S.length = A.length := by rw [← hSA, List.length_map]
 refine enter (n := 34) Tryz.func71 rfl rfl [Value.pointer (some ⟨g, 0, none⟩)] rfl ?_
 refine WP.seq (WP.region rfl ?_)
 refine WO.asg rfl rfl ?_
 refine WO.nil (NX.go (WP.seq (WP.region rfl ?_)))
 refine WO.asg rfl rfl ?_
 refine WO.nil (NX.go (WP.seq (WP.seq (WP.region rfl ?_))))
 refine WO.asg rfl rfl ?_
 refine WO.nil (NX.go (WP.block ?_))
 replace hS := (St.addPure trivial hS : St B (allA (rhwA 103) [] :: cel g [Value.slice ra S.length rc] 79 :: own ra S.length rc 95 3 (S.flatMap hsc) :: allA (rhwA 103) S :: L) w)
 replace hS := hS.own_nil 95 3
 refine WP.loop (α := Nat × List MRow × Option Addr × Nat) (fun x => match x with | ⟨i, ol, oa, oc⟩ => [(0, Value.pointer (some ⟨g, 0, none⟩)), (3, Value.slice oa ol.length oc), (4, Value.int .i64 (i : Int))]) (fun x w => match x with | ⟨i, ol, oa, oc⟩ => (i ≤ S.length ∧ ol.map MRow.p = (S.take i).map MRow.p ∧ ol.length = i) ∧ St B (own oa ol.length oc 95 3 (ol.flatMap hsc) :: allA (rhwA 103) ol :: cel g [Value.slice ra S.length rc] 79 :: own ra S.length rc 95 3 (S.flatMap hsc) :: allA (rhwA 103) S :: L) w) (fun x => match x with | ⟨i, ol, oa, oc⟩ => S.length - i) (0, [], none, 0) ⟨⟨Nat.zero_le _, rfl, rfl⟩, hS⟩ (Sub.cons rfl (Sub.consE rfl (by first | rfl | first | rfl | (congr 1; omega) | (simp; done) | (simp; omega)) (Sub.consE rfl (by first | rfl | first | rfl | (congr 1; omega) | (simp; done) | (simp; omega)) (Sub.nil _)))) ?_
 rintro ⟨i, ol, oa, oc⟩ w1 ⟨⟨hi, hol, hon⟩, hS1⟩
 clear hS
 refine WP.seq (WP.seq (WP.region rfl ?_))
 refine WO.mv rfl rfl ?_
 refine WO.mv rfl rfl ?_
 refine WO.V (run_nilCheck rfl) ?_
 refine WO.V (run_fa 0 ⟨g, 0, none⟩ rfl rfl) ?_
 refine WO.V (run_load Ty.ag77 rfl ((hS1.cel_at 2 rfl 0).trans rfl)) ?_
 refine WO.V (run_len rfl Tryz.underlying77 rfl) ?_
 refine WO.V (run_lss rfl rfl) ?_
 refine WO.nil (NX.go ?_)
 refine WP.condP rfl (fun g12 => ?_) (fun g12 => ?_)
 ·
  refine WP.skip (NX.go (WP.seq (WP.block (WP.seq ?_))))
  obtain ⟨r, hr⟩ : ∃ qq, S[i]? = some qq := ⟨_, List.getElem?_eq_getElem (by omega)⟩
  have hsa : ra.isSome = true := rd_isSome ((hS1.own_rd_i 3 rfl)) (by omega)
  have hrp : r.pt.l.length ≤ 4398046511104 := hM r.p (hSA ▸ List.mem_map.2 ⟨r, List.mem_of_getElem? hr, rfl⟩)
  refine WP.region rfl ?_
  refine WO.mv rfl rfl ?_
  refine WO.V (run_nilCheck rfl) ?_
  refine WO.V (run_fa 0 ⟨g, 0, none⟩ rfl rfl) ?_
  refine WO.V (run_load Ty.ag77 rfl ((hS1.cel_at 2 rfl 0).trans rfl)) ?_
  refine WO.mv rfl rfl ?_
  refine WO.V (run_indexAddr (q := adr ra (i * 3)) Tryz.underlying77 Ty.sz95 rfl rfl (by omega) (by omega) ((hS1.own_rd_i 3 rfl).2.1 (by omega)) rfl) ?_
  refine WO.V (run_loadAgg (vs := (hsc r)) Ty.ag95 Ty.sz95 rfl ((hS1.own_rd_i 3 rfl).cells (by rw [flat_len hsc_len]; omega) (flat_part hsc_len hr)).1 ((hS1.own_rd_i 3 rfl).cells (by rw [flat_len hsc_len]; omega) (flat_part hsc_len hr)).2) ?_
  refine WO.alloc (l := [Value.slice none 0 0, Value.slice none 0 0, Value.int .i64 0]) hS1 Ty.zr95 rfl rfl (fun g3 w2 lg3 hS2 => ?_)
  clear hS1
  refine WO.store (l' := (hsc r)) 0 hS2 rfl Ty.sz95 rfl rfl rfl rfl rfl (Nat.le_of_ble_eq_true rfl) rfl (fun w4 (hS4 : St B (cel g3 (hsc r) 95 :: _::_::_::_::_::L) w4) => ?_)
  clear hS2
  refine WO.nil (NX.go (WP.seq ?_))
  have hS5 := rw_lab hr (hS4.permT [5] (L' := _::_::_::_::_::_::L) rfl)
  clear hS4
  have hS6 := rw_get hr (hS5.permT [1] (L' := _::_::_::_::_::_::_::L) rfl)
  clear hS5
  refine WP.region rfl ?_
  refine WO.buildSlice (l := []) hS6 Tryz.underlying66 rfl (fun w => by kernel_rfl) rfl (fun g8 w7 lg8 hS7 => ?_)
  clear hS6
  have hS7 := hS7.own_of_cel (m := 0) (k := 2) rfl
  refine WO.V (run_fa 1 ⟨g3, 1, none⟩ rfl rfl) ?_
  refine WO.V (run_load Ty.ag66 rfl ((hS7.cel_at 5 rfl 1).trans rfl)) ?_
  refine WO.append (news := (r.pt.l.flatMap ptc)) 0 rfl Tryz.underlying66 Tryz.underlying66 (fun _ h => by cases h) Ty.sz103 (by decide) Ty.by103 Ty.zr103 rfl rfl rfl rfl hS7 rfl ((hS7.own_rd_i 2 rfl).src) (flat_noAgg ptc_na _) (by omega) (by omega) (fun a10 c11 w9 hS9 => ?_)
  replace hS9 : St B (own a10 r.pt.l.length c11 103 2 (r.pt.l.flatMap ptc) :: _::own r.pt.a r.pt.l.length r.pt.cap 103 2 (r.pt.l.flatMap ptc) :: allA (rhwA 103) (S.eraseIdx i) :: _::_::_::_::_::_::L) w9 := (by have z := hS9; rw [Nat.zero_add, List.nil_append] at z; exact z)
  refine WO.as (d := 25) (v := Value.slice a10 r.pt.l.length c11) rfl (congrArg (fun z => Value.slice _ z _) (Nat.zero_add _)) ?_
  clear hS7
  refine WO.V (run_fa 1 ⟨g3, 1, none⟩ rfl rfl) ?_
  refine WO.store (l' := [Value.slice r.lb.a r.lb.l.length r.lb.cap, Value.slice a10 r.pt.l.length c11, Value.int .i64 r.last]) 5 hS9 rfl Ty.sz66 rfl rfl rfl rfl rfl (Nat.le_of_ble_eq_true rfl) rfl (fun w12 (hS12 : St B (_::_::_::_::_::cel g3 [Value.slice r.lb.a r.lb.l.length r.lb.cap, Value.slice a10 r.pt.l.length c11, Value.int .i64 r.last] 95 :: _::_::_::_::L) w12) => ?_)
  clear hS9
  refine WO.nil (NX.go (WP.region rfl ?_))
  refine WO.mv rfl rfl ?_
  refine WO.V (run_loadAgg (vs := [Value.slice r.lb.a r.lb.l.length r.lb.cap, Value.slice a10 r.pt.l.length c11, Value.int .i64 r.last]) Ty.ag95 Ty.sz95 rfl rfl (cell_all (hS12.cel_at 5 rfl) 0 rfl)) ?_
  refine WO.buildSlice (l := [Value.slice r.lb.a r.lb.l.length r.lb.cap, Value.slice a10 r.pt.l.length c11, Value.int .i64 r.last]) hS12 Tryz.underlying77 rfl (fun w => by kernel_rfl) rfl (fun g14 w13 lg14 hS13 => ?_)
  clear hS12
  refine WO.append (news := [Value.slice r.lb.a r.lb.l.length r.lb.cap, Value.slice a10 r.pt.l.length c11, Value.int .i64 r.last]) 7 rfl Tryz.underlying77 Tryz.underlying77 (fun _ h => by cases h) Ty.sz95 (by decide) Ty.by95 Ty.zr95 rfl rfl rfl rfl hS13 rfl ((hS13.cel_rd 0 rfl (o := 0) (m := 1) (k := 3) rfl (Nat.le_of_ble_eq_true rfl)).src) rfl (by omega) (by omega) (fun a16 c17 w15 hS15 => ?_)
  replace hS15 : St B (cel g14 [Value.slice r.lb.a r.lb.l.length r.lb.cap, Value.slice a10 r.pt.l.length c11, Value.int .i64 r.last] 95 :: _::_::_::_::_::_::own a16 (ol.length + 1) c17 95 3 ((ol.flatMap hsc) ++ [Value.slice r.lb.a r.lb.l.length r.lb.cap, Value.slice a10 r.pt.l.length c11, Value.int .i64 r.last]) :: _::_::_::L) w15 := hS15
  clear hS13
  refine WO.asg rfl rfl ?_
  refine WO.nil (NX.blk (NX.go (WP.region rfl ?_)))
  refine WO.mv rfl rfl ?_
  refine WO.V (run_add rfl rfl (IntWalk.i64_in _ (by omega))) ?_
  refine WO.asg rfl rfl ?_
  refine WO.nil ?_
  have hS18 := rw_same hr (hS15.permT [2, 2, 2] (L' := _::_::_::_::_::_::_::_::_::_::_::L) rfl)
  clear hS15
  have hS19 := rw_snoc (⟨r.lb, r.last, ⟨a10, r.pt.l, c11⟩⟩ : MRow) (hS18.permT [3, 2, 4] (L' := _::_::_::_::_::_::_::_::_::L) rfl)
  clear hS18
  exact NX.again (i + 1, ol ++ [(⟨r.lb, r.last, ⟨a10, r.pt.l, c11⟩⟩ : MRow)], a16, c17) ⟨⟨by omega, by rw [take_snocM hr, List.map_append, List.map_append, hol]; rfl, by rw [List.length_append, hon]; rfl⟩, own_eqM ((hS19.mask [true, true, false, false] (L' := _::_::_::_::_::L) rfl).permT [2, 0, 1, 1] (L' := _::_::_::_::_::L) rfl) (by simp) (by simp [hsc])⟩ (by show S.length - (i + 1) < S.length - i; omega) (Sub.cons rfl (Sub.consE rfl (by simp) (Sub.consE rfl (by congr 1) (Sub.nil _))))
 ·
  refine WP.exit (NX.thenExit (NX.thenExit ?_))
  refine NX.blkExit ?_
  refine NX.go (WP.seq (WP.region rfl ?_))
  refine WO.mv rfl rfl ?_
  refine WO.V (run_build (v := Value.agg #[Value.slice oa ol.length oc]) rfl (fun w => by kernel_rfl)) ?_
  refine WO.box (l := [Value.slice oa ol.length oc]) hS1 rfl rfl rfl (fun g21 w20 lg21 hS20 => ?_)
  clear hS1
  refine WO.asg rfl rfl ?_
  refine WO.nil (NX.go (WP.ret ?_))
  refine NX.done (l := [.tmp 2]) rfl rfl ?_
  have hS22 := rf_shut (A := A) (by rw [hol, List.take_of_length_le (by omega), hSA]) hS20
  have hS23 := rf_shut hSA (hS22.permT [1, 1, 1] (L' := _::_::_::_::L) rfl)
  exact ⟨g21, rfl, (hS23.permT [1] (L' := _::_::L) rfl)⟩
end Go.Proofs.YtidoidoelgfnaaaGreatDoor.SL

/- The document's head: a sample more. -/
namespace Go.Proofs.YtidoidoelgfnaaaGreatDoor.SL
open Go.RowKit Go.Proofs.YtidoidoelgfnaaaGreatDoor
open Go.Proofs.YtidoidoelgfnaaaGreatDoorW.PrintLast (rtab opsOf)
set_option linter.unusedVariables false
set_option linter.unusedSimpArgs false

theorem lab_own {B w : World} {L : List HP} {H : HP} {a : Option Addr} {n n2 c t k : Nat} {l l2 : List Value} (e : n = n2) (e2 : l = l2) (h : St B (H :: own a n c t k l :: L) w) : St B (H :: own a n2 c t k l2 :: L) w := by subst e; subst e2; exact h
theorem rf_len {B w : World} {L : List HP} {tH tR g c n n2 : Nat} {a : Option Addr} {l l2 : List Value} (e : n = n2) (e2 : l = l2) (h : St B (cel g [.slice a n c] tH :: own a n c tR 3 l :: L) w) : St B (cel g [.slice a n2 c] tH :: own a n2 c tR 3 l2 :: L) w := by subst e; subst e2; exact h
theorem t72_6 : rtab .any (opsOf Tryz.f72 6) = (true, [([], []), ([0], [0]), ([1], [1]), ([2], [2]), ([], []), ([], []), ([5], [5]), ([6], [6]), ([7], [7]), ([], []), ([8, 9], [8, 9]), ([10], [10]), ([11], [11]), ([], []), ([13], [13]), ([], []), ([15], [15]), ([14, 16], [14, 16]), ([17], [17]), ([12, 18], [12, 18]), ([3, 4, 0, 1, 2, 3, 4, 5, 6, 7, 8, 9, 10, 11, 12, 13, 14, 15, 16, 17, 18, 19], [3, 4]), ([20, 0, 1, 2, 3, 4, 5, 6, 7, 8, 9, 10, 11, 12, 13, 14, 15, 16, 17, 18, 19], [20]), ([21, 19, 19, 0, 1, 2, 3, 4, 5, 6, 7, 8, 9, 10, 11, 12, 13, 14, 15, 16, 17, 18, 19], [19, 21])]) := by kernel_rfl
theorem t72_7 : rtab .any (opsOf Tryz.f72 7) = (true, [([], []), ([0], [0]), ([1], [1]), ([2], [2]), ([], []), ([], []), ([5], [5]), ([3, 4, 0, 1, 2, 3, 4, 5, 6], [3, 4]), ([7, 0, 1, 2, 3, 4, 5, 6], [7]), ([8, 6, 0, 1, 2, 3, 4, 5, 6], [6, 8])]) := by kernel_rfl
theorem t72_5 : rtab .any (opsOf Tryz.f72 5) = (true, [([], []), ([], []), ([], []), ([2], [2]), ([3], [3]), ([4], [4]), ([], []), ([5, 6], [5, 6]), ([1, 7], [1, 7]), ([], []), ([], []), ([10], [10]), ([9, 11, 8], [9, 11]), ([12], [12]), ([13], [13]), ([8, 14, 12], [8, 14]), ([], []), ([16], [16]), ([17], [17]), ([18], [18]), ([], []), ([19, 20], [19, 20]), ([15, 21, 15], [15, 21]), ([0, 0, 1, 2, 3, 4, 5, 6, 7, 8, 9, 10, 11, 12, 13, 14, 15, 16, 17, 18, 19, 20, 21, 22], [0]), ([23, 0, 1, 2, 3, 4, 5, 6, 7, 8, 9, 10, 11, 12, 13, 14, 15, 16, 17, 18, 19, 20, 21, 22], [23]), ([24, 22, 22, 0, 1, 2, 3, 4, 5, 6, 7, 8, 9, 10, 11, 12, 13, 14, 15, 16, 17, 18, 19, 20, 21, 22], [22, 24])]) := by kernel_rfl
theorem t72_2 : rtab .any (opsOf Tryz.f72 2) = (true, [([], []), ([0], [0]), ([1], [1]), ([2, 1], [1, 2]), ([1], [1]), ([4, 1], [1, 4]), ([5, 1], [1, 5]), ([6, 1], [1, 6]), ([1], [1]), ([7, 8, 1], [1, 7, 8]), ([9, 1], [1, 9]), ([10, 1], [1, 10]), ([3, 11, 1], [1, 3, 11]), ([1, 12], [1, 12])]) := by kernel_rfl
theorem rhput_spec {B w : World} {L : List HP} {g M : Nat} {A : List RowP} (hA : WfH A M) (hM : M + 1 ≤ 4398046511104) (hAn : A.length ≤ 999999) (z : Smp) (hzl : z.lb.l.length ≤ 4398046511104) (hzz : SzP z.lb.l) (hS : St B (rfA 79 95 103 g A :: labA z.lb :: L) w) : Does Tryz.prog 72 [Value.pointer (some ⟨g, 0, none⟩), Value.agg #[Value.slice z.lb.a z.lb.l.length z.lb.cap, Value.int .i64 z.t, Value.int .u64 z.v]] w (fun v w1 => v = .bool (decide (oldF A z.p = false)) ∧ St B (rfA 79 95 103 g (if oldF A z.p = true then A else addF A z.lb.l z.t [⟨z.t, z.v⟩]) :: labA z.lb :: L) w1) := by
 have hS0 := rf_open hS
 clear hS
 obtain ⟨S, ra, rc, rfl, hS⟩ := hS0
 have hSn : S.length ≤ 999999 := by rw [List.length_map] at hAn; exact hAn
 have hsrt := hA.srt
 have hsz : ∀ r ∈ S, r.lb.l.length ≤ 4398046511104 := fun r hr => by have := (chk_sz (hA.chk r.p (List.mem_map.2 ⟨r, hr, rfl⟩))).1; exact Nat.le_trans this (by decide)
 have hpts : ∀ r ∈ S, r.pt.l.length ≤ M := fun r hr => hA.pts r.p (List.mem_map.2 ⟨r, hr, rfl⟩)
 have hi0 := atR_le S z.lb.l
 refine enter (n := 86) Tryz.func72 rfl rfl [Value.pointer (some ⟨g, 0, none⟩), Value.agg #[Value.slice z.lb.a z.lb.l.length z.lb.cap, Value.int .i64 z.t, Value.int .u64 z.v]] rfl ?_
 refine WP.seq (WP.region rfl ?_)
 refine WO.box (l := (smc z)) hS rfl rfl rfl (fun g2 w1 lg2 hS1 => ?_)
 clear hS
 refine WO.asg rfl rfl ?_
 refine WO.nil (NX.go (WP.seq (WP.region rfl ?_)))
 refine WO.mv rfl rfl ?_
 refine WO.V (run_fa 0 ⟨g2, 0, none⟩ rfl rfl) ?_
 refine WO.V (run_load Ty.ag65 rfl ((hS1.cel_at 0 rfl 0).trans rfl)) ?_
 have hS3 := hS1.permT [1, 1, 1, 1] (L' := _::_::_::_::_::L) rfl
 clear hS1
 refine WO.call rfl rfl Ty.hd112 rfl (rhat_spec rdH_rd (by omega) hsz hzl hS3) (fun v5 w4 pv5 => ?_)
 obtain ⟨rfl, hS4⟩ := pv5
 clear hS3
 refine WO.mv rfl rfl ?_
 refine WO.V (run_extract rfl rfl) ?_
 refine WO.V (run_extract rfl rfl) ?_
 refine WO.asg rfl rfl ?_
 refine WO.asg rfl rfl ?_
 refine WO.nil (NX.go (WP.seq (WP.seq ?_)))
 refine WP.meet (α := Bool) (fun x => match x with | qo => [(0, Value.pointer (some ⟨g, 0, none⟩)), (3, Value.pointer (some ⟨g2, 0, none⟩)), (5, Value.int .i64 (((atR S z.lb.l) : Nat) : Int)), (6, Value.bool (hasR S z.lb.l)), (27, Value.bool qo)]) (fun x w => match x with | qo => ((qo = true → oldF (S.map MRow.p) z.p = true) ∧ (qo = false → ∀ r, hasR S z.lb.l = true → S[(atR S z.lb.l)]? = some r → r.last < z.t)) ∧ St B (cel g [Value.slice ra S.length rc] 79 :: own ra S.length rc 95 3 (S.flatMap hsc) :: allA (rhwA 103) S :: (labA z.lb) :: cel g2 (smc z) 83 :: L) w) ?_ (fun K6 => ?_)
 ·
  rintro qo w7 ⟨⟨hqo, hqn⟩, hS7⟩
  clear hS4
  refine NX.go ?_
  refine WP.condB rfl (fun g27 => ?_) (fun g27 => ?_)
  ·
   refine WP.seq (WP.region rfl ?_)
   refine WO.asg rfl rfl ?_
   refine WO.nil (NX.go (WP.ret (NX.thenRet ?_)))
   refine NX.done (l := [.tmp 4]) rfl rfl ?_
   have hold := hqo g27
   exact ⟨by rw [hold]; rfl, by rw [if_pos hold]; exact rf_shut rfl ((hS7.mask [true, true, true, true, false] (L' := _::_::_::_::L) rfl))⟩
  ·
   refine WP.skip (NX.go (WP.seq (WP.seq (WP.region rfl ?_))))
   refine WO.mv rfl rfl ?_
   refine WO.V (run_not rfl rfl) ?_
   refine WO.nil (NX.go ?_)
   refine WP.meet (α := List MRow × MRow × Option Addr × Nat) (fun x => match x with | ⟨S1, r1, a1, c1⟩ => [(0, Value.pointer (some ⟨g, 0, none⟩)), (3, Value.pointer (some ⟨g2, 0, none⟩)), (5, Value.int .i64 (((atR S z.lb.l) : Nat) : Int))]) (fun x w => match x with | ⟨S1, r1, a1, c1⟩ => (oldF (S.map MRow.p) z.p = false ∧ S1[(atR S z.lb.l)]? = some r1 ∧ S1.length ≤ S.length + 1 ∧ (∀ q : SlV Pt, q.l = r1.pt.l ++ [⟨z.t, z.v⟩] → (S1.set (atR S z.lb.l) ⟨r1.lb, z.t, q⟩).map MRow.p = addF (S.map MRow.p) z.lb.l z.t [⟨z.t, z.v⟩]) ∧ r1.pt.l.length ≤ M ∧ a1.isSome = true) ∧ St B (own a1 S1.length c1 95 3 (S1.flatMap hsc) :: cel g [Value.slice a1 S1.length c1] 79 :: allA (rhwA 103) S1 :: (labA z.lb) :: cel g2 (smc z) 83 :: L) w) ?_ (fun K8 => ?_)
   ·
    rintro ⟨S1, r1, a1, c1⟩ w9 ⟨⟨hold, hr1, hl1, hadd, hp1, hsa1⟩, hS9⟩
    clear hS7
    refine NX.go (WP.seq ?_)
    have hlt1 := (List.getElem?_eq_some_iff.1 hr1).1
    have hS10 := rw_get hr1 (hS9.permT [2] (L' := _::_::_::_::_::L) rfl)
    clear hS9
    refine WD.start (fun w => (∀ jz, World.cell? w ⟨g, jz, none⟩ = [Value.slice a1 S1.length c1][jz]?) ∧ (∀ jz, World.cell? w ⟨g2, jz, none⟩ = (smc z)[jz]?) ∧ Rd w a1 S1.length 3 (S1.flatMap hsc)) [22] (bt 23 0) Ty.mo rfl (by kernel_rfl) hS10 (fun _ h => ⟨h.cel_at 4 rfl, h.cel_at 6 rfl, (h.own_rd_i 3 rfl)⟩) (fun w11 hS11 s12 => ?_)
    clear hS10
    refine DP (i := 0) t72_6 (bt 23 1) rfl rfl rfl rfl (fun w => run_move rfl) ?_
    refine DP (i := 1) t72_6 (bt 23 3) rfl rfl rfl rfl (fun w => run_nilCheck rfl) ?_
    refine DP (i := 2) t72_6 (bt 23 7) rfl rfl rfl rfl (fun w => run_fa 0 ⟨g, 0, none⟩ rfl rfl) ?_
    refine DT (i := 3) t72_6 (bt 23 15) s12 rfl rfl rfl rfl (fun w hs => run_load Ty.ag77 rfl ((hs.1 0).trans rfl)) ?_
    refine DP (i := 4) t72_6 (bt 23 31) rfl rfl rfl rfl (fun w => run_move rfl) ?_
    refine DP (i := 5) t72_6 (bt 23 63) rfl rfl rfl rfl (fun w => run_move rfl) ?_
    refine DP (i := 6) t72_6 (bt 23 127) rfl rfl rfl rfl (fun w => run_nilCheck rfl) ?_
    refine DP (i := 7) t72_6 (bt 23 255) rfl rfl rfl rfl (fun w => run_fa 0 ⟨g, 0, none⟩ rfl rfl) ?_
    refine DT (i := 8) t72_6 (bt 23 511) s12 rfl rfl rfl rfl (fun w hs => run_load Ty.ag77 rfl ((hs.1 0).trans rfl)) ?_
    refine DP (i := 9) t72_6 (bt 23 1023) rfl rfl rfl rfl (fun w => run_move rfl) ?_
    refine DT (i := 10) t72_6 (bt 23 2047) s12 rfl rfl rfl rfl (fun w hs => run_indexAddr (q := adr a1 ((atR S z.lb.l) * 3)) Tryz.underlying77 Ty.sz95 rfl rfl (by omega) (by omega) ((hs.2.2).2.1 (by omega)) rfl) ?_
    refine DP (i := 11) t72_6 (bt 23 4095) rfl rfl rfl rfl (fun w => run_fa 1 (adr a1 ((atR S z.lb.l) * 3 + 1)) rfl (adr_add _ (by assumption) _ _)) ?_
    refine DT (i := 12) t72_6 (bt 23 8191) s12 rfl rfl rfl rfl (fun w hs => run_load Ty.ag66 rfl ((hs.2.2).cell ((flat_get hsc_len hr1 (j := 1) (by decide)).trans rfl))) ?_
    refine DP (i := 13) t72_6 (bt 23 16383) rfl rfl rfl rfl (fun w => run_fa 1 ⟨g2, 1, none⟩ rfl rfl) ?_
    refine DT (i := 14) t72_6 (bt 23 32767) s12 rfl rfl rfl rfl (fun w hs => run_load Ty.ag2 rfl ((hs.2.1 1).trans rfl)) ?_
    refine DP (i := 15) t72_6 (bt 23 65535) rfl rfl rfl rfl (fun w => run_fa 2 ⟨g2, 2, none⟩ rfl rfl) ?_
    refine DT (i := 16) t72_6 (bt 23 131071) s12 rfl rfl rfl rfl (fun w hs => run_load Ty.ag81 rfl ((hs.2.1 2).trans rfl)) ?_
    refine DP (i := 17) t72_6 (bt 23 262143) rfl rfl rfl rfl (fun w => run_build (v := Value.agg #[Value.int .i64 z.t, Value.int .u64 z.v]) rfl (fun w => by kernel_rfl)) ?_
    refine WD.one (i := 18) t72_6 (bt 23 524287) rfl (by kernel_rfl) ?_
    refine WO.buildSlice (l := [Value.int .i64 z.t, Value.int .u64 z.v]) hS11 Tryz.underlying66 rfl (fun w => by kernel_rfl) rfl (fun g14 w13 lg14 hS13 => ?_)
    clear hS11
    refine WO.nil ?_
    have s15 : (∀ jz, World.cell? w13 ⟨g, jz, none⟩ = [Value.slice a1 S1.length c1][jz]?) ∧ (∀ jz, World.cell? w13 ⟨g2, jz, none⟩ = (smc z)[jz]?) ∧ Rd w13 a1 S1.length 3 (S1.flatMap hsc) := ⟨hS13.cel_at 5 rfl, hS13.cel_at 7 rfl, (hS13.own_rd_i 4 rfl)⟩
    refine NX.held s15 ?_
    refine WD.one (i := 19) t72_6 (bt 23 1048575) rfl (by kernel_rfl) ?_
    refine WO.append (news := [Value.int .i64 z.t, Value.int .u64 z.v]) 2 rfl Tryz.underlying66 Tryz.underlying66 (fun _ h => by cases h) Ty.sz103 (by decide) Ty.by103 Ty.zr103 rfl rfl rfl rfl hS13 rfl ((hS13.cel_rd 0 rfl (o := 0) (m := 1) (k := 2) rfl (Nat.le_of_ble_eq_true rfl)).src) rfl (by omega) (by omega) (fun a17 c18 w16 hS16 => ?_)
    replace hS16 : St B (cel g14 [Value.int .i64 z.t, Value.int .u64 z.v] 103 :: (labA r1.lb) :: own a17 (r1.pt.l.length + 1) c18 103 2 ((r1.pt.l.flatMap ptc) ++ [Value.int .i64 z.t, Value.int .u64 z.v]) :: allA (rhwA 103) (S1.eraseIdx (atR S z.lb.l)) :: _::_::_::_::L) w16 := hS16
    clear hS13
    refine WO.nil ?_
    have s19 : (∀ jz, World.cell? w16 ⟨g, jz, none⟩ = [Value.slice a1 S1.length c1][jz]?) ∧ (∀ jz, World.cell? w16 ⟨g2, jz, none⟩ = (smc z)[jz]?) ∧ Rd w16 a1 S1.length 3 (S1.flatMap hsc) := ⟨hS16.cel_at 5 rfl, hS16.cel_at 7 rfl, (hS16.own_rd_i 4 rfl)⟩
    refine NX.held s19 ?_
    refine DT (i := 20) t72_6 (bt 23 2097151) s19 rfl rfl rfl rfl (fun w hs => run_indexAddr (q := adr a1 ((atR S z.lb.l) * 3)) Tryz.underlying77 Ty.sz95 rfl rfl (by omega) (by omega) ((hs.2.2).2.1 (by omega)) rfl) ?_
    refine DP (i := 21) t72_6 (bt 23 4194303) rfl rfl rfl rfl (fun w => run_fa 1 (adr a1 ((atR S z.lb.l) * 3 + 1)) rfl (adr_add _ (by assumption) _ _)) ?_
    refine WD.one (i := 22) t72_6 (bt 23 8388607) rfl (by kernel_rfl) ?_
    refine WO.storeOwnAt 4 hS16 rfl Ty.sz66 rfl rfl rfl rfl (by rw [flat_len hsc_len]; omega) (fun w20 hS20 => ?_)
    replace hS20 : St B (_::_::_::_::own a1 S1.length c1 95 3 ((S1.set (atR S z.lb.l) (⟨r1.lb, r1.last, ⟨a17, r1.pt.l ++ [⟨z.t, z.v⟩], c18⟩⟩ : MRow)).flatMap hsc) :: _::_::_::L) w20 := (by have z9 := hS20; rw [flat_set hsc_len hr1 (j := 1) (y := (⟨r1.lb, r1.last, ⟨a17, r1.pt.l ++ [⟨z.t, z.v⟩], c18⟩⟩ : MRow)) (by decide) (by simp [hsc])] at z9; exact z9)
    clear hS16
    refine WO.nil ?_
    refine NX.last (by decide) ?_
    refine WD.done t72_6 (by kernel_rfl) ?_
    refine NX.go (WP.seq ?_)
    have hr2 : (S1.set (atR S z.lb.l) (⟨r1.lb, r1.last, ⟨a17, r1.pt.l ++ [⟨z.t, z.v⟩], c18⟩⟩ : MRow))[(atR S z.lb.l)]? = some (⟨r1.lb, r1.last, ⟨a17, r1.pt.l ++ [⟨z.t, z.v⟩], c18⟩⟩ : MRow) := by rw [List.getElem?_set_self hlt1]
    refine WD.start (fun w => (∀ jz, World.cell? w ⟨g14, jz, none⟩ = [Value.int .i64 z.t, Value.int .u64 z.v][jz]?) ∧ (∀ jz, World.cell? w ⟨g, jz, none⟩ = [Value.slice a1 S1.length c1][jz]?) ∧ (∀ jz, World.cell? w ⟨g2, jz, none⟩ = (smc z)[jz]?) ∧ Rd w a1 S1.length 3 ((S1.set (atR S z.lb.l) (⟨r1.lb, r1.last, ⟨a17, r1.pt.l ++ [⟨z.t, z.v⟩], c18⟩⟩ : MRow)).flatMap hsc)) [9] (bt 10 0) Ty.mo rfl (by kernel_rfl) hS20 (fun _ h => ⟨h.cel_at 0 rfl, h.cel_at 5 rfl, h.cel_at 7 rfl, (h.own_rd_i 4 rfl)⟩) (fun w21 hS21 s22 => ?_)
    clear hS20
    refine DP (i := 0) t72_7 (bt 10 1) rfl rfl rfl rfl (fun w => run_move rfl) ?_
    refine DP (i := 1) t72_7 (bt 10 3) rfl rfl rfl rfl (fun w => run_nilCheck rfl) ?_
    refine DP (i := 2) t72_7 (bt 10 7) rfl rfl rfl rfl (fun w => run_fa 0 ⟨g, 0, none⟩ rfl rfl) ?_
    refine DT (i := 3) t72_7 (bt 10 15) s22 rfl rfl rfl rfl (fun w hs => run_load Ty.ag77 rfl ((hs.2.1 0).trans rfl)) ?_
    refine DP (i := 4) t72_7 (bt 10 31) rfl rfl rfl rfl (fun w => run_move rfl) ?_
    refine DP (i := 5) t72_7 (bt 10 63) rfl rfl rfl rfl (fun w => run_fa 1 ⟨g2, 1, none⟩ rfl rfl) ?_
    refine DT (i := 6) t72_7 (bt 10 127) s22 rfl rfl rfl rfl (fun w hs => run_load Ty.ag2 rfl ((hs.2.2.1 1).trans rfl)) ?_
    refine DT (i := 7) t72_7 (bt 10 255) s22 rfl rfl rfl rfl (fun w hs => run_indexAddr (q := adr a1 ((atR S z.lb.l) * 3)) Tryz.underlying77 Ty.sz95 rfl rfl (by omega) (by omega) ((hs.2.2.2).2.1 (by omega)) rfl) ?_
    refine DP (i := 8) t72_7 (bt 10 511) rfl rfl rfl rfl (fun w => run_fa 2 (adr a1 ((atR S z.lb.l) * 3 + 2)) rfl (adr_add _ (by assumption) _ _)) ?_
    refine WD.one (i := 9) t72_7 (bt 10 1023) rfl (by kernel_rfl) ?_
    refine WO.storeOwnAt 4 hS21 rfl Ty.sz2 rfl rfl rfl rfl (by rw [flat_len hsc_len, List.length_set]; omega) (fun w23 hS23 => ?_)
    replace hS23 : St B (_::_::_::_::own a1 S1.length c1 95 3 (((S1.set (atR S z.lb.l) (⟨r1.lb, r1.last, ⟨a17, r1.pt.l ++ [⟨z.t, z.v⟩], c18⟩⟩ : MRow)).set (atR S z.lb.l) (⟨r1.lb, z.t, ⟨a17, r1.pt.l ++ [⟨z.t, z.v⟩], c18⟩⟩ : MRow)).flatMap hsc) :: _::_::_::L) w23 := (by have z9 := hS23; rw [flat_set hsc_len hr2 (j := 2) (y := (⟨r1.lb, z.t, ⟨a17, r1.pt.l ++ [⟨z.t, z.v⟩], c18⟩⟩ : MRow)) (by decide) rfl] at z9; exact z9)
    clear hS21
    refine WO.nil ?_
    refine NX.last (by decide) ?_
    refine WD.done t72_7 (by kernel_rfl) ?_
    refine NX.go (WP.seq (WP.region rfl ?_))
    refine WO.asg rfl rfl ?_
    refine WO.nil (NX.go (WP.ret ?_))
    refine NX.done (l := [.tmp 4]) rfl rfl ?_
    have hS24 := rw_back (tP := 103) (⟨r1.lb, z.t, ⟨a17, r1.pt.l ++ [⟨z.t, z.v⟩], c18⟩⟩ : MRow) hr1 (lab_own (by simp) (by simp [ptc]) (hS23.permT [1, 1, 1] (L' := _::_::_::_::_::_::_::_::L) rfl))
    exact ⟨by rw [hold]; rfl, by rw [if_neg (by rw [hold]; decide)]; exact rf_shut (hadd _ rfl) (rf_len (by rw [List.length_set]) (by rw [List.set_set]) (((hS24.mask [true, false, true, true, true, false] (L' := _::_::_::_::L) rfl).permT [2, 1] (L' := _::_::_::_::L) rfl)))⟩
   ·
    refine WP.condB rfl (fun g29 => ?_) (fun g29 => ?_)
    ·
     have hhas : hasR S z.lb.l = false := by simpa using g29
     have hoc := hS7.own_le_i 1 rfl
     refine WD.start (fun w => (∀ jz, World.cell? w ⟨g, jz, none⟩ = [Value.slice ra S.length rc][jz]?) ∧ (∀ jz, World.cell? w ⟨g2, jz, none⟩ = (smc z)[jz]?) ∧ Rd w ra S.length 3 (S.flatMap hsc)) [25] (bt 26 0) Ty.mo rfl (by kernel_rfl) hS7 (fun _ h => ⟨h.cel_at 0 rfl, h.cel_at 4 rfl, (h.own_rd_i 1 rfl)⟩) (fun w25 hS25 s26 => ?_)
     clear hS7
     refine DP (i := 0) t72_5 (bt 26 1) rfl rfl rfl rfl (fun w => run_move rfl) ?_
     refine DP (i := 2) t72_5 (bt 26 5) rfl rfl rfl rfl (fun w => run_move rfl) ?_
     refine DP (i := 3) t72_5 (bt 26 13) rfl rfl rfl rfl (fun w => run_nilCheck rfl) ?_
     refine DP (i := 4) t72_5 (bt 26 29) rfl rfl rfl rfl (fun w => run_fa 0 ⟨g, 0, none⟩ rfl rfl) ?_
     refine DT (i := 5) t72_5 (bt 26 61) s26 rfl rfl rfl rfl (fun w hs => run_load Ty.ag77 rfl ((hs.1 0).trans rfl)) ?_
     refine DP (i := 6) t72_5 (bt 26 125) rfl rfl rfl rfl (fun w => run_move rfl) ?_
     refine DP (i := 7) t72_5 (bt 26 253) rfl rfl rfl rfl (fun w => run_sliceTo (j := (atR S z.lb.l)) Tryz.underlying77 Ty.sz95 rfl ⟨_, rfl⟩ (by omega)) ?_
     refine DP (i := 10) t72_5 (bt 26 1277) rfl rfl rfl rfl (fun w => run_fa 0 ⟨g2, 0, none⟩ rfl rfl) ?_
     refine DT (i := 11) t72_5 (bt 26 3325) s26 rfl rfl rfl rfl (fun w hs => run_load Ty.ag65 rfl ((hs.2.1 0).trans rfl)) ?_
     refine DP (i := 16) t72_5 (bt 26 68861) rfl rfl rfl rfl (fun w => run_move rfl) ?_
     refine DP (i := 17) t72_5 (bt 26 199933) rfl rfl rfl rfl (fun w => run_nilCheck rfl) ?_
     refine DP (i := 18) t72_5 (bt 26 462077) rfl rfl rfl rfl (fun w => run_fa 0 ⟨g, 0, none⟩ rfl rfl) ?_
     refine DT (i := 19) t72_5 (bt 26 986365) s26 rfl rfl rfl rfl (fun w hs => run_load Ty.ag77 rfl ((hs.1 0).trans rfl)) ?_
     refine DP (i := 20) t72_5 (bt 26 2034941) rfl rfl rfl rfl (fun w => run_move rfl) ?_
     refine DP (i := 21) t72_5 (bt 26 4132093) rfl rfl rfl rfl (fun w => run_sliceL (i := (atR S z.lb.l)) (j := S.length) Tryz.underlying77 Ty.sz95 rfl ⟨_, rfl⟩ rfl (by omega) (by omega)) ?_
     refine WD.two (i := 1) (k := 9) t72_5 (bt 26 4132095) (bt 26 4132605) rfl rfl (by kernel_rfl) ?_ ?_
     ·
      refine WO.buildSlice (l := []) hS25 Tryz.underlying77 rfl (fun w => by kernel_rfl) rfl (fun g28 w27 lg28 hS27 => ?_)
      clear hS25
      have hS27 := hS27.own_of_cel (m := 0) (k := 3) rfl
      refine WO.nil ?_
      have s29 : (∀ jz, World.cell? w27 ⟨g, jz, none⟩ = [Value.slice ra S.length rc][jz]?) ∧ (∀ jz, World.cell? w27 ⟨g2, jz, none⟩ = (smc z)[jz]?) ∧ Rd w27 ra S.length 3 (S.flatMap hsc) := ⟨hS27.cel_at 1 rfl, hS27.cel_at 5 rfl, (hS27.own_rd_i 2 rfl)⟩
      refine NX.held s29 ?_
      refine WD.two (i := 8) (k := 9) t72_5 (bt 26 4132351) (bt 26 4132607) rfl rfl (by kernel_rfl) ?_ ?_
      ·
       refine WO.append (news := ((S.flatMap hsc).take ((atR S z.lb.l) * 3))) 0 rfl Tryz.underlying77 Tryz.underlying77 (fun _ h => by cases h) Ty.sz95 (by decide) Ty.by95 Ty.zr95 rfl rfl rfl rfl hS27 rfl (Rd.src (((hS27.own_rd_i 2 rfl)).take (m := (atR S z.lb.l)) hi0)) (all_takeM (flat_noAgg hsc_na _)) (by omega) (by omega) (fun a31 c32 w30 hS30 => ?_)
       replace hS30 : St B (own a31 (0 + (atR S z.lb.l)) c32 95 3 ([] ++ ((S.flatMap hsc).take ((atR S z.lb.l) * 3))) :: _::_::_::_::_::L) w30 := hS30
       clear hS27
       refine WO.nil ?_
       have s33 : (∀ jz, World.cell? w30 ⟨g, jz, none⟩ = [Value.slice ra S.length rc][jz]?) ∧ (∀ jz, World.cell? w30 ⟨g2, jz, none⟩ = (smc z)[jz]?) ∧ Rd w30 ra S.length 3 (S.flatMap hsc) := ⟨hS30.cel_at 1 rfl, hS30.cel_at 5 rfl, (hS30.own_rd_i 2 rfl)⟩
       refine NX.held s33 ?_
       refine WD.one (i := 9) t72_5 (bt 26 4132863) rfl (by kernel_rfl) ?_
       refine WO.buildSlice (l := []) hS30 Tryz.underlying65 rfl (fun w => by kernel_rfl) rfl (fun g35 w34 lg35 hS34 => ?_)
       clear hS30
       have hS34 := hS34.own_of_cel (m := 0) (k := 2) rfl
       refine WO.nil ?_
       have s36 : (∀ jz, World.cell? w34 ⟨g, jz, none⟩ = [Value.slice ra S.length rc][jz]?) ∧ (∀ jz, World.cell? w34 ⟨g2, jz, none⟩ = (smc z)[jz]?) ∧ Rd w34 ra S.length 3 (S.flatMap hsc) := ⟨hS34.cel_at 2 rfl, hS34.cel_at 6 rfl, (hS34.own_rd_i 3 rfl)⟩
       refine NX.held s36 ?_
       refine WD.one (i := 12) t72_5 (bt 26 4136959) rfl (by kernel_rfl) ?_
       refine WO.append (news := (z.lb.l.flatMap prc)) 0 rfl Tryz.underlying65 Tryz.underlying65 (fun _ h => by cases h) Ty.sz105 (by decide) Ty.by105 Ty.zr105 rfl rfl rfl rfl hS34 rfl ((rdH_rd (hS34.focus 5 rfl)).src) (flat_noAgg prc_na _) (by omega) (by omega) (fun a38 c39 w37 hS37 => ?_)
       replace hS37 : St B (own a38 z.lb.l.length c39 105 2 (z.lb.l.flatMap prc) :: _::_::_::_::_::_::L) w37 := (by have z9 := hS37; rw [Nat.zero_add z.lb.l.length, List.nil_append (z.lb.l.flatMap prc)] at z9; exact z9)
       refine WO.as (d := 42) (v := Value.slice a38 z.lb.l.length c39) rfl (congrArg (fun z => Value.slice _ z _) (Nat.zero_add _)) ?_
       clear hS34
       refine WO.nil ?_
       have s40 : (∀ jz, World.cell? w37 ⟨g, jz, none⟩ = [Value.slice ra S.length rc][jz]?) ∧ (∀ jz, World.cell? w37 ⟨g2, jz, none⟩ = (smc z)[jz]?) ∧ Rd w37 ra S.length 3 (S.flatMap hsc) := ⟨hS37.cel_at 2 rfl, hS37.cel_at 6 rfl, (hS37.own_rd_i 3 rfl)⟩
       refine NX.held s40 ?_
       refine DP (i := 13) t72_5 (bt 26 4145151) rfl rfl rfl rfl (fun w => run_build (v := Value.agg #[Value.slice a38 z.lb.l.length c39, Value.slice none 0 0, Value.int .i64 0]) rfl (fun w => by kernel_rfl)) ?_
       refine WD.one (i := 14) t72_5 (bt 26 4161535) rfl (by kernel_rfl) ?_
       refine WO.buildSlice (l := [Value.slice a38 z.lb.l.length c39, Value.slice none 0 0, Value.int .i64 0]) hS37 Tryz.underlying77 rfl (fun w => by kernel_rfl) rfl (fun g42 w41 lg42 hS41 => ?_)
       clear hS37
       refine WO.nil ?_
       have s43 : (∀ jz, World.cell? w41 ⟨g, jz, none⟩ = [Value.slice ra S.length rc][jz]?) ∧ (∀ jz, World.cell? w41 ⟨g2, jz, none⟩ = (smc z)[jz]?) ∧ Rd w41 ra S.length 3 (S.flatMap hsc) := ⟨hS41.cel_at 3 rfl, hS41.cel_at 7 rfl, (hS41.own_rd_i 4 rfl)⟩
       refine NX.held s43 ?_
       refine WD.one (i := 15) t72_5 (bt 26 4194303) rfl (by kernel_rfl) ?_
       refine WO.append (news := [Value.slice a38 z.lb.l.length c39, Value.slice none 0 0, Value.int .i64 0]) 2 rfl Tryz.underlying77 Tryz.underlying77 (fun _ h => by cases h) Ty.sz95 (by decide) Ty.by95 Ty.zr95 rfl rfl rfl rfl hS41 rfl ((hS41.cel_rd 0 rfl (o := 0) (m := 1) (k := 3) rfl (Nat.le_of_ble_eq_true rfl)).src) rfl (by omega) (by omega) (fun a45 c46 w44 hS44 => ?_)
       replace hS44 : St B (cel g42 [Value.slice a38 z.lb.l.length c39, Value.slice none 0 0, Value.int .i64 0] 95 :: _::own a45 ((0 + (atR S z.lb.l)) + 1) c46 95 3 (([] ++ ((S.flatMap hsc).take ((atR S z.lb.l) * 3))) ++ [Value.slice a38 z.lb.l.length c39, Value.slice none 0 0, Value.int .i64 0]) :: _::_::_::_::_::L) w44 := hS44
       clear hS41
       refine WO.nil ?_
       have s47 : (∀ jz, World.cell? w44 ⟨g, jz, none⟩ = [Value.slice ra S.length rc][jz]?) ∧ (∀ jz, World.cell? w44 ⟨g2, jz, none⟩ = (smc z)[jz]?) ∧ Rd w44 ra S.length 3 (S.flatMap hsc) := ⟨hS44.cel_at 3 rfl, hS44.cel_at 7 rfl, (hS44.own_rd_i 4 rfl)⟩
       refine NX.held s47 ?_
       refine WD.one (i := 22) t72_5 (bt 26 8388607) rfl (by kernel_rfl) ?_
       refine WO.append (news := ((S.flatMap hsc).drop ((atR S z.lb.l) * 3))) 2 rfl Tryz.underlying77 Tryz.underlying77 (fun _ h => by cases h) Ty.sz95 (by decide) Ty.by95 Ty.zr95 rfl rfl rfl rfl hS44 rfl (Rd.src (Rd.dropM ((hS44.own_rd_i 4 rfl)) (i := (atR S z.lb.l)) hi0 hoc)) (all_dropM (flat_noAgg hsc_na _)) (by omega) (by omega) (fun a49 c50 w48 hS48 => ?_)
       replace hS48 : St B (_::_::own a49 (((0 + (atR S z.lb.l)) + 1) + (S.length - (atR S z.lb.l))) c50 95 3 ((([] ++ ((S.flatMap hsc).take ((atR S z.lb.l) * 3))) ++ [Value.slice a38 z.lb.l.length c39, Value.slice none 0 0, Value.int .i64 0]) ++ ((S.flatMap hsc).drop ((atR S z.lb.l) * 3))) :: _::_::_::_::_::L) w48 := hS48
       clear hS44
       refine WO.nil ?_
       have s51 : (∀ jz, World.cell? w48 ⟨g, jz, none⟩ = [Value.slice ra S.length rc][jz]?) ∧ (∀ jz, World.cell? w48 ⟨g2, jz, none⟩ = (smc z)[jz]?) ∧ Rd w48 ra S.length 3 (S.flatMap hsc) := ⟨hS48.cel_at 3 rfl, hS48.cel_at 7 rfl, (hS48.own_rd_i 4 rfl)⟩
       refine NX.held s51 ?_
       refine DP (i := 23) t72_5 (bt 26 16777215) rfl rfl rfl rfl (fun w => run_nilCheck rfl) ?_
       refine DP (i := 24) t72_5 (bt 26 33554431) rfl rfl rfl rfl (fun w => run_fa 0 ⟨g, 0, none⟩ rfl rfl) ?_
       refine WD.one (i := 25) t72_5 (bt 26 67108863) rfl (by kernel_rfl) ?_
       refine WO.store (l' := [Value.slice a49 (((0 + (atR S z.lb.l)) + 1) + (S.length - (atR S z.lb.l))) c50]) 3 hS48 rfl Ty.sz77 rfl rfl rfl rfl rfl (Nat.le_of_ble_eq_true rfl) rfl (fun w52 (hS52 : St B (_::_::_::cel g [Value.slice a49 (((0 + (atR S z.lb.l)) + 1) + (S.length - (atR S z.lb.l))) c50] 79 :: _::_::_::_::L) w52) => ?_)
       clear hS48
       refine WO.nil ?_
       refine NX.last (by decide) ?_
       refine WD.done t72_5 (by kernel_rfl) ?_
       have hS53 : St B (labA ⟨a38, z.lb.l, c39⟩ :: _::_::_::_::_::_::_::L) w52 := rdH_own (hS52.permT [1] (L' := _::_::_::_::_::_::_::_::L) rfl)
       clear hS52
       have hS54 := hS53.own_nil 103 2
       clear hS53
       have hS55 := rw_mid (tP := 103) (⟨⟨a38, z.lb.l, c39⟩, 0, ⟨none, [], 0⟩⟩ : MRow) (atR S z.lb.l) (hS54.permT [1, 0, 4] (L' := _::_::_::_::_::_::_::_::_::L) rfl)
       clear hS54
       have hlen : (S.take (atR S z.lb.l) ++ (⟨⟨a38, z.lb.l, c39⟩, 0, ⟨none, [], 0⟩⟩ : MRow) :: S.drop (atR S z.lb.l)).length = S.length + 1 := mid_len hi0
       have hsa1 : a49.isSome = true := rd_isSome ((hS55.own_rd_i 2 rfl)) (by omega)
       have z9 := ((hS55.mask [true, false, true, true, false] (L' := _::_::_::_::_::L) rfl).permT [1, 1] (L' := _::_::_::_::_::L) rfl)
       have e9 : ((0 + (atR S z.lb.l)) + 1) + (S.length - (atR S z.lb.l)) = (S.take (atR S z.lb.l) ++ (⟨⟨a38, z.lb.l, c39⟩, 0, ⟨none, [], 0⟩⟩ : MRow) :: S.drop (atR S z.lb.l)).length := by rw [hlen]; omega
       have z8 := own_eqM (l' := (S.take (atR S z.lb.l) ++ (⟨⟨a38, z.lb.l, c39⟩, 0, ⟨none, [], 0⟩⟩ : MRow) :: S.drop (atR S z.lb.l)).flatMap hsc) z9 rfl (by rw [flat_take hsc_len, flat_drop hsc_len]; simp [hsc])
       rw [e9] at z8
       exact K8 ((S.take (atR S z.lb.l) ++ (⟨⟨a38, z.lb.l, c39⟩, 0, ⟨none, [], 0⟩⟩ : MRow) :: S.drop (atR S z.lb.l)), (⟨⟨a38, z.lb.l, c39⟩, 0, ⟨none, [], 0⟩⟩ : MRow), a49, c50) _ _ ⟨⟨oldR_none hsrt hhas, mid_at hi0, Nat.le_of_eq hlen, fun q hq => put_new (lb := ⟨a38, z.lb.l, c39⟩) (t := z.t) (z := (⟨⟨a38, z.lb.l, c39⟩, 0, ⟨none, [], 0⟩⟩ : MRow)) (ps := [⟨z.t, z.v⟩]) hhas hq, Nat.zero_le _, hsa1⟩, z8⟩ (Sub.cons rfl (Sub.cons rfl (Sub.cons rfl (Sub.nil _))))
      ·
       refine WO.buildSlice (l := []) hS27 Tryz.underlying65 rfl (fun w => by kernel_rfl) rfl (fun g57 w56 lg57 hS56 => ?_)
       clear hS27
       have hS56 := hS56.own_of_cel (m := 0) (k := 2) rfl
       refine WO.nil ?_
       have s58 : (∀ jz, World.cell? w56 ⟨g, jz, none⟩ = [Value.slice ra S.length rc][jz]?) ∧ (∀ jz, World.cell? w56 ⟨g2, jz, none⟩ = (smc z)[jz]?) ∧ Rd w56 ra S.length 3 (S.flatMap hsc) := ⟨hS56.cel_at 2 rfl, hS56.cel_at 6 rfl, (hS56.own_rd_i 3 rfl)⟩
       refine NX.held s58 ?_
       refine WD.one (i := 8) t72_5 (bt 26 4132863) rfl (by kernel_rfl) ?_
       refine WO.append (news := ((S.flatMap hsc).take ((atR S z.lb.l) * 3))) 1 rfl Tryz.underlying77 Tryz.underlying77 (fun _ h => by cases h) Ty.sz95 (by decide) Ty.by95 Ty.zr95 rfl rfl rfl rfl hS56 rfl (Rd.src (((hS56.own_rd_i 3 rfl)).take (m := (atR S z.lb.l)) hi0)) (all_takeM (flat_noAgg hsc_na _)) (by omega) (by omega) (fun a60 c61 w59 hS59 => ?_)
       replace hS59 : St B (own (some ⟨g57, 0, none⟩) 0 0 105 2 [] :: own a60 (0 + (atR S z.lb.l)) c61 95 3 ([] ++ ((S.flatMap hsc).take ((atR S z.lb.l) * 3))) :: _::_::_::_::_::L) w59 := hS59
       clear hS56
       refine WO.nil ?_
       have s62 : (∀ jz, World.cell? w59 ⟨g, jz, none⟩ = [Value.slice ra S.length rc][jz]?) ∧ (∀ jz, World.cell? w59 ⟨g2, jz, none⟩ = (smc z)[jz]?) ∧ Rd w59 ra S.length 3 (S.flatMap hsc) := ⟨hS59.cel_at 2 rfl, hS59.cel_at 6 rfl, (hS59.own_rd_i 3 rfl)⟩
       refine NX.held s62 ?_
       refine WD.one (i := 12) t72_5 (bt 26 4136959) rfl (by kernel_rfl) ?_
       refine WO.append (news := (z.lb.l.flatMap prc)) 0 rfl Tryz.underlying65 Tryz.underlying65 (fun _ h => by cases h) Ty.sz105 (by decide) Ty.by105 Ty.zr105 rfl rfl rfl rfl hS59 rfl ((rdH_rd (hS59.focus 5 rfl)).src) (flat_noAgg prc_na _) (by omega) (by omega) (fun a64 c65 w63 hS63 => ?_)
       replace hS63 : St B (own a64 z.lb.l.length c65 105 2 (z.lb.l.flatMap prc) :: _::_::_::_::_::_::L) w63 := (by have z9 := hS63; rw [Nat.zero_add z.lb.l.length, List.nil_append (z.lb.l.flatMap prc)] at z9; exact z9)
       refine WO.as (d := 42) (v := Value.slice a64 z.lb.l.length c65) rfl (congrArg (fun z => Value.slice _ z _) (Nat.zero_add _)) ?_
       clear hS59
       refine WO.nil ?_
       have s66 : (∀ jz, World.cell? w63 ⟨g, jz, none⟩ = [Value.slice ra S.length rc][jz]?) ∧ (∀ jz, World.cell? w63 ⟨g2, jz, none⟩ = (smc z)[jz]?) ∧ Rd w63 ra S.length 3 (S.flatMap hsc) := ⟨hS63.cel_at 2 rfl, hS63.cel_at 6 rfl, (hS63.own_rd_i 3 rfl)⟩
       refine NX.held s66 ?_
       refine DP (i := 13) t72_5 (bt 26 4145151) rfl rfl rfl rfl (fun w => run_build (v := Value.agg #[Value.slice a64 z.lb.l.length c65, Value.slice none 0 0, Value.int .i64 0]) rfl (fun w => by kernel_rfl)) ?_
       refine WD.one (i := 14) t72_5 (bt 26 4161535) rfl (by kernel_rfl) ?_
       refine WO.buildSlice (l := [Value.slice a64 z.lb.l.length c65, Value.slice none 0 0, Value.int .i64 0]) hS63 Tryz.underlying77 rfl (fun w => by kernel_rfl) rfl (fun g68 w67 lg68 hS67 => ?_)
       clear hS63
       refine WO.nil ?_
       have s69 : (∀ jz, World.cell? w67 ⟨g, jz, none⟩ = [Value.slice ra S.length rc][jz]?) ∧ (∀ jz, World.cell? w67 ⟨g2, jz, none⟩ = (smc z)[jz]?) ∧ Rd w67 ra S.length 3 (S.flatMap hsc) := ⟨hS67.cel_at 3 rfl, hS67.cel_at 7 rfl, (hS67.own_rd_i 4 rfl)⟩
       refine NX.held s69 ?_
       refine WD.one (i := 15) t72_5 (bt 26 4194303) rfl (by kernel_rfl) ?_
       refine WO.append (news := [Value.slice a64 z.lb.l.length c65, Value.slice none 0 0, Value.int .i64 0]) 2 rfl Tryz.underlying77 Tryz.underlying77 (fun _ h => by cases h) Ty.sz95 (by decide) Ty.by95 Ty.zr95 rfl rfl rfl rfl hS67 rfl ((hS67.cel_rd 0 rfl (o := 0) (m := 1) (k := 3) rfl (Nat.le_of_ble_eq_true rfl)).src) rfl (by omega) (by omega) (fun a71 c72 w70 hS70 => ?_)
       replace hS70 : St B (cel g68 [Value.slice a64 z.lb.l.length c65, Value.slice none 0 0, Value.int .i64 0] 95 :: _::own a71 ((0 + (atR S z.lb.l)) + 1) c72 95 3 (([] ++ ((S.flatMap hsc).take ((atR S z.lb.l) * 3))) ++ [Value.slice a64 z.lb.l.length c65, Value.slice none 0 0, Value.int .i64 0]) :: _::_::_::_::_::L) w70 := hS70
       clear hS67
       refine WO.nil ?_
       have s73 : (∀ jz, World.cell? w70 ⟨g, jz, none⟩ = [Value.slice ra S.length rc][jz]?) ∧ (∀ jz, World.cell? w70 ⟨g2, jz, none⟩ = (smc z)[jz]?) ∧ Rd w70 ra S.length 3 (S.flatMap hsc) := ⟨hS70.cel_at 3 rfl, hS70.cel_at 7 rfl, (hS70.own_rd_i 4 rfl)⟩
       refine NX.held s73 ?_
       refine WD.one (i := 22) t72_5 (bt 26 8388607) rfl (by kernel_rfl) ?_
       refine WO.append (news := ((S.flatMap hsc).drop ((atR S z.lb.l) * 3))) 2 rfl Tryz.underlying77 Tryz.underlying77 (fun _ h => by cases h) Ty.sz95 (by decide) Ty.by95 Ty.zr95 rfl rfl rfl rfl hS70 rfl (Rd.src (Rd.dropM ((hS70.own_rd_i 4 rfl)) (i := (atR S z.lb.l)) hi0 hoc)) (all_dropM (flat_noAgg hsc_na _)) (by omega) (by omega) (fun a75 c76 w74 hS74 => ?_)
       replace hS74 : St B (_::_::own a75 (((0 + (atR S z.lb.l)) + 1) + (S.length - (atR S z.lb.l))) c76 95 3 ((([] ++ ((S.flatMap hsc).take ((atR S z.lb.l) * 3))) ++ [Value.slice a64 z.lb.l.length c65, Value.slice none 0 0, Value.int .i64 0]) ++ ((S.flatMap hsc).drop ((atR S z.lb.l) * 3))) :: _::_::_::_::_::L) w74 := hS74
       clear hS70
       refine WO.nil ?_
       have s77 : (∀ jz, World.cell? w74 ⟨g, jz, none⟩ = [Value.slice ra S.length rc][jz]?) ∧ (∀ jz, World.cell? w74 ⟨g2, jz, none⟩ = (smc z)[jz]?) ∧ Rd w74 ra S.length 3 (S.flatMap hsc) := ⟨hS74.cel_at 3 rfl, hS74.cel_at 7 rfl, (hS74.own_rd_i 4 rfl)⟩
       refine NX.held s77 ?_
       refine DP (i := 23) t72_5 (bt 26 16777215) rfl rfl rfl rfl (fun w => run_nilCheck rfl) ?_
       refine DP (i := 24) t72_5 (bt 26 33554431) rfl rfl rfl rfl (fun w => run_fa 0 ⟨g, 0, none⟩ rfl rfl) ?_
       refine WD.one (i := 25) t72_5 (bt 26 67108863) rfl (by kernel_rfl) ?_
       refine WO.store (l' := [Value.slice a75 (((0 + (atR S z.lb.l)) + 1) + (S.length - (atR S z.lb.l))) c76]) 3 hS74 rfl Ty.sz77 rfl rfl rfl rfl rfl (Nat.le_of_ble_eq_true rfl) rfl (fun w78 (hS78 : St B (_::_::_::cel g [Value.slice a75 (((0 + (atR S z.lb.l)) + 1) + (S.length - (atR S z.lb.l))) c76] 79 :: _::_::_::_::L) w78) => ?_)
       clear hS74
       refine WO.nil ?_
       refine NX.last (by decide) ?_
       refine WD.done t72_5 (by kernel_rfl) ?_
       have hS79 : St B (labA ⟨a64, z.lb.l, c65⟩ :: _::_::_::_::_::_::_::L) w78 := rdH_own (hS78.permT [1] (L' := _::_::_::_::_::_::_::_::L) rfl)
       clear hS78
       have hS80 := hS79.own_nil 103 2
       clear hS79
       have hS81 := rw_mid (tP := 103) (⟨⟨a64, z.lb.l, c65⟩, 0, ⟨none, [], 0⟩⟩ : MRow) (atR S z.lb.l) (hS80.permT [1, 0, 4] (L' := _::_::_::_::_::_::_::_::_::L) rfl)
       clear hS80
       have hlen : (S.take (atR S z.lb.l) ++ (⟨⟨a64, z.lb.l, c65⟩, 0, ⟨none, [], 0⟩⟩ : MRow) :: S.drop (atR S z.lb.l)).length = S.length + 1 := mid_len hi0
       have hsa1 : a75.isSome = true := rd_isSome ((hS81.own_rd_i 2 rfl)) (by omega)
       have z9 := ((hS81.mask [true, false, true, true, false] (L' := _::_::_::_::_::L) rfl).permT [1, 1] (L' := _::_::_::_::_::L) rfl)
       have e9 : ((0 + (atR S z.lb.l)) + 1) + (S.length - (atR S z.lb.l)) = (S.take (atR S z.lb.l) ++ (⟨⟨a64, z.lb.l, c65⟩, 0, ⟨none, [], 0⟩⟩ : MRow) :: S.drop (atR S z.lb.l)).length := by rw [hlen]; omega
       have z8 := own_eqM (l' := (S.take (atR S z.lb.l) ++ (⟨⟨a64, z.lb.l, c65⟩, 0, ⟨none, [], 0⟩⟩ : MRow) :: S.drop (atR S z.lb.l)).flatMap hsc) z9 rfl (by rw [flat_take hsc_len, flat_drop hsc_len]; simp [hsc])
       rw [e9] at z8
       exact K8 ((S.take (atR S z.lb.l) ++ (⟨⟨a64, z.lb.l, c65⟩, 0, ⟨none, [], 0⟩⟩ : MRow) :: S.drop (atR S z.lb.l)), (⟨⟨a64, z.lb.l, c65⟩, 0, ⟨none, [], 0⟩⟩ : MRow), a75, c76) _ _ ⟨⟨oldR_none hsrt hhas, mid_at hi0, Nat.le_of_eq hlen, fun q hq => put_new (lb := ⟨a64, z.lb.l, c65⟩) (t := z.t) (z := (⟨⟨a64, z.lb.l, c65⟩, 0, ⟨none, [], 0⟩⟩ : MRow)) (ps := [⟨z.t, z.v⟩]) hhas hq, Nat.zero_le _, hsa1⟩, z8⟩ (Sub.cons rfl (Sub.cons rfl (Sub.cons rfl (Sub.nil _))))
     ·
      refine WO.buildSlice (l := []) hS25 Tryz.underlying65 rfl (fun w => by kernel_rfl) rfl (fun g83 w82 lg83 hS82 => ?_)
      clear hS25
      have hS82 := hS82.own_of_cel (m := 0) (k := 2) rfl
      refine WO.nil ?_
      have s84 : (∀ jz, World.cell? w82 ⟨g, jz, none⟩ = [Value.slice ra S.length rc][jz]?) ∧ (∀ jz, World.cell? w82 ⟨g2, jz, none⟩ = (smc z)[jz]?) ∧ Rd w82 ra S.length 3 (S.flatMap hsc) := ⟨hS82.cel_at 1 rfl, hS82.cel_at 5 rfl, (hS82.own_rd_i 2 rfl)⟩
      refine NX.held s84 ?_
      refine WD.one (i := 1) t72_5 (bt 26 4132607) rfl (by kernel_rfl) ?_
      refine WO.buildSlice (l := []) hS82 Tryz.underlying77 rfl (fun w => by kernel_rfl) rfl (fun g86 w85 lg86 hS85 => ?_)
      clear hS82
      have hS85 := hS85.own_of_cel (m := 0) (k := 3) rfl
      refine WO.nil ?_
      have s87 : (∀ jz, World.cell? w85 ⟨g, jz, none⟩ = [Value.slice ra S.length rc][jz]?) ∧ (∀ jz, World.cell? w85 ⟨g2, jz, none⟩ = (smc z)[jz]?) ∧ Rd w85 ra S.length 3 (S.flatMap hsc) := ⟨hS85.cel_at 2 rfl, hS85.cel_at 6 rfl, (hS85.own_rd_i 3 rfl)⟩
      refine NX.held s87 ?_
      refine WD.one (i := 8) t72_5 (bt 26 4132863) rfl (by kernel_rfl) ?_
      refine WO.append (news := ((S.flatMap hsc).take ((atR S z.lb.l) * 3))) 0 rfl Tryz.underlying77 Tryz.underlying77 (fun _ h => by cases h) Ty.sz95 (by decide) Ty.by95 Ty.zr95 rfl rfl rfl rfl hS85 rfl (Rd.src (((hS85.own_rd_i 3 rfl)).take (m := (atR S z.lb.l)) hi0)) (all_takeM (flat_noAgg hsc_na _)) (by omega) (by omega) (fun a89 c90 w88 hS88 => ?_)
      replace hS88 : St B (own a89 (0 + (atR S z.lb.l)) c90 95 3 ([] ++ ((S.flatMap hsc).take ((atR S z.lb.l) * 3))) :: own (some ⟨g83, 0, none⟩) 0 0 105 2 [] :: _::_::_::_::_::L) w88 := hS88
      clear hS85
      refine WO.nil ?_
      have s91 : (∀ jz, World.cell? w88 ⟨g, jz, none⟩ = [Value.slice ra S.length rc][jz]?) ∧ (∀ jz, World.cell? w88 ⟨g2, jz, none⟩ = (smc z)[jz]?) ∧ Rd w88 ra S.length 3 (S.flatMap hsc) := ⟨hS88.cel_at 2 rfl, hS88.cel_at 6 rfl, (hS88.own_rd_i 3 rfl)⟩
      refine NX.held s91 ?_
      refine WD.one (i := 12) t72_5 (bt 26 4136959) rfl (by kernel_rfl) ?_
      refine WO.append (news := (z.lb.l.flatMap prc)) 1 rfl Tryz.underlying65 Tryz.underlying65 (fun _ h => by cases h) Ty.sz105 (by decide) Ty.by105 Ty.zr105 rfl rfl rfl rfl hS88 rfl ((rdH_rd (hS88.focus 5 rfl)).src) (flat_noAgg prc_na _) (by omega) (by omega) (fun a93 c94 w92 hS92 => ?_)
      replace hS92 : St B (_::own a93 z.lb.l.length c94 105 2 (z.lb.l.flatMap prc) :: _::_::_::_::_::L) w92 := (by have z9 := hS92; rw [Nat.zero_add z.lb.l.length, List.nil_append (z.lb.l.flatMap prc)] at z9; exact z9)
      refine WO.as (d := 42) (v := Value.slice a93 z.lb.l.length c94) rfl (congrArg (fun z => Value.slice _ z _) (Nat.zero_add _)) ?_
      clear hS88
      refine WO.nil ?_
      have s95 : (∀ jz, World.cell? w92 ⟨g, jz, none⟩ = [Value.slice ra S.length rc][jz]?) ∧ (∀ jz, World.cell? w92 ⟨g2, jz, none⟩ = (smc z)[jz]?) ∧ Rd w92 ra S.length 3 (S.flatMap hsc) := ⟨hS92.cel_at 2 rfl, hS92.cel_at 6 rfl, (hS92.own_rd_i 3 rfl)⟩
      refine NX.held s95 ?_
      refine DP (i := 13) t72_5 (bt 26 4145151) rfl rfl rfl rfl (fun w => run_build (v := Value.agg #[Value.slice a93 z.lb.l.length c94, Value.slice none 0 0, Value.int .i64 0]) rfl (fun w => by kernel_rfl)) ?_
      refine WD.one (i := 14) t72_5 (bt 26 4161535) rfl (by kernel_rfl) ?_
      refine WO.buildSlice (l := [Value.slice a93 z.lb.l.length c94, Value.slice none 0 0, Value.int .i64 0]) hS92 Tryz.underlying77 rfl (fun w => by kernel_rfl) rfl (fun g97 w96 lg97 hS96 => ?_)
      clear hS92
      refine WO.nil ?_
      have s98 : (∀ jz, World.cell? w96 ⟨g, jz, none⟩ = [Value.slice ra S.length rc][jz]?) ∧ (∀ jz, World.cell? w96 ⟨g2, jz, none⟩ = (smc z)[jz]?) ∧ Rd w96 ra S.length 3 (S.flatMap hsc) := ⟨hS96.cel_at 3 rfl, hS96.cel_at 7 rfl, (hS96.own_rd_i 4 rfl)⟩
      refine NX.held s98 ?_
      refine WD.one (i := 15) t72_5 (bt 26 4194303) rfl (by kernel_rfl) ?_
      refine WO.append (news := [Value.slice a93 z.lb.l.length c94, Value.slice none 0 0, Value.int .i64 0]) 1 rfl Tryz.underlying77 Tryz.underlying77 (fun _ h => by cases h) Ty.sz95 (by decide) Ty.by95 Ty.zr95 rfl rfl rfl rfl hS96 rfl ((hS96.cel_rd 0 rfl (o := 0) (m := 1) (k := 3) rfl (Nat.le_of_ble_eq_true rfl)).src) rfl (by omega) (by omega) (fun a100 c101 w99 hS99 => ?_)
      replace hS99 : St B (cel g97 [Value.slice a93 z.lb.l.length c94, Value.slice none 0 0, Value.int .i64 0] 95 :: own a100 ((0 + (atR S z.lb.l)) + 1) c101 95 3 (([] ++ ((S.flatMap hsc).take ((atR S z.lb.l) * 3))) ++ [Value.slice a93 z.lb.l.length c94, Value.slice none 0 0, Value.int .i64 0]) :: _::_::_::_::_::_::L) w99 := hS99
      clear hS96
      refine WO.nil ?_
      have s102 : (∀ jz, World.cell? w99 ⟨g, jz, none⟩ = [Value.slice ra S.length rc][jz]?) ∧ (∀ jz, World.cell? w99 ⟨g2, jz, none⟩ = (smc z)[jz]?) ∧ Rd w99 ra S.length 3 (S.flatMap hsc) := ⟨hS99.cel_at 3 rfl, hS99.cel_at 7 rfl, (hS99.own_rd_i 4 rfl)⟩
      refine NX.held s102 ?_
      refine WD.one (i := 22) t72_5 (bt 26 8388607) rfl (by kernel_rfl) ?_
      refine WO.append (news := ((S.flatMap hsc).drop ((atR S z.lb.l) * 3))) 1 rfl Tryz.underlying77 Tryz.underlying77 (fun _ h => by cases h) Ty.sz95 (by decide) Ty.by95 Ty.zr95 rfl rfl rfl rfl hS99 rfl (Rd.src (Rd.dropM ((hS99.own_rd_i 4 rfl)) (i := (atR S z.lb.l)) hi0 hoc)) (all_dropM (flat_noAgg hsc_na _)) (by omega) (by omega) (fun a104 c105 w103 hS103 => ?_)
      replace hS103 : St B (_::own a104 (((0 + (atR S z.lb.l)) + 1) + (S.length - (atR S z.lb.l))) c105 95 3 ((([] ++ ((S.flatMap hsc).take ((atR S z.lb.l) * 3))) ++ [Value.slice a93 z.lb.l.length c94, Value.slice none 0 0, Value.int .i64 0]) ++ ((S.flatMap hsc).drop ((atR S z.lb.l) * 3))) :: _::_::_::_::_::_::L) w103 := hS103
      clear hS99
      refine WO.nil ?_
      have s106 : (∀ jz, World.cell? w103 ⟨g, jz, none⟩ = [Value.slice ra S.length rc][jz]?) ∧ (∀ jz, World.cell? w103 ⟨g2, jz, none⟩ = (smc z)[jz]?) ∧ Rd w103 ra S.length 3 (S.flatMap hsc) := ⟨hS103.cel_at 3 rfl, hS103.cel_at 7 rfl, (hS103.own_rd_i 4 rfl)⟩
      refine NX.held s106 ?_
      refine DP (i := 23) t72_5 (bt 26 16777215) rfl rfl rfl rfl (fun w => run_nilCheck rfl) ?_
      refine DP (i := 24) t72_5 (bt 26 33554431) rfl rfl rfl rfl (fun w => run_fa 0 ⟨g, 0, none⟩ rfl rfl) ?_
      refine WD.one (i := 25) t72_5 (bt 26 67108863) rfl (by kernel_rfl) ?_
      refine WO.store (l' := [Value.slice a104 (((0 + (atR S z.lb.l)) + 1) + (S.length - (atR S z.lb.l))) c105]) 3 hS103 rfl Ty.sz77 rfl rfl rfl rfl rfl (Nat.le_of_ble_eq_true rfl) rfl (fun w107 (hS107 : St B (_::_::_::cel g [Value.slice a104 (((0 + (atR S z.lb.l)) + 1) + (S.length - (atR S z.lb.l))) c105] 79 :: _::_::_::_::L) w107) => ?_)
      clear hS103
      refine WO.nil ?_
      refine NX.last (by decide) ?_
      refine WD.done t72_5 (by kernel_rfl) ?_
      have hS108 : St B (labA ⟨a93, z.lb.l, c94⟩ :: _::_::_::_::_::_::_::L) w107 := rdH_own (hS107.permT [2] (L' := _::_::_::_::_::_::_::_::L) rfl)
      clear hS107
      have hS109 := hS108.own_nil 103 2
      clear hS108
      have hS110 := rw_mid (tP := 103) (⟨⟨a93, z.lb.l, c94⟩, 0, ⟨none, [], 0⟩⟩ : MRow) (atR S z.lb.l) (hS109.permT [1, 0, 4] (L' := _::_::_::_::_::_::_::_::_::L) rfl)
      clear hS109
      have hlen : (S.take (atR S z.lb.l) ++ (⟨⟨a93, z.lb.l, c94⟩, 0, ⟨none, [], 0⟩⟩ : MRow) :: S.drop (atR S z.lb.l)).length = S.length + 1 := mid_len hi0
      have hsa1 : a104.isSome = true := rd_isSome ((hS110.own_rd_i 2 rfl)) (by omega)
      have z9 := ((hS110.mask [true, false, true, true, false] (L' := _::_::_::_::_::L) rfl).permT [1, 1] (L' := _::_::_::_::_::L) rfl)
      have e9 : ((0 + (atR S z.lb.l)) + 1) + (S.length - (atR S z.lb.l)) = (S.take (atR S z.lb.l) ++ (⟨⟨a93, z.lb.l, c94⟩, 0, ⟨none, [], 0⟩⟩ : MRow) :: S.drop (atR S z.lb.l)).length := by rw [hlen]; omega
      have z8 := own_eqM (l' := (S.take (atR S z.lb.l) ++ (⟨⟨a93, z.lb.l, c94⟩, 0, ⟨none, [], 0⟩⟩ : MRow) :: S.drop (atR S z.lb.l)).flatMap hsc) z9 rfl (by rw [flat_take hsc_len, flat_drop hsc_len]; simp [hsc])
      rw [e9] at z8
      exact K8 ((S.take (atR S z.lb.l) ++ (⟨⟨a93, z.lb.l, c94⟩, 0, ⟨none, [], 0⟩⟩ : MRow) :: S.drop (atR S z.lb.l)), (⟨⟨a93, z.lb.l, c94⟩, 0, ⟨none, [], 0⟩⟩ : MRow), a104, c105) _ _ ⟨⟨oldR_none hsrt hhas, mid_at hi0, Nat.le_of_eq hlen, fun q hq => put_new (lb := ⟨a93, z.lb.l, c94⟩) (t := z.t) (z := (⟨⟨a93, z.lb.l, c94⟩, 0, ⟨none, [], 0⟩⟩ : MRow)) (ps := [⟨z.t, z.v⟩]) hhas hq, Nat.zero_le _, hsa1⟩, z8⟩ (Sub.cons rfl (Sub.cons rfl (Sub.cons rfl (Sub.nil _))))
    ·
     have hhas : hasR S z.lb.l = true := by simpa using g29
     obtain ⟨r, hr⟩ := has_some hhas
     have hlt0 := (List.getElem?_eq_some_iff.1 hr).1
     have hsa : ra.isSome = true := rd_isSome ((hS7.own_rd_i 1 rfl)) (by omega)
     have hlt := hqn g27 r hhas hr
     refine WP.skip ?_
     exact K8 (S, r, ra, rc) _ _ ⟨⟨(show oldF (S.map MRow.p) z.p = _ from oldR_has hsrt hhas hr).trans (decide_eq_false (by omega)), hr, Nat.le_succ _, fun q hq => put_has hhas hr hlt hq, hpts r (List.mem_of_getElem? hr), hsa⟩, (hS7.permT [1] (L' := _::_::_::_::_::L) rfl)⟩ (Sub.cons rfl (Sub.cons rfl (Sub.cons rfl (Sub.nil _))))
 ·
  refine WD.start (fun w => (∀ jz, World.cell? w ⟨g, jz, none⟩ = [Value.slice ra S.length rc][jz]?) ∧ (∀ jz, World.cell? w ⟨g2, jz, none⟩ = (smc z)[jz]?) ∧ Rd w ra S.length 3 (S.flatMap hsc)) [] (bt 14 0) Ty.mo rfl (by kernel_rfl) hS4 (fun _ h => ⟨h.cel_at 0 rfl, h.cel_at 4 rfl, (h.own_rd_i 1 rfl)⟩) (fun w111 hS111 s112 => ?_)
  clear hS4
  refine DP (i := 0) t72_2 (bt 14 1) rfl rfl rfl rfl (fun w => run_move rfl) ?_
  refine DP (i := 1) t72_2 (bt 14 3) rfl rfl rfl rfl (fun w => run_move rfl) ?_
  rcases Bool.eq_false_or_eq_true (hasR S z.lb.l) with g15 | g15
  ·
   have hhas : hasR S z.lb.l = true := g15
   obtain ⟨r, hr⟩ := has_some hhas
   have hlt0 := (List.getElem?_eq_some_iff.1 hr).1
   have hsa : ra.isSome = true := rd_isSome ((hS111.own_rd_i 1 rfl)) (by omega)
   refine DPn (i := 2) t72_2 (bt 14 7) rfl rfl rfl g15 rfl (fun w => run_fa 1 ⟨g2, 1, none⟩ rfl rfl) ?_
   refine DTn (i := 3) t72_2 (bt 14 15) s112 rfl rfl rfl g15 rfl (fun w hs => run_load Ty.ag2 rfl ((hs.2.1 1).trans rfl)) ?_
   refine DPn (i := 4) t72_2 (bt 14 31) rfl rfl rfl g15 rfl (fun w => run_move rfl) ?_
   refine DPn (i := 5) t72_2 (bt 14 63) rfl rfl rfl g15 rfl (fun w => run_nilCheck rfl) ?_
   refine DPn (i := 6) t72_2 (bt 14 127) rfl rfl rfl g15 rfl (fun w => run_fa 0 ⟨g, 0, none⟩ rfl rfl) ?_
   refine DTn (i := 7) t72_2 (bt 14 255) s112 rfl rfl rfl g15 rfl (fun w hs => run_load Ty.ag77 rfl ((hs.1 0).trans rfl)) ?_
   refine DPn (i := 8) t72_2 (bt 14 511) rfl rfl rfl g15 rfl (fun w => run_move rfl) ?_
   refine DTn (i := 9) t72_2 (bt 14 1023) s112 rfl rfl rfl g15 rfl (fun w hs => run_indexAddr (q := adr ra ((atR S z.lb.l) * 3)) Tryz.underlying77 Ty.sz95 rfl rfl (by omega) (by omega) ((hs.2.2).2.1 (by omega)) rfl) ?_
   refine DPn (i := 10) t72_2 (bt 14 2047) rfl rfl rfl g15 rfl (fun w => run_fa 2 (adr ra ((atR S z.lb.l) * 3 + 2)) rfl (adr_add _ (by assumption) _ _)) ?_
   refine DTn (i := 11) t72_2 (bt 14 4095) s112 rfl rfl rfl g15 rfl (fun w hs => run_load Ty.ag2 rfl ((hs.2.2).cell ((flat_get hsc_len hr (j := 2) (by decide)).trans rfl))) ?_
   refine DPn (i := 12) t72_2 (bt 14 8191) rfl rfl rfl g15 rfl (fun w => run_leq rfl rfl) ?_
   refine DP (i := 13) t72_2 (bt 14 16383) rfl rfl rfl rfl (fun w => run_pickT rfl g15 rfl) ?_
   refine WD.done t72_2 (by kernel_rfl) ?_
   exact K6 (decide (z.t ≤ r.last)) _ _ ⟨⟨fun h => (show oldF (S.map MRow.p) z.p = _ from oldR_has hsrt hhas hr).trans h, fun h r2 _ hr2 => by have h9 := of_decide_eq_false h; rw [hr] at hr2; cases hr2; omega⟩, hS111⟩ (Sub.cons rfl (Sub.cons rfl (Sub.cons rfl (Sub.cons rfl (Sub.consE rfl (by first | rfl | first | rfl | (congr 1; omega) | (simp; done) | (simp; omega)) (Sub.nil _))))))
  ·
   have hhas : hasR S z.lb.l = false := by simpa using g15
   refine DO (i := 2) t72_2 (bt 14 7) rfl rfl rfl g15 rfl ?_
   refine DO (i := 3) t72_2 (bt 14 15) rfl rfl rfl g15 rfl ?_
   refine DO (i := 4) t72_2 (bt 14 31) rfl rfl rfl g15 rfl ?_
   refine DO (i := 5) t72_2 (bt 14 63) rfl rfl rfl g15 rfl ?_
   refine DO (i := 6) t72_2 (bt 14 127) rfl rfl rfl g15 rfl ?_
   refine DO (i := 7) t72_2 (bt 14 255) rfl rfl rfl g15 rfl ?_
   refine DO (i := 8) t72_2 (bt 14 511) rfl rfl rfl g15 rfl ?_
   refine DO (i := 9) t72_2 (bt 14 1023) rfl rfl rfl g15 rfl ?_
   refine DO (i := 10) t72_2 (bt 14 2047) rfl rfl rfl g15 rfl ?_
   refine DO (i := 11) t72_2 (bt 14 4095) rfl rfl rfl g15 rfl ?_
   refine DO (i := 12) t72_2 (bt 14 8191) rfl rfl rfl g15 rfl ?_
   refine DP (i := 13) t72_2 (bt 14 16383) rfl rfl rfl rfl (fun w => run_pickF rfl g15 rfl) ?_
   refine WD.done t72_2 (by kernel_rfl) ?_
   exact K6 false _ _ ⟨⟨fun h => (by cases h), fun h r2 hh _ => absurd hh (by rw [hhas]; decide)⟩, hS111⟩ (Sub.cons rfl (Sub.cons rfl (Sub.cons rfl (Sub.cons rfl (Sub.consE rfl (by first | rfl | first | rfl | (congr 1; omega) | (simp; done) | (simp; omega)) (Sub.nil _))))))
end Go.Proofs.YtidoidoelgfnaaaGreatDoor.SL

/- The document's head: whether a record may be applied. -/
namespace Go.Proofs.YtidoidoelgfnaaaGreatDoor.SL
open Go.RowKit Go.Proofs.YtidoidoelgfnaaaGreatDoor
open Go.Proofs.YtidoidoelgfnaaaGreatDoorW.PrintLast (rtab opsOf)
set_option linter.unusedVariables false
set_option linter.unusedSimpArgs false
theorem rhtry_spec {B w : World} {L : List HP} {g M : Nat} {A : List RowP} (hA : WfH A M) (hM : M + 32 ≤ 4398046511104) (hAn : A.length ≤ 900000) (r : Rcd) (hz : SzR r) (hS : St B (rfA 79 95 103 g A :: recA r :: L) w) : Does Tryz.prog 38 [Value.pointer (some ⟨g, 0, none⟩), Value.agg #[Value.int .i64 r.k, Value.slice r.ss.a r.ss.l.length r.ss.cap, Value.slice r.ms.a r.ms.l.length r.ms.cap, Value.int .i64 r.fr, Value.int .i64 r.to]] w (fun v w1 => v = .int .i64 (tryP A r.p) ∧ St B (rfA 79 95 103 g A :: recA r :: L) w1) := by
 replace hS := recA_open (hS.permT [1] (L' := _::_::L) rfl)
 have hns := hz.ns
 refine enter (n := 36) Tryz.func38 rfl rfl [Value.pointer (some ⟨g, 0, none⟩), Value.agg #[Value.int .i64 r.k, Value.slice r.ss.a r.ss.l.length r.ss.cap, Value.slice r.ms.a r.ms.l.length r.ms.cap, Value.int .i64 r.fr, Value.int .i64 r.to]] rfl ?_
 refine WP.seq (WP.region rfl ?_)
 refine WO.box (l := (rcc r)) hS rfl rfl rfl (fun g2 w1 lg2 hS1 => ?_)
 clear hS
 refine WO.asg rfl rfl ?_
 refine WO.nil (NX.go (WP.seq (WP.region rfl ?_)))
 refine WO.V (run_loadAgg (vs := (rcc r)) Ty.ag33 Ty.sz33 rfl rfl (cell_all (hS1.cel_at 0 rfl) 0 rfl)) ?_
 have hS3 := hS1.permT [4] (L' := _::_::_::_::_::_::L) rfl
 clear hS1
 refine WO.call rfl rfl Ty.hd15 rfl (r12chk_spec r hz hS3) (fun v5 w4 pv5 => ?_)
 obtain ⟨rfl, hS4⟩ := pv5
 clear hS3
 refine WO.asg rfl rfl ?_
 refine WO.nil (NX.go (WP.seq (WP.seq (WP.region rfl ?_))))
 refine WO.mv rfl rfl ?_
 refine WO.V (run_neq rfl rfl) ?_
 refine WO.nil (NX.go ?_)
 refine WP.condP rfl (fun g11 => ?_) (fun g11 => ?_)
 ·
  refine WP.seq (WP.region rfl ?_)
  refine WO.mv rfl rfl ?_
  refine WO.asg rfl rfl ?_
  refine WO.nil (NX.go (WP.ret (NX.thenRet ?_)))
  refine NX.done (l := [.tmp 4]) rfl rfl ?_
  exact ⟨congrArg (Value.int .i64) (by unfold tryP; rw [← rcheckP_eq]; exact (tryF_bad g11).symm), ((hS4.mask [true, false, false, false, false] (L' := _::_::L) rfl).permT [1] (L' := _::_::L) rfl)⟩
 ·
  have hc0 : rcheck r = 0 := by simpa using g11
  have hcs := rcheck_smp hc0
  have hss := rcheck_len hc0
  refine WP.skip (NX.go (WP.seq (WP.region rfl ?_)))
  refine WO.mv rfl rfl ?_
  have hS6 := hS4.permT [5] (L' := _::_::_::_::_::_::L) rfl
  clear hS4
  refine WO.call rfl rfl Ty.hd71 rfl (rhcopy_spec (g := g) (fun r hr => Nat.le_trans (hA.pts r hr) (by omega)) (by omega) hS6) (fun v8 w7 pv8 => ?_)
  obtain ⟨gq, rfl, hS7⟩ := pv8
  clear hS6
  refine WO.asg rfl rfl ?_
  refine WO.nil (NX.go (WP.seq (WP.seq (WP.region rfl ?_))))
  refine WO.asg rfl rfl ?_
  refine WO.nil (NX.go (WP.block ?_))
  have hS9 : St B (rfA 79 95 103 gq A :: _::_::_::_::_::_::L) w7 := (hS7.permT [0, 0, 1, 1, 2] (L' := _::_::_::_::_::_::_::L) rfl)
  clear hS7
  refine WP.loop (α := Nat × List RowP) (fun x => match x with | ⟨k, Ak⟩ => [(0, Value.pointer (some ⟨g, 0, none⟩)), (3, Value.pointer (some ⟨g2, 0, none⟩)), (5, Value.int .i64 (rcheck r)), (6, Value.pointer (some ⟨gq, 0, none⟩)), (7, Value.int .i64 (k : Int))]) (fun x w => match x with | ⟨k, Ak⟩ => (k ≤ r.ss.l.length ∧ putAll A (r.ss.l.map Smp.p) = putAll Ak ((r.ss.l.drop k).map Smp.p) ∧ WfH Ak (M + k) ∧ Ak.length ≤ A.length + k) ∧ St B (rfA 79 95 103 gq Ak :: rfA 79 95 103 g A :: cel g2 (rcc r) 33 :: (rdH r.ss.a r.ss.l.length 3 (r.ss.l.flatMap smc)) :: smsA r.ss.l :: recA r :: (rdH r.ms.a r.ms.l.length 3 (r.ms.l.flatMap mtc)) :: L) w) (fun x => match x with | ⟨k, Ak⟩ => r.ss.l.length - k) (0, A) ⟨⟨Nat.zero_le _, rfl, hA, Nat.le_refl _⟩, hS9⟩ (Sub.cons rfl (Sub.cons rfl (Sub.cons rfl (Sub.cons rfl (Sub.consE rfl (by first | rfl | first | rfl | (congr 1; omega) | (simp; done) | (simp; omega)) (Sub.nil _)))))) ?_
  rintro ⟨k, Ak⟩ w10 ⟨⟨hk, hpa, hWk, hnk⟩, hS10⟩
  clear hS9
  refine WP.seq (WP.seq (WP.region rfl ?_))
  refine WO.mv rfl rfl ?_
  refine WO.V (run_fa 1 ⟨g2, 1, none⟩ rfl rfl) ?_
  refine WO.V (run_load Ty.ag31 rfl ((hS10.cel_at 2 rfl 1).trans rfl)) ?_
  refine WO.V (run_len rfl Tryz.underlying31 rfl) ?_
  refine WO.V (run_lss rfl rfl) ?_
  refine WO.nil (NX.go ?_)
  refine WP.condP rfl (fun g19 => ?_) (fun g19 => ?_)
  ·
   refine WP.skip (NX.go (WP.seq (WP.block (WP.seq ?_))))
   obtain ⟨z, hz1⟩ : ∃ qq, r.ss.l[k]? = some qq := ⟨_, List.getElem?_eq_getElem (by omega)⟩
   have hzz := hz.s z (List.mem_of_getElem? hz1)
   have hcz := hcs z (List.mem_of_getElem? hz1)
   have hS11 := smsA_get hz1 (hS10.permT [4] (L' := _::_::_::_::_::_::_::L) rfl)
   clear hS10
   have hss1 : r.ss.a.isSome = true := rd_isSome ((rdH_rd (hS11.focus 5 rfl))) (by omega)
   refine WP.region rfl ?_
   refine WO.mv rfl rfl ?_
   refine WO.V (run_fa 1 ⟨g2, 1, none⟩ rfl rfl) ?_
   refine WO.V (run_load Ty.ag31 rfl ((hS11.cel_at 4 rfl 1).trans rfl)) ?_
   refine WO.mv rfl rfl ?_
   refine WO.V (run_indexAddr (q := adr r.ss.a (k * 3)) Tryz.underlying31 Ty.sz83 rfl rfl (by omega) (by omega) ((rdH_rd (hS11.focus 5 rfl)).2.1 (by omega)) rfl) ?_
   refine WO.V (run_loadAgg (vs := (smc z)) Ty.ag83 Ty.sz83 rfl ((rdH_rd (hS11.focus 5 rfl)).cells (by rw [flat_len smc_len]; omega) (flat_part smc_len hz1)).1 ((rdH_rd (hS11.focus 5 rfl)).cells (by rw [flat_len smc_len]; omega) (flat_part smc_len hz1)).2) ?_
   have hS12 := hS11.permT [2] (L' := _::_::_::_::_::_::_::_::L) rfl
   clear hS11
   refine WO.call rfl rfl Ty.hd72 rfl (rhput_spec (g := gq) hWk (by omega) (by omega) z hzz.1 hzz.2 hS12) (fun v14 w13 pv14 => ?_)
   obtain ⟨rfl, hS13⟩ := pv14
   clear hS12
   refine WO.V (run_notP rfl) ?_
   refine WO.nil (NX.go ?_)
   refine WP.condP rfl (fun g29 => ?_) (fun g29 => ?_)
   ·
    have h9 : oldF Ak z.p = true := by simpa using g29
    have hold : oldF Ak (z.lb.l, z.t, z.v) = true := h9
    refine WP.seq (WP.region rfl ?_)
    refine WO.asg rfl rfl ?_
    refine WO.nil (NX.go (WP.ret (NX.blkRet (NX.thenRet (NX.thenRet (NX.blkRet (NX.thenRet ?_)))))))
    refine NX.done (l := [.tmp 4]) rfl rfl ?_
    exact ⟨congrArg (Value.int .i64) (by unfold tryP; rw [← rcheckP_eq, hc0]; exact (tryF_old (by rw [show r.p.ss = r.ss.l.map Smp.p from rfl, hpa, drop_cons hz1, List.map_cons, putAll, if_pos (show oldF Ak z.p = true from hold)])).symm), (hS13.mask [false, false, false, true, false, false, true, false] (L' := _::_::L) rfl)⟩
   ·
    have h9 : oldF Ak z.p = false := by simpa using g29
    have hold : oldF Ak (z.lb.l, z.t, z.v) = false := h9
    have hS15 : St B (rfA 79 95 103 gq (addF Ak z.lb.l z.t [⟨z.t, z.v⟩]) :: (labA z.lb) :: smsA r.ss.l :: rfA 79 95 103 g A :: cel g2 (rcc r) 33 :: (rdH r.ss.a r.ss.l.length 3 (r.ss.l.flatMap smc)) :: recA r :: (rdH r.ms.a r.ms.l.length 3 (r.ms.l.flatMap mtc)) :: L) w13 := by have z9 := hS13; rw [if_neg (show ¬ oldF Ak z.p = true by rw [show oldF Ak z.p = false from hold]; decide)] at z9; exact z9
    clear hS13
    refine WP.skip (NX.blk (NX.go (WP.region rfl ?_)))
    refine WO.mv rfl rfl ?_
    refine WO.V (run_add rfl rfl (IntWalk.i64_in _ (by omega))) ?_
    refine WO.asg rfl rfl ?_
    refine WO.nil ?_
    exact NX.again (k + 1, addF Ak z.lb.l z.t [⟨z.t, z.v⟩]) ⟨⟨by omega, by rw [hpa, drop_cons hz1, List.map_cons, putAll, if_neg (by rw [show oldF Ak z.p = false from hold]; decide)]; rfl, wf_add hWk hcz hold, by rw [addF_len hWk.srt]; split <;> omega⟩, ((hS15.mask [true, false] (L' := _::_::_::_::_::_::_::L) rfl).permT [0, 1, 1, 1] (L' := _::_::_::_::_::_::_::L) rfl)⟩ (by show r.ss.l.length - (k + 1) < r.ss.l.length - k; omega) (Sub.cons rfl (Sub.cons rfl (Sub.cons rfl (Sub.cons rfl (Sub.consE rfl (by congr 1) (Sub.nil _))))))
  ·
   refine WP.exit (NX.thenExit (NX.thenExit ?_))
   refine NX.blkExit ?_
   refine NX.go (WP.seq (WP.seq ?_))
   obtain ⟨S2, a2, c2, hS2, hS16⟩ := rf_open hS10
   clear hS10
   have hl2 : S2.length = Ak.length := by rw [← hS2, List.length_map]
   refine WP.region rfl ?_
   refine WO.mv rfl rfl ?_
   refine WO.V (run_nilCheck rfl) ?_
   refine WO.V (run_fa 0 ⟨gq, 0, none⟩ rfl rfl) ?_
   refine WO.V (run_load Ty.ag77 rfl ((hS16.cel_at 0 rfl 0).trans rfl)) ?_
   refine WO.V (run_len rfl Tryz.underlying77 rfl) ?_
   refine WO.V (run_gtr rfl rfl) ?_
   refine WO.nil (NX.go ?_)
   refine WP.condP rfl (fun g35 => ?_) (fun g35 => ?_)
   ·
    refine WP.seq (WP.region rfl ?_)
    refine WO.asg rfl rfl ?_
    refine WO.nil (NX.go (WP.ret (NX.thenRet ?_)))
    refine NX.done (l := [.tmp 4]) rfl rfl ?_
    have hpk : putAll A (r.ss.l.map Smp.p) = some Ak := by rw [hpa, List.drop_of_length_le (by omega)]; rfl
    exact ⟨congrArg (Value.int .i64) (by unfold tryP; rw [← rcheckP_eq, hc0, show r.p.ss = r.ss.l.map Smp.p from rfl, tryF_ok hpk, if_pos (by omega)]), (hS16.mask [false, false, false, true, false, false, false, true, false] (L' := _::_::L) rfl)⟩
   ·
    refine WP.skip (NX.go (WP.seq (WP.region rfl ?_)))
    refine WO.asg rfl rfl ?_
    refine WO.nil (NX.go (WP.ret ?_))
    refine NX.done (l := [.tmp 4]) rfl rfl ?_
    have hpk : putAll A (r.ss.l.map Smp.p) = some Ak := by rw [hpa, List.drop_of_length_le (by omega)]; rfl
    exact ⟨congrArg (Value.int .i64) (by unfold tryP; rw [← rcheckP_eq, hc0, show r.p.ss = r.ss.l.map Smp.p from rfl, tryF_ok hpk, if_neg (by omega)]), (hS16.mask [false, false, false, true, false, false, false, true, false] (L' := _::_::L) rfl)⟩
end Go.Proofs.YtidoidoelgfnaaaGreatDoor.SL

/- The document's head: a record is applied. -/
namespace Go.Proofs.YtidoidoelgfnaaaGreatDoor.SL
open Go.RowKit Go.Proofs.YtidoidoelgfnaaaGreatDoor
open Go.Proofs.YtidoidoelgfnaaaGreatDoorW.PrintLast (rtab opsOf)
set_option linter.unusedVariables false
set_option linter.unusedSimpArgs false

theorem taken_no {fr to : Int} {l : List Pt} {i : Nat} {p : Pt} (h : l[i]? = some p) (b : Bool) (hb : outF fr to p = b) : (l.take (i + 1)).filter (outF fr to) = (l.take i).filter (outF fr to) ++ if b = true then [p] else [] := by
  rw [take_snocM h, List.filter_append, List.filter_cons, List.filter_nil, hb]
theorem out_lt {fr to : Int} {p : Pt} (h : p.t < fr) : outF fr to p = true := by unfold outF; rw [decide_eq_false (by omega)]; rfl
theorem out_gt {fr to : Int} {p : Pt} (h : to < p.t) : outF fr to p = true := by unfold outF; rw [decide_eq_false (by omega)]; rfl
theorem out_in {fr to : Int} {p : Pt} (h : ¬ p.t < fr) (h2 : ¬ to < p.t) : outF fr to p = false := by unfold outF; rw [decide_eq_true (by omega)]; rfl
theorem del_next {fr to : Int} {ms : List Mt} {S1 S : List MRow} {n : Nat} {r y : MRow} (h : S1.map MRow.p = ((S.map MRow.p).take n).map (delR fr to ms) ++ (S.map MRow.p).drop n) (hn : n < S.length) (hr : S1[n]? = some r) (hy : y.p = delR fr to ms r.p) : (S1.set n y).map MRow.p = ((S.map MRow.p).take (n + 1)).map (delR fr to ms) ++ (S.map MRow.p).drop (n + 1) := by
  have hl : ((S.map MRow.p).take n).length = n := by rw [List.length_take, List.length_map]; omega
  have hm : (S.map MRow.p)[n]? = some r.p := by
    have h1 : (S1.map MRow.p)[n]? = some r.p := by rw [List.getElem?_map, hr]; rfl
    rw [h, List.getElem?_append_right (by rw [List.length_map, hl]; exact Nat.le_refl _), List.length_map, hl, Nat.sub_self, List.getElem?_drop, Nat.add_zero] at h1
    exact h1
  rw [List.map_set, h, List.set_append, List.length_map, hl, if_neg (Nat.lt_irrefl n), Nat.sub_self, drop_cons hm, List.set_cons_zero, take_snocM hm, List.map_append, List.map_cons, List.map_nil, List.append_assoc, List.singleton_append, hy]
theorem rhout_spec {B w : World} {L : List HP} {X : HP} {a : Option Addr} {cap : Nat} {l : List Pt} (hX : ∀ {L : List HP} {w : World}, St B (X :: L) w → Rd w a l.length 2 (l.flatMap ptc)) (hl : l.length ≤ 4398046511104) (fr to : Int) (hS : St B (X :: L) w) : Does Tryz.prog 73 [Value.slice a l.length cap, Value.int .i64 fr, Value.int .i64 to] w (fun v w1 => ∃ a1 c1, v = .slice a1 (l.filter (outF fr to)).length c1 ∧ St B (own a1 (l.filter (outF fr to)).length c1 103 2 ((l.filter (outF fr to)).flatMap ptc) :: X :: L) w1) := by
 refine enter (n := 39) Tryz.func73 rfl rfl [Value.slice a l.length cap, Value.int .i64 fr, Value.int .i64 to] rfl ?_
 refine WP.seq (WP.region rfl ?_)
 refine WO.asg rfl rfl ?_
 refine WO.nil (NX.go (WP.seq (WP.region rfl ?_)))
 refine WO.asg rfl rfl ?_
 refine WO.nil (NX.go (WP.seq (WP.seq (WP.region rfl ?_))))
 refine WO.asg rfl rfl ?_
 refine WO.nil (NX.go (WP.block ?_))
 replace hS := hS.own_nil 103 2
 refine WP.loop (α := Nat × Option Addr × Nat) (fun x => match x with | ⟨i, oa, oc⟩ => [(0, Value.slice a l.length cap), (1, Value.int .i64 fr), (2, Value.int .i64 to), (7, Value.slice oa (((l.take i).filter (outF fr to)).length) oc), (8, Value.int .i64 (i : Int))]) (fun x w => match x with | ⟨i, oa, oc⟩ => (i ≤ l.length) ∧ St B (own oa (((l.take i).filter (outF fr to)).length) oc 103 2 (((l.take i).filter (outF fr to)).flatMap ptc) :: X :: L) w) (fun x => match x with | ⟨i, oa, oc⟩ => l.length - i) (0, none, 0) ⟨Nat.zero_le _, hS⟩ (Sub.cons rfl (Sub.cons rfl (Sub.cons rfl (Sub.consE rfl (by first | rfl | first | rfl | (congr 1; omega) | (simp; done) | (simp; omega)) (Sub.consE rfl (by first | rfl | first | rfl | (congr 1; omega) | (simp; done) | (simp; omega)) (Sub.nil _)))))) ?_
 rintro ⟨i, oa, oc⟩ w1 ⟨hi, hS1⟩
 clear hS
 refine WP.seq (WP.seq (WP.region rfl ?_))
 refine WO.mv rfl rfl ?_
 refine WO.mv rfl rfl ?_
 refine WO.V (run_len rfl Tryz.underlying66 rfl) ?_
 refine WO.V (run_lss rfl rfl) ?_
 refine WO.nil (NX.go ?_)
 refine WP.condP rfl (fun g12 => ?_) (fun g12 => ?_)
 ·
  refine WP.skip (NX.go (WP.seq (WP.block (WP.seq ?_))))
  obtain ⟨p, hp⟩ : ∃ qq, l[i]? = some qq := ⟨_, List.getElem?_eq_getElem (by omega)⟩
  have hsp : a.isSome = true := rd_isSome ((hX (hS1.focus 1 rfl))) (by omega)
  have hfl := List.length_filter_le (outF fr to) (l.take i)
  have hft := List.length_take_le i l
  refine WP.region rfl ?_
  refine WO.mv rfl rfl ?_
  refine WO.mv rfl rfl ?_
  refine WO.V (run_indexAddr (q := adr a (i * 2)) Tryz.underlying66 Ty.sz103 rfl rfl (by omega) (by omega) ((hX (hS1.focus 1 rfl)).2.1 (by omega)) rfl) ?_
  refine WO.V (run_fa 0 (adr a (i * 2 + 0)) rfl (adr_add _ (by assumption) _ _)) ?_
  refine WO.V (run_load Ty.ag2 rfl ((hX (hS1.focus 1 rfl)).cell ((flat_get ptc_len hp (j := 0) (by decide)).trans rfl))) ?_
  refine WO.mv rfl rfl ?_
  refine WO.V (run_lss rfl rfl) ?_
  refine WO.mv rfl rfl ?_
  refine dcase (p := p.t < fr) (fun g22 d22 => ?_) (fun g22 d22 => ?_)
  ·
   refine WO.off rfl rfl d22 rfl ?_
   refine WO.off rfl rfl d22 rfl ?_
   refine WO.off rfl rfl d22 rfl ?_
   refine WO.off rfl rfl d22 rfl ?_
   refine WO.off rfl rfl d22 rfl ?_
   refine WO.off rfl rfl d22 rfl ?_
   refine WO.off rfl rfl d22 rfl ?_
   refine WO.V (run_pickT rfl d22 rfl) ?_
   refine WO.nil (NX.go ?_)
   refine WP.condT rfl rfl ?_
   refine WP.region rfl ?_
   refine WO.mv rfl rfl ?_
   refine WO.mv rfl rfl ?_
   refine WO.mv rfl rfl ?_
   refine WO.V (run_indexAddr (q := adr a (i * 2)) Tryz.underlying66 Ty.sz103 rfl rfl (by omega) (by omega) ((hX (hS1.focus 1 rfl)).2.1 (by omega)) rfl) ?_
   refine WO.V (run_loadAgg (vs := (ptc p)) Ty.ag103 Ty.sz103 rfl ((hX (hS1.focus 1 rfl)).cells (by rw [flat_len ptc_len]; omega) (flat_part ptc_len hp)).1 ((hX (hS1.focus 1 rfl)).cells (by rw [flat_len ptc_len]; omega) (flat_part ptc_len hp)).2) ?_
   refine WO.buildSlice (l := (ptc p)) hS1 Tryz.underlying66 rfl (fun w => by kernel_rfl) rfl (fun g3 w2 lg3 hS2 => ?_)
   clear hS1
   refine WO.append (news := (ptc p)) 1 rfl Tryz.underlying66 Tryz.underlying66 (fun _ h => by cases h) Ty.sz103 (by decide) Ty.by103 Ty.zr103 rfl rfl rfl rfl hS2 rfl ((hS2.cel_rd 0 rfl (o := 0) (m := 1) (k := 2) rfl (Nat.le_of_ble_eq_true rfl)).src) rfl (by omega) (by omega) (fun a5 c6 w4 hS4 => ?_)
   replace hS4 : St B (cel g3 (ptc p) 103 :: own a5 ((((l.take i).filter (outF fr to)).length) + 1) c6 103 2 ((((l.take i).filter (outF fr to)).flatMap ptc) ++ (ptc p)) :: _::L) w4 := hS4
   clear hS2
   refine WO.asg rfl rfl ?_
   refine WO.nil (NX.blk (NX.go (WP.region rfl ?_)))
   refine WO.mv rfl rfl ?_
   refine WO.V (run_add rfl rfl (IntWalk.i64_in _ (by omega))) ?_
   refine WO.asg rfl rfl ?_
   refine WO.nil ?_
   exact NX.again (i + 1, a5, c6) ⟨by omega, own_eqM hS4.drop (by rw [(taken_no hp true (out_lt g22))]; simp) (by rw [(taken_no hp true (out_lt g22))]; simp [ptc])⟩ (by show l.length - (i + 1) < l.length - i; omega) (Sub.cons rfl (Sub.cons rfl (Sub.cons rfl (Sub.consE rfl (by rw [(taken_no hp true (out_lt g22))]; simp) (Sub.consE rfl (by congr 1) (Sub.nil _))))))
  ·
   refine WO.on rfl rfl d22 ?_
   refine WO.mv rfl rfl ?_
   refine WO.on rfl rfl d22 ?_
   refine WO.mv rfl rfl ?_
   refine WO.on rfl rfl d22 ?_
   refine WO.V (run_indexAddr (q := adr a (i * 2)) Tryz.underlying66 Ty.sz103 rfl rfl (by omega) (by omega) ((hX (hS1.focus 1 rfl)).2.1 (by omega)) rfl) ?_
   refine WO.on rfl rfl d22 ?_
   refine WO.V (run_fa 0 (adr a (i * 2 + 0)) rfl (adr_add _ (by assumption) _ _)) ?_
   refine WO.on rfl rfl d22 ?_
   refine WO.V (run_load Ty.ag2 rfl ((hX (hS1.focus 1 rfl)).cell ((flat_get ptc_len hp (j := 0) (by decide)).trans rfl))) ?_
   refine WO.on rfl rfl d22 ?_
   refine WO.mv rfl rfl ?_
   refine WO.on rfl rfl d22 ?_
   refine WO.V (run_gtr rfl rfl) ?_
   refine WO.V (run_pickF rfl d22 rfl) ?_
   refine WO.nil (NX.go ?_)
   refine WP.condP rfl (fun g30 => ?_) (fun g30 => ?_)
   ·
    refine WP.region rfl ?_
    refine WO.mv rfl rfl ?_
    refine WO.mv rfl rfl ?_
    refine WO.mv rfl rfl ?_
    refine WO.V (run_indexAddr (q := adr a (i * 2)) Tryz.underlying66 Ty.sz103 rfl rfl (by omega) (by omega) ((hX (hS1.focus 1 rfl)).2.1 (by omega)) rfl) ?_
    refine WO.V (run_loadAgg (vs := (ptc p)) Ty.ag103 Ty.sz103 rfl ((hX (hS1.focus 1 rfl)).cells (by rw [flat_len ptc_len]; omega) (flat_part ptc_len hp)).1 ((hX (hS1.focus 1 rfl)).cells (by rw [flat_len ptc_len]; omega) (flat_part ptc_len hp)).2) ?_
    refine WO.buildSlice (l := (ptc p)) hS1 Tryz.underlying66 rfl (fun w => by kernel_rfl) rfl (fun g8 w7 lg8 hS7 => ?_)
    clear hS1
    refine WO.append (news := (ptc p)) 1 rfl Tryz.underlying66 Tryz.underlying66 (fun _ h => by cases h) Ty.sz103 (by decide) Ty.by103 Ty.zr103 rfl rfl rfl rfl hS7 rfl ((hS7.cel_rd 0 rfl (o := 0) (m := 1) (k := 2) rfl (Nat.le_of_ble_eq_true rfl)).src) rfl (by omega) (by omega) (fun a10 c11 w9 hS9 => ?_)
    replace hS9 : St B (cel g8 (ptc p) 103 :: own a10 ((((l.take i).filter (outF fr to)).length) + 1) c11 103 2 ((((l.take i).filter (outF fr to)).flatMap ptc) ++ (ptc p)) :: _::L) w9 := hS9
    clear hS7
    refine WO.asg rfl rfl ?_
    refine WO.nil (NX.blk (NX.go (WP.region rfl ?_)))
    refine WO.mv rfl rfl ?_
    refine WO.V (run_add rfl rfl (IntWalk.i64_in _ (by omega))) ?_
    refine WO.asg rfl rfl ?_
    refine WO.nil ?_
    exact NX.again (i + 1, a10, c11) ⟨by omega, own_eqM hS9.drop (by rw [(taken_no hp true (out_gt g30))]; simp) (by rw [(taken_no hp true (out_gt g30))]; simp [ptc])⟩ (by show l.length - (i + 1) < l.length - i; omega) (Sub.cons rfl (Sub.cons rfl (Sub.cons rfl (Sub.consE rfl (by rw [(taken_no hp true (out_gt g30))]; simp) (Sub.consE rfl (by congr 1) (Sub.nil _))))))
   ·
    refine WP.skip (NX.blk (NX.go (WP.region rfl ?_)))
    refine WO.mv rfl rfl ?_
    refine WO.V (run_add rfl rfl (IntWalk.i64_in _ (by omega))) ?_
    refine WO.asg rfl rfl ?_
    refine WO.nil ?_
    exact NX.again (i + 1, oa, oc) ⟨by omega, own_eqM hS1 (by rw [(taken_no hp false (out_in g22 g30))]; simp) (by rw [(taken_no hp false (out_in g22 g30))]; simp)⟩ (by show l.length - (i + 1) < l.length - i; omega) (Sub.cons rfl (Sub.cons rfl (Sub.cons rfl (Sub.consE rfl (by rw [(taken_no hp false (out_in g22 g30))]; simp) (Sub.consE rfl (by congr 1) (Sub.nil _))))))
 ·
  refine WP.exit (NX.thenExit (NX.thenExit ?_))
  refine NX.blkExit ?_
  refine NX.go (WP.seq (WP.region rfl ?_))
  refine WO.mv rfl rfl ?_
  refine WO.asg rfl rfl ?_
  refine WO.nil (NX.go (WP.ret ?_))
  refine NX.done (l := [.tmp 6]) rfl rfl ?_
  have hil : l.take i = l := List.take_of_length_le (by omega)
  exact ⟨oa, oc, by rw [hil] at *; rfl, own_eqM (hS1) (by rw [hil]) (by rw [hil])⟩

theorem del_sz {fr to : Int} {ms : List Mt} {S S1 : List MRow} {n : Nat} (h : ∀ u ∈ S.map MRow.p, u.lb.length ≤ 4398046511104 ∧ u.pts.length ≤ 4398046511104) (he : S1.map MRow.p = ((S.map MRow.p).take n).map (delR fr to ms) ++ (S.map MRow.p).drop n) (u : MRow) (hu : u ∈ S1) : u.lb.l.length ≤ 4398046511104 ∧ u.pt.l.length ≤ 4398046511104 := by
  have h1 : u.p ∈ S1.map MRow.p := List.mem_map.2 ⟨u, hu, rfl⟩
  rw [he] at h1
  rcases List.mem_append.1 h1 with h1 | h1
  · obtain ⟨q, hq, e⟩ := List.mem_map.1 h1
    have hq2 := h q (List.mem_of_mem_take hq)
    unfold delR at e
    split at e
    · rw [show u.lb.l = u.p.lb from rfl, show u.pt.l = u.p.pts from rfl, ← e]
      exact ⟨hq2.1, Nat.le_trans (List.length_filter_le _ _) hq2.2⟩
    · rw [show u.lb.l = u.p.lb from rfl, show u.pt.l = u.p.pts from rfl, ← e]; exact hq2
  · exact h u.p (List.mem_of_mem_drop h1)
theorem t39_11 : rtab .any (opsOf Tryz.f39 11) = (true, [([], []), ([0], [0]), ([], []), ([2], [2]), ([3], [3]), ([4], [4]), ([], []), ([5, 6], [5, 6]), ([7], [7]), ([8], [8]), ([1, 9], [1, 9])]) := by kernel_rfl
theorem t39_12 : rtab .any (opsOf Tryz.f39 12) = (true, [([], []), ([0], [0]), ([1], [1]), ([2], [2]), ([], []), ([], []), ([5], [5]), ([6], [6]), ([7], [7]), ([], []), ([8, 9], [8, 9]), ([10], [10]), ([11], [11]), ([], []), ([13], [13]), ([], []), ([15], [15]), ([12, 14, 16], [12, 14, 16]), ([3, 4, 0, 1, 2, 3, 4, 5, 6, 7, 8, 9, 10, 11, 12, 13, 14, 15, 16, 17], [3, 4]), ([18, 0, 1, 2, 3, 4, 5, 6, 7, 8, 9, 10, 11, 12, 13, 14, 15, 16, 17], [18]), ([19, 17, 17, 0, 1, 2, 3, 4, 5, 6, 7, 8, 9, 10, 11, 12, 13, 14, 15, 16, 17], [17, 19])]) := by kernel_rfl
theorem rhapply_spec {B w : World} {L : List HP} {g M : Nat} {A : List RowP} (hA : WfH A M) (hM : M + 32 ≤ 4398046511104) (hAn : A.length ≤ 900000) (r : Rcd) (hz : SzR r) (hS : St B (rfA 79 95 103 g A :: recA r :: L) w) : Does Tryz.prog 39 [Value.pointer (some ⟨g, 0, none⟩), Value.agg #[Value.int .i64 r.k, Value.slice r.ss.a r.ss.l.length r.ss.cap, Value.slice r.ms.a r.ms.l.length r.ms.cap, Value.int .i64 r.fr, Value.int .i64 r.to]] w (fun v w1 => v = .int .i64 (tryP A r.p) ∧ St B (rfA 79 95 103 g (applyP A r.p) :: recA r :: L) w1) := by
 refine enter (n := 73) Tryz.func39 rfl rfl [Value.pointer (some ⟨g, 0, none⟩), Value.agg #[Value.int .i64 r.k, Value.slice r.ss.a r.ss.l.length r.ss.cap, Value.slice r.ms.a r.ms.l.length r.ms.cap, Value.int .i64 r.fr, Value.int .i64 r.to]] rfl ?_
 refine WP.seq (WP.region rfl ?_)
 refine WO.box (l := (rcc r)) hS rfl rfl rfl (fun g2 w1 lg2 hS1 => ?_)
 clear hS
 refine WO.asg rfl rfl ?_
 refine WO.nil (NX.go (WP.seq (WP.region rfl ?_)))
 refine WO.mv rfl rfl ?_
 refine WO.V (run_loadAgg (vs := (rcc r)) Ty.ag33 Ty.sz33 rfl rfl (cell_all (hS1.cel_at 0 rfl) 0 rfl)) ?_
 have hS3 := hS1.permT [1, 1] (L' := _::_::_::L) rfl
 clear hS1
 refine WO.call rfl rfl Ty.hd38 rfl (rhtry_spec (g := g) hA hM hAn r hz hS3) (fun v5 w4 pv5 => ?_)
 obtain ⟨rfl, hS4⟩ := pv5
 clear hS3
 refine WO.asg rfl rfl ?_
 refine WO.nil (NX.go (WP.seq (WP.seq (WP.region rfl ?_))))
 refine WO.mv rfl rfl ?_
 refine WO.V (run_neq rfl rfl) ?_
 refine WO.nil (NX.go ?_)
 refine WP.condP rfl (fun g12 => ?_) (fun g12 => ?_)
 ·
  refine WP.seq (WP.region rfl ?_)
  refine WO.mv rfl rfl ?_
  refine WO.asg rfl rfl ?_
  refine WO.nil (NX.go (WP.ret (NX.thenRet ?_)))
  refine NX.done (l := [.tmp 4]) rfl rfl ?_
  exact ⟨rfl, by rw [applyP_bad g12]; exact (hS4.mask [true, true, false] (L' := _::_::L) rfl)⟩
 ·
  refine WP.skip (NX.go (WP.seq (WP.seq ?_)))
  have hS6 := recA_open (hS4.permT [1] (L' := _::_::_::L) rfl)
  clear hS4
  have ht0 : tryP A r.p = 0 := by simpa using g12
  obtain ⟨hc, A9, h9, hA9⟩ := try_zero ht0
  have hns := hz.ns
  have hss := (rcheckP_smp hc).2
  rw [show r.p.ss = r.ss.l.map Smp.p from rfl, List.length_map] at hss
  have hcs : ∀ z ∈ r.ss.l, chk z.lb.l = true := fun z hz9 => (rcheckP_smp hc).1 z.p (List.mem_map.2 ⟨z, hz9, rfl⟩)
  refine WP.region rfl ?_
  refine WO.asg rfl rfl ?_
  refine WO.nil (NX.go (WP.block ?_))
  have hS7 : St B ((rdH r.ss.a r.ss.l.length 3 (r.ss.l.flatMap smc)) :: smsA r.ss.l :: _::_::(rdH r.ms.a r.ms.l.length 3 (r.ms.l.flatMap mtc)) :: _::L) w4 := (hS6.permT [0, 1, 2, 2] (L' := _::_::_::_::_::_::L) rfl)
  clear hS6
  refine WP.loop (α := Nat × List RowP) (fun x => match x with | ⟨k, Ak⟩ => [(0, Value.pointer (some ⟨g, 0, none⟩)), (3, Value.pointer (some ⟨g2, 0, none⟩)), (5, Value.int .i64 (tryP A r.p)), (6, Value.int .i64 (k : Int))]) (fun x w => match x with | ⟨k, Ak⟩ => (k ≤ r.ss.l.length ∧ putAll Ak ((r.ss.l.drop k).map Smp.p) = some A9 ∧ WfH Ak (M + k) ∧ Ak.length ≤ A.length + k) ∧ St B (rfA 79 95 103 g Ak :: cel g2 (rcc r) 33 :: (rdH r.ss.a r.ss.l.length 3 (r.ss.l.flatMap smc)) :: smsA r.ss.l :: (rdH r.ms.a r.ms.l.length 3 (r.ms.l.flatMap mtc)) :: recA r :: L) w) (fun x => match x with | ⟨k, Ak⟩ => r.ss.l.length - k) (0, A) ⟨⟨Nat.zero_le _, h9, hA, Nat.le_refl _⟩, (hS7.permT [2, 2] (L' := _::_::_::_::_::_::L) rfl)⟩ (Sub.cons rfl (Sub.cons rfl (Sub.cons rfl (Sub.consE rfl (by first | rfl | first | rfl | (congr 1; omega) | (simp; done) | (simp; omega)) (Sub.nil _))))) ?_
  rintro ⟨k, Ak⟩ w8 ⟨⟨hk, hpa, hWk, hnk⟩, hS8⟩
  clear hS7
  refine WP.seq (WP.seq (WP.region rfl ?_))
  refine WO.mv rfl rfl ?_
  refine WO.V (run_fa 1 ⟨g2, 1, none⟩ rfl rfl) ?_
  refine WO.V (run_load Ty.ag31 rfl ((hS8.cel_at 1 rfl 1).trans rfl)) ?_
  refine WO.V (run_len rfl Tryz.underlying31 rfl) ?_
  refine WO.V (run_lss rfl rfl) ?_
  refine WO.nil (NX.go ?_)
  refine WP.condP rfl (fun g18 => ?_) (fun g18 => ?_)
  ·
   refine WP.skip (NX.go (WP.seq (WP.block ?_)))
   obtain ⟨z, hz1⟩ : ∃ qq, r.ss.l[k]? = some qq := ⟨_, List.getElem?_eq_getElem (by omega)⟩
   have hzz := hz.s z (List.mem_of_getElem? hz1)
   have hcz := hcs z (List.mem_of_getElem? hz1)
   rw [drop_cons hz1, List.map_cons, putAll] at hpa
   have hold : oldF Ak (z.lb.l, z.t, z.v) = false := by cases hq : oldF Ak (z.lb.l, z.t, z.v) with | false => rfl | true => (rw [if_pos (show oldF Ak z.p = true from hq)] at hpa; cases hpa)
   rw [if_neg (show ¬ oldF Ak z.p = true by rw [show oldF Ak z.p = false from hold]; decide)] at hpa
   have hS9 := smsA_get hz1 (hS8.permT [3] (L' := _::_::_::_::_::_::L) rfl)
   clear hS8
   have hss1 : r.ss.a.isSome = true := rd_isSome ((rdH_rd (hS9.focus 4 rfl))) (by omega)
   refine WP.region rfl ?_
   refine WO.mv rfl rfl ?_
   refine WO.V (run_fa 1 ⟨g2, 1, none⟩ rfl rfl) ?_
   refine WO.V (run_load Ty.ag31 rfl ((hS9.cel_at 3 rfl 1).trans rfl)) ?_
   refine WO.mv rfl rfl ?_
   refine WO.V (run_indexAddr (q := adr r.ss.a (k * 3)) Tryz.underlying31 Ty.sz83 rfl rfl (by omega) (by omega) ((rdH_rd (hS9.focus 4 rfl)).2.1 (by omega)) rfl) ?_
   refine WO.V (run_loadAgg (vs := (smc z)) Ty.ag83 Ty.sz83 rfl ((rdH_rd (hS9.focus 4 rfl)).cells (by rw [flat_len smc_len]; omega) (flat_part smc_len hz1)).1 ((rdH_rd (hS9.focus 4 rfl)).cells (by rw [flat_len smc_len]; omega) (flat_part smc_len hz1)).2) ?_
   have hS10 := hS9.permT [2] (L' := _::_::_::_::_::_::_::L) rfl
   clear hS9
   refine WO.call rfl rfl Ty.hd72 rfl (rhput_spec (g := g) hWk (by omega) (by omega) z hzz.1 hzz.2 hS10) (fun v12 w11 pv12 => ?_)
   obtain ⟨rfl, hS11⟩ := pv12
   clear hS10
   have hS13 : St B (rfA 79 95 103 g (addF Ak z.lb.l z.t [⟨z.t, z.v⟩]) :: (labA z.lb) :: smsA r.ss.l :: cel g2 (rcc r) 33 :: (rdH r.ss.a r.ss.l.length 3 (r.ss.l.flatMap smc)) :: (rdH r.ms.a r.ms.l.length 3 (r.ms.l.flatMap mtc)) :: recA r :: L) w11 := by have z9 := hS11; rw [if_neg (show ¬ oldF Ak z.p = true by rw [show oldF Ak z.p = false from hold]; decide)] at z9; exact z9
   clear hS11
   refine WO.nil (NX.blk (NX.go (WP.region rfl ?_)))
   refine WO.mv rfl rfl ?_
   refine WO.V (run_add rfl rfl (IntWalk.i64_in _ (by omega))) ?_
   refine WO.asg rfl rfl ?_
   refine WO.nil ?_
   exact NX.again (k + 1, addF Ak z.lb.l z.t [⟨z.t, z.v⟩]) ⟨⟨by omega, hpa, wf_add hWk hcz hold, by rw [addF_len hWk.srt]; split <;> omega⟩, ((hS13.mask [true, false] (L' := _::_::_::_::_::_::L) rfl).permT [0, 1, 1] (L' := _::_::_::_::_::_::L) rfl)⟩ (by show r.ss.l.length - (k + 1) < r.ss.l.length - k; omega) (Sub.cons rfl (Sub.cons rfl (Sub.cons rfl (Sub.consE rfl (by congr 1) (Sub.nil _)))))
  ·
   refine WP.exit (NX.thenExit (NX.thenExit ?_))
   refine NX.blkExit ?_
   refine NX.go (WP.seq (WP.seq ?_))
   obtain rfl : Ak = A9 := by rw [List.drop_of_length_le (by omega), List.map_nil, putAll] at hpa; exact Option.some.inj hpa
   obtain ⟨S, ra, rc, hSA, hS14⟩ := rf_open hS8
   clear hS8
   have hSl : S.length = Ak.length := by rw [← hSA, List.length_map]
   have hszS : ∀ u ∈ S.map MRow.p, u.lb.length ≤ 4398046511104 ∧ u.pts.length ≤ 4398046511104 := fun u hu => by rw [hSA] at hu; exact ⟨Nat.le_trans (chk_sz (hWk.chk u hu)).1 (by decide), Nat.le_trans (hWk.pts u hu) (by omega)⟩
   refine WP.region rfl ?_
   refine WO.asg rfl rfl ?_
   refine WO.nil (NX.go (WP.block ?_))
   have hS15 : St B (cel g [Value.slice ra S.length rc] 79 :: own ra S.length rc 95 3 (S.flatMap hsc) :: allA (rhwA 103) S :: _::_::_::_::_::L) w8 := (hS14.permT [0, 0, 0, 0, 2] (L' := _::_::_::_::_::_::_::_::L) rfl)
   clear hS14
   refine WP.loop (α := Nat × List MRow) (fun x => match x with | ⟨n, S1⟩ => [(0, Value.pointer (some ⟨g, 0, none⟩)), (3, Value.pointer (some ⟨g2, 0, none⟩)), (7, Value.int .i64 (n : Int))]) (fun x w => match x with | ⟨n, S1⟩ => (n ≤ S.length ∧ S1.length = S.length ∧ S1.map MRow.p = ((S.map MRow.p).take n).map (delR r.fr r.to r.ms.l) ++ (S.map MRow.p).drop n ∧ (n = 0 ∨ r.k = 2)) ∧ St B (cel g [Value.slice ra S1.length rc] 79 :: own ra S1.length rc 95 3 (S1.flatMap hsc) :: allA (rhwA 103) S1 :: cel g2 (rcc r) 33 :: (rdH r.ms.a r.ms.l.length 3 (r.ms.l.flatMap mtc)) :: (rdH r.ss.a r.ss.l.length 3 (r.ss.l.flatMap smc)) :: smsA r.ss.l :: recA r :: L) w) (fun x => match x with | ⟨n, S1⟩ => S.length - n) (0, S) ⟨⟨Nat.zero_le _, rfl, rfl, .inl rfl⟩, hS15⟩ (Sub.cons rfl (Sub.cons rfl (Sub.consE rfl (by first | rfl | first | rfl | (congr 1; omega) | (simp; done) | (simp; omega)) (Sub.nil _)))) ?_
   rintro ⟨n, S1⟩ w16 ⟨⟨hn, hl1, hdl, hor⟩, hS16⟩
   clear hS15
   refine WP.seq (WP.seq ?_)
   have hsz1 : ∀ u ∈ S1, u.lb.l.length ≤ 4398046511104 ∧ u.pt.l.length ≤ 4398046511104 := fun u hu => del_sz hszS hdl u hu
   refine WP.region rfl ?_
   refine WO.mv rfl rfl ?_
   refine WO.mv rfl rfl ?_
   refine WO.V (run_nilCheck rfl) ?_
   refine WO.V (run_fa 0 ⟨g, 0, none⟩ rfl rfl) ?_
   refine WO.V (run_load Ty.ag77 rfl ((hS16.cel_at 0 rfl 0).trans rfl)) ?_
   refine WO.V (run_len rfl Tryz.underlying77 rfl) ?_
   refine WO.V (run_lss rfl rfl) ?_
   refine WO.mv rfl rfl ?_
   refine dcase (p := (n : Int) < ((S1.length : Nat) : Int)) (fun g35 d35 => ?_) (fun g35 d35 => ?_)
   ·
    refine WO.on rfl rfl d35 ?_
    refine WO.V (run_fa 0 ⟨g2, 0, none⟩ rfl rfl) ?_
    refine WO.on rfl rfl d35 ?_
    refine WO.V (run_load Ty.ag3 rfl ((hS16.cel_at 3 rfl 0).trans rfl)) ?_
    refine WO.on rfl rfl d35 ?_
    refine WO.V (run_eql rfl rfl) ?_
    refine WO.V (run_pickT rfl d35 rfl) ?_
    refine WO.nil (NX.go ?_)
    refine WP.condP rfl (fun g39 => ?_) (fun g39 => ?_)
    ·
     refine WP.skip (NX.go (WP.seq (WP.block (WP.seq ?_))))
     have hk2 : r.k = 2 := by simpa using g39
     obtain ⟨u, hu⟩ : ∃ qq, S1[n]? = some qq := ⟨_, List.getElem?_eq_getElem (by omega)⟩
     have hsa : ra.isSome = true := rd_isSome ((hS16.own_rd_i 1 rfl)) (by omega)
     have hS17 := rw_get hu (hS16.permT [2] (L' := _::_::_::_::_::_::_::_::L) rfl)
     clear hS16
     have hul : u.lb.l.length ≤ 4398046511104 ∧ u.pt.l.length ≤ 4398046511104 := hsz1 u (List.mem_of_getElem? hu)
     refine WD.start (fun w => (∀ jz, World.cell? w ⟨g, jz, none⟩ = [Value.slice ra S1.length rc][jz]?) ∧ (∀ jz, World.cell? w ⟨g2, jz, none⟩ = (rcc r)[jz]?) ∧ Rd w ra S1.length 3 (S1.flatMap hsc)) [] (bt 11 0) Ty.mo rfl (by kernel_rfl) hS17 (fun _ h => ⟨h.cel_at 3 rfl, h.cel_at 5 rfl, (h.own_rd_i 4 rfl)⟩) (fun w18 hS18 s19 => ?_)
     clear hS17
     refine DP (i := 0) t39_11 (bt 11 1) rfl rfl rfl rfl (fun w => run_fa 2 ⟨g2, 2, none⟩ rfl rfl) ?_
     refine DT (i := 1) t39_11 (bt 11 3) s19 rfl rfl rfl rfl (fun w hs => run_load Ty.ag24 rfl ((hs.2.1 2).trans rfl)) ?_
     refine DP (i := 2) t39_11 (bt 11 7) rfl rfl rfl rfl (fun w => run_move rfl) ?_
     refine DP (i := 3) t39_11 (bt 11 15) rfl rfl rfl rfl (fun w => run_nilCheck rfl) ?_
     refine DP (i := 4) t39_11 (bt 11 31) rfl rfl rfl rfl (fun w => run_fa 0 ⟨g, 0, none⟩ rfl rfl) ?_
     refine DT (i := 5) t39_11 (bt 11 63) s19 rfl rfl rfl rfl (fun w hs => run_load Ty.ag77 rfl ((hs.1 0).trans rfl)) ?_
     refine DP (i := 6) t39_11 (bt 11 127) rfl rfl rfl rfl (fun w => run_move rfl) ?_
     refine DT (i := 7) t39_11 (bt 11 255) s19 rfl rfl rfl rfl (fun w hs => run_indexAddr (q := adr ra (n * 3)) Tryz.underlying77 Ty.sz95 rfl rfl (by omega) (by omega) ((hs.2.2).2.1 (by omega)) rfl) ?_
     refine DP (i := 8) t39_11 (bt 11 511) rfl rfl rfl rfl (fun w => run_fa 0 (adr ra (n * 3 + 0)) rfl (adr_add _ (by assumption) _ _)) ?_
     refine DT (i := 9) t39_11 (bt 11 1023) s19 rfl rfl rfl rfl (fun w hs => run_load Ty.ag65 rfl ((hs.2.2).cell ((flat_get hsc_len hu (j := 0) (by decide)).trans rfl))) ?_
     refine WD.one (i := 10) t39_11 (bt 11 2047) rfl (by kernel_rfl) ?_
     have hS20 := hS18.permT [6] (L' := _::_::_::_::_::_::_::_::_::_::L) rfl
     clear hS18
     refine WO.call rfl rfl Ty.hd57 rfl (ris_spec rdH_rd rdH_rd hz.m hz.nm2 hul.1 hS20) (fun v22 w21 pv22 => ?_)
     obtain ⟨rfl, hS21⟩ := pv22
     clear hS20
     refine WO.nil ?_
     have s23 : (∀ jz, World.cell? w21 ⟨g, jz, none⟩ = [Value.slice ra S1.length rc][jz]?) ∧ (∀ jz, World.cell? w21 ⟨g2, jz, none⟩ = (rcc r)[jz]?) ∧ Rd w21 ra S1.length 3 (S1.flatMap hsc) := ⟨hS21.cel_at 4 rfl, hS21.cel_at 6 rfl, (hS21.own_rd_i 5 rfl)⟩
     refine NX.held s23 ?_
     refine WD.done t39_11 (by kernel_rfl) ?_
     refine NX.go ?_
     refine WP.condB rfl (fun g52 => ?_) (fun g52 => ?_)
     ·
      refine WD.start (fun w => (∀ jz, World.cell? w ⟨g, jz, none⟩ = [Value.slice ra S1.length rc][jz]?) ∧ (∀ jz, World.cell? w ⟨g2, jz, none⟩ = (rcc r)[jz]?) ∧ Rd w ra S1.length 3 (S1.flatMap hsc)) [20] (bt 21 0) Ty.mo rfl (by kernel_rfl) hS21 (fun _ h => ⟨h.cel_at 4 rfl, h.cel_at 6 rfl, (h.own_rd_i 5 rfl)⟩) (fun w24 hS24 s25 => ?_)
      clear hS21
      refine DP (i := 0) t39_12 (bt 21 1) rfl rfl rfl rfl (fun w => run_move rfl) ?_
      refine DP (i := 1) t39_12 (bt 21 3) rfl rfl rfl rfl (fun w => run_nilCheck rfl) ?_
      refine DP (i := 2) t39_12 (bt 21 7) rfl rfl rfl rfl (fun w => run_fa 0 ⟨g, 0, none⟩ rfl rfl) ?_
      refine DT (i := 3) t39_12 (bt 21 15) s25 rfl rfl rfl rfl (fun w hs => run_load Ty.ag77 rfl ((hs.1 0).trans rfl)) ?_
      refine DP (i := 4) t39_12 (bt 21 31) rfl rfl rfl rfl (fun w => run_move rfl) ?_
      refine DP (i := 5) t39_12 (bt 21 63) rfl rfl rfl rfl (fun w => run_move rfl) ?_
      refine DP (i := 6) t39_12 (bt 21 127) rfl rfl rfl rfl (fun w => run_nilCheck rfl) ?_
      refine DP (i := 7) t39_12 (bt 21 255) rfl rfl rfl rfl (fun w => run_fa 0 ⟨g, 0, none⟩ rfl rfl) ?_
      refine DT (i := 8) t39_12 (bt 21 511) s25 rfl rfl rfl rfl (fun w hs => run_load Ty.ag77 rfl ((hs.1 0).trans rfl)) ?_
      refine DP (i := 9) t39_12 (bt 21 1023) rfl rfl rfl rfl (fun w => run_move rfl) ?_
      refine DT (i := 10) t39_12 (bt 21 2047) s25 rfl rfl rfl rfl (fun w hs => run_indexAddr (q := adr ra (n * 3)) Tryz.underlying77 Ty.sz95 rfl rfl (by omega) (by omega) ((hs.2.2).2.1 (by omega)) rfl) ?_
      refine DP (i := 11) t39_12 (bt 21 4095) rfl rfl rfl rfl (fun w => run_fa 1 (adr ra (n * 3 + 1)) rfl (adr_add _ (by assumption) _ _)) ?_
      refine DT (i := 12) t39_12 (bt 21 8191) s25 rfl rfl rfl rfl (fun w hs => run_load Ty.ag66 rfl ((hs.2.2).cell ((flat_get hsc_len hu (j := 1) (by decide)).trans rfl))) ?_
      refine DP (i := 13) t39_12 (bt 21 16383) rfl rfl rfl rfl (fun w => run_fa 3 ⟨g2, 3, none⟩ rfl rfl) ?_
      refine DT (i := 14) t39_12 (bt 21 32767) s25 rfl rfl rfl rfl (fun w hs => run_load Ty.ag2 rfl ((hs.2.1 3).trans rfl)) ?_
      refine DP (i := 15) t39_12 (bt 21 65535) rfl rfl rfl rfl (fun w => run_fa 4 ⟨g2, 4, none⟩ rfl rfl) ?_
      refine DT (i := 16) t39_12 (bt 21 131071) s25 rfl rfl rfl rfl (fun w hs => run_load Ty.ag2 rfl ((hs.2.1 4).trans rfl)) ?_
      refine WD.one (i := 17) t39_12 (bt 21 262143) rfl (by kernel_rfl) ?_
      have hS26 := hS24.permT [2] (L' := _::_::_::_::_::_::_::_::_::_::L) rfl
      clear hS24
      refine WO.call rfl rfl Ty.hd73 rfl (rhout_spec (X := own u.pt.a u.pt.l.length u.pt.cap 103 2 (u.pt.l.flatMap ptc)) (fun h => h.own_rd.1) hul.2 r.fr r.to hS26) (fun v28 w27 pv28 => ?_)
      obtain ⟨wa, wc, rfl, hS27⟩ := pv28
      clear hS26
      refine WO.nil ?_
      have s29 : (∀ jz, World.cell? w27 ⟨g, jz, none⟩ = [Value.slice ra S1.length rc][jz]?) ∧ (∀ jz, World.cell? w27 ⟨g2, jz, none⟩ = (rcc r)[jz]?) ∧ Rd w27 ra S1.length 3 (S1.flatMap hsc) := ⟨hS27.cel_at 5 rfl, hS27.cel_at 7 rfl, (hS27.own_rd_i 6 rfl)⟩
      refine NX.held s29 ?_
      refine DT (i := 18) t39_12 (bt 21 524287) s29 rfl rfl rfl rfl (fun w hs => run_indexAddr (q := adr ra (n * 3)) Tryz.underlying77 Ty.sz95 rfl rfl (by omega) (by omega) ((hs.2.2).2.1 (by omega)) rfl) ?_
      refine DP (i := 19) t39_12 (bt 21 1048575) rfl rfl rfl rfl (fun w => run_fa 1 (adr ra (n * 3 + 1)) rfl (adr_add _ (by assumption) _ _)) ?_
      refine WD.one (i := 20) t39_12 (bt 21 2097151) rfl (by kernel_rfl) ?_
      refine WO.storeOwnAt 6 hS27 rfl Ty.sz66 rfl rfl rfl rfl (by rw [flat_len hsc_len]; omega) (fun w30 hS30 => ?_)
      replace hS30 : St B (own wa ((u.pt.l.filter (outF r.fr r.to)).length) wc 103 2 ((u.pt.l.filter (outF r.fr r.to)).flatMap ptc) :: _::_::_::_::_::own ra S1.length rc 95 3 ((S1.set n (⟨u.lb, u.last, ⟨wa, u.pt.l.filter (outF r.fr r.to), wc⟩⟩ : MRow)).flatMap hsc) :: _::_::_::_::L) w30 := (by have z9 := hS30; rw [flat_set hsc_len hu (j := 1) (y := (⟨u.lb, u.last, ⟨wa, u.pt.l.filter (outF r.fr r.to), wc⟩⟩ : MRow)) (by decide) rfl] at z9; exact z9)
      clear hS27
      refine WO.nil ?_
      refine NX.last (by decide) ?_
      refine WD.done t39_12 (by kernel_rfl) ?_
      refine NX.blk (NX.go (WP.region rfl ?_))
      refine WO.mv rfl rfl ?_
      refine WO.V (run_add rfl rfl (IntWalk.i64_in _ (by omega))) ?_
      refine WO.asg rfl rfl ?_
      refine WO.nil ?_
      have hS31 := rw_back (tP := 103) (⟨u.lb, u.last, ⟨wa, u.pt.l.filter (outF r.fr r.to), wc⟩⟩ : MRow) hu (hS30.permT [3, 0, 2] (L' := _::_::_::_::_::_::_::_::_::_::_::L) rfl)
      clear hS30
      exact NX.again (n + 1, S1.set n (⟨u.lb, u.last, ⟨wa, u.pt.l.filter (outF r.fr r.to), wc⟩⟩ : MRow)) ⟨⟨by omega, by rw [List.length_set]; exact hl1, del_next hdl (by omega) hu (by show RowP.mk _ _ _ = delR _ _ _ u.p; unfold delR; rw [if_pos (show isF r.ms.l u.p.lb = true from g52)]; rfl), .inr hk2⟩, rf_len (by rw [List.length_set]) rfl (((hS31.mask [true, false] (L' := _::_::_::_::_::_::_::_::L) rfl).permT [2, 2, 0, 1] (L' := _::_::_::_::_::_::_::_::L) rfl))⟩ (by show S.length - (n + 1) < S.length - n; omega) (Sub.cons rfl (Sub.cons rfl (Sub.consE rfl (by congr 1) (Sub.nil _))))
     ·
      refine WP.skip (NX.blk (NX.go (WP.region rfl ?_)))
      refine WO.mv rfl rfl ?_
      refine WO.V (run_add rfl rfl (IntWalk.i64_in _ (by omega))) ?_
      refine WO.asg rfl rfl ?_
      refine WO.nil ?_
      have hS32 := rw_same hu (hS21.permT [1, 1, 1] (L' := _::_::_::_::_::_::_::_::_::_::L) rfl)
      clear hS21
      exact NX.again (n + 1, S1) ⟨⟨by omega, hl1, (set_same hu ▸ del_next hdl (by omega) hu (by unfold delR; rw [if_neg (show ¬ isF r.ms.l u.p.lb = true by show ¬ isF r.ms.l u.lb.l = true; rw [g52]; decide)])), .inr hk2⟩, (hS32.permT [2, 2, 0, 1] (L' := _::_::_::_::_::_::_::_::L) rfl)⟩ (by show S.length - (n + 1) < S.length - n; omega) (Sub.cons rfl (Sub.cons rfl (Sub.consE rfl (by congr 1) (Sub.nil _))))
    ·
     refine WP.exit (NX.thenExit (NX.thenExit ?_))
     refine NX.blkExit ?_
     refine NX.go (WP.seq (WP.region rfl ?_))
     refine WO.asg rfl rfl ?_
     refine WO.nil (NX.go (WP.ret ?_))
     refine NX.done (l := [.tmp 4]) rfl rfl ?_
     have hfin : S1.map MRow.p = applyP A r.p := by
      unfold applyP
      rw [apply_ok ht0 h9, hdl]
      by_cases hk2 : r.k = 2
      · exact absurd hk2 (by simpa using g39)
      · rw [if_neg (show ¬ r.p.k = 2 from hk2)]; have hn0 : n = 0 := hor.resolve_right hk2; subst hn0; rw [List.take_zero, List.drop_zero, hSA]; rfl
     exact ⟨by rw [ht0]; rfl, rf_shut hfin ((hS16.mask [true, true, true, false, false, false, false] (L' := _::_::_::_::L) rfl))⟩
   ·
    refine WO.off rfl rfl d35 rfl ?_
    refine WO.off rfl rfl d35 rfl ?_
    refine WO.off rfl rfl d35 rfl ?_
    refine WO.V (run_pickF rfl d35 rfl) ?_
    refine WO.nil (NX.go ?_)
    refine WP.condF rfl rfl ?_
    refine WP.exit (NX.thenExit (NX.thenExit ?_))
    refine NX.blkExit ?_
    refine NX.go (WP.seq (WP.region rfl ?_))
    refine WO.asg rfl rfl ?_
    refine WO.nil (NX.go (WP.ret ?_))
    refine NX.done (l := [.tmp 4]) rfl rfl ?_
    have hfin : S1.map MRow.p = applyP A r.p := by
     unfold applyP
     rw [apply_ok ht0 h9, hdl]
     by_cases hk2 : r.k = 2
     · rw [if_pos (show r.p.k = 2 from hk2), List.take_of_length_le (by rw [List.length_map]; omega), List.drop_of_length_le (by rw [List.length_map]; omega), List.append_nil, hSA]; rfl
     · rw [if_neg (show ¬ r.p.k = 2 from hk2)]; have hn0 : n = 0 := hor.resolve_right hk2; subst hn0; rw [List.take_zero, List.drop_zero, hSA]; rfl
    exact ⟨by rw [ht0]; rfl, rf_shut hfin ((hS16.mask [true, true, true, false, false, false, false] (L' := _::_::_::_::L) rfl))⟩
end Go.Proofs.YtidoidoelgfnaaaGreatDoor.SL

/- The document's head: queries. -/
namespace Go.Proofs.YtidoidoelgfnaaaGreatDoor.SL
open Go.RowKit Go.Proofs.YtidoidoelgfnaaaGreatDoor
open Go.Proofs.YtidoidoelgfnaaaGreatDoorW.PrintLast (rtab opsOf)
set_option linter.unusedVariables false
set_option linter.unusedSimpArgs false

theorem serq {B w : World} {L : List HP} {g rc n c : Nat} {ra oa : Option Addr} {S : List MRow} {A : List RowP} {Z M : HP} {l : List Value} (h : St B (cel g [Value.slice ra S.length rc] 79 :: own ra S.length rc 95 3 (S.flatMap hsc) :: allA (rhwA 103) S :: own oa n c 68 2 l :: Z :: M :: L) w) (hSA : S.map MRow.p = A) : St B (own oa n c 68 2 l :: Z :: rfA 79 95 103 g A :: M :: L) w :=
  (rf_shut hSA h).permT [1, 1, 0, 0] rfl
theorem rhquery_spec {B w : World} {L : List HP} {M : HP} {g Mb : Nat} {m : Option Addr} {cap : Nat} {ask : List Mt} {A : List RowP} (hMt : ∀ {L : List HP} {w : World}, St B (M :: L) w → Rd w m ask.length 3 (ask.flatMap mtc)) (hA : WfH A Mb) (hMb : Mb ≤ 4398046511104) (hAn : A.length ≤ 1000000) (hmz : SzM ask) (hmn : ask.length ≤ 4398046511104) (fr to : Int) (hS : St B (rfA 79 95 103 g A :: M :: L) w) : Does Tryz.prog 44 [Value.pointer (some ⟨g, 0, none⟩), Value.slice m ask.length cap, Value.int .i64 fr, Value.int .i64 to] w (fun v w1 => ∃ a1 c1, ∃ out : List MSer, v = .slice a1 out.length c1 ∧ out.map MSer.p = qryR ask fr to A ∧ out.length ≤ 1000000 ∧ (∀ s ∈ out, s.lb.l.length ≤ 4398046511104 ∧ s.pt.l.length ≤ 4398046511104) ∧ St B (own a1 out.length c1 68 2 (out.flatMap msc) :: allA serA out :: rfA 79 95 103 g A :: M :: L) w1) := by
 obtain ⟨S, ra, rc, hSA, hS⟩ := rf_open hS
 have hSl : S.length = A.length := by rw [← hSA, List.length_map]
 have hsz1 : ∀ u ∈ S, u.lb.l.length ≤ 4398046511104 ∧ u.pt.l.length ≤ 4398046511104 := fun u hu => by have h1 : u.p ∈ A := hSA ▸ List.mem_map.2 ⟨u, hu, rfl⟩; exact ⟨Nat.le_trans (chk_sz (hA.chk _ h1)).1 (by decide), Nat.le_trans (hA.pts _ h1) hMb⟩
 refine enter (n := 63) Tryz.func44 rfl rfl [Value.pointer (some ⟨g, 0, none⟩), Value.slice m ask.length cap, Value.int .i64 fr, Value.int .i64 to] rfl ?_
 refine WP.seq (WP.region rfl ?_)
 refine WO.asg rfl rfl ?_
 refine WO.nil (NX.go (WP.seq (WP.region rfl ?_)))
 refine WO.asg rfl rfl ?_
 refine WO.nil (NX.go (WP.seq (WP.seq (WP.region rfl ?_))))
 refine WO.asg rfl rfl ?_
 refine WO.nil (NX.go (WP.block ?_))
 replace hS := (St.addPure trivial hS : St B (allA serA [] :: cel g [Value.slice ra S.length rc] 79 :: own ra S.length rc 95 3 (S.flatMap hsc) :: allA (rhwA 103) S :: M :: L) w)
 replace hS := hS.own_nil 68 2
 refine WP.loop (α := Nat × List MSer × Option Addr × Nat) (fun x => match x with | ⟨i, out, oa, oc⟩ => [(0, Value.pointer (some ⟨g, 0, none⟩)), (1, Value.slice m ask.length cap), (2, Value.int .i64 fr), (3, Value.int .i64 to), (9, Value.slice oa out.length oc), (10, Value.int .i64 (i : Int))]) (fun x w => match x with | ⟨i, out, oa, oc⟩ => (i ≤ S.length ∧ out.map MSer.p ++ qryR ask fr to ((S.drop i).map MRow.p) = qryR ask fr to A ∧ out.length ≤ i ∧ (∀ s ∈ out, s.lb.l.length ≤ 4398046511104 ∧ s.pt.l.length ≤ 4398046511104)) ∧ St B (own oa out.length oc 68 2 (out.flatMap msc) :: allA serA out :: cel g [Value.slice ra S.length rc] 79 :: own ra S.length rc 95 3 (S.flatMap hsc) :: allA (rhwA 103) S :: M :: L) w) (fun x => match x with | ⟨i, out, oa, oc⟩ => S.length - i) (0, [], none, 0) ⟨⟨Nat.zero_le _, by rw [List.drop_zero, hSA]; rfl, Nat.le_refl _, (fun s h => by cases h)⟩, hS⟩ (Sub.cons rfl (Sub.cons rfl (Sub.cons rfl (Sub.cons rfl (Sub.consE rfl (by first | rfl | first | rfl | (congr 1; omega) | (simp; done) | (simp; omega)) (Sub.consE rfl (by first | rfl | first | rfl | (congr 1; omega) | (simp; done) | (simp; omega)) (Sub.nil _))))))) ?_
 rintro ⟨i, out, oa, oc⟩ w1 ⟨⟨hi, hgo, hon, hsz⟩, hS1⟩
 clear hS
 refine WP.seq (WP.seq (WP.region rfl ?_))
 refine WO.mv rfl rfl ?_
 refine WO.mv rfl rfl ?_
 refine WO.V (run_nilCheck rfl) ?_
 refine WO.V (run_fa 0 ⟨g, 0, none⟩ rfl rfl) ?_
 refine WO.V (run_load Ty.ag77 rfl ((hS1.cel_at 2 rfl 0).trans rfl)) ?_
 refine WO.V (run_len rfl Tryz.underlying77 rfl) ?_
 refine WO.V (run_lss rfl rfl) ?_
 refine WO.nil (NX.go ?_)
 refine WP.condP rfl (fun g18 => ?_) (fun g18 => ?_)
 ·
  refine WP.skip (NX.go (WP.seq (WP.block (WP.seq ?_))))
  obtain ⟨u, hu⟩ : ∃ qq, S[i]? = some qq := ⟨_, List.getElem?_eq_getElem (by omega)⟩
  have hsa : ra.isSome = true := rd_isSome ((hS1.own_rd_i 3 rfl)) (by omega)
  have hS2 := rw_get hu (hS1.permT [4] (L' := allA (rhwA 103) S :: own oa out.length oc 68 2 (out.flatMap msc) :: allA serA out :: cel g [Value.slice ra S.length rc] 79 :: own ra S.length rc 95 3 (S.flatMap hsc) :: M :: L) rfl)
  clear hS1
  have hul := hsz1 u (List.mem_of_getElem? hu)
  refine WP.region rfl ?_
  refine WO.mv rfl rfl ?_
  refine WO.V (run_nilCheck rfl) ?_
  refine WO.V (run_fa 0 ⟨g, 0, none⟩ rfl rfl) ?_
  refine WO.V (run_load Ty.ag77 rfl ((hS2.cel_at 5 rfl 0).trans rfl)) ?_
  refine WO.mv rfl rfl ?_
  refine WO.V (run_indexAddr (q := adr ra (i * 3)) Tryz.underlying77 Ty.sz95 rfl rfl (by omega) (by omega) ((hS2.own_rd_i 6 rfl).2.1 (by omega)) rfl) ?_
  refine WO.V (run_fa 1 (adr ra (i * 3 + 1)) rfl (adr_add _ (by assumption) _ _)) ?_
  refine WO.V (run_load Ty.ag66 rfl ((hS2.own_rd_i 6 rfl).cell ((flat_get hsc_len hu (j := 1) (by decide)).trans rfl))) ?_
  refine WO.mv rfl rfl ?_
  refine WO.mv rfl rfl ?_
  have hS3 := hS2.permT [1] (L' := own u.pt.a u.pt.l.length u.pt.cap 103 2 (u.pt.l.flatMap ptc) :: (labA u.lb) :: allA (rhwA 103) (S.eraseIdx i) :: own oa out.length oc 68 2 (out.flatMap msc) :: allA serA out :: cel g [Value.slice ra S.length rc] 79 :: own ra S.length rc 95 3 (S.flatMap hsc) :: M :: L) rfl
  clear hS2
  refine WO.call rfl rfl Ty.hd56 rfl (rwithin_spec (X := own u.pt.a u.pt.l.length u.pt.cap 103 2 (u.pt.l.flatMap ptc)) (fun h => h.own_rd.1) (hsz1 u (List.mem_of_getElem? hu)).2 fr to hS3) (fun v5 w4 pv5 => ?_)
  obtain ⟨pa, pc, rfl, hS4⟩ := pv5
  clear hS3
  refine WO.asg rfl rfl ?_
  refine WO.nil (NX.go (WP.seq (WP.region rfl ?_)))
  refine WO.mv rfl rfl ?_
  refine WO.V (run_len rfl Tryz.underlying66 rfl) ?_
  refine WO.V (run_gtr rfl rfl) ?_
  refine WO.mv rfl rfl ?_
  refine dcase (p := 0 < (((u.pt.l.filter (inF fr to)).length : Nat) : Int)) (fun g35 d35 => ?_) (fun g35 d35 => ?_)
  ·
   refine WO.on rfl rfl d35 ?_
   refine WO.mv rfl rfl ?_
   refine WO.on rfl rfl d35 ?_
   refine WO.mv rfl rfl ?_
   refine WO.on rfl rfl d35 ?_
   refine WO.V (run_nilCheck rfl) ?_
   refine WO.on rfl rfl d35 ?_
   refine WO.V (run_fa 0 ⟨g, 0, none⟩ rfl rfl) ?_
   refine WO.on rfl rfl d35 ?_
   refine WO.V (run_load Ty.ag77 rfl ((hS4.cel_at 6 rfl 0).trans rfl)) ?_
   refine WO.on rfl rfl d35 ?_
   refine WO.mv rfl rfl ?_
   refine WO.on rfl rfl d35 ?_
   refine WO.V (run_indexAddr (q := adr ra (i * 3)) Tryz.underlying77 Ty.sz95 rfl rfl (by omega) (by omega) ((hS4.own_rd_i 7 rfl).2.1 (by omega)) rfl) ?_
   refine WO.on rfl rfl d35 ?_
   refine WO.V (run_fa 0 (adr ra (i * 3 + 0)) rfl (adr_add _ (by assumption) _ _)) ?_
   refine WO.on rfl rfl d35 ?_
   refine WO.V (run_load Ty.ag65 rfl ((hS4.own_rd_i 7 rfl).cell ((flat_get hsc_len hu (j := 0) (by decide)).trans rfl))) ?_
   refine WO.on rfl rfl d35 ?_
   have hS6 := hS4.permT [8, 2] (L' := M :: (labA u.lb) :: own pa ((u.pt.l.filter (inF fr to)).length) pc 103 2 ((u.pt.l.filter (inF fr to)).flatMap ptc) :: own u.pt.a u.pt.l.length u.pt.cap 103 2 (u.pt.l.flatMap ptc) :: allA (rhwA 103) (S.eraseIdx i) :: own oa out.length oc 68 2 (out.flatMap msc) :: allA serA out :: cel g [Value.slice ra S.length rc] 79 :: own ra S.length rc 95 3 (S.flatMap hsc) :: L) rfl
   clear hS4
   refine WO.call rfl rfl Ty.hd57 rfl (ris_spec hMt rdH_rd hmz hmn (hsz1 u (List.mem_of_getElem? hu)).1 hS6) (fun v8 w7 pv8 => ?_)
   obtain ⟨rfl, hS7⟩ := pv8
   clear hS6
   refine WO.V (run_pickT rfl d35 rfl) ?_
   refine WO.nil (NX.go ?_)
   refine WP.condB rfl (fun g46 => ?_) (fun g46 => ?_)
   ·
    refine WP.region rfl ?_
    refine WO.mv rfl rfl ?_
    refine WO.buildSlice (l := []) hS7 Tryz.underlying65 rfl (fun w => by kernel_rfl) rfl (fun g10 w9 lg10 hS9 => ?_)
    clear hS7
    have hS9 := hS9.own_of_cel (m := 0) (k := 2) rfl
    refine WO.mv rfl rfl ?_
    refine WO.V (run_nilCheck rfl) ?_
    refine WO.V (run_fa 0 ⟨g, 0, none⟩ rfl rfl) ?_
    refine WO.V (run_load Ty.ag77 rfl ((hS9.cel_at 8 rfl 0).trans rfl)) ?_
    refine WO.mv rfl rfl ?_
    refine WO.V (run_indexAddr (q := adr ra (i * 3)) Tryz.underlying77 Ty.sz95 rfl rfl (by omega) (by omega) ((hS9.own_rd_i 9 rfl).2.1 (by omega)) rfl) ?_
    refine WO.V (run_fa 0 (adr ra (i * 3 + 0)) rfl (adr_add _ (by assumption) _ _)) ?_
    refine WO.V (run_load Ty.ag65 rfl ((hS9.own_rd_i 9 rfl).cell ((flat_get hsc_len hu (j := 0) (by decide)).trans rfl))) ?_
    refine WO.append (news := (u.lb.l.flatMap prc)) 0 rfl Tryz.underlying65 Tryz.underlying65 (fun _ h => by cases h) Ty.sz105 (by decide) Ty.by105 Ty.zr105 rfl rfl rfl rfl hS9 rfl ((rdH_rd (hS9.focus 2 rfl)).src) (flat_noAgg prc_na _) (by omega) (by omega) (fun a12 c13 w11 hS11 => ?_)
    replace hS11 : St B (own a12 u.lb.l.length c13 105 2 (u.lb.l.flatMap prc) :: M :: (labA u.lb) :: own pa ((u.pt.l.filter (inF fr to)).length) pc 103 2 ((u.pt.l.filter (inF fr to)).flatMap ptc) :: own u.pt.a u.pt.l.length u.pt.cap 103 2 (u.pt.l.flatMap ptc) :: allA (rhwA 103) (S.eraseIdx i) :: own oa out.length oc 68 2 (out.flatMap msc) :: allA serA out :: cel g [Value.slice ra S.length rc] 79 :: own ra S.length rc 95 3 (S.flatMap hsc) :: L) w11 := (by have z9 := hS11; rw [Nat.zero_add u.lb.l.length, List.nil_append (u.lb.l.flatMap prc)] at z9; exact z9)
    refine WO.as (d := 57) (v := Value.slice a12 u.lb.l.length c13) rfl (congrArg (fun z => Value.slice _ z _) (Nat.zero_add _)) ?_
    clear hS9
    refine WO.mv rfl rfl ?_
    refine WO.V (run_build (v := Value.agg #[Value.slice a12 u.lb.l.length c13, Value.slice pa ((u.pt.l.filter (inF fr to)).length) pc]) rfl (fun w => by kernel_rfl)) ?_
    refine WO.buildSlice (l := [Value.slice a12 u.lb.l.length c13, Value.slice pa ((u.pt.l.filter (inF fr to)).length) pc]) hS11 Tryz.underlying37 rfl (fun w => by kernel_rfl) rfl (fun g15 w14 lg15 hS14 => ?_)
    clear hS11
    refine WO.append (news := [Value.slice a12 u.lb.l.length c13, Value.slice pa ((u.pt.l.filter (inF fr to)).length) pc]) 7 rfl Tryz.underlying37 Tryz.underlying37 (fun _ h => by cases h) Ty.sz68 (by decide) Ty.by68 Ty.zr68 rfl rfl rfl rfl hS14 rfl ((hS14.cel_rd 0 rfl (o := 0) (m := 1) (k := 2) rfl (Nat.le_of_ble_eq_true rfl)).src) rfl (by omega) (by omega) (fun a17 c18 w16 hS16 => ?_)
    replace hS16 : St B (cel g15 [Value.slice a12 u.lb.l.length c13, Value.slice pa ((u.pt.l.filter (inF fr to)).length) pc] 68 :: own a12 u.lb.l.length c13 105 2 (u.lb.l.flatMap prc) :: M :: (labA u.lb) :: own pa ((u.pt.l.filter (inF fr to)).length) pc 103 2 ((u.pt.l.filter (inF fr to)).flatMap ptc) :: own u.pt.a u.pt.l.length u.pt.cap 103 2 (u.pt.l.flatMap ptc) :: allA (rhwA 103) (S.eraseIdx i) :: own a17 (out.length + 1) c18 68 2 ((out.flatMap msc) ++ [Value.slice a12 u.lb.l.length c13, Value.slice pa ((u.pt.l.filter (inF fr to)).length) pc]) :: allA serA out :: cel g [Value.slice ra S.length rc] 79 :: own ra S.length rc 95 3 (S.flatMap hsc) :: L) w16 := hS16
    clear hS14
    refine WO.asg rfl rfl ?_
    refine WO.nil (NX.blk (NX.go (WP.region rfl ?_)))
    refine WO.mv rfl rfl ?_
    refine WO.V (run_add rfl rfl (IntWalk.i64_in _ (by omega))) ?_
    refine WO.asg rfl rfl ?_
    refine WO.nil ?_
    have hS19 := rw_same hu (hS16.permT [3, 4, 4] (L' := (labA u.lb) :: own u.pt.a u.pt.l.length u.pt.cap 103 2 (u.pt.l.flatMap ptc) :: allA (rhwA 103) (S.eraseIdx i) :: cel g15 [Value.slice a12 u.lb.l.length c13, Value.slice pa ((u.pt.l.filter (inF fr to)).length) pc] 68 :: own a12 u.lb.l.length c13 105 2 (u.lb.l.flatMap prc) :: M :: own pa ((u.pt.l.filter (inF fr to)).length) pc 103 2 ((u.pt.l.filter (inF fr to)).flatMap ptc) :: own a17 (out.length + 1) c18 68 2 ((out.flatMap msc) ++ [Value.slice a12 u.lb.l.length c13, Value.slice pa ((u.pt.l.filter (inF fr to)).length) pc]) :: allA serA out :: cel g [Value.slice ra S.length rc] 79 :: own ra S.length rc 95 3 (S.flatMap hsc) :: L) rfl)
    clear hS16
    have hS20 : St B (labA ⟨a12, u.lb.l, c13⟩ :: allA (rhwA 103) S :: cel g15 [Value.slice a12 u.lb.l.length c13, Value.slice pa ((u.pt.l.filter (inF fr to)).length) pc] 68 :: M :: own pa ((u.pt.l.filter (inF fr to)).length) pc 103 2 ((u.pt.l.filter (inF fr to)).flatMap ptc) :: own a17 (out.length + 1) c18 68 2 ((out.flatMap msc) ++ [Value.slice a12 u.lb.l.length c13, Value.slice pa ((u.pt.l.filter (inF fr to)).length) pc]) :: allA serA out :: cel g [Value.slice ra S.length rc] 79 :: own ra S.length rc 95 3 (S.flatMap hsc) :: L) w16 := rdH_own (hS19.permT [2] (L' := own a12 u.lb.l.length c13 105 2 (u.lb.l.flatMap prc) :: allA (rhwA 103) S :: cel g15 [Value.slice a12 u.lb.l.length c13, Value.slice pa ((u.pt.l.filter (inF fr to)).length) pc] 68 :: M :: own pa ((u.pt.l.filter (inF fr to)).length) pc 103 2 ((u.pt.l.filter (inF fr to)).flatMap ptc) :: own a17 (out.length + 1) c18 68 2 ((out.flatMap msc) ++ [Value.slice a12 u.lb.l.length c13, Value.slice pa ((u.pt.l.filter (inF fr to)).length) pc]) :: allA serA out :: cel g [Value.slice ra S.length rc] 79 :: own ra S.length rc 95 3 (S.flatMap hsc) :: L) rfl)
    clear hS19
    have hS21 : St B (ptsA ⟨pa, (u.pt.l.filter (inF fr to)), pc⟩ :: labA ⟨a12, u.lb.l, c13⟩ :: allA (rhwA 103) S :: cel g15 [Value.slice a12 u.lb.l.length c13, Value.slice pa ((u.pt.l.filter (inF fr to)).length) pc] 68 :: M :: own a17 (out.length + 1) c18 68 2 ((out.flatMap msc) ++ [Value.slice a12 u.lb.l.length c13, Value.slice pa ((u.pt.l.filter (inF fr to)).length) pc]) :: allA serA out :: cel g [Value.slice ra S.length rc] 79 :: own ra S.length rc 95 3 (S.flatMap hsc) :: L) w16 := rdH_own (hS20.permT [4] (L' := own pa ((u.pt.l.filter (inF fr to)).length) pc 103 2 ((u.pt.l.filter (inF fr to)).flatMap ptc) :: labA ⟨a12, u.lb.l, c13⟩ :: allA (rhwA 103) S :: cel g15 [Value.slice a12 u.lb.l.length c13, Value.slice pa ((u.pt.l.filter (inF fr to)).length) pc] 68 :: M :: own a17 (out.length + 1) c18 68 2 ((out.flatMap msc) ++ [Value.slice a12 u.lb.l.length c13, Value.slice pa ((u.pt.l.filter (inF fr to)).length) pc]) :: allA serA out :: cel g [Value.slice ra S.length rc] 79 :: own ra S.length rc 95 3 (S.flatMap hsc) :: L) rfl)
    clear hS20
    have hS22 := ser_snoc (x := (⟨⟨a12, u.lb.l, c13⟩, ⟨pa, (u.pt.l.filter (inF fr to)), pc⟩⟩ : MSer)) (hS21.permT [6, 1] (L' := allA serA out :: labA ⟨a12, u.lb.l, c13⟩ :: ptsA ⟨pa, (u.pt.l.filter (inF fr to)), pc⟩ :: allA (rhwA 103) S :: cel g15 [Value.slice a12 u.lb.l.length c13, Value.slice pa ((u.pt.l.filter (inF fr to)).length) pc] 68 :: M :: own a17 (out.length + 1) c18 68 2 ((out.flatMap msc) ++ [Value.slice a12 u.lb.l.length c13, Value.slice pa ((u.pt.l.filter (inF fr to)).length) pc]) :: cel g [Value.slice ra S.length rc] 79 :: own ra S.length rc 95 3 (S.flatMap hsc) :: L) rfl)
    clear hS21
    exact NX.again (i + 1, out ++ [(⟨⟨a12, u.lb.l, c13⟩, ⟨pa, (u.pt.l.filter (inF fr to)), pc⟩⟩ : MSer)], a17, c18) ⟨⟨by omega, by rw [drop_cons hu, List.map_cons, qryR, if_pos ⟨show 0 < (u.pt.l.filter (inF fr to)).length by omega, g46⟩] at hgo; rw [List.map_append, List.append_assoc]; exact hgo, by rw [List.length_append]; simp; omega, fun s hs => by rcases List.mem_append.1 hs with hs | hs; (· exact hsz s hs); (· simp at hs; subst hs; exact ⟨(hsz1 u (List.mem_of_getElem? hu)).1, Nat.le_trans (List.length_filter_le _ _) (hsz1 u (List.mem_of_getElem? hu)).2⟩)⟩, own_eqM ((hS22.mask [true, true, false] (L' := allA serA (out ++ [(⟨⟨a12, u.lb.l, c13⟩, ⟨pa, (u.pt.l.filter (inF fr to)), pc⟩⟩ : MSer)]) :: allA (rhwA 103) S :: M :: own a17 (out.length + 1) c18 68 2 ((out.flatMap msc) ++ [Value.slice a12 u.lb.l.length c13, Value.slice pa ((u.pt.l.filter (inF fr to)).length) pc]) :: cel g [Value.slice ra S.length rc] 79 :: own ra S.length rc 95 3 (S.flatMap hsc) :: L) rfl).permT [3, 0, 2, 2] (L' := own a17 (out.length + 1) c18 68 2 ((out.flatMap msc) ++ [Value.slice a12 u.lb.l.length c13, Value.slice pa ((u.pt.l.filter (inF fr to)).length) pc]) :: allA serA (out ++ [(⟨⟨a12, u.lb.l, c13⟩, ⟨pa, (u.pt.l.filter (inF fr to)), pc⟩⟩ : MSer)]) :: cel g [Value.slice ra S.length rc] 79 :: own ra S.length rc 95 3 (S.flatMap hsc) :: allA (rhwA 103) S :: M :: L) rfl) (by simp) (by simp [msc])⟩ (by show S.length - (i + 1) < S.length - i; omega) (Sub.cons rfl (Sub.cons rfl (Sub.cons rfl (Sub.cons rfl (Sub.consE rfl (by simp) (Sub.consE rfl (by congr 1) (Sub.nil _)))))))
   ·
    refine WP.skip (NX.blk (NX.go (WP.region rfl ?_)))
    refine WO.mv rfl rfl ?_
    refine WO.V (run_add rfl rfl (IntWalk.i64_in _ (by omega))) ?_
    refine WO.asg rfl rfl ?_
    refine WO.nil ?_
    have hS23 := rw_same hu (hS7.permT [1, 2, 2] (L' := (labA u.lb) :: own u.pt.a u.pt.l.length u.pt.cap 103 2 (u.pt.l.flatMap ptc) :: allA (rhwA 103) (S.eraseIdx i) :: M :: own pa ((u.pt.l.filter (inF fr to)).length) pc 103 2 ((u.pt.l.filter (inF fr to)).flatMap ptc) :: own oa out.length oc 68 2 (out.flatMap msc) :: allA serA out :: cel g [Value.slice ra S.length rc] 79 :: own ra S.length rc 95 3 (S.flatMap hsc) :: L) rfl)
    clear hS7
    exact NX.again (i + 1, out, oa, oc) ⟨⟨by omega, by rw [drop_cons hu, List.map_cons, qryR, if_neg (fun h => by rw [show isF ask u.p.lb = isF ask u.lb.l from rfl, g46] at h; exact absurd h.2 (by decide))] at hgo; exact hgo, by omega, hsz⟩, ((hS23.mask [true, true, false] (L' := allA (rhwA 103) S :: M :: own oa out.length oc 68 2 (out.flatMap msc) :: allA serA out :: cel g [Value.slice ra S.length rc] 79 :: own ra S.length rc 95 3 (S.flatMap hsc) :: L) rfl).permT [2, 2, 2, 2] (L' := own oa out.length oc 68 2 (out.flatMap msc) :: allA serA out :: cel g [Value.slice ra S.length rc] 79 :: own ra S.length rc 95 3 (S.flatMap hsc) :: allA (rhwA 103) S :: M :: L) rfl)⟩ (by show S.length - (i + 1) < S.length - i; omega) (Sub.cons rfl (Sub.cons rfl (Sub.cons rfl (Sub.cons rfl (Sub.consE rfl (by first | rfl | (congr 1; omega) | (simp; done) | (simp; omega)) (Sub.consE rfl (by congr 1) (Sub.nil _)))))))
  ·
   refine WO.off rfl rfl d35 rfl ?_
   refine WO.off rfl rfl d35 rfl ?_
   refine WO.off rfl rfl d35 rfl ?_
   refine WO.off rfl rfl d35 rfl ?_
   refine WO.off rfl rfl d35 rfl ?_
   refine WO.off rfl rfl d35 rfl ?_
   refine WO.off rfl rfl d35 rfl ?_
   refine WO.off rfl rfl d35 rfl ?_
   refine WO.off rfl rfl d35 rfl ?_
   refine WO.off rfl rfl d35 rfl ?_
   refine WO.V (run_pickF rfl d35 rfl) ?_
   refine WO.nil (NX.go ?_)
   refine WP.condF rfl rfl ?_
   refine WP.skip (NX.blk (NX.go (WP.region rfl ?_)))
   refine WO.mv rfl rfl ?_
   refine WO.V (run_add rfl rfl (IntWalk.i64_in _ (by omega))) ?_
   refine WO.asg rfl rfl ?_
   refine WO.nil ?_
   have hS24 := rw_same hu (hS4.permT [2, 1, 1] (L' := (labA u.lb) :: own u.pt.a u.pt.l.length u.pt.cap 103 2 (u.pt.l.flatMap ptc) :: allA (rhwA 103) (S.eraseIdx i) :: own pa ((u.pt.l.filter (inF fr to)).length) pc 103 2 ((u.pt.l.filter (inF fr to)).flatMap ptc) :: own oa out.length oc 68 2 (out.flatMap msc) :: allA serA out :: cel g [Value.slice ra S.length rc] 79 :: own ra S.length rc 95 3 (S.flatMap hsc) :: M :: L) rfl)
   clear hS4
   exact NX.again (i + 1, out, oa, oc) ⟨⟨by omega, by rw [drop_cons hu, List.map_cons, qryR, if_neg (fun h => g35 (by have := h.1; show (0 : Int) < _; exact_mod_cast this))] at hgo; exact hgo, by omega, hsz⟩, ((hS24.mask [true, false] (L' := allA (rhwA 103) S :: own oa out.length oc 68 2 (out.flatMap msc) :: allA serA out :: cel g [Value.slice ra S.length rc] 79 :: own ra S.length rc 95 3 (S.flatMap hsc) :: M :: L) rfl).permT [1, 1, 1, 1] (L' := own oa out.length oc 68 2 (out.flatMap msc) :: allA serA out :: cel g [Value.slice ra S.length rc] 79 :: own ra S.length rc 95 3 (S.flatMap hsc) :: allA (rhwA 103) S :: M :: L) rfl)⟩ (by show S.length - (i + 1) < S.length - i; omega) (Sub.cons rfl (Sub.cons rfl (Sub.cons rfl (Sub.cons rfl (Sub.consE rfl (by first | rfl | (congr 1; omega) | (simp; done) | (simp; omega)) (Sub.consE rfl (by congr 1) (Sub.nil _)))))))
 ·
  refine WP.exit (NX.thenExit (NX.thenExit ?_))
  refine NX.blkExit ?_
  refine NX.go (WP.seq (WP.region rfl ?_))
  refine WO.mv rfl rfl ?_
  refine WO.asg rfl rfl ?_
  refine WO.nil (NX.go (WP.ret ?_))
  refine NX.done (l := [.tmp 8]) rfl rfl ?_
  have hend : out.map MSer.p = qryR ask fr to A := by rw [← hgo, List.drop_of_length_le (by omega)]; simp [qryR]
  exact ⟨oa, oc, out, rfl, hend, by omega, hsz, serq ((hS1.permT [2, 2, 2] (L' := cel g [Value.slice ra S.length rc] 79 :: own ra S.length rc 95 3 (S.flatMap hsc) :: allA (rhwA 103) S :: own oa out.length oc 68 2 (out.flatMap msc) :: allA serA out :: M :: L) rfl)) hSA⟩
end Go.Proofs.YtidoidoelgfnaaaGreatDoor.SL

/- The document's head: last times, counts. -/
namespace Go.Proofs.YtidoidoelgfnaaaGreatDoor.SL
open Go.RowKit Go.Proofs.YtidoidoelgfnaaaGreatDoor
open Go.Proofs.YtidoidoelgfnaaaGreatDoorW.PrintLast (rtab opsOf)
set_option linter.unusedVariables false
set_option linter.unusedSimpArgs false
end Go.Proofs.YtidoidoelgfnaaaGreatDoor.SL
