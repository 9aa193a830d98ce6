/- Queries of a head: what goes in the rounds. -/
import Derived.Test.YtidoidoelgfnaaaGreatDoorHdM
import Derived.Test.YtidoidoelgfnaaaGreatDoorKrmM
import Derived.Test.YtidoidoelgfnaaaGreatDoorSh
namespace Go.Proofs.YtidoidoelgfnaaaGreatDoor.SL
open Go.RowKit
set_option linter.unusedVariables false
theorem HP.allO {Z : PH} : ∀ {l L : List HP} {p : PH}, (HP.sep (HP.all l) (HP.all L)).sat Z p → (HP.all (l ++ L)).sat Z p
  | [], L, p, ⟨_, _, _, _, l2, _, s⟩ => HP.mono (Le.refl _) _ l2 s
  | a :: l, L, p, ⟨h1, h2, d, l1, l2, ⟨h3, h4, d', l3, l4, s3, s4⟩, s2⟩ => by
    have d2 : Dj h4 h2 := d.le l4 (Le.refl _)
    have d3 : Dj h3 h2 := d.le l3 (Le.refl _)
    exact ⟨h3, h4.un h2, (Dj.un (d'.symm) (d3.symm)).symm, l3.trans l1, Le.un (l4.trans l1) l2, s3, HP.allO ⟨h4, h2, d2, Le.left _ _, Le.right d2, s4, s2⟩⟩
theorem HP.allJ {Z : PH} : ∀ {l L : List HP} {p : PH}, (HP.all (l ++ L)).sat Z p → (HP.sep (HP.all l) (HP.all L)).sat Z p
  | [], L, p, s => HP.add_emp trivial s
  | a :: l, L, p, ⟨h1, h2, d, l1, l2, s1, s2⟩ => by
    obtain ⟨h3, h4, d', l3, l4, s3, s4⟩ := HP.allJ (l := l) s2
    have d13 : Dj h1 h3 := d.le (Le.refl _) l3
    have d14 : Dj h1 h4 := d.le (Le.refl _) l4
    exact ⟨h1.un h3, h4, Dj.un d14 d', Le.un l1 (l3.trans l2), l4.trans l2, ⟨h1, h3, d13, Le.left _ _, Le.right d13, s1, s3⟩, s4⟩
section
variable {B w : World} {L : List HP}
theorem St.openAll {l : List HP} (h : St B (HP.all l :: L) w) {L' : List HP} (e : l ++ L = L') : St B L' w := e ▸ h.imp fun _ _ s => HP.allO s
theorem St.shutAll {l : List HP} {L' : List HP} (e : l ++ L = L') (h : St B L' w) : St B (HP.all l :: L) w := (e.symm ▸ h : St B (l ++ L) w).imp fun _ _ s => HP.allJ s
structure QOK (ask : List Mt) (fr to : Int) (ol : List (Nat × MRow)) (out : List MSer) : Prop where
  eq : out.map MSer.p = qryR ask fr to (ol.map fun x => x.2.p)
  len : out.length ≤ ol.length
  sz : ∀ s ∈ out, s.lb.l.length ≤ 4398046511104 ∧ s.pt.l.length ≤ 4398046511104
def qKL (M : HP) (tSr tSl tMl tI : TypeId) (l : Nat) (rec : Loop) (g9 g5 g6 g7 : Nat) (m : Option Addr) (cap : Nat) (ask : List Mt) (fr to : Int) (out : List MSer) (a : Option Addr) (c : Nat) : List HP :=
  [.blk l (.loop rec), own a out.length c tSr 2 (out.flatMap msc), allA serA out, cel g9 [.slice a out.length c] tSl, cel g5 [.slice m ask.length cap] tMl, cel g6 [.int .i64 fr] tI, cel g7 [.int .i64 to] tI, M]
def qK (M : HP) (tSr tSl tMl tI : TypeId) (l : Nat) (rec : Loop) (g9 g5 g6 g7 : Nat) (m : Option Addr) (cap : Nat) (ask : List Mt) (fr to : Int) (ol : List (Nat × MRow)) : HP :=
  .ex fun q : List MSer × Option Addr × Nat => .sep (.pure (QOK ask fr to ol q.1)) (HP.all (qKL M tSr tSl tMl tI l rec g9 g5 g6 g7 m cap ask fr to q.1 q.2.1 q.2.2))
theorem qK_open {M : HP} {tSr tSl tMl tI : TypeId} {l : Nat} {rec : Loop} {g9 g5 g6 g7 : Nat} {m : Option Addr} {cap : Nat} {ask : List Mt} {fr to : Int} {ol : List (Nat × MRow)} (h : St B (qK M tSr tSl tMl tI l rec g9 g5 g6 g7 m cap ask fr to ol :: L) w) :
    ∃ (out : List MSer) (a : Option Addr) (c : Nat), QOK ask fr to ol out ∧ St B (.blk l (.loop rec) :: own a out.length c tSr 2 (out.flatMap msc) :: allA serA out :: cel g9 [.slice a out.length c] tSl :: cel g5 [.slice m ask.length cap] tMl :: cel g6 [.int .i64 fr] tI :: cel g7 [.int .i64 to] tI :: M :: L) w := by
  obtain ⟨⟨out, a, c⟩, h1⟩ := h.ex
  obtain ⟨hq, h2⟩ := h1.sep.pure
  exact ⟨out, a, c, hq, h2.openAll rfl⟩
theorem qK_shut {M : HP} {tSr tSl tMl tI : TypeId} {l : Nat} {rec : Loop} {g9 g5 g6 g7 : Nat} {m : Option Addr} {cap : Nat} {ask : List Mt} {fr to : Int} {ol : List (Nat × MRow)} {out : List MSer} {a : Option Addr} {c : Nat} (hq : QOK ask fr to ol out)
    (h : St B (.blk l (.loop rec) :: own a out.length c tSr 2 (out.flatMap msc) :: allA serA out :: cel g9 [.slice a out.length c] tSl :: cel g5 [.slice m ask.length cap] tMl :: cel g6 [.int .i64 fr] tI :: cel g7 [.int .i64 to] tI :: M :: L) w) : St B (qK M tSr tSl tMl tI l rec g9 g5 g6 g7 m cap ask fr to ol :: L) w := by
  have h1 : St B (HP.all (qKL M tSr tSl tMl tI l rec g9 g5 g6 g7 m cap ask fr to out a c) :: L) w := St.shutAll rfl h
  exact St.give ((out, a, c) : List MSer × Option Addr × Nat) (St.join (h1.addPure hq))
theorem own_piece {a : Option Addr} {cap lo hi : Nat} {t : TypeId} {l : List Pt} (h1 : lo ≤ hi) (h2 : hi ≤ l.length) (h : St B (own a l.length cap t 2 (l.flatMap ptc) :: L) w) : Rd w (if cap = lo then a else a.map (·.add (lo * 2))) ((l.take hi).drop lo).length 2 (((l.take hi).drop lo).flatMap ptc) := by
  obtain ⟨r, hc⟩ := h.own_rd
  have r2 := (r.take h2).dropM (c := cap) h1 (by omega)
  rw [flat_take ptc_len, flat_drop ptc_len] at r2
  rw [show ((l.take hi).drop lo).length = hi - lo by rw [List.length_drop, List.length_take]; omega]
  exact r2
end
theorem run_as {P : Program} {n : Nat} {D : List Deferred} {T : Tm} {w w' : World} {o : Oper} {v v' : Value} (e : v = v') (h : Run P n D T w o v w') : Run P n D T w o v' w' := e ▸ h
theorem qry_snoc (ask : List Mt) (fr to : Int) (r : RowP) : ∀ l : List RowP, qryR ask fr to (l ++ [r]) = qryR ask fr to l ++ if 0 < (r.pts.filter (inF fr to)).length ∧ isF ask r.lb = true then [⟨r.lb, r.pts.filter (inF fr to)⟩] else []
  | [] => by show qryR ask fr to [r] = _; rw [qryR, qryR, qryR]; split <;> rfl
  | x :: l => by
    rw [List.cons_append, qryR, qryR, qry_snoc ask fr to r l]
    split <;> rfl
theorem srt_zip {gs : List Nat} {S : List MRow} {A : List RowP} {ol : List (Nat × MRow)} (hl : gs.length = S.length) (hs : SrtR A) (hp : (S.map MRow.p).Perm A) (h1 : ol.Perm (gs.zip S)) (h2 : ol.Pairwise fun x y => ¬ cmpF y.2.lb.l x.2.lb.l < 0) : (ol.map fun x => x.2.p) = A := by
  refine sorted_eq hs ?_ (by rw [List.pairwise_map]; exact h2)
  have : (gs.zip S).map (fun x => x.2.p) = S.map MRow.p := by rw [← zip_snd hl, List.map_map, zip_snd hl]; rfl
  exact ((h1.map _).trans (by rw [this])).trans hp
theorem QOK.start (ask : List Mt) (fr to : Int) : QOK ask fr to [] [] := ⟨rfl, Nat.le_refl _, fun s h => by cases h⟩
theorem QOK.yes {ask : List Mt} {fr to : Int} {ol : List (Nat × MRow)} {out : List MSer} {x : Nat × MRow} {s : MSer} (h : QOK ask fr to ol out) (h1 : 0 < (x.2.pt.l.filter (inF fr to)).length) (h2 : isF ask x.2.lb.l = true) (hs : s.p = ⟨x.2.lb.l, x.2.pt.l.filter (inF fr to)⟩) (hz : s.lb.l.length ≤ 4398046511104 ∧ s.pt.l.length ≤ 4398046511104) : QOK ask fr to (ol ++ [x]) (out ++ [s]) := by
  refine ⟨?_, by rw [List.length_append, List.length_append]; exact Nat.succ_le_succ h.len, fun z hm => ?_⟩
  · rw [List.map_append, List.map_append, h.eq, List.map_cons, List.map_nil, List.map_cons, List.map_nil, qry_snoc, if_pos ⟨h1, h2⟩, hs]; rfl
  · rcases List.mem_append.1 hm with hm | hm
    · exact h.sz z hm
    · simp at hm; subst hm; exact hz
theorem QOK.no {ask : List Mt} {fr to : Int} {ol : List (Nat × MRow)} {out : List MSer} {x : Nat × MRow} (h : QOK ask fr to ol out) (h1 : ¬ (0 < (x.2.pt.l.filter (inF fr to)).length ∧ isF ask x.2.lb.l = true)) : QOK ask fr to (ol ++ [x]) out := by
  refine ⟨?_, by rw [List.length_append]; exact Nat.le_succ_of_le h.len, h.sz⟩
  rw [List.map_append, List.map_cons, List.map_nil, qry_snoc, if_neg (show ¬ (0 < (x.2.p.pts.filter (inF fr to)).length ∧ isF ask x.2.p.lb = true) from h1), List.append_nil]; exact h.eq
end Go.Proofs.YtidoidoelgfnaaaGreatDoor.SL
