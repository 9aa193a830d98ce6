/- Contracts of net: send. -/
import Derived.Test.YtcdbnbdeinhokaaNx1
import Derived.OwnWalk
import Derived.Laws.AppendOwn
namespace Go.Proofs.Ytcdbnbdeinhokaa.Nx
open Go.RowKit
open Go.Proofs.Ytcdbnbdeinhokaa.Xb Go.Proofs.Ytcdbnbdeinhokaa.Nb
set_option linter.unusedSimpArgs false
set_option linter.unusedVariables false
theorem info51 : (Try.prog.info? 51).map (fun i => (i.zero, i.size, i.bytes)) = some (some (.agg #[.int .i64 0, .slice none 0 0, .bool false]), 3, 40) := by kernel_rfl
set_option maxHeartbeats 400000 in
theorem send_who {w : World} (g : Nat) (tt : Int) (s : ByteArray) (h0 : ¬ tt = 0) (h1 : ¬ tt = 1) :
    Calls Try.prog 9 #[.pointer (some ⟨g, 0, none⟩), .int .i64 tt, .string s] w fun e w' => e = .returned (.bool false) ∧ w = w' := by
  have c0 : (tt == 0) = false := beq_eq_false_iff_ne.2 h0
  have c1 : (tt == 1) = false := beq_eq_false_iff_ne.2 h1
  have d0 : (tt != 0) = true := by simp [h0]
  have d1 : (tt != 1) = true := by simp [h1]
  clear h0 h1
  go_enter Try.func9, Try.ntmps9
  go_wp2
  go_ret
  exact ⟨rfl, rfl⟩
def Gone (base g : Nat) (L : List PV) (gone : Int) (r : Bool) (w : World) (e : Ending) (w' : World) : Prop := e = .returned (.bool r) ∧ Net base w' g L gone ∧ NChg base w w'
theorem NetOk.goneSet {base : Nat} {w : World} {g : Nat} {v : Value} {L : List PV} {gone : Int} (h : NetOk base w g v L gone) (x : Int) : NetOk base (w.setCell ⟨g, 1, none⟩ (.int .i64 x)) g v L x ∧ NChg base w (w.setCell ⟨g, 1, none⟩ (.int .i64 x)) := by
  have hc : NChg base w (w.setCell ⟨g, 1, none⟩ (.int .i64 x)) := NChg.set h.blk (.inl rfl) h.low 1 _
  refine ⟨⟨h.blk.put 1 _ rfl, h.low, ?_, fun p hp => (h.bytes p hp).chg hc⟩, hc⟩
  obtain ⟨h1, h2⟩ := h.row
  refine ⟨h1, ?_⟩
  rcases h2 with h2 | ⟨gr, cap, cur, rfl, hg, hh, r⟩
  · exact .inl h2
  · refine .inr ⟨gr, cap, cur, rfl, hg, ?_, r⟩
    refine (Below.heap_setCell w _ _ gr ?_).trans hh
    show gr ≠ g
    rintro rfl
    have := h.blk
    unfold Blk at this
    rw [hh] at this
    injection this with this
    injection this with _ h3
    exact absurd h3 (by decide)
set_option maxHeartbeats 400000 in
theorem send_full {base : Nat} {w : World} {g : Nat} {L : List PV} {gone : Int} (h : Net base w g L gone) (hl : L.length = 64) (tt : Int) (s : ByteArray) (ht : tt = 0 ∨ tt = 1) :
    Calls Try.prog 9 #[.pointer (some ⟨g, 0, none⟩), .int .i64 tt, .string s] w (Gone base g L (wrap64 (gone + 1)) false w) := by
  obtain ⟨v, h⟩ := h
  obtain ⟨A, c, rfl⟩ := netOk_len h
  have hf := (NetOk.goneSet h (wrap64 (gone + 1)))
  have c0 : w.cell? ⟨g, 0, none⟩ = some (.slice A 64 c) := hl ▸ h.blk.cell 0 rfl
  have c1 := h.blk.cell 1 rfl
  have f1 := h.blk.frozen 1
  have HF := Asd.mk hf; clear hf h
  rcases ht with rfl | rfl
  all_goals
    go_enter Try.func9, Try.ntmps9
    go_wp2
    go_ret
    exact ⟨rfl, ⟨_, HF.out.1⟩, HF.out.2⟩
theorem bytesWorld_size (W : World) (s : ByteArray) : (Lib.bytesWorld W 5 s).heap.size = W.heap.size + 1 := by
  simp [Lib.bytesWorld, World.freeze]
theorem bytes_below0 (w : World) (s : ByteArray) : Below w.heap.size w (Lib.bytesWorld w 5 s) :=
  ⟨rfl, rfl, rfl, by rw [bytesWorld_size]; omega, fun k hk => Lib.bytesWorld_at_old w 5 s k hk⟩
theorem own_form {w : World} {base n : Nat} {e : TypeId} {size : Nat} {v : Value} {xs : List Value} (h : w.ownsRow base e size v n xs) : ∃ A c, v = .slice A n c := by
  rcases h.2 with ⟨rfl, rfl⟩ | ⟨gr, cap, cur, rfl, _⟩
  · exact ⟨_, _, rfl⟩
  · exact ⟨_, _, rfl⟩
theorem stop_here {p : Prop} (h : p ∧ True) : p := h.1
theorem byteV_new (w : World) (s : ByteArray) : ByteV (Lib.bytesWorld w 5 s) (.slice (some ⟨w.heap.size, 0, none⟩) s.size (grownCap w s.size 0 5)) s := by
  refine ⟨_, _, _, _, rfl, Lib.bytesWorld_at_new w 5 s, fun i hi => ?_⟩
  have h1 := Lib.bytesWorld_cell w 5 s i hi
  rw [cell_of_row _ _ i _ 5 _ (Lib.bytesWorld_at_new w 5 s)] at h1
  rw [h1]
  have hl : i < s.data.toList.length := by rw [Array.length_toList]; exact hi
  simp [List.getD, List.getElem?_eq_getElem hl]
/-- Behind the append: the Net's block still has the old row's value, which is then stored anew. -/
theorem sent_fin {base : Nat} {w w1 : World} {g : Nat} {v v2 : Value} {L : List PV} {gone tt : Int} {s : ByteArray} (h : NetOk base w g v L gone)
    (ho : w1.ownsRow base 51 3 v2 (L.length + 1) (cellsL L ++ [.int .i64 tt, .slice (some ⟨w.heap.size, 0, none⟩) s.size (grownCap w s.size 0 5), .bool false]))
    (hg : ((Lib.bytesWorld w 5 s).alloc (.cells #[.int .i64 tt, .slice (some ⟨w.heap.size, 0, none⟩) s.size (grownCap w s.size 0 5), .bool false] 51)).grownBy w1 v.ownBlock) :
    Blk w1 g #[v, .int .i64 gone] 49 ∧ ∀ x : Unit, NetOk base (w1.setCell ⟨g, 0, none⟩ v2) g v2 (L ++ [⟨tt, .slice (some ⟨w.heap.size, 0, none⟩) s.size (grownCap w s.size 0 5), false, s⟩]) gone ∧ NChg base w (w1.setCell ⟨g, 0, none⟩ v2) := by
  have hb : Below w.heap.size w ((Lib.bytesWorld w 5 s).alloc (.cells #[.int .i64 tt, .slice (some ⟨w.heap.size, 0, none⟩) s.size (grownCap w s.size 0 5), .bool false] 51)) := below_alloc (bytes_below0 w s) _
  have h' := h.below hb
  have hc1 : NChg base _ w1 := NChg.grown hg (fun k hk => by
    rcases h'.form with ⟨_, rfl⟩ | ⟨gr, cap, cur, rfl, hgr, hbk, _⟩
    · simp [Value.ownBlock] at hk
    · simp [Value.ownBlock] at hk
      subst hk
      exact ⟨hgr, _, _, hbk⟩)
  have hblk : Blk w1 g #[v, .int .i64 gone] 49 := by
    refine (hg.block g h'.blk.lt ?_).trans h'.blk
    rcases h'.form with ⟨_, rfl⟩ | ⟨gr, cap, cur, rfl, hgr, hbk, _⟩
    · simp [Value.ownBlock]
    · intro e
      simp [Value.ownBlock] at e
      subst e
      have := h'.blk
      unfold Blk at this hbk
      rw [hbk] at this
      injection this with this
      injection this with _ h3
      exact absurd h3 (by decide)
  refine ⟨hblk, fun _ => ?_⟩
  have hc2 := NChg.set (base := base) hblk (.inl rfl) h.low 0 v2
  have hc : NChg base w (w1.setCell ⟨g, 0, none⟩ v2) := ((NChg.of_below hb).trans hc1).trans hc2
  refine ⟨⟨hblk.put 0 _ rfl, h.low, ?_, ?_⟩, hc⟩
  · rw [List.length_append, cellsL_append]
    obtain ⟨q1, q2⟩ := ho
    refine ⟨q1, ?_⟩
    rcases q2 with q2 | ⟨gr, cap, cur, rfl, hgr, hh, r⟩
    · exact .inl q2
    · refine .inr ⟨gr, cap, cur, rfl, hgr, ?_, r⟩
      refine (Below.heap_setCell w1 _ _ gr ?_).trans hh
      show gr ≠ g
      rintro rfl
      unfold Blk at hblk
      rw [hh] at hblk
      injection hblk with hblk
      injection hblk with _ h3
      exact absurd h3 (by decide)
  · intro p hp
    rcases List.mem_append.1 hp with hp | hp
    · exact (h.bytes p hp).chg hc
    · simp at hp
      subst hp
      exact ((byteV_new w s).chg (base := base) (NChg.of_below (below_alloc (Below.refl _ _) _))).chg (hc1.trans hc2)
def Sent (base g : Nat) (L : List PV) (gone : Int) (tt : Int) (s : ByteArray) (w : World) (e : Ending) (w' : World) : Prop := e = .returned (.bool true) ∧ ∃ bv, Net base w' g (L ++ [⟨tt, bv, false, s⟩]) gone ∧ NChg base w w'
set_option maxHeartbeats 400000 in
theorem send_ok {base : Nat} {w : World} {g : Nat} {L : List PV} {gone : Int} (h : Net base w g L gone) (hl : L.length < 64) (tt : Int) (s : ByteArray) (ht : tt = 0 ∨ tt = 1) (hs : s.size ≤ 140737488351232) :
    Calls Try.prog 9 #[.pointer (some ⟨g, 0, none⟩), .int .i64 tt, .string s] w (Sent base g L gone tt s w) := by
  obtain ⟨v, h⟩ := h
  obtain ⟨A, c, rfl⟩ := netOk_len h
  have c0 := h.blk.cell 0 rfl
  have c1 := h.blk.cell 1 rfl
  have f1 := h.blk.frozen 1
  have H := Asd.mk h; clear h
  have hcv : ∀ W, (convert 9 28 (.string s)).run Try.prog W = .ok (.slice (some ⟨W.heap.size, 0, none⟩) s.size (grownCap W s.size 0 5)) (Lib.bytesWorld W 5 s) := fun W => Lib.run_convert_string_bytes W 9 28 5 s Try.underlying9 Try.underlying28 Try.underlying5
  obtain ⟨i0, hi, hz0, hz1, hz2⟩ := info_parts info51
  have hsz : ∀ W, (Lib.bytesWorld W 5 s).heap.size = W.heap.size + 1 := fun W => bytesWorld_size W s
  have hown : (Lib.bytesWorld w 5 s).ownsRow base 51 3 (.slice A L.length c) L.length (cellsL L) := (NetOk.below H.out (bytes_below0 w s)).row
  have hbase : base ≤ w.heap.size := Nat.le_trans H.out.low (Nat.le_of_lt H.out.blk.lt)
  have HO := Asd.mk hown; clear hown
  have hnew : ∀ (x : Int) (j : Nat) (u : Value), [Value.int .i64 x, .slice (some ⟨w.heap.size, 0, none⟩) s.size (grownCap w s.size 0 5), .bool false][j]? = some u → ((Lib.bytesWorld w 5 s).alloc (.cells #[.int .i64 x, .slice (some ⟨w.heap.size, 0, none⟩) s.size (grownCap w s.size 0 5), .bool false] 51)).cell? ((⟨w.heap.size + 1, 0, none⟩ : Addr).add j) = some u := fun x j u hj => by
    have hb := Blk.new (Lib.bytesWorld w 5 s) #[.int .i64 x, .slice (some ⟨w.heap.size, 0, none⟩) s.size (grownCap w s.size 0 5), .bool false] 51
    rw [hsz] at hb
    rw [Go.WideShapes.add_plain, Nat.zero_add]
    exact hb.cell j (by simpa using hj)
  have HN := Asd.mk hnew; clear hnew
  rcases ht with rfl | rfl
  ·
    go_enter Try.func9, Try.ntmps9
    go_wp2_with (at_builtin; refine stop_here ?_)
    refine ⟨?_, trivial⟩
    refine wpList_append_own _ rfl _ _ 47 rfl base 51 i0 (.agg #[.int .i64 0, .slice none 0 0, .bool false]) 3 40 Try.underlying47 hi hz0 hz1 hz2 rfl (by decide) _ _ _ rfl (HO.out.alloc _) ⟨w.heap.size + 1, 0, none⟩ 1 1 [.int .i64 0, .slice (some ⟨w.heap.size, 0, none⟩) s.size (grownCap w s.size 0 5), .bool false] rfl rfl ?c1 ?c2 ?c3 ?c4 ?c5 ?_
    case c1 => exact HN.out 0
    case c2 => simp [Value.oneCell']
    case c3 => unfold maxLen; omega
    case c4 => omega
    case c5 => have := hsz w; simp; omega
    intro v2 w1 hown1 hgrow1 _
    obtain ⟨A2, c2, rfl⟩ := own_form hown1
    have hfin := sent_fin H.out hown1 hgrow1
    have k0 := hfin.1.cell 0 rfl; have k1 := hfin.1.frozen 0
    have HFIN := Asd.mk hfin; clear hfin hown1 hgrow1
    go_wp2
    go_ret
    exact ⟨rfl, _, ⟨_, (HFIN.out.2 ()).1⟩, (HFIN.out.2 ()).2⟩
  ·
    go_enter Try.func9, Try.ntmps9
    go_wp2_with (at_builtin; refine stop_here ?_)
    refine ⟨?_, trivial⟩
    refine wpList_append_own _ rfl _ _ 47 rfl base 51 i0 (.agg #[.int .i64 0, .slice none 0 0, .bool false]) 3 40 Try.underlying47 hi hz0 hz1 hz2 rfl (by decide) _ _ _ rfl (HO.out.alloc _) ⟨w.heap.size + 1, 0, none⟩ 1 1 [.int .i64 1, .slice (some ⟨w.heap.size, 0, none⟩) s.size (grownCap w s.size 0 5), .bool false] rfl rfl ?c1 ?c2 ?c3 ?c4 ?c5 ?_
    case c1 => exact HN.out 1
    case c2 => simp [Value.oneCell']
    case c3 => unfold maxLen; omega
    case c4 => omega
    case c5 => have := hsz w; simp; omega
    intro v2 w1 hown1 hgrow1 _
    obtain ⟨A2, c2, rfl⟩ := own_form hown1
    have hfin := sent_fin H.out hown1 hgrow1
    have k0 := hfin.1.cell 0 rfl; have k1 := hfin.1.frozen 0
    have HFIN := Asd.mk hfin; clear hfin hown1 hgrow1
    go_wp2
    go_ret
    exact ⟨rfl, _, ⟨_, (HFIN.out.2 ()).1⟩, (HFIN.out.2 ()).2⟩
end Go.Proofs.Ytcdbnbdeinhokaa.Nx
