/- A net: what is taken, doubled and spoilt. -/
import Derived.Test.YtcdbnbdeinhokaaKn
namespace Go.Proofs.Ytcdbnbdeinhokaa.SL
open Go.RowKit Go.Proofs.Ytcdbnbdeinhokaa
open Go.Proofs.YtcdbnbdeinhokaaW.PrintLast (rtab opsOf)
set_option linter.unusedVariables false
set_option linter.unusedSimpArgs false

theorem pv_get {l : List PC} {V : List PV} (hv : l.map PC.v = V) {i : Nat} {pv : PV} (h : V[i]? = some pv) : ∃ p, l[i]? = some p ∧ p.v = pv ∧ i < l.length := by
  have hil : i < l.length := by rw [map_len hv]; exact (List.getElem?_eq_some_iff.1 h).1
  refine ⟨l[i], List.getElem?_eq_getElem hil, ?_, hil⟩
  exact Option.some.inj ((pc_get hv (List.getElem?_eq_getElem hil)).symm.trans h)
theorem own_isSome {B w : World} {L : List HP} {a : Option Addr} {n cap k : Nat} {t : TypeId} {l : List Value} (h : St B L w) (i : Nat) (hi : nth L i = some (own a n cap t k l)) (hn : 0 < n) : a.isSome = true := by
  obtain ⟨q, hq, _⟩ := (h.own_rd_i i hi).2.1 hn; rw [hq]; rfl
theorem net_take {B w : World} {L : List HP} {g i : Nat} {a : Option Addr} {cap : Nat} {l : List PC} {V : List PV} {gone : Int} {p q : PC} (h1 : l.map PC.v = V) (h2 : V.length ≤ 64) (hp : l[i]? = some p) (hq : l[l.length - 1]? = some q)
    (h : St B (cel g [.slice a (l.length - 1) cap, .int .i64 gone] 49 :: own a l.length cap 51 3 ((l.set i q).flatMap pcell) :: roAll l :: L) w) : St B (netP g (takeF V i) gone :: L) w := by
  have hil := (List.getElem?_eq_some_iff.1 hp).1
  have hll := map_len h1
  have hT : takeF V (i : Int) = ((l.set i q).dropLast).map PC.v := by
    unfold takeF
    have hlast : V.getLast? = some q.v := by rw [List.getLast?_eq_getElem?, ← hll]; exact pc_get h1 hq
    rw [if_neg (by omega), Int.toNat_natCast, pc_get h1 hp, hlast, ← h1]
    simp [List.map_set]
  have h3 := h.own_take_i 1 rfl (m := l.length - 1) (by omega) (l' := ((l.set i q).dropLast).flatMap pcell) (by rw [flat_take pcell_len, List.dropLast_eq_take, List.length_set]) rfl
  have h4 : St B (roAll ((l.set i q).dropLast) :: cel g [.slice a (l.length - 1) cap, .int .i64 gone] 49 :: own a (l.length - 1) cap 51 3 (((l.set i q).dropLast).flatMap pcell) :: L) w := roAll_sub (fun x hx => by
    have := (by rw [List.dropLast_eq_take] at hx; exact List.mem_of_mem_take hx : x ∈ l.set i q)
    rcases List.mem_or_eq_of_mem_set this with h | h
    · exact h
    · subst h; exact List.mem_of_getElem? hq) (h3.permT [2] rfl)
  refine netP_shut (a := a) (cap := cap) (l := (l.set i q).dropLast) hT.symm (by rw [hT]; simp; omega) ?_
  have e1 : ((l.set i q).dropLast).length = l.length - 1 := by simp
  rw [e1]
  exact h4.permT [1, 1, 0] rfl
theorem net_dup {B w : World} {L : List HP} {g : Nat} {a : Option Addr} {cap : Nat} {l : List PC} {V : List PV} {gone : Int} {p : PC} (h1 : l.map PC.v = V) (h2 : V.length < 64) (hp : p ∈ l)
    (h : St B (cel g [.slice a (l.length + 1) cap, .int .i64 gone] 49 :: own a (l.length + 1) cap 51 3 (l.flatMap pcell ++ pcell p) :: roAll l :: L) w) : St B (netP g (V ++ [p.v]) gone :: L) w := by
  have h4 : St B (roAll (l ++ [p]) :: cel g [.slice a (l.length + 1) cap, .int .i64 gone] 49 :: own a (l.length + 1) cap 51 3 (l.flatMap pcell ++ pcell p) :: L) w := roAll_sub (fun x hx => by
    rcases List.mem_append.1 hx with h | h
    · exact h
    · simp at h; subst h; exact hp) (h.permT [2] rfl)
  refine netP_shut (a := a) (cap := cap) (l := l ++ [p]) (by simp [h1]) (by simp; omega) ?_
  have e1 : (l ++ [p]).length = l.length + 1 := by simp
  rw [e1, flat_snoc]
  exact h4.permT [1, 1, 0] rfl
theorem xorAt_len (s : List UInt8) (k : Nat) (b : UInt8) : (xorAt s k b).length = s.length := by simp [xorAt]
theorem u8s_xor {s : List UInt8} {k : Nat} {c b : UInt8} (hc : s[k]? = some c) : (u8s s).set k (Value.int .u8 ((c ^^^ b).toNat : Int)) = u8s (xorAt s k b) := by
  unfold u8s xorAt
  rw [List.map_set, List.getD_eq_getElem?_getD, hc]; rfl
theorem net_spoil {B w : World} {L : List HP} {g i : Nat} {a a2 : Option Addr} {cap c2 : Nat} {l : List PC} {V : List PV} {gone : Int} {p : PC} {pv' : PV} (h1 : l.map PC.v = V) (h2 : V.length ≤ 64)
    (h : St B (ro a2 pv'.s.length 5 1 (u8s pv'.s) :: cel g [.slice a l.length cap, .int .i64 gone] 49 :: own a l.length cap 51 3 ((l.set i ⟨pv', a2, c2⟩).flatMap pcell) :: roAll l :: L) w) : St B (netP g (V.set i pv') gone :: L) w := by
  have h3 : St B (roAll [⟨pv', a2, c2⟩] :: cel g [.slice a l.length cap, .int .i64 gone] 49 :: own a l.length cap 51 3 ((l.set i ⟨pv', a2, c2⟩).flatMap pcell) :: roAll l :: L) w := (h.addPure (p := True) trivial |>.permT [1, 0] rfl).join
  have h4 := roAll_append (h3.permT [3, 0] rfl)
  have h5 := roAll_sub (m := l.set i ⟨pv', a2, c2⟩) (fun x hx => by
    rcases List.mem_or_eq_of_mem_set hx with h | h
    · exact List.mem_append_left _ h
    · subst h; simp) h4
  refine netP_shut (a := a) (cap := cap) (l := l.set i ⟨pv', a2, c2⟩) (by rw [← h1, List.map_set]) (by simpa using h2) ?_
  rw [List.length_set]
  exact h5.permT [1, 1, 0] rfl
theorem take_none {B w : World} {L : List HP} {g : Nat} {V : List PV} {gone : Int} (hS : St B (netP g V gone :: L) w) (i : Int) (hi0 : i < 0 ∨ (V.length : Int) ≤ i) : Does Try.prog 10 [Value.pointer (some ⟨g, 0, none⟩), Value.int .i64 i] w (fun v w1 => v = .tuple #[.int .i64 0, str [], .int .i64 2] ∧ St B (netP g V gone :: L) w1) := by
 refine enter (n := 51) Try.func10 rfl rfl [Value.pointer (some ⟨g, 0, none⟩), Value.int .i64 i] rfl ?_
 refine WP.seq ?_
 refine WP.region rfl ?_
 refine WO.val (run_assign rfl) rfl rfl rfl ?_
 refine WO.val (run_assign rfl) rfl rfl rfl ?_
 refine WO.val (run_assign rfl) rfl rfl rfl ?_
 refine WO.nil ?_
 refine NX.go ?_
 refine WP.seq ?_
 refine WP.region rfl ?_
 refine WO.val (run_move rfl) rfl rfl rfl ?_
 refine WO.val (run_move rfl) rfl rfl rfl ?_
 refine WO.call rfl rfl Ty.hd15 rfl (at_none hS i hi0) (fun v2 w1 pv2 => ?_)
 obtain ⟨rfl, hS1⟩ := pv2
 clear hS
 refine WO.val (run_move rfl) rfl rfl rfl ?_
 refine WO.val (run_extract rfl rfl) rfl rfl rfl ?_
 refine WO.val (run_extract rfl rfl) rfl rfl rfl ?_
 refine WO.val (run_extract rfl rfl) rfl rfl rfl ?_
 refine WO.val (run_assign rfl) rfl rfl rfl ?_
 refine WO.val (run_assign rfl) rfl rfl rfl ?_
 refine WO.val (run_assign rfl) rfl rfl rfl ?_
 refine WO.nil ?_
 refine NX.go ?_
 refine WP.seq ?_
 refine WP.seq ?_
 refine WP.region rfl ?_
 refine WO.val (run_move rfl) rfl rfl rfl ?_
 refine WO.val (run_eql rfl rfl) rfl rfl rfl ?_
 refine WO.nil ?_
 refine NX.go ?_
 refine WP.condF rfl (by decide) ?_
 refine WP.skip ?_
 refine NX.go ?_
 refine WP.seq ?_
 refine WP.region rfl ?_
 refine WO.val (run_move rfl) rfl rfl rfl ?_
 refine WO.val (run_move rfl) rfl rfl rfl ?_
 refine WO.val (run_move rfl) rfl rfl rfl ?_
 refine WO.val (run_assign rfl) rfl rfl rfl ?_
 refine WO.val (run_assign rfl) rfl rfl rfl ?_
 refine WO.val (run_assign rfl) rfl rfl rfl ?_
 refine WO.nil ?_
 refine NX.go ?_
 refine WP.ret ?_
 refine NX.done (l := [.tmp 4, .tmp 5, .tmp 6]) rfl rfl ?_
 exact ⟨rfl, hS1⟩
theorem take_some_t4 : rtab .any (opsOf Try.f10 4) = (true, [([], []), ([0], [0]), ([1], [1]), ([2], [2]), ([], []), ([], []), ([], []), ([6], [6]), ([7], [7]), ([8], [8]), ([], []), ([9, 10], [9, 10]), ([11], [11]), ([], []), ([13], [13]), ([14], [14]), ([15], [15]), ([], []), ([16, 17], [16, 17]), ([3, 4, 0, 1, 2, 3, 4, 6, 7, 8, 9, 10, 11, 12, 16], [3, 4]), ([19, 12, 0, 1, 2, 3, 4, 6, 7, 8, 9, 10, 11, 12, 16], [12, 19]), ([5, 0, 1, 2, 3, 4, 5, 6, 7, 8, 9, 10, 11, 12, 13, 14, 15, 16, 17, 18, 19, 20], [5]), ([21, 0, 1, 2, 3, 4, 5, 6, 7, 8, 9, 10, 11, 12, 13, 14, 15, 16, 17, 18, 19, 20], [21]), ([22, 18, 20, 0, 1, 2, 3, 4, 5, 6, 7, 8, 9, 10, 11, 12, 13, 14, 15, 16, 17, 18, 19, 20], [18, 22])]) := by kernel_rfl
theorem take_some {B w : World} {L : List HP} {g : Nat} {V : List PV} {gone : Int} (hS : St B (netP g V gone :: L) w) (i : Nat) (pv : PV) (hpv : V[i]? = some pv) : Does Try.prog 10 [Value.pointer (some ⟨g, 0, none⟩), Value.int .i64 (i : Int)] w (fun v w1 => v = .tuple #[.int .i64 pv.who, str pv.s, .int .i64 0] ∧ St B (netP g (takeF V i) gone :: L) w1) := by
 refine enter (n := 51) Try.func10 rfl rfl [Value.pointer (some ⟨g, 0, none⟩), Value.int .i64 (i : Int)] rfl ?_
 refine WP.seq ?_
 refine WP.region rfl ?_
 refine WO.val (run_assign rfl) rfl rfl rfl ?_
 refine WO.val (run_assign rfl) rfl rfl rfl ?_
 refine WO.val (run_assign rfl) rfl rfl rfl ?_
 refine WO.nil ?_
 refine NX.go ?_
 refine WP.seq ?_
 refine WP.region rfl ?_
 refine WO.val (run_move rfl) rfl rfl rfl ?_
 refine WO.val (run_move rfl) rfl rfl rfl ?_
 refine WO.call rfl rfl Ty.hd15 rfl (at_some hS i pv hpv) (fun v2 w1 pv2 => ?_)
 obtain ⟨rfl, hS1⟩ := pv2
 clear hS
 refine WO.val (run_move rfl) rfl rfl rfl ?_
 refine WO.val (run_extract rfl rfl) rfl rfl rfl ?_
 refine WO.val (run_extract rfl rfl) rfl rfl rfl ?_
 refine WO.val (run_extract rfl rfl) rfl rfl rfl ?_
 refine WO.val (run_assign rfl) rfl rfl rfl ?_
 refine WO.val (run_assign rfl) rfl rfl rfl ?_
 refine WO.val (run_assign rfl) rfl rfl rfl ?_
 refine WO.nil ?_
 refine NX.go ?_
 refine WP.seq ?_
 refine WP.seq ?_
 refine WP.region rfl ?_
 refine WO.val (run_move rfl) rfl rfl rfl ?_
 refine WO.val (run_eql rfl rfl) rfl rfl rfl ?_
 refine WO.nil ?_
 refine NX.go ?_
 refine WP.condT rfl (by decide) ?_
 refine WP.seq ?_
 refine WP.region rfl ?_
 obtain ⟨a, cap, l, hv, hlen, hS3⟩ := netP_open hS1
 clear hS1
 have hll := map_len hv
 obtain ⟨p, hp, hpe, hil⟩ := pv_get hv hpv
 have hcap := hS3.own_le_i 1 rfl
 have hsa := own_isSome hS3 1 rfl (by omega)
 obtain ⟨q, hq⟩ : ∃ q, l[l.length - 1]? = some q := ⟨_, List.getElem?_eq_getElem (by omega)⟩
 refine WO.val (run_move rfl) rfl rfl rfl ?_
 refine WO.val (run_nilCheck rfl) rfl rfl rfl ?_
 refine WO.val (run_fieldAddr (q := ⟨g, 0, none⟩) (show fieldB Try.prog 49 0 = some 0 from by kernel_rfl) rfl rfl) rfl rfl rfl ?_
 refine WO.val (run_load Ty.ag47 rfl ((hS3.cel_at 0 rfl 0).trans rfl)) rfl rfl rfl ?_
 refine WO.val (run_len rfl Try.underlying47 rfl) rfl rfl rfl ?_
 refine WO.val (run_sub rfl rfl (IntWalk.i64_in _ (by omega))) rfl rfl rfl ?_
 refine WO.val (run_assign rfl) rfl rfl rfl ?_
 refine WO.nil ?_
 refine NX.go ?_
 refine WD.start (fun w => (∀ j, World.cell? w ⟨g, j, none⟩ = [Value.slice a l.length cap, Value.int .i64 gone][j]?) ∧ Rd w a l.length 3 (l.flatMap pcell)) [20, 23] #[false, false, false, false, false, false, false, false, false, false, false, false, false, false, false, false, false, false, false, false, false, false, false, false] Ty.mo rfl (by kernel_rfl) hS3 (fun _ h => ⟨h.cel_at 0 rfl, h.own_rd_i 1 rfl⟩) (fun w4 hS4 s5 => ?_)
 clear hS3
 refine WD.pure (i := 0) take_some_t4 #[true, false, false, false, false, false, false, false, false, false, false, false, false, false, false, false, false, false, false, false, false, false, false, false] rfl rfl rfl (by kernel_rfl) (PQ.then PQ.body) rfl (fun w => run_move rfl) ?_
 refine WD.pure (i := 1) take_some_t4 #[true, true, false, false, false, false, false, false, false, false, false, false, false, false, false, false, false, false, false, false, false, false, false, false] rfl rfl rfl (by kernel_rfl) (PQ.then PQ.body) rfl (fun w => run_nilCheck rfl) ?_
 refine WD.pure (i := 2) take_some_t4 #[true, true, true, false, false, false, false, false, false, false, false, false, false, false, false, false, false, false, false, false, false, false, false, false] rfl rfl rfl (by kernel_rfl) (PQ.then PQ.body) rfl (fun w => run_fieldAddr (q := ⟨g, 0, none⟩) (show fieldB Try.prog 49 0 = some 0 from by kernel_rfl) rfl rfl) ?_
 refine WD.take (i := 3) take_some_t4 #[true, true, true, true, false, false, false, false, false, false, false, false, false, false, false, false, false, false, false, false, false, false, false, false] s5 rfl rfl rfl (by kernel_rfl) (PQ.then PQ.body) rfl (fun w hs => run_load Ty.ag47 rfl ((hs.1 0).trans rfl)) ?_
 refine WD.pure (i := 4) take_some_t4 #[true, true, true, true, true, false, false, false, false, false, false, false, false, false, false, false, false, false, false, false, false, false, false, false] rfl rfl rfl (by kernel_rfl) (PQ.then PQ.body) rfl (fun w => run_move rfl) ?_
 refine WD.pure (i := 5) take_some_t4 #[true, true, true, true, true, true, false, false, false, false, false, false, false, false, false, false, false, false, false, false, false, false, false, false] rfl rfl rfl (by kernel_rfl) (PQ.then PQ.body) rfl (fun w => run_move rfl) ?_
 refine WD.pure (i := 6) take_some_t4 #[true, true, true, true, true, true, true, false, false, false, false, false, false, false, false, false, false, false, false, false, false, false, false, false] rfl rfl rfl (by kernel_rfl) (PQ.then PQ.body) rfl (fun w => run_move rfl) ?_
 refine WD.pure (i := 7) take_some_t4 #[true, true, true, true, true, true, true, true, false, false, false, false, false, false, false, false, false, false, false, false, false, false, false, false] rfl rfl rfl (by kernel_rfl) (PQ.then PQ.body) rfl (fun w => run_nilCheck rfl) ?_
 refine WD.pure (i := 8) take_some_t4 #[true, true, true, true, true, true, true, true, true, false, false, false, false, false, false, false, false, false, false, false, false, false, false, false] rfl rfl rfl (by kernel_rfl) (PQ.then PQ.body) rfl (fun w => run_fieldAddr (q := ⟨g, 0, none⟩) (show fieldB Try.prog 49 0 = some 0 from by kernel_rfl) rfl rfl) ?_
 refine WD.take (i := 9) take_some_t4 #[true, true, true, true, true, true, true, true, true, true, false, false, false, false, false, false, false, false, false, false, false, false, false, false] s5 rfl rfl rfl (by kernel_rfl) (PQ.then PQ.body) rfl (fun w hs => run_load Ty.ag47 rfl ((hs.1 0).trans rfl)) ?_
 refine WD.pure (i := 10) take_some_t4 #[true, true, true, true, true, true, true, true, true, true, true, false, false, false, false, false, false, false, false, false, false, false, false, false] rfl rfl rfl (by kernel_rfl) (PQ.then PQ.body) rfl (fun w => run_moveAs (v := Value.int .i64 ((l.length - 1 : Nat) : Int)) rfl (by congr 1; omega)) ?_
 refine WD.take (i := 11) take_some_t4 #[true, true, true, true, true, true, true, true, true, true, true, true, false, false, false, false, false, false, false, false, false, false, false, false] s5 rfl rfl rfl (by kernel_rfl) (PQ.then PQ.body) rfl (fun w hs => run_indexAddr (q := adr a ((l.length - 1) * 3)) Try.underlying47 Ty.sz51 rfl rfl (by omega) (by omega) ((hs.2).2.1 (by omega)) rfl) ?_
 refine WD.take (i := 12) take_some_t4 #[true, true, true, true, true, true, true, true, true, true, true, true, true, false, false, false, false, false, false, false, false, false, false, false] s5 rfl rfl rfl (by kernel_rfl) (PQ.then PQ.body) rfl (fun w hs => run_loadAgg (vs := [Value.int .i64 q.v.who, Value.slice q.a q.v.s.length q.cap, Value.bool q.v.sp]) Ty.ag51 Ty.sz51 rfl ((hs.2).cells (by rw [flat_len pcell_len]; omega) (flat_part pcell_len hq)).1 ((hs.2).cells (by rw [flat_len pcell_len]; omega) (flat_part pcell_len hq)).2) ?_
 refine WD.pure (i := 13) take_some_t4 #[true, true, true, true, true, true, true, true, true, true, true, true, true, true, false, false, false, false, false, false, false, false, false, false] rfl rfl rfl (by kernel_rfl) (PQ.then PQ.body) rfl (fun w => run_move rfl) ?_
 refine WD.pure (i := 14) take_some_t4 #[true, true, true, true, true, true, true, true, true, true, true, true, true, true, true, false, false, false, false, false, false, false, false, false] rfl rfl rfl (by kernel_rfl) (PQ.then PQ.body) rfl (fun w => run_nilCheck rfl) ?_
 refine WD.pure (i := 15) take_some_t4 #[true, true, true, true, true, true, true, true, true, true, true, true, true, true, true, true, false, false, false, false, false, false, false, false] rfl rfl rfl (by kernel_rfl) (PQ.then PQ.body) rfl (fun w => run_fieldAddr (q := ⟨g, 0, none⟩) (show fieldB Try.prog 49 0 = some 0 from by kernel_rfl) rfl rfl) ?_
 refine WD.take (i := 16) take_some_t4 #[true, true, true, true, true, true, true, true, true, true, true, true, true, true, true, true, true, false, false, false, false, false, false, false] s5 rfl rfl rfl (by kernel_rfl) (PQ.then PQ.body) rfl (fun w hs => run_load Ty.ag47 rfl ((hs.1 0).trans rfl)) ?_
 refine WD.pure (i := 17) take_some_t4 #[true, true, true, true, true, true, true, true, true, true, true, true, true, true, true, true, true, true, false, false, false, false, false, false] rfl rfl rfl (by kernel_rfl) (PQ.then PQ.body) rfl (fun w => run_moveAs (v := Value.int .i64 ((l.length - 1 : Nat) : Int)) rfl (by congr 1; omega)) ?_
 refine WD.pure (i := 18) take_some_t4 #[true, true, true, true, true, true, true, true, true, true, true, true, true, true, true, true, true, true, true, false, false, false, false, false] rfl rfl rfl (by kernel_rfl) (PQ.then PQ.body) rfl (fun w => run_sliceTo (j := l.length - 1) Try.underlying47 Ty.sz51 rfl ⟨_, rfl⟩ (by omega)) ?_
 refine WD.take (i := 19) take_some_t4 #[true, true, true, true, true, true, true, true, true, true, true, true, true, true, true, true, true, true, true, true, false, false, false, false] s5 rfl rfl rfl (by kernel_rfl) (PQ.then PQ.body) rfl (fun w hs => run_indexAddr (q := adr a (i * 3)) Try.underlying47 Ty.sz51 rfl rfl (by omega) (by omega) ((hs.2).2.1 (by omega)) rfl) ?_
 refine WD.one (i := 20) take_some_t4 #[true, true, true, true, true, true, true, true, true, true, true, true, true, true, true, true, true, true, true, true, true, false, false, false] rfl (by kernel_rfl) ?_
 refine WO.storeOwn (l' := ((l.set i q).flatMap pcell)) 1 hS4 rfl Ty.sz51 rfl rfl rfl rfl rfl (by decide) (by rw [flat_len pcell_len]; omega) (flat_splice pcell_len q hil) (fun w6 (hS6 : St B (cel g [Value.slice a l.length cap, Value.int .i64 gone] 49 :: own a l.length cap 51 3 ((l.set i q).flatMap pcell) :: (roAll l) :: L) w6) => ?_)
 clear hS4
 refine WO.nil ?_
 refine NX.last (by decide) ?_
 refine WD.pure (i := 21) take_some_t4 #[true, true, true, true, true, true, true, true, true, true, true, true, true, true, true, true, true, true, true, true, true, true, false, false] rfl rfl rfl (by kernel_rfl) (PQ.then PQ.body) rfl (fun w => run_nilCheck rfl) ?_
 refine WD.pure (i := 22) take_some_t4 #[true, true, true, true, true, true, true, true, true, true, true, true, true, true, true, true, true, true, true, true, true, true, true, false] rfl rfl rfl (by kernel_rfl) (PQ.then PQ.body) rfl (fun w => run_fieldAddr (q := ⟨g, 0, none⟩) (show fieldB Try.prog 49 0 = some 0 from by kernel_rfl) rfl rfl) ?_
 refine WD.one (i := 23) take_some_t4 #[true, true, true, true, true, true, true, true, true, true, true, true, true, true, true, true, true, true, true, true, true, true, true, true] rfl (by kernel_rfl) ?_
 refine WO.store (l' := [Value.slice a (l.length - 1) cap, Value.int .i64 gone]) 0 hS6 rfl Ty.sz47 rfl rfl rfl rfl rfl (Nat.le_of_ble_eq_true rfl) rfl (fun w7 (hS7 : St B (cel g [Value.slice a (l.length - 1) cap, Value.int .i64 gone] 49 :: own a l.length cap 51 3 ((l.set i q).flatMap pcell) :: (roAll l) :: L) w7) => ?_)
 clear hS6
 refine WO.nil ?_
 refine NX.last (by decide) ?_
 refine WD.done take_some_t4 (by kernel_rfl) ?_
 refine NX.go ?_
 refine WP.seq ?_
 refine WP.region rfl ?_
 refine WO.val (run_move rfl) rfl rfl rfl ?_
 refine WO.val (run_move rfl) rfl rfl rfl ?_
 refine WO.val (run_move rfl) rfl rfl rfl ?_
 refine WO.val (run_assign rfl) rfl rfl rfl ?_
 refine WO.val (run_assign rfl) rfl rfl rfl ?_
 refine WO.val (run_assign rfl) rfl rfl rfl ?_
 refine WO.nil ?_
 refine NX.go ?_
 refine WP.ret ?_
 refine NX.done (l := [.tmp 4, .tmp 5, .tmp 6]) rfl rfl ?_
 exact ⟨rfl, net_take hv hlen hp hq hS7⟩
theorem double_none {B w : World} {L : List HP} {g : Nat} {V : List PV} {gone : Int} (hS : St B (netP g V gone :: L) w) (i : Int) (hi0 : i < 0 ∨ (V.length : Int) ≤ i) : Does Try.prog 13 [Value.pointer (some ⟨g, 0, none⟩), Value.int .i64 i] w (fun v w1 => v = .int .i64 2 ∧ St B (netP g V gone :: L) w1) := by
 obtain ⟨a, cap, l, hv, hlen, hS⟩ := netP_open hS
 have hll := map_len hv
 have hi : i < 0 ∨ (l.length : Int) ≤ i := by omega
 refine enter (n := 31) Try.func13 rfl rfl [Value.pointer (some ⟨g, 0, none⟩), Value.int .i64 i] rfl ?_
 refine WP.seq ?_
 refine WP.region rfl ?_
 refine WO.val (run_assign rfl) rfl rfl rfl ?_
 refine WO.nil ?_
 refine NX.go ?_
 refine WP.seq ?_
 refine WP.region rfl ?_
 refine WO.val (run_move rfl) rfl rfl rfl ?_
 refine WO.val (run_move rfl) rfl rfl rfl ?_
 refine WO.call rfl rfl Ty.hd21 rfl (find_none (by omega) hS _ hi) (fun v2 w1 pv2 => ?_)
 obtain ⟨rfl, hS1⟩ := pv2
 clear hS
 refine WO.val (run_assign rfl) rfl rfl rfl ?_
 refine WO.nil ?_
 refine NX.go ?_
 refine WP.seq ?_
 refine WP.block ?_
 refine WP.seq ?_
 refine WP.region rfl ?_
 refine WO.val (run_move rfl) rfl rfl rfl ?_
 refine WO.val (run_eqlNilP Try.underlying52 rfl rfl) rfl rfl rfl ?_
 refine WO.val (run_assign rfl) rfl rfl rfl ?_
 refine WO.nil ?_
 refine NX.go ?_
 refine WP.condT rfl rfl ?_
 refine WP.seq ?_
 refine WP.region rfl ?_
 refine WO.val (run_assign rfl) rfl rfl rfl ?_
 refine WO.nil ?_
 refine NX.go ?_
 refine WP.ret ?_
 refine NX.blkRet ?_
 refine NX.thenRet ?_
 refine NX.done (l := [.tmp 4]) rfl rfl ?_
 exact ⟨rfl, netP_shut hv hlen hS1⟩
theorem double_some_t6 : rtab .any (opsOf Try.f13 6) = (true, [([], []), ([], []), ([1], [1]), ([2], [2]), ([3], [3]), ([], []), ([5], [5]), ([6], [6]), ([7], [7]), ([4, 8], [4, 8]), ([0, 0, 1, 2, 3, 4, 5, 6, 7, 8, 9], [0]), ([10, 0, 1, 2, 3, 4, 5, 6, 7, 8, 9], [10]), ([11, 9, 9, 0, 1, 2, 3, 4, 5, 6, 7, 8, 9], [9, 11])]) := by kernel_rfl
theorem double_some {B w : World} {L : List HP} {g : Nat} {V : List PV} {gone : Int} (hS : St B (netP g V gone :: L) w) (i : Nat) (pv : PV) (hpv : V[i]? = some pv) : Does Try.prog 13 [Value.pointer (some ⟨g, 0, none⟩), Value.int .i64 (i : Int)] w (fun v w1 => v = .int .i64 (if V.length = 64 then 4 else 0) ∧ St B (netP g (if V.length = 64 then V else V ++ [pv]) gone :: L) w1) := by
 obtain ⟨a, cap, l, hv, hlen, hS⟩ := netP_open hS
 have hll := map_len hv
 obtain ⟨p, hp, rfl, hil⟩ := pv_get hv hpv
 have hcap := hS.own_le_i 1 rfl
 have hsa := own_isSome hS 1 rfl (by omega)
 refine enter (n := 31) Try.func13 rfl rfl [Value.pointer (some ⟨g, 0, none⟩), Value.int .i64 (i : Int)] rfl ?_
 refine WP.seq ?_
 refine WP.region rfl ?_
 refine WO.val (run_assign rfl) rfl rfl rfl ?_
 refine WO.nil ?_
 refine NX.go ?_
 refine WP.seq ?_
 refine WP.region rfl ?_
 refine WO.val (run_move rfl) rfl rfl rfl ?_
 refine WO.val (run_move rfl) rfl rfl rfl ?_
 refine WO.call rfl rfl Ty.hd21 rfl (find_some (by omega) hS i (by omega)) (fun v2 w1 pv2 => ?_)
 obtain ⟨rfl, hS1⟩ := pv2
 clear hS
 refine WO.val (run_assign rfl) rfl rfl rfl ?_
 refine WO.nil ?_
 refine NX.go ?_
 refine WP.seq ?_
 refine WP.block ?_
 refine WP.seq ?_
 refine WP.region rfl ?_
 refine WO.val (run_move rfl) rfl rfl rfl ?_
 refine WO.val (run_eqlNilP Try.underlying52 rfl rfl) rfl rfl rfl ?_
 refine WO.val (run_assign rfl) rfl rfl rfl ?_
 refine WO.nil ?_
 refine NX.go ?_
 refine WP.condF rfl rfl ?_
 refine WP.seq ?_
 refine WP.region rfl ?_
 refine WO.val (run_move rfl) rfl rfl rfl ?_
 refine WO.val (run_nilCheck rfl) rfl rfl rfl ?_
 refine WO.val (run_fieldAddr (q := ⟨g, 0, none⟩) (show fieldB Try.prog 49 0 = some 0 from by kernel_rfl) rfl rfl) rfl rfl rfl ?_
 refine WO.val (run_load Ty.ag47 rfl ((hS1.cel_at 0 rfl 0).trans rfl)) rfl rfl rfl ?_
 refine WO.val (run_len rfl Try.underlying47 rfl) rfl rfl rfl ?_
 refine WO.val (run_eql rfl rfl) rfl rfl rfl ?_
 refine WO.val (run_assign rfl) rfl rfl rfl ?_
 refine WO.nil ?_
 refine NX.go ?_
 refine WP.condP rfl (fun g12 => ?_) (fun g12 => ?_)
 ·
  refine WP.seq ?_
  refine WP.region rfl ?_
  refine WO.val (run_assign rfl) rfl rfl rfl ?_
  refine WO.nil ?_
  refine NX.go ?_
  refine WP.ret ?_
  refine NX.blkRet ?_
  refine NX.thenRet ?_
  refine NX.done (l := [.tmp 4]) rfl rfl ?_
  refine ⟨by rw [if_pos (show V.length = 64 by omega)]; rfl, ?_⟩
  rw [if_pos (show V.length = 64 by omega)]
  exact netP_shut hv hlen hS1
 ·
  refine WP.skip ?_
  refine NX.blk ?_
  refine NX.go ?_
  refine WP.seq ?_
  refine WD.start (fun w => (∀ j, World.cell? w ⟨g, j, none⟩ = [Value.slice a l.length cap, Value.int .i64 gone][j]?) ∧ Rd w a l.length 3 (l.flatMap pcell)) [9, 12] #[false, false, false, false, false, false, false, false, false, false, false, false, false] Ty.mo rfl (by kernel_rfl) hS1 (fun _ h => ⟨h.cel_at 0 rfl, h.own_rd_i 1 rfl⟩) (fun w3 hS3 s4 => ?_)
  clear hS1
  refine WD.pure (i := 0) double_some_t6 #[true, false, false, false, false, false, false, false, false, false, false, false, false] rfl rfl rfl (by kernel_rfl) (PQ.then PQ.body) rfl (fun w => run_move rfl) ?_
  refine WD.pure (i := 1) double_some_t6 #[true, true, false, false, false, false, false, false, false, false, false, false, false] rfl rfl rfl (by kernel_rfl) (PQ.then PQ.body) rfl (fun w => run_move rfl) ?_
  refine WD.pure (i := 2) double_some_t6 #[true, true, true, false, false, false, false, false, false, false, false, false, false] rfl rfl rfl (by kernel_rfl) (PQ.then PQ.body) rfl (fun w => run_nilCheck rfl) ?_
  refine WD.pure (i := 3) double_some_t6 #[true, true, true, true, false, false, false, false, false, false, false, false, false] rfl rfl rfl (by kernel_rfl) (PQ.then PQ.body) rfl (fun w => run_fieldAddr (q := ⟨g, 0, none⟩) (show fieldB Try.prog 49 0 = some 0 from by kernel_rfl) rfl rfl) ?_
  refine WD.take (i := 4) double_some_t6 #[true, true, true, true, true, false, false, false, false, false, false, false, false] s4 rfl rfl rfl (by kernel_rfl) (PQ.then PQ.body) rfl (fun w hs => run_load Ty.ag47 rfl ((hs.1 0).trans rfl)) ?_
  refine WD.pure (i := 5) double_some_t6 #[true, true, true, true, true, true, false, false, false, false, false, false, false] rfl rfl rfl (by kernel_rfl) (PQ.then PQ.body) rfl (fun w => run_move rfl) ?_
  refine WD.pure (i := 6) double_some_t6 #[true, true, true, true, true, true, true, false, false, false, false, false, false] rfl rfl rfl (by kernel_rfl) (PQ.then PQ.body) rfl (fun w => run_nilCheck rfl) ?_
  refine WD.take (i := 7) double_some_t6 #[true, true, true, true, true, true, true, true, false, false, false, false, false] s4 rfl rfl rfl (by kernel_rfl) (PQ.then PQ.body) rfl (fun w hs => run_loadAgg (vs := [Value.int .i64 p.v.who, Value.slice p.a p.v.s.length p.cap, Value.bool p.v.sp]) Ty.ag51 Ty.sz51 rfl ((hs.2).cells (by rw [flat_len pcell_len]; omega) (flat_part pcell_len hp)).1 ((hs.2).cells (by rw [flat_len pcell_len]; omega) (flat_part pcell_len hp)).2) ?_
  refine WD.one (i := 8) double_some_t6 #[true, true, true, true, true, true, true, true, true, false, false, false, false] rfl (by kernel_rfl) ?_
  refine WO.buildSlice (l := [Value.int .i64 p.v.who, Value.slice p.a p.v.s.length p.cap, Value.bool p.v.sp]) hS3 Try.underlying47 rfl (fun w => by kernel_rfl) rfl (fun g6 w5 lg6 hS5 => ?_)
  clear hS3
  refine WO.nil ?_
  have s7 : (∀ j, World.cell? w5 ⟨g, j, none⟩ = [Value.slice a l.length cap, Value.int .i64 gone][j]?) ∧ Rd w5 a l.length 3 (l.flatMap pcell) := ⟨hS5.cel_at 1 rfl, hS5.own_rd_i 2 rfl⟩
  refine NX.held s7 ?_
  refine WD.one (i := 9) double_some_t6 #[true, true, true, true, true, true, true, true, true, true, false, false, false] rfl (by kernel_rfl) ?_
  refine WO.append (news := [Value.int .i64 p.v.who, Value.slice p.a p.v.s.length p.cap, Value.bool p.v.sp]) 2 rfl Try.underlying47 Try.underlying47 (fun _ h => by cases h) Ty.sz51 (by decide) Ty.by51 Ty.zr51 rfl rfl rfl rfl hS5 rfl ((hS5.cel_rd 0 rfl (o := 0) (m := 1) (k := 3) rfl (Nat.le_of_ble_eq_true rfl)).src) rfl (by omega) (by omega) (fun a9 c10 w8 hS8 => ?_)
  replace hS8 : St B (cel g6 [Value.int .i64 p.v.who, Value.slice p.a p.v.s.length p.cap, Value.bool p.v.sp] 51 :: cel g [Value.slice a l.length cap, Value.int .i64 gone] 49 :: own a9 (l.length + 1) c10 51 3 ((l.flatMap pcell) ++ [Value.int .i64 p.v.who, Value.slice p.a p.v.s.length p.cap, Value.bool p.v.sp]) :: (roAll l) :: L) w8 := hS8
  clear hS5
  refine WO.nil ?_
  refine NX.last (by decide) ?_
  refine WD.pure (i := 10) double_some_t6 #[true, true, true, true, true, true, true, true, true, true, true, false, false] rfl rfl rfl (by kernel_rfl) (PQ.then PQ.body) rfl (fun w => run_nilCheck rfl) ?_
  refine WD.pure (i := 11) double_some_t6 #[true, true, true, true, true, true, true, true, true, true, true, true, false] rfl rfl rfl (by kernel_rfl) (PQ.then PQ.body) rfl (fun w => run_fieldAddr (q := ⟨g, 0, none⟩) (show fieldB Try.prog 49 0 = some 0 from by kernel_rfl) rfl rfl) ?_
  refine WD.one (i := 12) double_some_t6 #[true, true, true, true, true, true, true, true, true, true, true, true, true] rfl (by kernel_rfl) ?_
  refine WO.store (l' := [Value.slice a9 (l.length + 1) c10, Value.int .i64 gone]) 1 hS8 rfl Ty.sz47 rfl rfl rfl rfl rfl (Nat.le_of_ble_eq_true rfl) rfl (fun w11 (hS11 : St B (cel g6 [Value.int .i64 p.v.who, Value.slice p.a p.v.s.length p.cap, Value.bool p.v.sp] 51 :: cel g [Value.slice a9 (l.length + 1) c10, Value.int .i64 gone] 49 :: own a9 (l.length + 1) c10 51 3 ((l.flatMap pcell) ++ [Value.int .i64 p.v.who, Value.slice p.a p.v.s.length p.cap, Value.bool p.v.sp]) :: (roAll l) :: L) w11) => ?_)
  clear hS8
  refine WO.nil ?_
  refine NX.last (by decide) ?_
  refine WD.done double_some_t6 (by kernel_rfl) ?_
  refine NX.go ?_
  refine WP.seq ?_
  refine WP.region rfl ?_
  refine WO.val (run_assign rfl) rfl rfl rfl ?_
  refine WO.nil ?_
  refine NX.go ?_
  refine WP.ret ?_
  refine NX.done (l := [.tmp 4]) rfl rfl ?_
  refine ⟨by rw [if_neg (show ¬ V.length = 64 by omega)]; rfl, ?_⟩
  rw [if_neg (show ¬ V.length = 64 by omega)]
  exact net_dup hv (by omega) (List.mem_of_getElem? hp) hS11.drop
theorem spoil_none {B w : World} {L : List HP} {g : Nat} {V : List PV} {gone : Int} (hS : St B (netP g V gone :: L) w) (i : Int) (hi0 : i < 0 ∨ (V.length : Int) ≤ i) (at_ : Int) (b : UInt8) : Does Try.prog 14 [Value.pointer (some ⟨g, 0, none⟩), Value.int .i64 i, Value.int .i64 at_, Value.int .u8 (b.toNat : Int)] w (fun v w1 => v = .int .i64 2 ∧ St B (netP g V gone :: L) w1) := by
 obtain ⟨a, cap, l, hv, hlen, hS⟩ := netP_open hS
 have hll := map_len hv
 have hi : i < 0 ∨ (l.length : Int) ≤ i := by omega
 refine enter (n := 64) Try.func14 rfl rfl [Value.pointer (some ⟨g, 0, none⟩), Value.int .i64 i, Value.int .i64 at_, Value.int .u8 (b.toNat : Int)] rfl ?_
 refine WP.seq ?_
 refine WP.region rfl ?_
 refine WO.val (run_assign rfl) rfl rfl rfl ?_
 refine WO.nil ?_
 refine NX.go ?_
 refine WP.seq ?_
 refine WP.region rfl ?_
 refine WO.val (run_move rfl) rfl rfl rfl ?_
 refine WO.val (run_move rfl) rfl rfl rfl ?_
 refine WO.call rfl rfl Ty.hd21 rfl (find_none (by omega) hS _ hi) (fun v2 w1 pv2 => ?_)
 obtain ⟨rfl, hS1⟩ := pv2
 clear hS
 refine WO.val (run_assign rfl) rfl rfl rfl ?_
 refine WO.nil ?_
 refine NX.go ?_
 refine WP.seq ?_
 refine WP.block ?_
 refine WP.seq ?_
 refine WP.region rfl ?_
 refine WO.val (run_move rfl) rfl rfl rfl ?_
 refine WO.val (run_eqlNilP Try.underlying52 rfl rfl) rfl rfl rfl ?_
 refine WO.val (run_move rfl) rfl rfl rfl ?_
 refine WO.off rfl rfl rfl rfl ?_
 refine WO.off rfl rfl rfl rfl ?_
 refine WO.val (run_pickT rfl rfl rfl) rfl rfl rfl ?_
 refine WO.val (run_move rfl) rfl rfl rfl ?_
 refine WO.off rfl rfl rfl rfl ?_
 refine WO.off rfl rfl rfl rfl ?_
 refine WO.off rfl rfl rfl rfl ?_
 refine WO.off rfl rfl rfl rfl ?_
 refine WO.off rfl rfl rfl rfl ?_
 refine WO.off rfl rfl rfl rfl ?_
 refine WO.off rfl rfl rfl rfl ?_
 refine WO.val (run_pickT rfl rfl rfl) rfl rfl rfl ?_
 refine WO.val (run_assign rfl) rfl rfl rfl ?_
 refine WO.nil ?_
 refine NX.go ?_
 refine WP.condT rfl rfl ?_
 refine WP.seq ?_
 refine WP.region rfl ?_
 refine WO.val (run_assign rfl) rfl rfl rfl ?_
 refine WO.nil ?_
 refine NX.go ?_
 refine WP.ret ?_
 refine NX.blkRet ?_
 refine NX.thenRet ?_
 refine NX.done (l := [.tmp 8]) rfl rfl ?_
 exact ⟨rfl, netP_shut hv hlen hS1⟩
theorem spoil_some {B w : World} {L : List HP} {g : Nat} {V : List PV} {gone : Int} (hS : St B (netP g V gone :: L) w) (i : Nat) (pv : PV) (hpv : V[i]? = some pv) (at_ : Int) (b : UInt8) (hps : pv.s.length ≤ 140737488355328) : Does Try.prog 14 [Value.pointer (some ⟨g, 0, none⟩), Value.int .i64 (i : Int), Value.int .i64 at_, Value.int .u8 (b.toNat : Int)] w (fun v w1 => v = .int .i64 (spoilF V i at_ b).1 ∧ St B (netP g (spoilF V i at_ b).2 gone :: L) w1) := by
 obtain ⟨a, cap, l, hv, hlen, hS⟩ := netP_open hS
 have hll := map_len hv
 obtain ⟨p, hp, rfl, hil⟩ := pv_get hv hpv
 have hcap := hS.own_le_i 1 rfl
 have hsa := own_isSome hS 1 rfl (by omega)
 refine enter (n := 64) Try.func14 rfl rfl [Value.pointer (some ⟨g, 0, none⟩), Value.int .i64 (i : Int), Value.int .i64 at_, Value.int .u8 (b.toNat : Int)] rfl ?_
 refine WP.seq ?_
 refine WP.region rfl ?_
 refine WO.val (run_assign rfl) rfl rfl rfl ?_
 refine WO.nil ?_
 refine NX.go ?_
 refine WP.seq ?_
 refine WP.region rfl ?_
 refine WO.val (run_move rfl) rfl rfl rfl ?_
 refine WO.val (run_move rfl) rfl rfl rfl ?_
 refine WO.call rfl rfl Ty.hd21 rfl (find_some (by omega) hS i (by omega)) (fun v2 w1 pv2 => ?_)
 obtain ⟨rfl, hS1⟩ := pv2
 clear hS
 refine WO.val (run_assign rfl) rfl rfl rfl ?_
 refine WO.nil ?_
 refine NX.go ?_
 refine WP.seq ?_
 refine WP.block ?_
 refine WP.seq ?_
 refine WP.region rfl ?_
 refine WO.val (run_move rfl) rfl rfl rfl ?_
 refine WO.val (run_eqlNilP Try.underlying52 rfl rfl) rfl rfl rfl ?_
 refine WO.val (run_move rfl) rfl rfl rfl ?_
 refine WO.on rfl rfl rfl ?_
 refine WO.val (run_move rfl) rfl rfl rfl ?_
 refine WO.on rfl rfl rfl ?_
 refine WO.val (run_lss rfl rfl) rfl rfl rfl ?_
 refine WO.val (run_pickF rfl rfl rfl) rfl rfl rfl ?_
 refine WO.val (run_move rfl) rfl rfl rfl ?_
 by_cases g21 : at_ < 0
 ·
  refine WO.off rfl rfl (decide_eq_true g21) rfl ?_
  refine WO.off rfl rfl (decide_eq_true g21) rfl ?_
  refine WO.off rfl rfl (decide_eq_true g21) rfl ?_
  refine WO.off rfl rfl (decide_eq_true g21) rfl ?_
  refine WO.off rfl rfl (decide_eq_true g21) rfl ?_
  refine WO.off rfl rfl (decide_eq_true g21) rfl ?_
  refine WO.off rfl rfl (decide_eq_true g21) rfl ?_
  refine WO.val (run_pickT rfl (decide_eq_true g21) rfl) rfl rfl rfl ?_
  refine WO.val (run_assign rfl) rfl rfl rfl ?_
  refine WO.nil ?_
  refine NX.go ?_
  refine WP.condT rfl rfl ?_
  refine WP.seq ?_
  refine WP.region rfl ?_
  refine WO.val (run_assign rfl) rfl rfl rfl ?_
  refine WO.nil ?_
  refine NX.go ?_
  refine WP.ret ?_
  refine NX.blkRet ?_
  refine NX.thenRet ?_
  refine NX.done (l := [.tmp 8]) rfl rfl ?_
  have hr : spoilF V i at_ b = (2, V) := by unfold spoilF; rw [if_neg (by omega), Int.toNat_natCast, pc_get hv hp]; show (if _ then _ else if _ then _ else if _ then _ else _) = _; rw [if_pos (by omega)]
  rw [hr]
  exact ⟨rfl, netP_shut hv hlen hS1⟩
 ·
  refine WO.on rfl rfl (decide_eq_false g21) ?_
  refine WO.val (run_move rfl) rfl rfl rfl ?_
  refine WO.on rfl rfl (decide_eq_false g21) ?_
  refine WO.val (run_move rfl) rfl rfl rfl ?_
  refine WO.on rfl rfl (decide_eq_false g21) ?_
  refine WO.val (run_nilCheck rfl) rfl rfl rfl ?_
  refine WO.on rfl rfl (decide_eq_false g21) ?_
  refine WO.val (run_fieldAddr (q := (adr a (i * 3 + 1))) (show fieldB Try.prog 51 1 = some 1 from by kernel_rfl) rfl (adr_add _ (by assumption) _ _)) rfl rfl rfl ?_
  refine WO.on rfl rfl (decide_eq_false g21) ?_
  refine WO.val (run_load Ty.ag28 rfl ((hS1.own_rd_i 1 rfl).cell ((flat_get pcell_len hp (j := 1) (by decide)).trans rfl))) rfl rfl rfl ?_
  refine WO.on rfl rfl (decide_eq_false g21) ?_
  refine WO.val (run_len rfl Try.underlying28 rfl) rfl rfl rfl ?_
  refine WO.on rfl rfl (decide_eq_false g21) ?_
  refine WO.val (run_geq rfl rfl) rfl rfl rfl ?_
  refine WO.val (run_pickF rfl (decide_eq_false g21) rfl) rfl rfl rfl ?_
  refine WO.val (run_assign rfl) rfl rfl rfl ?_
  refine WO.nil ?_
  refine NX.go ?_
  refine WP.condP rfl (fun g14 => ?_) (fun g14 => ?_)
  ·
   refine WP.seq ?_
   refine WP.region rfl ?_
   refine WO.val (run_assign rfl) rfl rfl rfl ?_
   refine WO.nil ?_
   refine NX.go ?_
   refine WP.ret ?_
   refine NX.blkRet ?_
   refine NX.thenRet ?_
   refine NX.done (l := [.tmp 8]) rfl rfl ?_
   have hr : spoilF V i at_ b = (2, V) := by unfold spoilF; rw [if_neg (by omega), Int.toNat_natCast, pc_get hv hp]; show (if _ then _ else if _ then _ else if _ then _ else _) = _; rw [if_pos (by omega)]
   rw [hr]
   exact ⟨rfl, netP_shut hv hlen hS1⟩
  ·
   refine WP.seq ?_
   refine WP.region rfl ?_
   refine WO.val (run_move rfl) rfl rfl rfl ?_
   refine WO.val (run_eql rfl rfl) rfl rfl rfl ?_
   refine WO.val (run_assign rfl) rfl rfl rfl ?_
   refine WO.nil ?_
   refine NX.go ?_
   refine WP.condP rfl (fun g30 => ?_) (fun g30 => ?_)
   ·
    refine WP.seq ?_
    refine WP.region rfl ?_
    refine WO.val (run_assign rfl) rfl rfl rfl ?_
    refine WO.nil ?_
    refine NX.go ?_
    refine WP.ret ?_
    refine NX.blkRet ?_
    refine NX.thenRet ?_
    refine NX.done (l := [.tmp 8]) rfl rfl ?_
    have hr : spoilF V i at_ b = (3, V) := by unfold spoilF; rw [if_neg (by omega), Int.toNat_natCast, pc_get hv hp]; show (if _ then _ else if _ then _ else if _ then _ else _) = _; rw [if_neg (by omega), if_pos ((u8_eq0 b).1 g30)]
    rw [hr]
    exact ⟨rfl, netP_shut hv hlen hS1⟩
   ·
    refine WP.seq ?_
    refine WP.region rfl ?_
    refine WO.val (run_move rfl) rfl rfl rfl ?_
    refine WO.val (run_nilCheck rfl) rfl rfl rfl ?_
    refine WO.val (run_fieldAddr (q := (adr a (i * 3 + 2))) (show fieldB Try.prog 51 2 = some 2 from by kernel_rfl) rfl (adr_add _ (by assumption) _ _)) rfl rfl rfl ?_
    refine WO.val (run_load Ty.ag4 rfl ((hS1.own_rd_i 1 rfl).cell ((flat_get pcell_len hp (j := 2) (by decide)).trans rfl))) rfl rfl rfl ?_
    refine WO.val (run_assign rfl) rfl rfl rfl ?_
    refine WO.nil ?_
    refine NX.go ?_
    refine WP.condB rfl (fun g33 => ?_) (fun g33 => ?_)
    ·
     refine WP.seq ?_
     refine WP.region rfl ?_
     refine WO.val (run_assign rfl) rfl rfl rfl ?_
     refine WO.nil ?_
     refine NX.go ?_
     refine WP.ret ?_
     refine NX.blkRet ?_
     refine NX.thenRet ?_
     refine NX.done (l := [.tmp 8]) rfl rfl ?_
     have hr : spoilF V i at_ b = (13, V) := by unfold spoilF; rw [if_neg (by omega), Int.toNat_natCast, pc_get hv hp]; show (if _ then _ else if _ then _ else if _ then _ else _) = _; rw [if_neg (by omega), if_neg (fun h => g30 ((u8_eq0 b).2 h)), if_pos g33]
     rw [hr]
     exact ⟨rfl, netP_shut hv hlen hS1⟩
    ·
     refine WP.skip ?_
     refine NX.blk ?_
     refine NX.go ?_
     refine WP.seq ?_
     refine WP.region rfl ?_
     obtain ⟨c, hc⟩ : ∃ c, p.v.s[at_.toNat]? = some c := ⟨_, List.getElem?_eq_getElem (by omega)⟩
     refine WO.val (run_move rfl) rfl rfl rfl ?_
     refine WO.val (run_nilCheck rfl) rfl rfl rfl ?_
     refine WO.val (run_fieldAddr (q := (adr a (i * 3 + 1))) (show fieldB Try.prog 51 1 = some 1 from by kernel_rfl) rfl (adr_add _ (by assumption) _ _)) rfl rfl rfl ?_
     refine WO.val (run_load Ty.ag28 rfl ((hS1.own_rd_i 1 rfl).cell ((flat_get pcell_len hp (j := 1) (by decide)).trans rfl))) rfl rfl rfl ?_
     refine WO.val (run_len rfl Try.underlying28 rfl) rfl rfl rfl ?_
     have hsz : p.v.s.length ≤ 140737488355328 := hps
     refine WO.makeSlice (m := p.v.s.length) Try.underlying28 Ty.by5 Ty.sz5 Ty.zr5 rfl rfl rfl (by omega) (by omega) hS1 rfl (fun a4 w3 hS3 => ?_)
     clear hS1
     refine WO.val (run_assign rfl) rfl rfl rfl ?_
     refine WO.nil ?_
     refine NX.go ?_
     refine WP.seq ?_
     refine WP.region rfl ?_
     refine WO.val (run_move rfl) rfl rfl rfl ?_
     refine WO.val (run_move rfl) rfl rfl rfl ?_
     refine WO.val (run_nilCheck rfl) rfl rfl rfl ?_
     refine WO.val (run_fieldAddr (q := (adr a (i * 3 + 1))) (show fieldB Try.prog 51 1 = some 1 from by kernel_rfl) rfl (adr_add _ (by assumption) _ _)) rfl rfl rfl ?_
     refine WO.val (run_load Ty.ag28 rfl ((hS3.own_rd_i 2 rfl).cell ((flat_get pcell_len hp (j := 1) (by decide)).trans rfl))) rfl rfl rfl ?_
     refine WO.copyAll (news := (u8s p.v.s)) 0 rfl Try.underlying28 Ty.sz5 rfl rfl rfl hS3 rfl (roAll_rd hp (hS3.focus 3 rfl)) (u8s_noAgg _) (fun w5 (hS5 : St B (own a4 p.v.s.length p.v.s.length 5 1 (u8s p.v.s) :: cel g [Value.slice a l.length cap, Value.int .i64 gone] 49 :: own a l.length cap 51 3 (l.flatMap pcell) :: (roAll l) :: L) w5) => ?_)
     clear hS3
     refine WO.nil ?_
     refine NX.go ?_
     refine WP.seq ?_
     refine WP.region rfl ?_
     refine WO.val (run_move rfl) rfl rfl rfl ?_
     refine WO.val (run_move rfl) rfl rfl rfl ?_
     refine WO.val (run_indexAddr (q := adr a4 ((at_).toNat)) Try.underlying28 Ty.sz5 rfl rfl (by omega) (by omega) ((hS5.own_rd_i 0 rfl).2.1 (by omega)) (by simp)) rfl rfl rfl ?_
     refine WO.val (run_load Ty.ag5 rfl ((hS5.own_rd_i 0 rfl).cell (by unfold u8s; rw [List.getElem?_map, hc]; rfl))) rfl rfl rfl ?_
     refine WO.val (run_move rfl) rfl rfl rfl ?_
     refine WO.val (run_xor rfl rfl (u8x c b)) rfl rfl rfl ?_
     refine WO.val (run_indexAddr (q := adr a4 ((at_).toNat)) Try.underlying28 Ty.sz5 rfl rfl (by omega) (by omega) ((hS5.own_rd_i 0 rfl).2.1 (by omega)) (by simp)) rfl rfl rfl ?_
     refine WO.storeOwnAt 0 hS5 rfl Ty.sz5 rfl rfl rfl rfl (by simp [u8s]; omega) (fun w6 hS6 => ?_)
     replace hS6 : St B (own a4 p.v.s.length p.v.s.length 5 1 (u8s (xorAt p.v.s at_.toNat b)) :: cel g [Value.slice a l.length cap, Value.int .i64 gone] 49 :: own a l.length cap 51 3 (l.flatMap pcell) :: (roAll l) :: L) w6 := (by rw [u8s_xor hc] at hS6; exact hS6)
     clear hS5
     refine WO.nil ?_
     refine NX.go ?_
     refine WP.seq ?_
     refine WP.region rfl ?_
     refine WO.val (run_move rfl) rfl rfl rfl ?_
     refine WO.val (run_move rfl) rfl rfl rfl ?_
     refine WO.val (run_move rfl) rfl rfl rfl ?_
     refine WO.val (run_nilCheck rfl) rfl rfl rfl ?_
     refine WO.val (run_fieldAddr (q := (adr a (i * 3 + 1))) (show fieldB Try.prog 51 1 = some 1 from by kernel_rfl) rfl (adr_add _ (by assumption) _ _)) rfl rfl rfl ?_
     refine WO.storeOwnAt 2 hS6 rfl Ty.sz28 rfl rfl rfl rfl (by simp [flat_len pcell_len]; omega) (fun w7 hS7 => ?_)
     replace hS7 : St B (own a4 p.v.s.length p.v.s.length 5 1 (u8s (xorAt p.v.s at_.toNat b)) :: cel g [Value.slice a l.length cap, Value.int .i64 gone] 49 :: own a l.length cap 51 3 ((l.set i ⟨⟨p.v.who, xorAt p.v.s at_.toNat b, p.v.sp⟩, a4, p.v.s.length⟩).flatMap pcell) :: (roAll l) :: L) w7 := (by rw [flat_set pcell_len (y := ⟨⟨p.v.who, xorAt p.v.s at_.toNat b, p.v.sp⟩, a4, p.v.s.length⟩) hp (by decide) (by simp [pcell, xorAt_len])] at hS7; exact hS7)
     clear hS6
     refine WO.val (run_nilCheck rfl) rfl rfl rfl ?_
     refine WO.val (run_fieldAddr (q := (adr a (i * 3 + 2))) (show fieldB Try.prog 51 2 = some 2 from by kernel_rfl) rfl (adr_add _ (by assumption) _ _)) rfl rfl rfl ?_
     refine WO.storeOwnAt 2 hS7 rfl Ty.sz4 rfl rfl rfl rfl (by simp [flat_len pcell_len]; omega) (fun w8 hS8 => ?_)
     replace hS8 : St B (own a4 p.v.s.length p.v.s.length 5 1 (u8s (xorAt p.v.s at_.toNat b)) :: cel g [Value.slice a l.length cap, Value.int .i64 gone] 49 :: own a l.length cap 51 3 ((l.set i ⟨⟨p.v.who, xorAt p.v.s at_.toNat b, true⟩, a4, p.v.s.length⟩).flatMap pcell) :: (roAll l) :: L) w8 := (by rw [flat_set pcell_len (x := ⟨⟨p.v.who, xorAt p.v.s at_.toNat b, p.v.sp⟩, a4, p.v.s.length⟩) (y := ⟨⟨p.v.who, xorAt p.v.s at_.toNat b, true⟩, a4, p.v.s.length⟩) (by rw [List.getElem?_set_self hil]) (by decide) rfl, List.set_set] at hS8; exact hS8)
     clear hS7
     refine WO.nil ?_
     refine NX.go ?_
     refine WP.seq ?_
     refine WP.region rfl ?_
     refine WO.val (run_assign rfl) rfl rfl rfl ?_
     refine WO.nil ?_
     refine NX.go ?_
     refine WP.ret ?_
     refine NX.done (l := [.tmp 8]) rfl rfl ?_
     have hr : spoilF V i at_ b = (0, V.set i ⟨p.v.who, xorAt p.v.s at_.toNat b, true⟩) := by unfold spoilF; rw [if_neg (by omega), Int.toNat_natCast, pc_get hv hp]; show (if _ then _ else if _ then _ else if _ then _ else _) = _; rw [if_neg (by omega), if_neg (fun h => g30 ((u8_eq0 b).2 h)), if_neg (by rw [g33]; decide)]
     rw [hr]
     exact ⟨rfl, net_spoil (pv' := ⟨p.v.who, xorAt p.v.s at_.toNat b, true⟩) (p := p) hv hlen (by rw [xorAt_len]; exact (hS8).own_seal)⟩
end Go.Proofs.Ytcdbnbdeinhokaa.SL
