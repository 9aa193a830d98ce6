/- The law that a net keeps what it is given. -/
import Derived.Test.YtcdbnbdeinhokaaKn5
namespace Go.Proofs.Ytcdbnbdeinhokaa.SL
open Go.RowKit Go.Proofs.Ytcdbnbdeinhokaa
open Go.Proofs.YtcdbnbdeinhokaaW.PrintLast (rtab opsOf)
set_option linter.unusedVariables false
set_option linter.unusedSimpArgs false

/-- An act. -/
structure OpV where
  kind : Int
  who : Int
  s : List UInt8
  n : Int
  at_ : Int
  by_ : UInt8
  more : Int
def ocell (o : OpV) : List Value := [.int .i64 o.kind, .int .i64 o.who, str o.s, .int .i64 o.n, .int .i64 o.at_, .int .u8 (o.by_.toNat : Int), .int .i64 o.more]
theorem ocell_len (o : OpV) : (ocell o).length = 7 := rfl
def Sz (V : List PV) : Prop := ∀ p ∈ V, p.s.length ≤ 140737488355328
theorem sz_send {V : List PV} {gone who : Int} {s : List UInt8} (h : Sz V) (hs : s.length ≤ 140737488355328) : Sz (sendF V gone who s).2.1 := by
  unfold sendF; split
  · exact h
  · split
    · exact h
    · intro p hp; rcases List.mem_append.1 hp with hp | hp
      · exact h p hp
      · simp at hp; subst hp; exact hs
theorem sz_take {V : List PV} {i : Int} (h : Sz V) : Sz (takeF V i) := by
  unfold takeF; split
  · exact h
  · split
    · rename_i q hq
      intro p hp
      rw [List.dropLast_eq_take] at hp
      rcases List.mem_or_eq_of_mem_set (List.mem_of_mem_take hp) with hp | hp
      · exact h p hp
      · subst hp; exact h _ (List.mem_of_getLast? (by assumption))
    · exact h
theorem sz_double {V : List PV} {i : Int} (h : Sz V) : Sz (doubleF V i).2 := by
  unfold doubleF; split
  · exact h
  · split
    · rename_i q hq
      split
      · exact h
      · intro p hp; rcases List.mem_append.1 hp with hp | hp
        · exact h p hp
        · simp at hp; subst hp; exact h _ (List.mem_of_getElem? hq)
    · exact h
theorem sz_spoil {V : List PV} {i at_ : Int} {b : UInt8} (h : Sz V) : Sz (spoilF V i at_ b).2 := by
  unfold spoilF; split
  · exact h
  · split
    · rename_i q hq
      split
      · exact h
      · split
        · exact h
        · split
          · exact h
          · intro p hp; rcases List.mem_or_eq_of_mem_set hp with hp | hp
            · exact h p hp
            · subst hp; rw [xorAt_len]; exact h q (List.mem_of_getElem? hq)
    · exact h
theorem gone_send {V : List PV} {gone who : Int} {s : List UInt8} : gone ≤ (sendF V gone who s).2.2 ∧ (sendF V gone who s).2.2 ≤ gone + 1 := by
  unfold sendF; split
  · constructor <;> simp <;> omega
  · split <;> constructor <;> simp <;> omega
theorem netKeeps_core_t28 : rtab .any (opsOf Try.f6 28) = (true, [([], []), ([], []), ([0, 1], [0, 1]), ([2], [2]), ([3], [3]), ([3], [3]), ([4, 5, 3], [3, 4, 5]), ([3, 6], [3, 6]), ([7, 3], [7]), ([8], [8]), ([8], [8]), ([9, 10, 8], [8, 9, 10]), ([8, 11], [8, 11]), ([12, 8], [12]), ([13], [13]), ([14, 13, 13], [13, 14]), ([13], [13]), ([16, 13], [13, 16]), ([17, 13], [13, 17]), ([18, 13], [13, 18]), ([19, 13], [13, 19]), ([15, 20, 13], [13, 15, 20]), ([13, 21], [13, 21]), ([22, 15], [22]), ([23], [23]), ([24, 23, 23], [23, 24]), ([23], [23]), ([26, 23], [23, 26]), ([27, 23], [23, 27]), ([28, 23], [23, 28]), ([25, 29, 23], [23, 25, 29]), ([23, 30], [23, 30])]) := by kernel_rfl
theorem netKeeps_core_t13 : rtab .any (opsOf Try.f6 13) = (true, [([], []), ([], []), ([1], [1]), ([], []), ([3], [3]), ([0, 2, 4], [0, 2, 4]), ([], []), ([], []), ([7], [7]), ([], []), ([9], [9]), ([6, 8, 10, 5], [6, 8, 10]), ([5, 11], [5, 11])]) := by kernel_rfl
theorem netKeeps_core_t21 : rtab .any (opsOf Try.f6 21) = (true, [([], []), ([], []), ([1], [1]), ([0, 2], [0, 2]), ([], []), ([], []), ([5], [5]), ([4, 6, 3], [4, 6]), ([3, 7], [3, 7])]) := by kernel_rfl
theorem netKeeps_core_t24 : rtab .any (opsOf Try.f6 24) = (true, [([], []), ([], []), ([1], [1]), ([], []), ([3], [3]), ([], []), ([5], [5]), ([0, 2, 4, 6], [0, 2, 4, 6]), ([], []), ([], []), ([9], [9]), ([], []), ([11], [11]), ([], []), ([13], [13]), ([8, 10, 12, 14, 7], [8, 10, 12, 14]), ([7, 15], [7, 15])]) := by kernel_rfl
theorem netKeeps_core {B w : World} {L : List HP} (ops : List OpV) (a : Option Addr) (cap : Nat) (hA : Rd B a ops.length 7 (ops.flatMap ocell)) (hb : ∀ o ∈ ops, o.s.length ≤ 140737488355328) (hS : St B L w) : Does Try.prog 6 [Value.slice a ops.length cap] w (fun v w1 => v = .bool true ∧ St B L w1) := by
 refine enter (n := 174) Try.func6 rfl rfl [Value.slice a ops.length cap] rfl ?_
 refine WP.seq ?_
 refine WP.region rfl ?_
 refine WO.val (run_assign rfl) rfl rfl rfl ?_
 refine WO.nil ?_
 refine NX.go ?_
 refine WP.seq ?_
 refine WP.region rfl ?_
 refine WO.call rfl rfl Ty.hd8 rfl (new_spec hS) (fun v2 w1 pv2 => ?_)
 obtain ⟨gn, rfl, hS1⟩ := pv2
 clear hS
 refine WO.val (run_build (v := Value.agg #[Value.slice none 0 0, Value.int .i64 0]) rfl (fun w => by kernel_rfl)) rfl rfl rfl ?_
 refine WO.box (l := [Value.slice none 0 0, Value.int .i64 0]) hS1 rfl rfl rfl (fun g4 w3 lg4 hS3 => ?_)
 clear hS1
 refine WO.val (run_assign rfl) rfl rfl rfl ?_
 refine WO.val (run_assign rfl) rfl rfl rfl ?_
 refine WO.nil ?_
 refine NX.go ?_
 refine WP.seq ?_
 refine WP.seq ?_
 refine WP.region rfl ?_
 refine WO.val (run_move rfl) rfl rfl rfl ?_
 refine WO.val (run_eqlNilP Try.underlying25 rfl rfl) rfl rfl rfl ?_
 refine WO.nil ?_
 refine NX.go ?_
 refine WP.condF rfl rfl ?_
 refine WP.skip ?_
 refine NX.go ?_
 refine WP.seq ?_
 refine WP.seq ?_
 refine WP.region rfl ?_
 refine WO.val (run_assign rfl) rfl rfl rfl ?_
 refine WO.nil ?_
 refine NX.go ?_
 refine WP.block ?_
 obtain ⟨gr, hgr⟩ : ∃ gr, gr = g4 := ⟨_, rfl⟩
 have hS5 : St B (refP g4 [] 0 :: netP gn [] 0 :: L) w3 := refP_shut (a := none) (cap := 0) (by simp) ((hS3.own_nil 55 3).permT [1] rfl)
 clear hS3
 generalize g4 = gr at *
 refine WP.loop (α := Nat × List PV × Int) (fun x => match x with | ⟨i, V, gone⟩ => [(0, Value.slice a ops.length cap), (3, Value.pointer (some ⟨gn, 0, none⟩)), (4, Value.pointer (some ⟨gr, 0, none⟩)), (5, Value.int .i64 (i : Int))]) (fun x w => match x with | ⟨i, V, gone⟩ => (i ≤ 100 ∧ 0 ≤ gone ∧ gone ≤ 40 * i ∧ Sz V) ∧ St B ((netP gn V gone) :: (refP gr V gone) :: L) w) (fun x => match x with | ⟨i, V, gone⟩ => 100 - i) (0, [], 0) ⟨⟨by omega, by omega, by simp, fun p hp => by cases hp⟩, hS5.permT [1] rfl⟩ (Sub.cons rfl (Sub.cons rfl (Sub.cons rfl (Sub.consE rfl (by first | rfl | first | rfl | (congr 1; omega) | (simp; done) | (simp; omega)) (Sub.nil _))))) ?_
 rintro ⟨i, V, gone⟩ w6 ⟨⟨hi, hg0, hg1, hsz⟩, hS6⟩
 clear hS5
 refine WP.seq ?_
 refine WP.seq ?_
 refine WP.region rfl ?_
 refine WO.val (run_move rfl) rfl rfl rfl ?_
 refine WO.val (run_move rfl) rfl rfl rfl ?_
 refine WO.val (run_len rfl Try.underlying39 rfl) rfl rfl rfl ?_
 refine WO.val (run_lss rfl rfl) rfl rfl rfl ?_
 refine WO.val (run_move rfl) rfl rfl rfl ?_
 by_cases g29 : (i : Int) < ((ops.length : Nat) : Int)
 ·
  refine WO.on rfl rfl (decide_eq_true g29) ?_
  refine WO.val (run_move rfl) rfl rfl rfl ?_
  refine WO.on rfl rfl (decide_eq_true g29) ?_
  refine WO.val (run_lss rfl rfl) rfl rfl rfl ?_
  refine WO.val (run_pickT rfl (decide_eq_true g29) rfl) rfl rfl rfl ?_
  refine WO.nil ?_
  refine NX.go ?_
  refine WP.condP rfl (fun g32 => ?_) (fun g32 => ?_)
  ·
   refine WP.skip ?_
   refine NX.go ?_
   refine WP.seq ?_
   refine WP.block ?_
   refine WP.seq ?_
   refine WP.region rfl ?_
   refine WO.val (run_move rfl) rfl rfl rfl ?_
   refine WO.val (run_move rfl) rfl rfl rfl ?_
   obtain ⟨o, ho⟩ : ∃ o, ops[i]? = some o := ⟨_, List.getElem?_eq_getElem (by omega)⟩
   refine WO.val (run_indexAddr (q := adr a (i * 7)) Try.underlying39 Ty.sz45 rfl rfl (by omega) (by omega) ((hS6.rdB hA).2.1 (by omega)) rfl) rfl rfl rfl ?_
   refine WO.val (run_loadAgg (vs := [Value.int .i64 o.kind, Value.int .i64 o.who, str o.s, Value.int .i64 o.n, Value.int .i64 o.at_, Value.int .u8 (o.by_.toNat : Int), Value.int .i64 o.more]) Ty.ag45 Ty.sz45 rfl ((hS6.rdB hA).cells (by rw [flat_len ocell_len]; omega) (flat_part ocell_len ho)).1 ((hS6.rdB hA).cells (by rw [flat_len ocell_len]; omega) (flat_part ocell_len ho)).2) rfl rfl rfl ?_
   refine WO.alloc (l := [Value.int .i64 0, Value.int .i64 0, str [], Value.int .i64 0, Value.int .i64 0, Value.int .u8 0, Value.int .i64 0]) hS6 Ty.zr45 rfl rfl (fun g8 w7 lg8 hS7 => ?_)
   clear hS6
   refine WO.store (l' := [Value.int .i64 o.kind, Value.int .i64 o.who, str o.s, Value.int .i64 o.n, Value.int .i64 o.at_, Value.int .u8 (o.by_.toNat : Int), Value.int .i64 o.more]) 0 hS7 rfl Ty.sz45 rfl rfl rfl rfl rfl (Nat.le_of_ble_eq_true rfl) rfl (fun w9 (hS9 : St B (cel g8 [Value.int .i64 o.kind, Value.int .i64 o.who, str o.s, Value.int .i64 o.n, Value.int .i64 o.at_, Value.int .u8 (o.by_.toNat : Int), Value.int .i64 o.more] 45 :: (netP gn V gone) :: (refP gr V gone) :: L) w9) => ?_)
   clear hS7
   refine WO.nil ?_
   refine NX.go ?_
   refine WP.seq ?_
   refine WP.seq ?_
   refine WP.region rfl ?_
   refine WO.val (run_fieldAddr (q := ⟨g8, 0, none⟩) (show fieldB Try.prog 45 0 = some 0 from by kernel_rfl) rfl rfl) rfl rfl rfl ?_
   refine WO.val (run_load Ty.ag3 rfl ((hS9.cel_at 0 rfl 0).trans rfl)) rfl rfl rfl ?_
   refine WO.nil ?_
   refine NX.go ?_
   refine WP.meet (α := List PV × Int) (fun x => match x with | ⟨V2, gone2⟩ => [(0, Value.slice a ops.length cap), (3, Value.pointer (some ⟨gn, 0, none⟩)), (4, Value.pointer (some ⟨gr, 0, none⟩)), (5, Value.int .i64 (i : Int)), (6, Value.pointer (some ⟨g8, 0, none⟩))]) (fun x w => match x with | ⟨V2, gone2⟩ => (0 ≤ gone2 ∧ gone2 ≤ 40 * i + 40 ∧ Sz V2) ∧ St B (cel g8 [Value.int .i64 o.kind, Value.int .i64 o.who, str o.s, Value.int .i64 o.n, Value.int .i64 o.at_, Value.int .u8 (o.by_.toNat : Int), Value.int .i64 o.more] 45 :: (netP gn V2 gone2) :: (refP gr V2 gone2) :: L) w) ?_ (fun K10 => ?_)
   ·
    rintro ⟨V2, gone2⟩ w11 ⟨⟨hj0, hj1, hjsz⟩, hS11⟩
    clear hS9
    refine NX.go ?_
    refine WP.seq ?_
    refine WP.region rfl ?_
    refine WO.val (run_move rfl) rfl rfl rfl ?_
    refine WO.val (run_fieldAddr (q := ⟨g8, 3, none⟩) (show fieldB Try.prog 45 3 = some 3 from by kernel_rfl) rfl rfl) rfl rfl rfl ?_
    refine WO.val (run_load Ty.ag3 rfl ((hS11.cel_at 0 rfl 3).trans rfl)) rfl rfl rfl ?_
    have hS12 := hS11.permT [1, 0, 0] (L' := (netP gn V2 gone2) :: cel g8 [Value.int .i64 o.kind, Value.int .i64 o.who, str o.s, Value.int .i64 o.n, Value.int .i64 o.at_, Value.int .u8 (o.by_.toNat : Int), Value.int .i64 o.more] 45 :: (refP gr V2 gone2) :: L) rfl
    clear hS11
    refine WO.call rfl rfl Ty.hd15 rfl (at_spec hS12 _) (fun v14 w13 pv14 => ?_)
    obtain ⟨rfl, hS13⟩ := pv14
    clear hS12
    refine WO.val (run_move rfl) rfl rfl rfl ?_
    refine WO.val (run_extract rfl rfl) rfl rfl rfl ?_
    refine WO.val (run_extract rfl rfl) rfl rfl rfl ?_
    refine WO.val (run_extract rfl rfl) rfl rfl rfl ?_
    refine WO.val (run_assign rfl) rfl rfl rfl ?_
    refine WO.val (run_assign rfl) rfl rfl rfl ?_
    refine WO.val (run_assign rfl) rfl rfl rfl ?_
    refine WO.nil ?_
    refine NX.go ?_
    refine WP.seq ?_
    refine WP.region rfl ?_
    refine WO.val (run_move rfl) rfl rfl rfl ?_
    refine WO.val (run_fieldAddr (q := ⟨g8, 3, none⟩) (show fieldB Try.prog 45 3 = some 3 from by kernel_rfl) rfl rfl) rfl rfl rfl ?_
    refine WO.val (run_load Ty.ag3 rfl ((hS13.cel_at 1 rfl 3).trans rfl)) rfl rfl rfl ?_
    have hS15 := hS13.permT [2, 0, 0] (L' := (refP gr V2 gone2) :: (netP gn V2 gone2) :: cel g8 [Value.int .i64 o.kind, Value.int .i64 o.who, str o.s, Value.int .i64 o.n, Value.int .i64 o.at_, Value.int .u8 (o.by_.toNat : Int), Value.int .i64 o.more] 45 :: L) rfl
    clear hS13
    refine WO.call rfl rfl Ty.hd20 rfl (rat_spec hS15 _) (fun v17 w16 pv17 => ?_)
    obtain ⟨rfl, hS16⟩ := pv17
    clear hS15
    refine WO.val (run_move rfl) rfl rfl rfl ?_
    refine WO.val (run_extract rfl rfl) rfl rfl rfl ?_
    refine WO.val (run_extract rfl rfl) rfl rfl rfl ?_
    refine WO.val (run_extract rfl rfl) rfl rfl rfl ?_
    refine WO.val (run_assign rfl) rfl rfl rfl ?_
    refine WO.val (run_assign rfl) rfl rfl rfl ?_
    refine WO.val (run_assign rfl) rfl rfl rfl ?_
    refine WO.nil ?_
    refine NX.go ?_
    refine WP.seq ?_
    have hS18 := hS16.permT [0] (L' := (refP gr V2 gone2) :: (netP gn V2 gone2) :: cel g8 [Value.int .i64 o.kind, Value.int .i64 o.who, str o.s, Value.int .i64 o.n, Value.int .i64 o.at_, Value.int .u8 (o.by_.toNat : Int), Value.int .i64 o.more] 45 :: L) rfl
    clear hS16
    obtain ⟨ar, capr, hlr, hS19⟩ := refP_open hS18
    clear hS18
    refine WD.start (fun w => (∀ j, World.cell? w ⟨gr, j, none⟩ = [Value.slice ar V2.length capr, Value.int .i64 gone2][j]?) ∧ Rd w ar V2.length 3 (V2.flatMap rcell) ∧ (∀ j, World.cell? w ⟨g8, j, none⟩ = [Value.int .i64 o.kind, Value.int .i64 o.who, str o.s, Value.int .i64 o.n, Value.int .i64 o.at_, Value.int .u8 (o.by_.toNat : Int), Value.int .i64 o.more][j]?)) [] #[false, false, false, false, false, false, false, false, false, false, false, false, false, false, false, false, false, false, false, false, false, false, false, false, false, false, false, false, false, false, false, false] Ty.mo rfl (by kernel_rfl) hS19 (fun _ h => ⟨h.cel_at 0 rfl, h.own_rd_i 1 rfl, h.cel_at 3 rfl⟩) (fun w20 hS20 s21 => ?_)
    clear hS19
    refine WD.pure (i := 0) netKeeps_core_t28 #[true, false, false, false, false, false, false, false, false, false, false, false, false, false, false, false, false, false, false, false, false, false, false, false, false, false, false, false, false, false, false, false] rfl rfl rfl (by kernel_rfl) (PQ.then (PQ.blk (PQ.then (PQ.then (PQ.blk (PQ.then PQ.body)))))) rfl (fun w => run_move rfl) ?_
    refine WD.pure (i := 1) netKeeps_core_t28 #[true, true, false, false, false, false, false, false, false, false, false, false, false, false, false, false, false, false, false, false, false, false, false, false, false, false, false, false, false, false, false, false] rfl rfl rfl (by kernel_rfl) (PQ.then (PQ.blk (PQ.then (PQ.then (PQ.blk (PQ.then PQ.body)))))) rfl (fun w => run_move rfl) ?_
    refine WD.pure (i := 2) netKeeps_core_t28 #[true, true, true, false, false, false, false, false, false, false, false, false, false, false, false, false, false, false, false, false, false, false, false, false, false, false, false, false, false, false, false, false] rfl rfl rfl (by kernel_rfl) (PQ.then (PQ.blk (PQ.then (PQ.then (PQ.blk (PQ.then PQ.body)))))) rfl (fun w => run_neq rfl rfl) ?_
    refine WD.pure (i := 3) netKeeps_core_t28 #[true, true, true, true, false, false, false, false, false, false, false, false, false, false, false, false, false, false, false, false, false, false, false, false, false, false, false, false, false, false, false, false] rfl rfl rfl (by kernel_rfl) (PQ.then (PQ.blk (PQ.then (PQ.then (PQ.blk (PQ.then PQ.body)))))) rfl (fun w => run_move rfl) ?_
    refine WD.pureOn (i := 4) netKeeps_core_t28 #[true, true, true, true, true, false, false, false, false, false, false, false, false, false, false, false, false, false, false, false, false, false, false, false, false, false, false, false, false, false, false, false] rfl rfl rfl (decide_eq_false (fun h => h rfl)) (by kernel_rfl) (PQ.then (PQ.blk (PQ.then (PQ.then (PQ.blk (PQ.then PQ.body)))))) rfl (fun w => run_move rfl) ?_
    refine WD.pureOn (i := 5) netKeeps_core_t28 #[true, true, true, true, true, true, false, false, false, false, false, false, false, false, false, false, false, false, false, false, false, false, false, false, false, false, false, false, false, false, false, false] rfl rfl rfl (decide_eq_false (fun h => h rfl)) (by kernel_rfl) (PQ.then (PQ.blk (PQ.then (PQ.then (PQ.blk (PQ.then PQ.body)))))) rfl (fun w => run_move rfl) ?_
    refine WD.pureOn (i := 6) netKeeps_core_t28 #[true, true, true, true, true, true, true, false, false, false, false, false, false, false, false, false, false, false, false, false, false, false, false, false, false, false, false, false, false, false, false, false] rfl rfl rfl (decide_eq_false (fun h => h rfl)) (by kernel_rfl) (PQ.then (PQ.blk (PQ.then (PQ.then (PQ.blk (PQ.then PQ.body)))))) rfl (fun w => run_neqS rfl rfl) ?_
    refine WD.pure (i := 7) netKeeps_core_t28 #[true, true, true, true, true, true, true, true, false, false, false, false, false, false, false, false, false, false, false, false, false, false, false, false, false, false, false, false, false, false, false, false] rfl rfl rfl (by kernel_rfl) (PQ.then (PQ.blk (PQ.then (PQ.then (PQ.blk (PQ.then PQ.body)))))) rfl (fun w => run_pickF rfl (decide_eq_false (fun h => h rfl)) rfl) ?_
    refine WD.pure (i := 8) netKeeps_core_t28 #[true, true, true, true, true, true, true, true, true, false, false, false, false, false, false, false, false, false, false, false, false, false, false, false, false, false, false, false, false, false, false, false] rfl rfl rfl (by kernel_rfl) (PQ.then (PQ.blk (PQ.then (PQ.then (PQ.blk (PQ.then PQ.body)))))) rfl (fun w => run_move rfl) ?_
    refine WD.pureOn (i := 9) netKeeps_core_t28 #[true, true, true, true, true, true, true, true, true, true, false, false, false, false, false, false, false, false, false, false, false, false, false, false, false, false, false, false, false, false, false, false] rfl rfl rfl (decide_eq_false (fun h => h rfl)) (by kernel_rfl) (PQ.then (PQ.blk (PQ.then (PQ.then (PQ.blk (PQ.then PQ.body)))))) rfl (fun w => run_move rfl) ?_
    refine WD.pureOn (i := 10) netKeeps_core_t28 #[true, true, true, true, true, true, true, true, true, true, true, false, false, false, false, false, false, false, false, false, false, false, false, false, false, false, false, false, false, false, false, false] rfl rfl rfl (decide_eq_false (fun h => h rfl)) (by kernel_rfl) (PQ.then (PQ.blk (PQ.then (PQ.then (PQ.blk (PQ.then PQ.body)))))) rfl (fun w => run_move rfl) ?_
    refine WD.pureOn (i := 11) netKeeps_core_t28 #[true, true, true, true, true, true, true, true, true, true, true, true, false, false, false, false, false, false, false, false, false, false, false, false, false, false, false, false, false, false, false, false] rfl rfl rfl (decide_eq_false (fun h => h rfl)) (by kernel_rfl) (PQ.then (PQ.blk (PQ.then (PQ.then (PQ.blk (PQ.then PQ.body)))))) rfl (fun w => run_neq rfl rfl) ?_
    refine WD.pure (i := 12) netKeeps_core_t28 #[true, true, true, true, true, true, true, true, true, true, true, true, true, false, false, false, false, false, false, false, false, false, false, false, false, false, false, false, false, false, false, false] rfl rfl rfl (by kernel_rfl) (PQ.then (PQ.blk (PQ.then (PQ.then (PQ.blk (PQ.then PQ.body)))))) rfl (fun w => run_pickF rfl (decide_eq_false (fun h => h rfl)) rfl) ?_
    refine WD.pure (i := 13) netKeeps_core_t28 #[true, true, true, true, true, true, true, true, true, true, true, true, true, true, false, false, false, false, false, false, false, false, false, false, false, false, false, false, false, false, false, false] rfl rfl rfl (by kernel_rfl) (PQ.then (PQ.blk (PQ.then (PQ.then (PQ.blk (PQ.then PQ.body)))))) rfl (fun w => run_move rfl) ?_
    refine WD.pureOn (i := 14) netKeeps_core_t28 #[true, true, true, true, true, true, true, true, true, true, true, true, true, true, true, false, false, false, false, false, false, false, false, false, false, false, false, false, false, false, false, false] rfl rfl rfl (decide_eq_false (fun h => h rfl)) (by kernel_rfl) (PQ.then (PQ.blk (PQ.then (PQ.then (PQ.blk (PQ.then PQ.body)))))) rfl (fun w => run_move rfl) ?_
    refine WD.pureOn (i := 16) netKeeps_core_t28 #[true, true, true, true, true, true, true, true, true, true, true, true, true, true, true, false, true, false, false, false, false, false, false, false, false, false, false, false, false, false, false, false] rfl rfl rfl (decide_eq_false (fun h => h rfl)) (by kernel_rfl) (PQ.then (PQ.blk (PQ.then (PQ.then (PQ.blk (PQ.then PQ.body)))))) rfl (fun w => run_move rfl) ?_
    refine WD.pureOn (i := 17) netKeeps_core_t28 #[true, true, true, true, true, true, true, true, true, true, true, true, true, true, true, false, true, true, false, false, false, false, false, false, false, false, false, false, false, false, false, false] rfl rfl rfl (decide_eq_false (fun h => h rfl)) (by kernel_rfl) (PQ.then (PQ.blk (PQ.then (PQ.then (PQ.blk (PQ.then PQ.body)))))) rfl (fun w => run_nilCheck rfl) ?_
    refine WD.pureOn (i := 18) netKeeps_core_t28 #[true, true, true, true, true, true, true, true, true, true, true, true, true, true, true, false, true, true, true, false, false, false, false, false, false, false, false, false, false, false, false, false] rfl rfl rfl (decide_eq_false (fun h => h rfl)) (by kernel_rfl) (PQ.then (PQ.blk (PQ.then (PQ.then (PQ.blk (PQ.then PQ.body)))))) rfl (fun w => run_fieldAddr (q := ⟨gr, 0, none⟩) (show fieldB Try.prog 43 0 = some 0 from by kernel_rfl) rfl rfl) ?_
    refine WD.takeOn (i := 19) netKeeps_core_t28 #[true, true, true, true, true, true, true, true, true, true, true, true, true, true, true, false, true, true, true, true, false, false, false, false, false, false, false, false, false, false, false, false] s21 rfl rfl rfl (decide_eq_false (fun h => h rfl)) (by kernel_rfl) (PQ.then (PQ.blk (PQ.then (PQ.then (PQ.blk (PQ.then PQ.body)))))) rfl (fun w hs => run_load Ty.ag41 rfl ((hs.1 0).trans rfl)) ?_
    refine WD.pureOn (i := 20) netKeeps_core_t28 #[true, true, true, true, true, true, true, true, true, true, true, true, true, true, true, false, true, true, true, true, true, false, false, false, false, false, false, false, false, false, false, false] rfl rfl rfl (decide_eq_false (fun h => h rfl)) (by kernel_rfl) (PQ.then (PQ.blk (PQ.then (PQ.then (PQ.blk (PQ.then PQ.body)))))) rfl (fun w => run_len rfl Try.underlying41 rfl) ?_
    refine WD.one (i := 15) netKeeps_core_t28 #[true, true, true, true, true, true, true, true, true, true, true, true, true, true, true, true, true, true, true, true, true, false, false, false, false, false, false, false, false, false, false, false] rfl (by kernel_rfl) ?_
    refine WO.on rfl rfl (decide_eq_false (fun h => h rfl)) ?_
    have hS22 := hS20.permT [2, 0, 0, 0] (L' := (netP gn V2 gone2) :: cel gr [Value.slice ar V2.length capr, Value.int .i64 gone2] 43 :: own ar V2.length capr 55 3 (V2.flatMap rcell) :: cel g8 [Value.int .i64 o.kind, Value.int .i64 o.who, str o.s, Value.int .i64 o.n, Value.int .i64 o.at_, Value.int .u8 (o.by_.toNat : Int), Value.int .i64 o.more] 45 :: L) rfl
    clear hS20
    refine WO.call rfl rfl Ty.hd11 rfl (len_spec hS22) (fun v24 w23 pv24 => ?_)
    obtain ⟨rfl, hS23⟩ := pv24
    clear hS22
    refine WO.nil ?_
    have s25 : (∀ j, World.cell? w23 ⟨gr, j, none⟩ = [Value.slice ar V2.length capr, Value.int .i64 gone2][j]?) ∧ Rd w23 ar V2.length 3 (V2.flatMap rcell) ∧ (∀ j, World.cell? w23 ⟨g8, j, none⟩ = [Value.int .i64 o.kind, Value.int .i64 o.who, str o.s, Value.int .i64 o.n, Value.int .i64 o.at_, Value.int .u8 (o.by_.toNat : Int), Value.int .i64 o.more][j]?) := ⟨hS23.cel_at 1 rfl, hS23.own_rd_i 2 rfl, hS23.cel_at 3 rfl⟩
    refine NX.held s25 ?_
    refine WD.pureOn (i := 21) netKeeps_core_t28 #[true, true, true, true, true, true, true, true, true, true, true, true, true, true, true, true, true, true, true, true, true, true, false, false, false, false, false, false, false, false, false, false] rfl rfl rfl (decide_eq_false (fun h => h rfl)) (by kernel_rfl) (PQ.then (PQ.blk (PQ.then (PQ.then (PQ.blk (PQ.then PQ.body)))))) rfl (fun w => run_neq rfl rfl) ?_
    refine WD.pure (i := 22) netKeeps_core_t28 #[true, true, true, true, true, true, true, true, true, true, true, true, true, true, true, true, true, true, true, true, true, true, true, false, false, false, false, false, false, false, false, false] rfl rfl rfl (by kernel_rfl) (PQ.then (PQ.blk (PQ.then (PQ.then (PQ.blk (PQ.then PQ.body)))))) rfl (fun w => run_pickF rfl (decide_eq_false (fun h => h rfl)) rfl) ?_
    refine WD.pure (i := 23) netKeeps_core_t28 #[true, true, true, true, true, true, true, true, true, true, true, true, true, true, true, true, true, true, true, true, true, true, true, true, false, false, false, false, false, false, false, false] rfl rfl rfl (by kernel_rfl) (PQ.then (PQ.blk (PQ.then (PQ.then (PQ.blk (PQ.then PQ.body)))))) rfl (fun w => run_move rfl) ?_
    refine WD.pureOn (i := 24) netKeeps_core_t28 #[true, true, true, true, true, true, true, true, true, true, true, true, true, true, true, true, true, true, true, true, true, true, true, true, true, false, false, false, false, false, false, false] rfl rfl rfl (decide_eq_false (fun h => h rfl)) (by kernel_rfl) (PQ.then (PQ.blk (PQ.then (PQ.then (PQ.blk (PQ.then PQ.body)))))) rfl (fun w => run_move rfl) ?_
    refine WD.pureOn (i := 26) netKeeps_core_t28 #[true, true, true, true, true, true, true, true, true, true, true, true, true, true, true, true, true, true, true, true, true, true, true, true, true, false, true, false, false, false, false, false] rfl rfl rfl (decide_eq_false (fun h => h rfl)) (by kernel_rfl) (PQ.then (PQ.blk (PQ.then (PQ.then (PQ.blk (PQ.then PQ.body)))))) rfl (fun w => run_move rfl) ?_
    refine WD.pureOn (i := 27) netKeeps_core_t28 #[true, true, true, true, true, true, true, true, true, true, true, true, true, true, true, true, true, true, true, true, true, true, true, true, true, false, true, true, false, false, false, false] rfl rfl rfl (decide_eq_false (fun h => h rfl)) (by kernel_rfl) (PQ.then (PQ.blk (PQ.then (PQ.then (PQ.blk (PQ.then PQ.body)))))) rfl (fun w => run_nilCheck rfl) ?_
    refine WD.pureOn (i := 28) netKeeps_core_t28 #[true, true, true, true, true, true, true, true, true, true, true, true, true, true, true, true, true, true, true, true, true, true, true, true, true, false, true, true, true, false, false, false] rfl rfl rfl (decide_eq_false (fun h => h rfl)) (by kernel_rfl) (PQ.then (PQ.blk (PQ.then (PQ.then (PQ.blk (PQ.then PQ.body)))))) rfl (fun w => run_fieldAddr (q := ⟨gr, 1, none⟩) (show fieldB Try.prog 43 1 = some 1 from by kernel_rfl) rfl rfl) ?_
    refine WD.takeOn (i := 29) netKeeps_core_t28 #[true, true, true, true, true, true, true, true, true, true, true, true, true, true, true, true, true, true, true, true, true, true, true, true, true, false, true, true, true, true, false, false] s25 rfl rfl rfl (decide_eq_false (fun h => h rfl)) (by kernel_rfl) (PQ.then (PQ.blk (PQ.then (PQ.then (PQ.blk (PQ.then PQ.body)))))) rfl (fun w hs => run_load Ty.ag3 rfl ((hs.1 1).trans rfl)) ?_
    refine WD.one (i := 25) netKeeps_core_t28 #[true, true, true, true, true, true, true, true, true, true, true, true, true, true, true, true, true, true, true, true, true, true, true, true, true, true, true, true, true, true, false, false] rfl (by kernel_rfl) ?_
    refine WO.on rfl rfl (decide_eq_false (fun h => h rfl)) ?_
    refine WO.call rfl rfl Ty.hd12 rfl (gone_spec hS23) (fun v27 w26 pv27 => ?_)
    obtain ⟨rfl, hS26⟩ := pv27
    clear hS23
    refine WO.nil ?_
    have s28 : (∀ j, World.cell? w26 ⟨gr, j, none⟩ = [Value.slice ar V2.length capr, Value.int .i64 gone2][j]?) ∧ Rd w26 ar V2.length 3 (V2.flatMap rcell) ∧ (∀ j, World.cell? w26 ⟨g8, j, none⟩ = [Value.int .i64 o.kind, Value.int .i64 o.who, str o.s, Value.int .i64 o.n, Value.int .i64 o.at_, Value.int .u8 (o.by_.toNat : Int), Value.int .i64 o.more][j]?) := ⟨hS26.cel_at 1 rfl, hS26.own_rd_i 2 rfl, hS26.cel_at 3 rfl⟩
    refine NX.held s28 ?_
    refine WD.pureOn (i := 30) netKeeps_core_t28 #[true, true, true, true, true, true, true, true, true, true, true, true, true, true, true, true, true, true, true, true, true, true, true, true, true, true, true, true, true, true, true, false] rfl rfl rfl (decide_eq_false (fun h => h rfl)) (by kernel_rfl) (PQ.then (PQ.blk (PQ.then (PQ.then (PQ.blk (PQ.then PQ.body)))))) rfl (fun w => run_neq rfl rfl) ?_
    refine WD.pure (i := 31) netKeeps_core_t28 #[true, true, true, true, true, true, true, true, true, true, true, true, true, true, true, true, true, true, true, true, true, true, true, true, true, true, true, true, true, true, true, true] rfl rfl rfl (by kernel_rfl) (PQ.then (PQ.blk (PQ.then (PQ.then (PQ.blk (PQ.then PQ.body)))))) rfl (fun w => run_pickF rfl (decide_eq_false (fun h => h rfl)) rfl) ?_
    refine WD.done netKeeps_core_t28 (by kernel_rfl) ?_
    refine NX.go ?_
    refine WP.condF rfl (decide_eq_false (fun h => h rfl)) ?_
    refine WP.skip ?_
    refine NX.blk ?_
    refine NX.go ?_
    refine WP.region rfl ?_
    refine WO.val (run_move rfl) rfl rfl rfl ?_
    refine WO.val (run_add rfl rfl (IntWalk.i64_in _ (by omega))) rfl rfl rfl ?_
    refine WO.val (run_assign rfl) rfl rfl rfl ?_
    refine WO.nil ?_
    exact NX.again (i + 1, V2, gone2) ⟨⟨by omega, by omega, by show gone2 ≤ 40 * ((i + 1 : Nat) : Int); omega, by assumption⟩, (refP_shut hlr ((hS26.permT [3, 1, 1, 0] (L' := cel g8 [Value.int .i64 o.kind, Value.int .i64 o.who, str o.s, Value.int .i64 o.n, Value.int .i64 o.at_, Value.int .u8 (o.by_.toNat : Int), Value.int .i64 o.more] 45 :: cel gr [Value.slice ar V2.length capr, Value.int .i64 gone2] 43 :: own ar V2.length capr 55 3 (V2.flatMap rcell) :: (netP gn V2 gone2) :: L) rfl).drop)).permT [1] rfl⟩ (by show 100 - (i + 1) < 100 - i; omega) (Sub.cons rfl (Sub.cons rfl (Sub.cons rfl (Sub.consE rfl (by congr 1) (Sub.nil _)))))
   ·
    refine WP.block ?_
    refine WP.seq ?_
    refine WP.region rfl ?_
    refine WO.val (run_eql rfl rfl) rfl rfl rfl ?_
    refine WO.val (run_assign rfl) rfl rfl rfl ?_
    refine WO.nil ?_
    refine NX.go ?_
    refine WP.condP rfl (fun g41 => ?_) (fun g41 => ?_)
    ·
     refine WP.seq ?_
     refine WP.region rfl ?_
     refine WO.val (run_assign rfl) rfl rfl rfl ?_
     refine WO.nil ?_
     refine NX.go ?_
     refine WP.block ?_
     refine WP.loop (α := Nat × List PV × Int) (fun x => match x with | ⟨k, V1, gone1⟩ => [(0, Value.slice a ops.length cap), (3, Value.pointer (some ⟨gn, 0, none⟩)), (4, Value.pointer (some ⟨gr, 0, none⟩)), (5, Value.int .i64 (i : Int)), (6, Value.pointer (some ⟨g8, 0, none⟩)), (7, Value.int .i64 (k : Int))]) (fun x w => match x with | ⟨k, V1, gone1⟩ => (k ≤ 40 ∧ 0 ≤ gone1 ∧ gone1 ≤ 40 * i + k ∧ Sz V1) ∧ St B (cel g8 [Value.int .i64 o.kind, Value.int .i64 o.who, str o.s, Value.int .i64 o.n, Value.int .i64 o.at_, Value.int .u8 (o.by_.toNat : Int), Value.int .i64 o.more] 45 :: (netP gn V1 gone1) :: (refP gr V1 gone1) :: L) w) (fun x => match x with | ⟨k, V1, gone1⟩ => 40 - k) (0, V, gone) ⟨⟨by omega, by omega, by simpa using hg1, hsz⟩, hS9⟩ (Sub.cons rfl (Sub.cons rfl (Sub.cons rfl (Sub.cons rfl (Sub.cons rfl (Sub.consE rfl (by first | rfl | first | rfl | (congr 1; omega) | (simp; done) | (simp; omega)) (Sub.nil _))))))) ?_
     rintro ⟨k, V1, gone1⟩ w29 ⟨⟨hk, hk0, hk1, hksz⟩, hS29⟩
     clear hS9
     have hgs := gone_send (V := V1) (gone := gone1) (who := o.who) (s := o.s)
     refine WP.seq ?_
     refine WP.seq ?_
     refine WP.region rfl ?_
     refine WO.val (run_move rfl) rfl rfl rfl ?_
     refine WO.val (run_fieldAddr (q := ⟨g8, 6, none⟩) (show fieldB Try.prog 45 6 = some 6 from by kernel_rfl) rfl rfl) rfl rfl rfl ?_
     refine WO.val (run_load Ty.ag3 rfl ((hS29.cel_at 0 rfl 6).trans rfl)) rfl rfl rfl ?_
     refine WO.val (run_convI Try.underlying24 (by kernel_rfl) rfl (IntKind.wrap_u64 _)) rfl rfl rfl ?_
     refine WO.val (run_rem rfl rfl (by omega) (IntWalk.rem_in _ _ (by omega))) rfl rfl rfl ?_
     refine WO.val (run_convI Try.underlying3 (by kernel_rfl) rfl (IntWalk.i64_in _ (by omega))) rfl rfl rfl ?_
     refine WO.val (run_leq rfl rfl) rfl rfl rfl ?_
     refine WO.nil ?_
     refine NX.go ?_
     refine WP.condP rfl (fun g49 => ?_) (fun g49 => ?_)
     ·
      refine WP.skip ?_
      refine NX.go ?_
      refine WP.seq ?_
      refine WP.block ?_
      refine WP.seq ?_
      refine WD.start (fun w => (∀ j, World.cell? w ⟨g8, j, none⟩ = [Value.int .i64 o.kind, Value.int .i64 o.who, str o.s, Value.int .i64 o.n, Value.int .i64 o.at_, Value.int .u8 (o.by_.toNat : Int), Value.int .i64 o.more][j]?)) [] #[false, false, false, false, false, false, false, false, false, false, false, false, false] Ty.mo rfl (by kernel_rfl) hS29 (fun _ h => h.cel_at 0 rfl) (fun w30 hS30 s31 => ?_)
      clear hS29
      refine WD.pure (i := 0) netKeeps_core_t13 #[true, false, false, false, false, false, false, false, false, false, false, false, false] rfl rfl rfl (by kernel_rfl) (PQ.then (PQ.blk (PQ.then (PQ.then (PQ.blk (PQ.blk (PQ.then (PQ.blk (PQ.then (PQ.then (PQ.blk (PQ.then PQ.body)))))))))))) rfl (fun w => run_move rfl) ?_
      refine WD.pure (i := 1) netKeeps_core_t13 #[true, true, false, false, false, false, false, false, false, false, false, false, false] rfl rfl rfl (by kernel_rfl) (PQ.then (PQ.blk (PQ.then (PQ.then (PQ.blk (PQ.blk (PQ.then (PQ.blk (PQ.then (PQ.then (PQ.blk (PQ.then PQ.body)))))))))))) rfl (fun w => run_fieldAddr (q := ⟨g8, 1, none⟩) (show fieldB Try.prog 45 1 = some 1 from by kernel_rfl) rfl rfl) ?_
      refine WD.take (i := 2) netKeeps_core_t13 #[true, true, true, false, false, false, false, false, false, false, false, false, false] s31 rfl rfl rfl (by kernel_rfl) (PQ.then (PQ.blk (PQ.then (PQ.then (PQ.blk (PQ.blk (PQ.then (PQ.blk (PQ.then (PQ.then (PQ.blk (PQ.then PQ.body)))))))))))) rfl (fun w hs => run_load Ty.ag3 rfl ((hs 1).trans rfl)) ?_
      refine WD.pure (i := 3) netKeeps_core_t13 #[true, true, true, true, false, false, false, false, false, false, false, false, false] rfl rfl rfl (by kernel_rfl) (PQ.then (PQ.blk (PQ.then (PQ.then (PQ.blk (PQ.blk (PQ.then (PQ.blk (PQ.then (PQ.then (PQ.blk (PQ.then PQ.body)))))))))))) rfl (fun w => run_fieldAddr (q := ⟨g8, 2, none⟩) (show fieldB Try.prog 45 2 = some 2 from by kernel_rfl) rfl rfl) ?_
      refine WD.take (i := 4) netKeeps_core_t13 #[true, true, true, true, true, false, false, false, false, false, false, false, false] s31 rfl rfl rfl (by kernel_rfl) (PQ.then (PQ.blk (PQ.then (PQ.then (PQ.blk (PQ.blk (PQ.then (PQ.blk (PQ.then (PQ.then (PQ.blk (PQ.then PQ.body)))))))))))) rfl (fun w hs => run_load Ty.ag9 rfl ((hs 2).trans rfl)) ?_
      refine WD.pure (i := 6) netKeeps_core_t13 #[true, true, true, true, true, false, true, false, false, false, false, false, false] rfl rfl rfl (by kernel_rfl) (PQ.then (PQ.blk (PQ.then (PQ.then (PQ.blk (PQ.blk (PQ.then (PQ.blk (PQ.then (PQ.then (PQ.blk (PQ.then PQ.body)))))))))))) rfl (fun w => run_move rfl) ?_
      refine WD.pure (i := 7) netKeeps_core_t13 #[true, true, true, true, true, false, true, true, false, false, false, false, false] rfl rfl rfl (by kernel_rfl) (PQ.then (PQ.blk (PQ.then (PQ.then (PQ.blk (PQ.blk (PQ.then (PQ.blk (PQ.then (PQ.then (PQ.blk (PQ.then PQ.body)))))))))))) rfl (fun w => run_fieldAddr (q := ⟨g8, 1, none⟩) (show fieldB Try.prog 45 1 = some 1 from by kernel_rfl) rfl rfl) ?_
      refine WD.take (i := 8) netKeeps_core_t13 #[true, true, true, true, true, false, true, true, true, false, false, false, false] s31 rfl rfl rfl (by kernel_rfl) (PQ.then (PQ.blk (PQ.then (PQ.then (PQ.blk (PQ.blk (PQ.then (PQ.blk (PQ.then (PQ.then (PQ.blk (PQ.then PQ.body)))))))))))) rfl (fun w hs => run_load Ty.ag3 rfl ((hs 1).trans rfl)) ?_
      refine WD.pure (i := 9) netKeeps_core_t13 #[true, true, true, true, true, false, true, true, true, true, false, false, false] rfl rfl rfl (by kernel_rfl) (PQ.then (PQ.blk (PQ.then (PQ.then (PQ.blk (PQ.blk (PQ.then (PQ.blk (PQ.then (PQ.then (PQ.blk (PQ.then PQ.body)))))))))))) rfl (fun w => run_fieldAddr (q := ⟨g8, 2, none⟩) (show fieldB Try.prog 45 2 = some 2 from by kernel_rfl) rfl rfl) ?_
      refine WD.take (i := 10) netKeeps_core_t13 #[true, true, true, true, true, false, true, true, true, true, true, false, false] s31 rfl rfl rfl (by kernel_rfl) (PQ.then (PQ.blk (PQ.then (PQ.then (PQ.blk (PQ.blk (PQ.then (PQ.blk (PQ.then (PQ.then (PQ.blk (PQ.then PQ.body)))))))))))) rfl (fun w hs => run_load Ty.ag9 rfl ((hs 2).trans rfl)) ?_
      refine WD.one (i := 5) netKeeps_core_t13 #[true, true, true, true, true, true, true, true, true, true, true, false, false] rfl (by kernel_rfl) ?_
      have hS32 := hS30.permT [1, 0, 0] (L' := (netP gn V1 gone1) :: cel g8 [Value.int .i64 o.kind, Value.int .i64 o.who, str o.s, Value.int .i64 o.n, Value.int .i64 o.at_, Value.int .u8 (o.by_.toNat : Int), Value.int .i64 o.more] 45 :: (refP gr V1 gone1) :: L) rfl
      clear hS30
      refine WO.call rfl rfl Ty.hd9 rfl (send_spec hS32 _ _ (by omega)) (fun v34 w33 pv34 => ?_)
      obtain ⟨rfl, hS33⟩ := pv34
      clear hS32
      refine WO.nil ?_
      have s35 : (∀ j, World.cell? w33 ⟨g8, j, none⟩ = [Value.int .i64 o.kind, Value.int .i64 o.who, str o.s, Value.int .i64 o.n, Value.int .i64 o.at_, Value.int .u8 (o.by_.toNat : Int), Value.int .i64 o.more][j]?) := hS33.cel_at 1 rfl
      refine NX.held s35 ?_
      refine WD.one (i := 11) netKeeps_core_t13 #[true, true, true, true, true, true, true, true, true, true, true, true, false] rfl (by kernel_rfl) ?_
      have hS36 := hS33.permT [2, 0, 0] (L' := (refP gr V1 gone1) :: (netP gn ((sendF V1 gone1 o.who o.s).2.1) ((sendF V1 gone1 o.who o.s).2.2)) :: cel g8 [Value.int .i64 o.kind, Value.int .i64 o.who, str o.s, Value.int .i64 o.n, Value.int .i64 o.at_, Value.int .u8 (o.by_.toNat : Int), Value.int .i64 o.more] 45 :: L) rfl
      clear hS33
      refine WO.call rfl rfl Ty.hd16 rfl (rsend_spec hS36 _ _ (by omega)) (fun v38 w37 pv38 => ?_)
      obtain ⟨rfl, hS37⟩ := pv38
      clear hS36
      refine WO.nil ?_
      have s39 : (∀ j, World.cell? w37 ⟨g8, j, none⟩ = [Value.int .i64 o.kind, Value.int .i64 o.who, str o.s, Value.int .i64 o.n, Value.int .i64 o.at_, Value.int .u8 (o.by_.toNat : Int), Value.int .i64 o.more][j]?) := hS37.cel_at 2 rfl
      refine NX.held s39 ?_
      refine WD.pure (i := 12) netKeeps_core_t13 #[true, true, true, true, true, true, true, true, true, true, true, true, true] rfl rfl rfl (by kernel_rfl) (PQ.then (PQ.blk (PQ.then (PQ.then (PQ.blk (PQ.blk (PQ.then (PQ.blk (PQ.then (PQ.then (PQ.blk (PQ.then PQ.body)))))))))))) rfl (fun w => run_neqB Try.underlying4 rfl rfl rfl) ?_
      refine WD.done netKeeps_core_t13 (by kernel_rfl) ?_
      refine NX.go ?_
      refine WP.condF rfl (by simp) ?_
      refine WP.skip ?_
      refine NX.blk ?_
      refine NX.go ?_
      refine WP.region rfl ?_
      refine WO.val (run_move rfl) rfl rfl rfl ?_
      refine WO.val (run_add rfl rfl (IntWalk.i64_in _ (by omega))) rfl rfl rfl ?_
      refine WO.val (run_assign rfl) rfl rfl rfl ?_
      refine WO.nil ?_
      exact NX.again (k + 1, (sendF V1 gone1 o.who o.s).2.1, (sendF V1 gone1 o.who o.s).2.2) ⟨⟨by omega, by omega, by show (sendF V1 gone1 o.who o.s).2.2 ≤ 40 * (i : Int) + ((k + 1 : Nat) : Int); omega, sz_send hksz (hb o (List.mem_of_getElem? ho))⟩, (hS37.permT [2, 1, 0] (L' := cel g8 [Value.int .i64 o.kind, Value.int .i64 o.who, str o.s, Value.int .i64 o.n, Value.int .i64 o.at_, Value.int .u8 (o.by_.toNat : Int), Value.int .i64 o.more] 45 :: (netP gn ((sendF V1 gone1 o.who o.s).2.1) ((sendF V1 gone1 o.who o.s).2.2)) :: (refP gr ((sendF V1 gone1 o.who o.s).2.1) ((sendF V1 gone1 o.who o.s).2.2)) :: L) rfl)⟩ (by show 40 - (k + 1) < 40 - k; omega) (Sub.cons rfl (Sub.cons rfl (Sub.cons rfl (Sub.cons rfl (Sub.cons rfl (Sub.consE rfl (by congr 1) (Sub.nil _)))))))
     ·
      refine WP.exit ?_
      refine NX.thenExit ?_
      refine NX.thenExit ?_
      refine NX.blkExit ?_
      refine NX.blk ?_
      exact K10 (V1, gone1) _ _ ⟨⟨by show 0 ≤ gone1; omega, by show gone1 ≤ 40 * (i : Int) + 40; omega, hksz⟩, hS29⟩ (Sub.cons rfl (Sub.cons rfl (Sub.cons rfl (Sub.cons rfl (Sub.cons rfl (Sub.nil _))))))
    ·
     refine WP.seq ?_
     refine WP.region rfl ?_
     refine WO.val (run_eql rfl rfl) rfl rfl rfl ?_
     refine WO.val (run_assign rfl) rfl rfl rfl ?_
     refine WO.nil ?_
     refine NX.go ?_
     refine WP.condP rfl (fun g65 => ?_) (fun g65 => ?_)
     ·
      refine WP.seq ?_
      refine WP.region rfl ?_
      refine WO.val (run_move rfl) rfl rfl rfl ?_
      refine WO.val (run_fieldAddr (q := ⟨g8, 3, none⟩) (show fieldB Try.prog 45 3 = some 3 from by kernel_rfl) rfl rfl) rfl rfl rfl ?_
      refine WO.val (run_load Ty.ag3 rfl ((hS9.cel_at 0 rfl 3).trans rfl)) rfl rfl rfl ?_
      have hS40 := hS9.permT [1, 0, 0] (L' := (netP gn V gone) :: cel g8 [Value.int .i64 o.kind, Value.int .i64 o.who, str o.s, Value.int .i64 o.n, Value.int .i64 o.at_, Value.int .u8 (o.by_.toNat : Int), Value.int .i64 o.more] 45 :: (refP gr V gone) :: L) rfl
      clear hS9
      refine WO.call rfl rfl Ty.hd10 rfl (take_spec hS40 _) (fun v42 w41 pv42 => ?_)
      obtain ⟨rfl, hS41⟩ := pv42
      clear hS40
      refine WO.val (run_move rfl) rfl rfl rfl ?_
      refine WO.val (run_extract rfl rfl) rfl rfl rfl ?_
      refine WO.val (run_extract rfl rfl) rfl rfl rfl ?_
      refine WO.val (run_extract rfl rfl) rfl rfl rfl ?_
      refine WO.val (run_assign rfl) rfl rfl rfl ?_
      refine WO.val (run_assign rfl) rfl rfl rfl ?_
      refine WO.val (run_assign rfl) rfl rfl rfl ?_
      refine WO.nil ?_
      refine NX.go ?_
      refine WP.seq ?_
      refine WP.region rfl ?_
      refine WO.val (run_move rfl) rfl rfl rfl ?_
      refine WO.val (run_fieldAddr (q := ⟨g8, 3, none⟩) (show fieldB Try.prog 45 3 = some 3 from by kernel_rfl) rfl rfl) rfl rfl rfl ?_
      refine WO.val (run_load Ty.ag3 rfl ((hS41.cel_at 1 rfl 3).trans rfl)) rfl rfl rfl ?_
      have hS43 := hS41.permT [2, 0, 0] (L' := (refP gr V gone) :: (netP gn (takeF V o.n) gone) :: cel g8 [Value.int .i64 o.kind, Value.int .i64 o.who, str o.s, Value.int .i64 o.n, Value.int .i64 o.at_, Value.int .u8 (o.by_.toNat : Int), Value.int .i64 o.more] 45 :: L) rfl
      clear hS41
      refine WO.call rfl rfl Ty.hd17 rfl (rtake_spec hS43 _) (fun v45 w44 pv45 => ?_)
      obtain ⟨rfl, hS44⟩ := pv45
      clear hS43
      refine WO.val (run_move rfl) rfl rfl rfl ?_
      refine WO.val (run_extract rfl rfl) rfl rfl rfl ?_
      refine WO.val (run_extract rfl rfl) rfl rfl rfl ?_
      refine WO.val (run_extract rfl rfl) rfl rfl rfl ?_
      refine WO.val (run_assign rfl) rfl rfl rfl ?_
      refine WO.val (run_assign rfl) rfl rfl rfl ?_
      refine WO.val (run_assign rfl) rfl rfl rfl ?_
      refine WO.nil ?_
      refine NX.go ?_
      refine WP.seq ?_
      refine WP.region rfl ?_
      refine WO.val (run_move rfl) rfl rfl rfl ?_
      refine WO.val (run_move rfl) rfl rfl rfl ?_
      refine WO.val (run_neq rfl rfl) rfl rfl rfl ?_
      refine WO.val (run_move rfl) rfl rfl rfl ?_
      refine WO.on rfl rfl (decide_eq_false (fun h => h rfl)) ?_
      refine WO.val (run_move rfl) rfl rfl rfl ?_
      refine WO.on rfl rfl (decide_eq_false (fun h => h rfl)) ?_
      refine WO.val (run_move rfl) rfl rfl rfl ?_
      refine WO.on rfl rfl (decide_eq_false (fun h => h rfl)) ?_
      refine WO.val (run_neqS rfl rfl) rfl rfl rfl ?_
      refine WO.val (run_pickF rfl (decide_eq_false (fun h => h rfl)) rfl) rfl rfl rfl ?_
      refine WO.val (run_move rfl) rfl rfl rfl ?_
      refine WO.on rfl rfl (decide_eq_false (fun h => h rfl)) ?_
      refine WO.val (run_move rfl) rfl rfl rfl ?_
      refine WO.on rfl rfl (decide_eq_false (fun h => h rfl)) ?_
      refine WO.val (run_move rfl) rfl rfl rfl ?_
      refine WO.on rfl rfl (decide_eq_false (fun h => h rfl)) ?_
      refine WO.val (run_neq rfl rfl) rfl rfl rfl ?_
      refine WO.val (run_pickF rfl (decide_eq_false (fun h => h rfl)) rfl) rfl rfl rfl ?_
      refine WO.nil ?_
      refine NX.go ?_
      refine WP.condF rfl (decide_eq_false (fun h => h rfl)) ?_
      refine WP.skip ?_
      refine NX.blk ?_
      exact K10 (takeF V o.n, gone) _ _ ⟨⟨by show 0 ≤ gone; omega, by show gone ≤ 40 * (i : Int) + 40; omega, (sz_take hsz)⟩, (hS44.permT [2, 1, 0] (L' := cel g8 [Value.int .i64 o.kind, Value.int .i64 o.who, str o.s, Value.int .i64 o.n, Value.int .i64 o.at_, Value.int .u8 (o.by_.toNat : Int), Value.int .i64 o.more] 45 :: (netP gn (takeF V o.n) gone) :: (refP gr (takeF V o.n) gone) :: L) rfl)⟩ (Sub.cons rfl (Sub.cons rfl (Sub.cons rfl (Sub.cons rfl (Sub.cons rfl (Sub.nil _))))))
     ·
      refine WP.seq ?_
      refine WP.region rfl ?_
      refine WO.val (run_eql rfl rfl) rfl rfl rfl ?_
      refine WO.val (run_assign rfl) rfl rfl rfl ?_
      refine WO.nil ?_
      refine NX.go ?_
      refine WP.condP rfl (fun g96 => ?_) (fun g96 => ?_)
      ·
       refine WP.seq ?_
       refine WD.start (fun w => (∀ j, World.cell? w ⟨g8, j, none⟩ = [Value.int .i64 o.kind, Value.int .i64 o.who, str o.s, Value.int .i64 o.n, Value.int .i64 o.at_, Value.int .u8 (o.by_.toNat : Int), Value.int .i64 o.more][j]?)) [] #[false, false, false, false, false, false, false, false, false] Ty.mo rfl (by kernel_rfl) hS9 (fun _ h => h.cel_at 0 rfl) (fun w46 hS46 s47 => ?_)
       clear hS9
       refine WD.pure (i := 0) netKeeps_core_t21 #[true, false, false, false, false, false, false, false, false] rfl rfl rfl (by kernel_rfl) (PQ.then (PQ.blk (PQ.then (PQ.blk (PQ.then (PQ.then (PQ.blk (PQ.then PQ.body)))))))) rfl (fun w => run_move rfl) ?_
       refine WD.pure (i := 1) netKeeps_core_t21 #[true, true, false, false, false, false, false, false, false] rfl rfl rfl (by kernel_rfl) (PQ.then (PQ.blk (PQ.then (PQ.blk (PQ.then (PQ.then (PQ.blk (PQ.then PQ.body)))))))) rfl (fun w => run_fieldAddr (q := ⟨g8, 3, none⟩) (show fieldB Try.prog 45 3 = some 3 from by kernel_rfl) rfl rfl) ?_
       refine WD.take (i := 2) netKeeps_core_t21 #[true, true, true, false, false, false, false, false, false] s47 rfl rfl rfl (by kernel_rfl) (PQ.then (PQ.blk (PQ.then (PQ.blk (PQ.then (PQ.then (PQ.blk (PQ.then PQ.body)))))))) rfl (fun w hs => run_load Ty.ag3 rfl ((hs 3).trans rfl)) ?_
       refine WD.pure (i := 4) netKeeps_core_t21 #[true, true, true, false, true, false, false, false, false] rfl rfl rfl (by kernel_rfl) (PQ.then (PQ.blk (PQ.then (PQ.blk (PQ.then (PQ.then (PQ.blk (PQ.then PQ.body)))))))) rfl (fun w => run_move rfl) ?_
       refine WD.pure (i := 5) netKeeps_core_t21 #[true, true, true, false, true, true, false, false, false] rfl rfl rfl (by kernel_rfl) (PQ.then (PQ.blk (PQ.then (PQ.blk (PQ.then (PQ.then (PQ.blk (PQ.then PQ.body)))))))) rfl (fun w => run_fieldAddr (q := ⟨g8, 3, none⟩) (show fieldB Try.prog 45 3 = some 3 from by kernel_rfl) rfl rfl) ?_
       refine WD.take (i := 6) netKeeps_core_t21 #[true, true, true, false, true, true, true, false, false] s47 rfl rfl rfl (by kernel_rfl) (PQ.then (PQ.blk (PQ.then (PQ.blk (PQ.then (PQ.then (PQ.blk (PQ.then PQ.body)))))))) rfl (fun w hs => run_load Ty.ag3 rfl ((hs 3).trans rfl)) ?_
       refine WD.one (i := 3) netKeeps_core_t21 #[true, true, true, true, true, true, true, false, false] rfl (by kernel_rfl) ?_
       have hS48 := hS46.permT [1, 0, 0] (L' := (netP gn V gone) :: cel g8 [Value.int .i64 o.kind, Value.int .i64 o.who, str o.s, Value.int .i64 o.n, Value.int .i64 o.at_, Value.int .u8 (o.by_.toNat : Int), Value.int .i64 o.more] 45 :: (refP gr V gone) :: L) rfl
       clear hS46
       refine WO.call rfl rfl Ty.hd13 rfl (double_spec hS48 _) (fun v50 w49 pv50 => ?_)
       obtain ⟨rfl, hS49⟩ := pv50
       clear hS48
       refine WO.nil ?_
       have s51 : (∀ j, World.cell? w49 ⟨g8, j, none⟩ = [Value.int .i64 o.kind, Value.int .i64 o.who, str o.s, Value.int .i64 o.n, Value.int .i64 o.at_, Value.int .u8 (o.by_.toNat : Int), Value.int .i64 o.more][j]?) := hS49.cel_at 1 rfl
       refine NX.held s51 ?_
       refine WD.one (i := 7) netKeeps_core_t21 #[true, true, true, true, true, true, true, true, false] rfl (by kernel_rfl) ?_
       have hS52 := hS49.permT [2, 0, 0] (L' := (refP gr V gone) :: (netP gn ((doubleF V o.n).2) gone) :: cel g8 [Value.int .i64 o.kind, Value.int .i64 o.who, str o.s, Value.int .i64 o.n, Value.int .i64 o.at_, Value.int .u8 (o.by_.toNat : Int), Value.int .i64 o.more] 45 :: L) rfl
       clear hS49
       refine WO.call rfl rfl Ty.hd18 rfl (rdouble_spec hS52 _) (fun v54 w53 pv54 => ?_)
       obtain ⟨rfl, hS53⟩ := pv54
       clear hS52
       refine WO.nil ?_
       have s55 : (∀ j, World.cell? w53 ⟨g8, j, none⟩ = [Value.int .i64 o.kind, Value.int .i64 o.who, str o.s, Value.int .i64 o.n, Value.int .i64 o.at_, Value.int .u8 (o.by_.toNat : Int), Value.int .i64 o.more][j]?) := hS53.cel_at 2 rfl
       refine NX.held s55 ?_
       refine WD.pure (i := 8) netKeeps_core_t21 #[true, true, true, true, true, true, true, true, true] rfl rfl rfl (by kernel_rfl) (PQ.then (PQ.blk (PQ.then (PQ.blk (PQ.then (PQ.then (PQ.blk (PQ.then PQ.body)))))))) rfl (fun w => run_neq rfl rfl) ?_
       refine WD.done netKeeps_core_t21 (by kernel_rfl) ?_
       refine NX.go ?_
       refine WP.condF rfl (decide_eq_false (fun h => h rfl)) ?_
       refine WP.skip ?_
       refine NX.blk ?_
       exact K10 ((doubleF V o.n).2, gone) _ _ ⟨⟨by show 0 ≤ gone; omega, by show gone ≤ 40 * (i : Int) + 40; omega, (sz_double hsz)⟩, (hS53.permT [2, 1, 0] (L' := cel g8 [Value.int .i64 o.kind, Value.int .i64 o.who, str o.s, Value.int .i64 o.n, Value.int .i64 o.at_, Value.int .u8 (o.by_.toNat : Int), Value.int .i64 o.more] 45 :: (netP gn ((doubleF V o.n).2) gone) :: (refP gr ((doubleF V o.n).2) gone) :: L) rfl)⟩ (Sub.cons rfl (Sub.cons rfl (Sub.cons rfl (Sub.cons rfl (Sub.cons rfl (Sub.nil _))))))
      ·
       refine WP.seq ?_
       refine WP.region rfl ?_
       refine WO.val (run_eql rfl rfl) rfl rfl rfl ?_
       refine WO.val (run_assign rfl) rfl rfl rfl ?_
       refine WO.nil ?_
       refine NX.go ?_
       refine WP.condP rfl (fun g107 => ?_) (fun g107 => ?_)
       ·
        refine WP.seq ?_
        refine WD.start (fun w => (∀ j, World.cell? w ⟨g8, j, none⟩ = [Value.int .i64 o.kind, Value.int .i64 o.who, str o.s, Value.int .i64 o.n, Value.int .i64 o.at_, Value.int .u8 (o.by_.toNat : Int), Value.int .i64 o.more][j]?)) [] #[false, false, false, false, false, false, false, false, false, false, false, false, false, false, false, false, false] Ty.mo rfl (by kernel_rfl) hS9 (fun _ h => h.cel_at 0 rfl) (fun w56 hS56 s57 => ?_)
        clear hS9
        refine WD.pure (i := 0) netKeeps_core_t24 #[true, false, false, false, false, false, false, false, false, false, false, false, false, false, false, false, false] rfl rfl rfl (by kernel_rfl) (PQ.then (PQ.blk (PQ.then (PQ.blk (PQ.then (PQ.then (PQ.blk (PQ.then PQ.body)))))))) rfl (fun w => run_move rfl) ?_
        refine WD.pure (i := 1) netKeeps_core_t24 #[true, true, false, false, false, false, false, false, false, false, false, false, false, false, false, false, false] rfl rfl rfl (by kernel_rfl) (PQ.then (PQ.blk (PQ.then (PQ.blk (PQ.then (PQ.then (PQ.blk (PQ.then PQ.body)))))))) rfl (fun w => run_fieldAddr (q := ⟨g8, 3, none⟩) (show fieldB Try.prog 45 3 = some 3 from by kernel_rfl) rfl rfl) ?_
        refine WD.take (i := 2) netKeeps_core_t24 #[true, true, true, false, false, false, false, false, false, false, false, false, false, false, false, false, false] s57 rfl rfl rfl (by kernel_rfl) (PQ.then (PQ.blk (PQ.then (PQ.blk (PQ.then (PQ.then (PQ.blk (PQ.then PQ.body)))))))) rfl (fun w hs => run_load Ty.ag3 rfl ((hs 3).trans rfl)) ?_
        refine WD.pure (i := 3) netKeeps_core_t24 #[true, true, true, true, false, false, false, false, false, false, false, false, false, false, false, false, false] rfl rfl rfl (by kernel_rfl) (PQ.then (PQ.blk (PQ.then (PQ.blk (PQ.then (PQ.then (PQ.blk (PQ.then PQ.body)))))))) rfl (fun w => run_fieldAddr (q := ⟨g8, 4, none⟩) (show fieldB Try.prog 45 4 = some 4 from by kernel_rfl) rfl rfl) ?_
        refine WD.take (i := 4) netKeeps_core_t24 #[true, true, true, true, true, false, false, false, false, false, false, false, false, false, false, false, false] s57 rfl rfl rfl (by kernel_rfl) (PQ.then (PQ.blk (PQ.then (PQ.blk (PQ.then (PQ.then (PQ.blk (PQ.then PQ.body)))))))) rfl (fun w hs => run_load Ty.ag3 rfl ((hs 4).trans rfl)) ?_
        refine WD.pure (i := 5) netKeeps_core_t24 #[true, true, true, true, true, true, false, false, false, false, false, false, false, false, false, false, false] rfl rfl rfl (by kernel_rfl) (PQ.then (PQ.blk (PQ.then (PQ.blk (PQ.then (PQ.then (PQ.blk (PQ.then PQ.body)))))))) rfl (fun w => run_fieldAddr (q := ⟨g8, 5, none⟩) (show fieldB Try.prog 45 5 = some 5 from by kernel_rfl) rfl rfl) ?_
        refine WD.take (i := 6) netKeeps_core_t24 #[true, true, true, true, true, true, true, false, false, false, false, false, false, false, false, false, false] s57 rfl rfl rfl (by kernel_rfl) (PQ.then (PQ.blk (PQ.then (PQ.blk (PQ.then (PQ.then (PQ.blk (PQ.then PQ.body)))))))) rfl (fun w hs => run_load Ty.ag5 rfl ((hs 5).trans rfl)) ?_
        refine WD.pure (i := 8) netKeeps_core_t24 #[true, true, true, true, true, true, true, false, true, false, false, false, false, false, false, false, false] rfl rfl rfl (by kernel_rfl) (PQ.then (PQ.blk (PQ.then (PQ.blk (PQ.then (PQ.then (PQ.blk (PQ.then PQ.body)))))))) rfl (fun w => run_move rfl) ?_
        refine WD.pure (i := 9) netKeeps_core_t24 #[true, true, true, true, true, true, true, false, true, true, false, false, false, false, false, false, false] rfl rfl rfl (by kernel_rfl) (PQ.then (PQ.blk (PQ.then (PQ.blk (PQ.then (PQ.then (PQ.blk (PQ.then PQ.body)))))))) rfl (fun w => run_fieldAddr (q := ⟨g8, 3, none⟩) (show fieldB Try.prog 45 3 = some 3 from by kernel_rfl) rfl rfl) ?_
        refine WD.take (i := 10) netKeeps_core_t24 #[true, true, true, true, true, true, true, false, true, true, true, false, false, false, false, false, false] s57 rfl rfl rfl (by kernel_rfl) (PQ.then (PQ.blk (PQ.then (PQ.blk (PQ.then (PQ.then (PQ.blk (PQ.then PQ.body)))))))) rfl (fun w hs => run_load Ty.ag3 rfl ((hs 3).trans rfl)) ?_
        refine WD.pure (i := 11) netKeeps_core_t24 #[true, true, true, true, true, true, true, false, true, true, true, true, false, false, false, false, false] rfl rfl rfl (by kernel_rfl) (PQ.then (PQ.blk (PQ.then (PQ.blk (PQ.then (PQ.then (PQ.blk (PQ.then PQ.body)))))))) rfl (fun w => run_fieldAddr (q := ⟨g8, 4, none⟩) (show fieldB Try.prog 45 4 = some 4 from by kernel_rfl) rfl rfl) ?_
        refine WD.take (i := 12) netKeeps_core_t24 #[true, true, true, true, true, true, true, false, true, true, true, true, true, false, false, false, false] s57 rfl rfl rfl (by kernel_rfl) (PQ.then (PQ.blk (PQ.then (PQ.blk (PQ.then (PQ.then (PQ.blk (PQ.then PQ.body)))))))) rfl (fun w hs => run_load Ty.ag3 rfl ((hs 4).trans rfl)) ?_
        refine WD.pure (i := 13) netKeeps_core_t24 #[true, true, true, true, true, true, true, false, true, true, true, true, true, true, false, false, false] rfl rfl rfl (by kernel_rfl) (PQ.then (PQ.blk (PQ.then (PQ.blk (PQ.then (PQ.then (PQ.blk (PQ.then PQ.body)))))))) rfl (fun w => run_fieldAddr (q := ⟨g8, 5, none⟩) (show fieldB Try.prog 45 5 = some 5 from by kernel_rfl) rfl rfl) ?_
        refine WD.take (i := 14) netKeeps_core_t24 #[true, true, true, true, true, true, true, false, true, true, true, true, true, true, true, false, false] s57 rfl rfl rfl (by kernel_rfl) (PQ.then (PQ.blk (PQ.then (PQ.blk (PQ.then (PQ.then (PQ.blk (PQ.then PQ.body)))))))) rfl (fun w hs => run_load Ty.ag5 rfl ((hs 5).trans rfl)) ?_
        refine WD.one (i := 7) netKeeps_core_t24 #[true, true, true, true, true, true, true, true, true, true, true, true, true, true, true, false, false] rfl (by kernel_rfl) ?_
        have hS58 := hS56.permT [1, 0, 0] (L' := (netP gn V gone) :: cel g8 [Value.int .i64 o.kind, Value.int .i64 o.who, str o.s, Value.int .i64 o.n, Value.int .i64 o.at_, Value.int .u8 (o.by_.toNat : Int), Value.int .i64 o.more] 45 :: (refP gr V gone) :: L) rfl
        clear hS56
        refine WO.call rfl rfl Ty.hd14 rfl (spoil_spec hS58 _ _ o.by_ hsz) (fun v60 w59 pv60 => ?_)
        obtain ⟨rfl, hS59⟩ := pv60
        clear hS58
        refine WO.nil ?_
        have s61 : (∀ j, World.cell? w59 ⟨g8, j, none⟩ = [Value.int .i64 o.kind, Value.int .i64 o.who, str o.s, Value.int .i64 o.n, Value.int .i64 o.at_, Value.int .u8 (o.by_.toNat : Int), Value.int .i64 o.more][j]?) := hS59.cel_at 1 rfl
        refine NX.held s61 ?_
        refine WD.one (i := 15) netKeeps_core_t24 #[true, true, true, true, true, true, true, true, true, true, true, true, true, true, true, true, false] rfl (by kernel_rfl) ?_
        have hS62 := hS59.permT [2, 0, 0] (L' := (refP gr V gone) :: (netP gn ((spoilF V o.n o.at_ o.by_).2) gone) :: cel g8 [Value.int .i64 o.kind, Value.int .i64 o.who, str o.s, Value.int .i64 o.n, Value.int .i64 o.at_, Value.int .u8 (o.by_.toNat : Int), Value.int .i64 o.more] 45 :: L) rfl
        clear hS59
        refine WO.call rfl rfl Ty.hd19 rfl (rspoil_spec hS62 _ _ o.by_) (fun v64 w63 pv64 => ?_)
        obtain ⟨rfl, hS63⟩ := pv64
        clear hS62
        refine WO.nil ?_
        have s65 : (∀ j, World.cell? w63 ⟨g8, j, none⟩ = [Value.int .i64 o.kind, Value.int .i64 o.who, str o.s, Value.int .i64 o.n, Value.int .i64 o.at_, Value.int .u8 (o.by_.toNat : Int), Value.int .i64 o.more][j]?) := hS63.cel_at 2 rfl
        refine NX.held s65 ?_
        refine WD.pure (i := 16) netKeeps_core_t24 #[true, true, true, true, true, true, true, true, true, true, true, true, true, true, true, true, true] rfl rfl rfl (by kernel_rfl) (PQ.then (PQ.blk (PQ.then (PQ.blk (PQ.then (PQ.then (PQ.blk (PQ.then PQ.body)))))))) rfl (fun w => run_neq rfl rfl) ?_
        refine WD.done netKeeps_core_t24 (by kernel_rfl) ?_
        refine NX.go ?_
        refine WP.condF rfl (decide_eq_false (fun h => h rfl)) ?_
        refine WP.skip ?_
        refine NX.blk ?_
        exact K10 ((spoilF V o.n o.at_ o.by_).2, gone) _ _ ⟨⟨by show 0 ≤ gone; omega, by show gone ≤ 40 * (i : Int) + 40; omega, (sz_spoil hsz)⟩, (hS63.permT [2, 1, 0] (L' := cel g8 [Value.int .i64 o.kind, Value.int .i64 o.who, str o.s, Value.int .i64 o.n, Value.int .i64 o.at_, Value.int .u8 (o.by_.toNat : Int), Value.int .i64 o.more] 45 :: (netP gn ((spoilF V o.n o.at_ o.by_).2) gone) :: (refP gr ((spoilF V o.n o.at_ o.by_).2) gone) :: L) rfl)⟩ (Sub.cons rfl (Sub.cons rfl (Sub.cons rfl (Sub.cons rfl (Sub.cons rfl (Sub.nil _))))))
       ·
        refine WP.skip ?_
        refine NX.blk ?_
        exact K10 (V, gone) _ _ ⟨⟨by show 0 ≤ gone; omega, by show gone ≤ 40 * (i : Int) + 40; omega, hsz⟩, hS9⟩ (Sub.cons rfl (Sub.cons rfl (Sub.cons rfl (Sub.cons rfl (Sub.cons rfl (Sub.nil _))))))
  ·
   refine WP.exit ?_
   refine NX.thenExit ?_
   refine NX.thenExit ?_
   refine NX.blkExit ?_
   refine NX.go ?_
   refine WP.seq ?_
   refine WP.region rfl ?_
   refine WO.val (run_assign rfl) rfl rfl rfl ?_
   refine WO.nil ?_
   refine NX.go ?_
   refine WP.ret ?_
   refine NX.done (l := [.tmp 2]) rfl rfl ?_
   exact ⟨rfl, hS6.drop.drop⟩
 ·
  refine WO.off rfl rfl (decide_eq_false g29) rfl ?_
  refine WO.off rfl rfl (decide_eq_false g29) rfl ?_
  refine WO.val (run_pickF rfl (decide_eq_false g29) rfl) rfl rfl rfl ?_
  refine WO.nil ?_
  refine NX.go ?_
  refine WP.condF rfl rfl ?_
  refine WP.exit ?_
  refine NX.thenExit ?_
  refine NX.thenExit ?_
  refine NX.blkExit ?_
  refine NX.go ?_
  refine WP.seq ?_
  refine WP.region rfl ?_
  refine WO.val (run_assign rfl) rfl rfl rfl ?_
  refine WO.nil ?_
  refine NX.go ?_
  refine WP.ret ?_
  refine NX.done (l := [.tmp 2]) rfl rfl ?_
  exact ⟨rfl, hS6.drop.drop⟩
end Go.Proofs.Ytcdbnbdeinhokaa.SL
