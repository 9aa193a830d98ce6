/- Whatever is published, wherever the power fails. -/
import Derived.Test.YtcehlnpbdffdhaaGreatDoorPb9
import Derived.Test.YtcehlnpbdffdhaaGreatDoorKv
import Derived.Test.YtcehlnpbdffdhaaGreatDoorMan2
namespace Go.Proofs.YtcehlnpbdffdhaaGreatDoor.SL
open Go.RowKit Go.Proofs.YtcehlnpbdffdhaaGreatDoor
open Go.Proofs.YtcehlnpbdffdhaaGreatDoorW.PrintLast (rtab opsOf)
set_option linter.unusedVariables false
set_option linter.unusedSimpArgs false

structure MO where
  m : Man
  a : Option Addr
  cap : Nat
  crash : Bool
  keep : SlV Int
  fuse : Int
  name : List UInt8
  s : List UInt8
def moc (x : MO) : List Value := [.int .i64 x.m.e, .int .i64 x.m.b, .int .i64 x.m.p, .int .i64 x.m.k, .int .i64 x.m.c, .slice x.a x.m.bl.length x.cap, .bool x.crash, .slice x.keep.a x.keep.l.length x.keep.cap, .int .i64 x.fuse, str x.name, str x.s]
theorem moc_len (x : MO) : (moc x).length = 11 := rfl
structure MOk (B : World) (x : MO) : Prop where
  rd : Rd B x.a x.m.bl.length 1 (x.m.bl.map str)
  r : RngM x.m
  kd : Rd B x.keep.a x.keep.l.length 1 (ri x.keep.l)
  kl : x.keep.l.length ≤ 17592186043904
  nl : x.name.length ≤ 140737488351232
  sl : x.s.length ≤ 140737488351232
  fl : -9223372036854775808 ≤ x.fuse ∧ x.fuse ≤ 9223372036854775807
theorem manifestDoes_core_t22 : rtab .any (opsOf Tryz.f7 22) = (true, [([], []), ([0], [0]), ([], []), ([1, 2, 1], [1, 2]), ([3], [3]), ([4, 3], [4]), ([5], [5]), ([5], [5]), ([6, 7, 5], [5, 6, 7]), ([5, 8], [5, 8]), ([9, 5], [9]), ([10], [10]), ([11, 10, 10], [10, 11]), ([10], [10]), ([13, 12, 10], [10, 13]), ([12, 14, 14, 10], [10, 12, 14]), ([15, 10], [10, 15]), ([10, 16], [10, 16]), ([17, 15], [17]), ([18], [18]), ([19, 18, 18], [18, 19]), ([18], [18]), ([21, 20, 18], [18, 21]), ([20, 22, 18], [18, 20, 22]), ([18, 23], [18, 23])]) := by kernel_rfl
theorem manifestDoes_core_t18 : rtab .any (opsOf Tryz.f7 18) = (true, [([], []), ([], []), ([1], [1]), ([2], [2]), ([0, 3, 3], [0, 3]), ([], []), ([], []), ([6], [6]), ([5, 7, 4], [5, 7]), ([4, 8], [4, 8])]) := by kernel_rfl
theorem manifestDoes_core_t10 : rtab .any (opsOf Tryz.f7 10) = (true, [([], []), ([0], [0]), ([1], [1]), ([2], [2]), ([3], [3]), ([3], [3]), ([5, 3], [3, 5]), ([3], [3]), ([7, 3], [3, 7]), ([4, 6, 8, 3, 3], [3, 4, 6, 8]), ([3], [3]), ([3], [3]), ([11, 3], [3, 11]), ([3], [3]), ([13, 3], [3, 13]), ([10, 12, 14, 9, 3], [3, 10, 12, 14]), ([9, 15, 3], [3, 9, 15]), ([3, 16], [3, 16])]) := by kernel_rfl
theorem manifestDoes_core {B w : World} {L : List HP} {room : Int} {aa : Option Addr} {ac : Nat} {l : List MO} (hr : -9223372036854775808 ≤ room ∧ room ≤ 9223372036854775807) (hA : Rd B aa l.length 11 (l.flatMap moc)) (hall : ∀ x ∈ l, MOk B x) (hS : St B L w) : Does Tryz.prog 7 [Value.int .i64 room, Value.slice aa l.length ac] w (fun v w1 => v = .bool true ∧ St B L w1) := by
 replace hS := hS.addPure (p := True) trivial
 refine enter (n := 134) Tryz.func7 rfl rfl [Value.int .i64 room, Value.slice aa l.length ac] rfl ?_
 refine WP.seq (WP.region rfl ?_)
 refine WO.asg rfl rfl ?_
 refine WO.nil (NX.go (WP.seq (WP.region rfl ?_)))
 refine WO.mv rfl rfl ?_
 refine WO.call rfl rfl Ty.hd16 rfl (dnew_spec room hS) (fun v3 w2 pv3 => ?_)
 obtain ⟨g1, rfl, hS2⟩ := pv3
 clear hS
 refine WO.mv rfl rfl ?_
 refine WO.call rfl rfl Ty.hd24 rfl (r4new_spec room hS2) (fun v6 w5 pv6 => ?_)
 obtain ⟨g4, rfl, hS5⟩ := pv6
 clear hS2
 refine WO.asg rfl rfl ?_
 refine WO.asg rfl rfl ?_
 refine WO.nil (NX.go (WP.seq (WP.seq (WP.region rfl ?_))))
 refine WO.mv rfl rfl ?_
 refine WO.val (run_eqlNilP Tryz.underlying39 rfl rfl) rfl rfl rfl ?_
 refine WO.nil (NX.go ?_)
 refine WP.condF rfl rfl ?_
 refine WP.skip (NX.go (WP.seq (WP.seq (WP.region rfl ?_))))
 refine WO.asg rfl rfl ?_
 refine WO.nil (NX.go (WP.block ?_))
 refine WP.loop (α := Nat × Dk) (fun x => match x with | ⟨i, D⟩ => [(1, Value.slice aa l.length ac), (5, Value.pointer (some ⟨g1, 0, none⟩)), (6, Value.pointer (some ⟨g4, 0, none⟩)), (7, Value.int .i64 (i : Int))]) (fun x w => match x with | ⟨i, D⟩ => (OkD D (8 * i) (6000 * i) ∧ i ≤ 40) ∧ St B (refA g4 D :: dkA g1 D :: (.pure True) :: L) w) (fun x => match x with | ⟨i, D⟩ => 40 - i) (0, newD room) ⟨⟨OkD.new hr, Nat.zero_le _⟩, hS5⟩ (Sub.cons rfl (Sub.cons rfl (Sub.cons rfl (Sub.consE rfl (by first | rfl | first | rfl | (congr 1; omega) | (simp; done) | (simp; omega)) (Sub.nil _))))) ?_
 rintro ⟨i, D⟩ w7 ⟨⟨kD, hi⟩, hS7⟩
 clear hS5
 refine WP.seq (WP.seq (WP.region rfl ?_))
 refine WO.mv rfl rfl ?_
 refine WO.mv rfl rfl ?_
 refine WO.val (run_len rfl Tryz.underlying53 rfl) rfl rfl rfl ?_
 refine WO.val (run_lss rfl rfl) rfl rfl rfl ?_
 refine WO.mv rfl rfl ?_
 by_cases g23 : (i : Int) < ((l.length : Nat) : Int)
 ·
  refine WO.on rfl rfl (decide_eq_true g23) ?_
  refine WO.mv rfl rfl ?_
  refine WO.on rfl rfl (decide_eq_true g23) ?_
  refine WO.val (run_lss rfl rfl) rfl rfl rfl ?_
  refine WO.val (run_pickT rfl (decide_eq_true g23) rfl) rfl rfl rfl ?_
  refine WO.nil (NX.go ?_)
  refine WP.condP rfl (fun g26 => ?_) (fun g26 => ?_)
  ·
   refine WP.skip (NX.go (WP.seq (WP.block (WP.seq ?_))))
   obtain ⟨oq, hx0⟩ : ∃ oq, l[i]? = some oq := ⟨_, List.getElem?_eq_getElem (by omega)⟩
   have hx := hall oq (List.mem_of_getElem? hx0)
   have hsa : aa.isSome = true := by obtain ⟨q, hq, _⟩ := (((fun h => St.rdB h hA) (hS7.focus 2 rfl))).2.1 (by omega); rw [hq]; rfl
   replace hS7 := (hS7.addPure (p := True) trivial).addPure (p := True) trivial
   refine WP.region rfl ?_
   refine WO.mv rfl rfl ?_
   refine WO.mv rfl rfl ?_
   refine WO.val (run_indexAddr (q := adr aa (i * 11)) Tryz.underlying53 Ty.sz57 rfl rfl (by omega) (by omega) (((fun h => St.rdB h hA) (hS7.focus 4 rfl)).2.1 (by omega)) rfl) rfl rfl rfl ?_
   refine WO.val (run_loadAgg (vs := [Value.int .i64 oq.m.e, Value.int .i64 oq.m.b, Value.int .i64 oq.m.p, Value.int .i64 oq.m.k, Value.int .i64 oq.m.c, Value.slice oq.a oq.m.bl.length oq.cap, Value.bool oq.crash, Value.slice oq.keep.a oq.keep.l.length oq.keep.cap, Value.int .i64 oq.fuse, str oq.name, str oq.s]) Ty.ag57 Ty.sz57 rfl (((fun h => St.rdB h hA) (hS7.focus 4 rfl)).cells (by rw [flat_len moc_len]; omega) (flat_part moc_len hx0)).1 (((fun h => St.rdB h hA) (hS7.focus 4 rfl)).cells (by rw [flat_len moc_len]; omega) (flat_part moc_len hx0)).2) rfl rfl rfl ?_
   refine WO.alloc (l := [Value.int .i64 0, Value.int .i64 0, Value.int .i64 0, Value.int .i64 0, Value.int .i64 0, Value.slice none 0 0, Value.bool false, Value.slice none 0 0, Value.int .i64 0, str [], str []]) hS7 Ty.zr57 rfl rfl (fun g9 w8 lg9 hS8 => ?_)
   clear hS7
   refine WO.store (l' := [Value.int .i64 oq.m.e, Value.int .i64 oq.m.b, Value.int .i64 oq.m.p, Value.int .i64 oq.m.k, Value.int .i64 oq.m.c, Value.slice oq.a oq.m.bl.length oq.cap, Value.bool oq.crash, Value.slice oq.keep.a oq.keep.l.length oq.keep.cap, Value.int .i64 oq.fuse, str oq.name, str oq.s]) 0 hS8 rfl Ty.sz57 rfl rfl rfl rfl rfl (Nat.le_of_ble_eq_true rfl) rfl (fun w10 (hS10 : St B (cel g9 [Value.int .i64 oq.m.e, Value.int .i64 oq.m.b, Value.int .i64 oq.m.p, Value.int .i64 oq.m.k, Value.int .i64 oq.m.c, Value.slice oq.a oq.m.bl.length oq.cap, Value.bool oq.crash, Value.slice oq.keep.a oq.keep.l.length oq.keep.cap, Value.int .i64 oq.fuse, str oq.name, str oq.s] 57 :: (.pure True) :: (.pure True) :: refA g4 D :: dkA g1 D :: (.pure True) :: L) w10) => ?_)
   clear hS8
   refine WO.nil (NX.go (WP.seq (WP.seq (WP.region rfl ?_))))
   refine WO.val (run_fieldAddr (q := ⟨g9, 0, none⟩) (show fieldB Tryz.prog 57 0 = some 0 from by kernel_rfl) rfl rfl) rfl rfl rfl ?_
   refine WO.val (run_loadAgg (vs := [Value.int .i64 oq.m.e, Value.int .i64 oq.m.b, Value.int .i64 oq.m.p, Value.int .i64 oq.m.k, Value.int .i64 oq.m.c, Value.slice oq.a oq.m.bl.length oq.cap]) Ty.ag24 Ty.sz24 rfl rfl (cell_all (hS10.cel_at 0 rfl) 0 rfl)) rfl rfl rfl ?_
   have hS11 := hS10.permT [1, 0, 0, 0, 0, 0] (L' := (.pure True) :: cel g9 [Value.int .i64 oq.m.e, Value.int .i64 oq.m.b, Value.int .i64 oq.m.p, Value.int .i64 oq.m.k, Value.int .i64 oq.m.c, Value.slice oq.a oq.m.bl.length oq.cap, Value.bool oq.crash, Value.slice oq.keep.a oq.keep.l.length oq.keep.cap, Value.int .i64 oq.fuse, str oq.name, str oq.s] 57 :: (.pure True) :: refA g4 D :: dkA g1 D :: (.pure True) :: L) rfl
   clear hS10
   refine WO.call rfl rfl Ty.hd9 rfl (great_spec (m := oq.m) (fun h => St.rdB h hx.rd) hx.r hS11) (fun v13 w12 pv13 => ?_)
   obtain ⟨gb, rfl, _, hS12⟩ := pv13
   clear hS11
   refine WO.mv rfl rfl ?_
   rcases Bool.eq_false_or_eq_true gb with g36 | g36
   ·
    refine WO.off rfl rfl g36 rfl ?_
    refine WO.off rfl rfl g36 rfl ?_
    refine WO.off rfl rfl g36 rfl ?_
    refine WO.off rfl rfl g36 rfl ?_
    refine WO.val (run_pickT rfl g36 rfl) rfl rfl rfl ?_
    refine WO.mv rfl rfl ?_
    refine WO.off rfl rfl rfl rfl ?_
    refine WO.off rfl rfl rfl rfl ?_
    refine WO.off rfl rfl rfl rfl ?_
    refine WO.off rfl rfl rfl rfl ?_
    refine WO.val (run_pickT rfl rfl rfl) rfl rfl rfl ?_
    refine WO.nil (NX.go ?_)
    refine WP.condT rfl rfl ?_
    refine WP.seq (WP.region rfl ?_)
    refine WO.asg rfl rfl ?_
    refine WO.nil (NX.go (WP.ret (NX.thenRet (NX.blkRet (NX.thenRet (NX.thenRet (NX.blkRet (NX.thenRet ?_))))))))
    refine NX.done (l := [.tmp 4]) rfl rfl ?_
    exact ⟨rfl, hS12.drop.drop.drop.drop.drop.drop⟩
   ·
    refine WO.on rfl rfl g36 ?_
    refine WO.val (run_fieldAddr (q := ⟨g9, 10, none⟩) (show fieldB Tryz.prog 57 5 = some 10 from by kernel_rfl) rfl rfl) rfl rfl rfl ?_
    refine WO.on rfl rfl g36 ?_
    refine WO.val (run_load Ty.ag9 rfl ((hS12.cel_at 1 rfl 10).trans rfl)) rfl rfl rfl ?_
    refine WO.on rfl rfl g36 ?_
    refine WO.val (run_lenS rfl Tryz.underlying9 rfl) rfl rfl rfl ?_
    refine WO.on rfl rfl g36 ?_
    refine WO.val (run_gtr rfl rfl) rfl rfl rfl ?_
    refine WO.val (run_pickF rfl g36 rfl) rfl rfl rfl ?_
    refine WO.mv rfl rfl ?_
    by_cases g42 : 500 < (oq.s.length : Int)
    ·
     refine WO.off rfl rfl (decide_eq_true g42) rfl ?_
     refine WO.off rfl rfl (decide_eq_true g42) rfl ?_
     refine WO.off rfl rfl (decide_eq_true g42) rfl ?_
     refine WO.off rfl rfl (decide_eq_true g42) rfl ?_
     refine WO.val (run_pickT rfl (decide_eq_true g42) rfl) rfl rfl rfl ?_
     refine WO.nil (NX.go ?_)
     refine WP.condT rfl rfl ?_
     refine WP.seq (WP.region rfl ?_)
     refine WO.asg rfl rfl ?_
     refine WO.nil (NX.go (WP.ret (NX.thenRet (NX.blkRet (NX.thenRet (NX.thenRet (NX.blkRet (NX.thenRet ?_))))))))
     refine NX.done (l := [.tmp 4]) rfl rfl ?_
     exact ⟨rfl, hS12.drop.drop.drop.drop.drop.drop⟩
    ·
     refine WO.on rfl rfl (decide_eq_false g42) ?_
     refine WO.val (run_fieldAddr (q := ⟨g9, 7, none⟩) (show fieldB Tryz.prog 57 2 = some 7 from by kernel_rfl) rfl rfl) rfl rfl rfl ?_
     refine WO.on rfl rfl (decide_eq_false g42) ?_
     refine WO.val (run_load Ty.ag37 rfl ((hS12.cel_at 1 rfl 7).trans rfl)) rfl rfl rfl ?_
     refine WO.on rfl rfl (decide_eq_false g42) ?_
     refine WO.val (run_len rfl Tryz.underlying37 rfl) rfl rfl rfl ?_
     refine WO.on rfl rfl (decide_eq_false g42) ?_
     refine WO.val (run_gtr rfl rfl) rfl rfl rfl ?_
     refine WO.val (run_pickF rfl (decide_eq_false g42) rfl) rfl rfl rfl ?_
     refine WO.nil (NX.go ?_)
     refine WP.condP rfl (fun g47 => ?_) (fun g47 => ?_)
     ·
      refine WP.seq (WP.region rfl ?_)
      refine WO.asg rfl rfl ?_
      refine WO.nil (NX.go (WP.ret (NX.thenRet (NX.blkRet (NX.thenRet (NX.thenRet (NX.blkRet (NX.thenRet ?_))))))))
      refine NX.done (l := [.tmp 4]) rfl rfl ?_
      exact ⟨rfl, hS12.drop.drop.drop.drop.drop.drop⟩
     ·
      refine WP.skip (NX.go (WP.seq (WP.seq ?_)))
      refine WP.meet (α := Dk) (fun x => match x with | D1 => [(1, Value.slice aa l.length ac), (5, Value.pointer (some ⟨g1, 0, none⟩)), (6, Value.pointer (some ⟨g4, 0, none⟩)), (7, Value.int .i64 (i : Int)), (8, Value.pointer (some ⟨g9, 0, none⟩)), (65, Value.bool false)]) (fun x w => match x with | D1 => (OkD D1 (8 * i + 1) (6000 * i + 500)) ∧ St B ((.pure True) :: cel g9 [Value.int .i64 oq.m.e, Value.int .i64 oq.m.b, Value.int .i64 oq.m.p, Value.int .i64 oq.m.k, Value.int .i64 oq.m.c, Value.slice oq.a oq.m.bl.length oq.cap, Value.bool oq.crash, Value.slice oq.keep.a oq.keep.l.length oq.keep.cap, Value.int .i64 oq.fuse, str oq.name, str oq.s] 57 :: (.pure True) :: refA g4 D1 :: dkA g1 D1 :: (.pure True) :: L) w) ?_ (fun K14 => ?_)
      ·
       rintro D1 w15 ⟨kD1, hS15⟩
       clear hS12
       refine NX.go ?_
       refine WP.condF rfl rfl ?_
       refine WP.skip (NX.go (WP.seq (WP.seq (WP.region rfl ?_))))
       refine WO.val (run_fieldAddr (q := ⟨g9, 8, none⟩) (show fieldB Tryz.prog 57 3 = some 8 from by kernel_rfl) rfl rfl) rfl rfl rfl ?_
       refine WO.val (run_load Ty.ag3 rfl ((hS15.cel_at 1 rfl 8).trans rfl)) rfl rfl rfl ?_
       refine WO.val (run_geq rfl rfl) rfl rfl rfl ?_
       refine WO.nil (NX.go ?_)
       refine WP.meet (α := Dk) (fun x => match x with | D2 => [(1, Value.slice aa l.length ac), (5, Value.pointer (some ⟨g1, 0, none⟩)), (6, Value.pointer (some ⟨g4, 0, none⟩)), (7, Value.int .i64 (i : Int)), (8, Value.pointer (some ⟨g9, 0, none⟩))]) (fun x w => match x with | D2 => (OkD D2 (8 * i + 1) (6000 * i + 500)) ∧ St B ((.pure True) :: cel g9 [Value.int .i64 oq.m.e, Value.int .i64 oq.m.b, Value.int .i64 oq.m.p, Value.int .i64 oq.m.k, Value.int .i64 oq.m.c, Value.slice oq.a oq.m.bl.length oq.cap, Value.bool oq.crash, Value.slice oq.keep.a oq.keep.l.length oq.keep.cap, Value.int .i64 oq.fuse, str oq.name, str oq.s] 57 :: (.pure True) :: refA g4 D2 :: dkA g1 D2 :: (.pure True) :: L) w) ?_ (fun K16 => ?_)
       ·
        rintro D2 w17 ⟨kD2, hS17⟩
        clear hS15
        refine NX.go (WP.seq (WP.seq (WP.region rfl ?_)))
        refine WO.val (run_fieldAddr (q := ⟨g9, 6, none⟩) (show fieldB Tryz.prog 57 1 = some 6 from by kernel_rfl) rfl rfl) rfl rfl rfl ?_
        refine WO.val (run_load Ty.ag4 rfl ((hS17.cel_at 1 rfl 6).trans rfl)) rfl rfl rfl ?_
        refine WO.nil (NX.go ?_)
        refine WP.meet (α := Dk) (fun x => match x with | D3 => [(1, Value.slice aa l.length ac), (5, Value.pointer (some ⟨g1, 0, none⟩)), (6, Value.pointer (some ⟨g4, 0, none⟩)), (7, Value.int .i64 (i : Int)), (8, Value.pointer (some ⟨g9, 0, none⟩))]) (fun x w => match x with | D3 => (OkD D3 (8 * i + 6) (6000 * i + 5570)) ∧ St B ((.pure True) :: cel g9 [Value.int .i64 oq.m.e, Value.int .i64 oq.m.b, Value.int .i64 oq.m.p, Value.int .i64 oq.m.k, Value.int .i64 oq.m.c, Value.slice oq.a oq.m.bl.length oq.cap, Value.bool oq.crash, Value.slice oq.keep.a oq.keep.l.length oq.keep.cap, Value.int .i64 oq.fuse, str oq.name, str oq.s] 57 :: (.pure True) :: refA g4 D3 :: dkA g1 D3 :: (.pure True) :: L) w) ?_ (fun K18 => ?_)
        ·
         rintro D3 w19 ⟨kD3, hS19⟩
         clear hS17
         refine NX.go (WP.seq ?_)
         have hS20 : St B (refA g4 D3 :: dkA g1 D3 :: (.pure True) :: L) w19 := hS19.drop.drop.drop
         clear hS19
         refine WP.region rfl ?_
         refine WO.mv rfl rfl ?_
         have hS21 := hS20.permT [1, 0, 0] (L' := dkA g1 D3 :: refA g4 D3 :: (.pure True) :: L) rfl
         clear hS20
         refine WO.call rfl rfl Ty.hd20 rfl (load_spec kD3 (by omega) hS21) (fun v23 w22 pv23 => ?_)
         obtain ⟨la, lc, rfl, hrl, hS22⟩ := pv23
         clear hS21
         refine WO.mv rfl rfl ?_
         refine WO.val (run_extract rfl rfl) rfl rfl rfl ?_
         refine WO.val (run_extract rfl rfl) rfl rfl rfl ?_
         refine WO.alloc (l := [Value.int .i64 0, Value.int .i64 0, Value.int .i64 0, Value.int .i64 0, Value.int .i64 0, Value.slice none 0 0]) hS22 Ty.zr30 rfl rfl (fun g25 w24 lg25 hS24 => ?_)
         clear hS22
         refine WO.store (l' := [Value.int .i64 ((loadD D3).1.e), Value.int .i64 ((loadD D3).1.b), Value.int .i64 ((loadD D3).1.p), Value.int .i64 ((loadD D3).1.k), Value.int .i64 ((loadD D3).1.c), Value.slice la ((loadD D3).1.bl.length) lc]) 0 hS24 rfl Ty.sz30 rfl rfl rfl rfl rfl (Nat.le_of_ble_eq_true rfl) rfl (fun w26 (hS26 : St B (cel g25 [Value.int .i64 ((loadD D3).1.e), Value.int .i64 ((loadD D3).1.b), Value.int .i64 ((loadD D3).1.p), Value.int .i64 ((loadD D3).1.k), Value.int .i64 ((loadD D3).1.c), Value.slice la ((loadD D3).1.bl.length) lc] 30 :: own la ((loadD D3).1.bl.length) lc 9 1 ((loadD D3).1.bl.map str) :: dkA g1 D3 :: refA g4 D3 :: (.pure True) :: L) w26) => ?_)
         clear hS24
         refine WO.asg rfl rfl ?_
         refine WO.nil (NX.go (WP.seq (WP.region rfl ?_)))
         refine WO.mv rfl rfl ?_
         have hS27 := hS26.permT [3, 0, 0, 0, 0] (L' := refA g4 D3 :: cel g25 [Value.int .i64 ((loadD D3).1.e), Value.int .i64 ((loadD D3).1.b), Value.int .i64 ((loadD D3).1.p), Value.int .i64 ((loadD D3).1.k), Value.int .i64 ((loadD D3).1.c), Value.slice la ((loadD D3).1.bl.length) lc] 30 :: own la ((loadD D3).1.bl.length) lc 9 1 ((loadD D3).1.bl.map str) :: dkA g1 D3 :: (.pure True) :: L) rfl
         clear hS26
         refine WO.call rfl rfl Ty.hd29 rfl (rload_spec kD3 (by omega) (by omega) hS27) (fun v29 w28 pv29 => ?_)
         obtain ⟨lb, ld, rfl, _, hS28⟩ := pv29
         clear hS27
         refine WO.mv rfl rfl ?_
         refine WO.val (run_extract rfl rfl) rfl rfl rfl ?_
         refine WO.val (run_extract rfl rfl) rfl rfl rfl ?_
         refine WO.alloc (l := [Value.int .i64 0, Value.int .i64 0, Value.int .i64 0, Value.int .i64 0, Value.int .i64 0, Value.slice none 0 0]) hS28 Ty.zr24 rfl rfl (fun g31 w30 lg31 hS30 => ?_)
         clear hS28
         refine WO.store (l' := [Value.int .i64 ((loadD D3).1.e), Value.int .i64 ((loadD D3).1.b), Value.int .i64 ((loadD D3).1.p), Value.int .i64 ((loadD D3).1.k), Value.int .i64 ((loadD D3).1.c), Value.slice lb ((loadD D3).1.bl.length) ld]) 0 hS30 rfl Ty.sz24 rfl rfl rfl rfl rfl (Nat.le_of_ble_eq_true rfl) rfl (fun w32 (hS32 : St B (cel g31 [Value.int .i64 ((loadD D3).1.e), Value.int .i64 ((loadD D3).1.b), Value.int .i64 ((loadD D3).1.p), Value.int .i64 ((loadD D3).1.k), Value.int .i64 ((loadD D3).1.c), Value.slice lb ((loadD D3).1.bl.length) ld] 24 :: own lb ((loadD D3).1.bl.length) ld 9 1 ((loadD D3).1.bl.map str) :: refA g4 D3 :: cel g25 [Value.int .i64 ((loadD D3).1.e), Value.int .i64 ((loadD D3).1.b), Value.int .i64 ((loadD D3).1.p), Value.int .i64 ((loadD D3).1.k), Value.int .i64 ((loadD D3).1.c), Value.slice la ((loadD D3).1.bl.length) lc] 30 :: own la ((loadD D3).1.bl.length) lc 9 1 ((loadD D3).1.bl.map str) :: dkA g1 D3 :: (.pure True) :: L) w32) => ?_)
         clear hS30
         refine WO.asg rfl rfl ?_
         refine WO.nil (NX.go (WP.seq ?_))
         have hnl : (namesD D3).length ≤ 4294967296 := by unfold namesD; split; exact Nat.zero_le _; rw [List.length_map]; have := kD3.w.nm64; omega
         refine WD.start (fun w => (∀ j, World.cell? w ⟨g31, j, none⟩ = [Value.int .i64 ((loadD D3).1.e), Value.int .i64 ((loadD D3).1.b), Value.int .i64 ((loadD D3).1.p), Value.int .i64 ((loadD D3).1.k), Value.int .i64 ((loadD D3).1.c), Value.slice lb ((loadD D3).1.bl.length) ld][j]?) ∧ (∀ j, World.cell? w ⟨g25, j, none⟩ = [Value.int .i64 ((loadD D3).1.e), Value.int .i64 ((loadD D3).1.b), Value.int .i64 ((loadD D3).1.p), Value.int .i64 ((loadD D3).1.k), Value.int .i64 ((loadD D3).1.c), Value.slice la ((loadD D3).1.bl.length) lc][j]?)) [] (bt 25 0) Ty.mo rfl (by kernel_rfl) hS32 (fun _ h => ⟨h.cel_at 0 rfl, h.cel_at 3 rfl⟩) (fun w33 hS33 s34 => ?_)
         clear hS32
         refine WD.take (i := 0) manifestDoes_core_t22 (bt 25 1) s34 rfl rfl rfl (by kernel_rfl) (PQ.then (PQ.blk (PQ.then (PQ.then (PQ.blk (PQ.then PQ.body)))))) rfl (fun w hs => run_loadAgg (vs := [Value.int .i64 ((loadD D3).1.e), Value.int .i64 ((loadD D3).1.b), Value.int .i64 ((loadD D3).1.p), Value.int .i64 ((loadD D3).1.k), Value.int .i64 ((loadD D3).1.c), Value.slice la ((loadD D3).1.bl.length) lc]) Ty.ag30 Ty.sz30 rfl rfl (cell_all (hs.2) 0 rfl)) ?_
         refine WD.take (i := 2) manifestDoes_core_t22 (bt 25 5) s34 rfl rfl rfl (by kernel_rfl) (PQ.then (PQ.blk (PQ.then (PQ.then (PQ.blk (PQ.then PQ.body)))))) rfl (fun w hs => run_loadAgg (vs := [Value.int .i64 ((loadD D3).1.e), Value.int .i64 ((loadD D3).1.b), Value.int .i64 ((loadD D3).1.p), Value.int .i64 ((loadD D3).1.k), Value.int .i64 ((loadD D3).1.c), Value.slice lb ((loadD D3).1.bl.length) ld]) Ty.ag24 Ty.sz24 rfl rfl (cell_all (hs.1) 0 rfl)) ?_
         refine WD.one (i := 1) manifestDoes_core_t22 (bt 25 7) rfl (by kernel_rfl) ?_
         refine WO.call rfl rfl Ty.hd14 rfl (from_spec (m := (loadD D3).1) hS33) (fun v36 w35 pv36 => ?_)
         obtain ⟨rfl, hS35⟩ := pv36
         clear hS33
         refine WO.nil ?_
         have s37 : (∀ j, World.cell? w35 ⟨g31, j, none⟩ = [Value.int .i64 ((loadD D3).1.e), Value.int .i64 ((loadD D3).1.b), Value.int .i64 ((loadD D3).1.p), Value.int .i64 ((loadD D3).1.k), Value.int .i64 ((loadD D3).1.c), Value.slice lb ((loadD D3).1.bl.length) ld][j]?) ∧ (∀ j, World.cell? w35 ⟨g25, j, none⟩ = [Value.int .i64 ((loadD D3).1.e), Value.int .i64 ((loadD D3).1.b), Value.int .i64 ((loadD D3).1.p), Value.int .i64 ((loadD D3).1.k), Value.int .i64 ((loadD D3).1.c), Value.slice la ((loadD D3).1.bl.length) lc][j]?) := ⟨hS35.cel_at 0 rfl, hS35.cel_at 3 rfl⟩
         refine NX.held s37 ?_
         refine WD.one (i := 3) manifestDoes_core_t22 (bt 25 15) rfl (by kernel_rfl) ?_
         have hS38 := hS35.permT [4, 1, 0, 0, 0, 0, 0] (L' := own la ((loadD D3).1.bl.length) lc 9 1 ((loadD D3).1.bl.map str) :: own lb ((loadD D3).1.bl.length) ld 9 1 ((loadD D3).1.bl.map str) :: cel g31 [Value.int .i64 ((loadD D3).1.e), Value.int .i64 ((loadD D3).1.b), Value.int .i64 ((loadD D3).1.p), Value.int .i64 ((loadD D3).1.k), Value.int .i64 ((loadD D3).1.c), Value.slice lb ((loadD D3).1.bl.length) ld] 24 :: refA g4 D3 :: cel g25 [Value.int .i64 ((loadD D3).1.e), Value.int .i64 ((loadD D3).1.b), Value.int .i64 ((loadD D3).1.p), Value.int .i64 ((loadD D3).1.k), Value.int .i64 ((loadD D3).1.c), Value.slice la ((loadD D3).1.bl.length) lc] 30 :: dkA g1 D3 :: (.pure True) :: L) rfl
         clear hS35
         refine WO.call rfl rfl Ty.hd13 rfl (rsame_spec (m := (loadD D3).1) (n := (loadD D3).1) (fun h => h.own_rd.1) (fun h => h.own_rd.1) hrl hrl hS38) (fun v40 w39 pv40 => ?_)
         obtain ⟨rfl, hS39⟩ := pv40
         clear hS38
         refine WO.nil ?_
         have s41 : (∀ j, World.cell? w39 ⟨g31, j, none⟩ = [Value.int .i64 ((loadD D3).1.e), Value.int .i64 ((loadD D3).1.b), Value.int .i64 ((loadD D3).1.p), Value.int .i64 ((loadD D3).1.k), Value.int .i64 ((loadD D3).1.c), Value.slice lb ((loadD D3).1.bl.length) ld][j]?) ∧ (∀ j, World.cell? w39 ⟨g25, j, none⟩ = [Value.int .i64 ((loadD D3).1.e), Value.int .i64 ((loadD D3).1.b), Value.int .i64 ((loadD D3).1.p), Value.int .i64 ((loadD D3).1.k), Value.int .i64 ((loadD D3).1.c), Value.slice la ((loadD D3).1.bl.length) lc][j]?) := ⟨hS39.cel_at 2 rfl, hS39.cel_at 4 rfl⟩
         refine NX.held s41 ?_
         refine WD.pure (i := 4) manifestDoes_core_t22 (bt 25 31) rfl rfl rfl (by kernel_rfl) (PQ.then (PQ.blk (PQ.then (PQ.then (PQ.blk (PQ.then PQ.body)))))) rfl (fun w => run_not rfl rfl) ?_
         refine WD.pure (i := 5) manifestDoes_core_t22 (bt 25 63) rfl rfl rfl (by kernel_rfl) (PQ.then (PQ.blk (PQ.then (PQ.then (PQ.blk (PQ.then PQ.body)))))) rfl (fun w => run_move rfl) ?_
         refine WD.pureOn (i := 6) manifestDoes_core_t22 (bt 25 127) rfl rfl rfl (notB_t (decide_eq_true rfl)) (by kernel_rfl) (PQ.then (PQ.blk (PQ.then (PQ.then (PQ.blk (PQ.then PQ.body)))))) rfl (fun w => run_move rfl) ?_
         refine WD.pureOn (i := 7) manifestDoes_core_t22 (bt 25 255) rfl rfl rfl (notB_t (decide_eq_true rfl)) (by kernel_rfl) (PQ.then (PQ.blk (PQ.then (PQ.then (PQ.blk (PQ.then PQ.body)))))) rfl (fun w => run_move rfl) ?_
         refine WD.pureOn (i := 8) manifestDoes_core_t22 (bt 25 511) rfl rfl rfl (notB_t (decide_eq_true rfl)) (by kernel_rfl) (PQ.then (PQ.blk (PQ.then (PQ.then (PQ.blk (PQ.then PQ.body)))))) rfl (fun w => run_neq rfl rfl) ?_
         refine WD.pure (i := 9) manifestDoes_core_t22 (bt 25 1023) rfl rfl rfl (by kernel_rfl) (PQ.then (PQ.blk (PQ.then (PQ.then (PQ.blk (PQ.then PQ.body)))))) rfl (fun w => run_pickF rfl (notB_t (decide_eq_true rfl)) rfl) ?_
         refine WD.pure (i := 10) manifestDoes_core_t22 (bt 25 2047) rfl rfl rfl (by kernel_rfl) (PQ.then (PQ.blk (PQ.then (PQ.then (PQ.blk (PQ.then PQ.body)))))) rfl (fun w => run_move rfl) ?_
         refine WD.pureOn (i := 11) manifestDoes_core_t22 (bt 25 4095) rfl rfl rfl (decide_eq_false (fun h => h rfl)) (by kernel_rfl) (PQ.then (PQ.blk (PQ.then (PQ.then (PQ.blk (PQ.then PQ.body)))))) rfl (fun w => run_move rfl) ?_
         refine WD.pureOn (i := 13) manifestDoes_core_t22 (bt 25 12287) rfl rfl rfl (decide_eq_false (fun h => h rfl)) (by kernel_rfl) (PQ.then (PQ.blk (PQ.then (PQ.then (PQ.blk (PQ.then PQ.body)))))) rfl (fun w => run_move rfl) ?_
         refine WD.one (i := 12) manifestDoes_core_t22 (bt 25 16383) rfl (by kernel_rfl) ?_
         refine WO.on rfl rfl (decide_eq_false (fun h => h rfl)) ?_
         have hS42 := hS39.permT [5, 0, 0, 0, 0, 0, 0] (L' := dkA g1 D3 :: own la ((loadD D3).1.bl.length) lc 9 1 ((loadD D3).1.bl.map str) :: own lb ((loadD D3).1.bl.length) ld 9 1 ((loadD D3).1.bl.map str) :: cel g31 [Value.int .i64 ((loadD D3).1.e), Value.int .i64 ((loadD D3).1.b), Value.int .i64 ((loadD D3).1.p), Value.int .i64 ((loadD D3).1.k), Value.int .i64 ((loadD D3).1.c), Value.slice lb ((loadD D3).1.bl.length) ld] 24 :: refA g4 D3 :: cel g25 [Value.int .i64 ((loadD D3).1.e), Value.int .i64 ((loadD D3).1.b), Value.int .i64 ((loadD D3).1.p), Value.int .i64 ((loadD D3).1.k), Value.int .i64 ((loadD D3).1.c), Value.slice la ((loadD D3).1.bl.length) lc] 30 :: (.pure True) :: L) rfl
         clear hS39
         refine WO.call rfl rfl Ty.hd22 rfl (dnames_spec kD3.w hS42) (fun v44 w43 pv44 => ?_)
         obtain ⟨na, nc, rfl, hS43⟩ := pv44
         clear hS42
         refine WO.nil ?_
         have s45 : (∀ j, World.cell? w43 ⟨g31, j, none⟩ = [Value.int .i64 ((loadD D3).1.e), Value.int .i64 ((loadD D3).1.b), Value.int .i64 ((loadD D3).1.p), Value.int .i64 ((loadD D3).1.k), Value.int .i64 ((loadD D3).1.c), Value.slice lb ((loadD D3).1.bl.length) ld][j]?) ∧ (∀ j, World.cell? w43 ⟨g25, j, none⟩ = [Value.int .i64 ((loadD D3).1.e), Value.int .i64 ((loadD D3).1.b), Value.int .i64 ((loadD D3).1.p), Value.int .i64 ((loadD D3).1.k), Value.int .i64 ((loadD D3).1.c), Value.slice la ((loadD D3).1.bl.length) lc][j]?) := ⟨hS43.cel_at 4 rfl, hS43.cel_at 6 rfl⟩
         refine NX.held s45 ?_
         refine WD.one (i := 14) manifestDoes_core_t22 (bt 25 32767) rfl (by kernel_rfl) ?_
         refine WO.on rfl rfl (decide_eq_false (fun h => h rfl)) ?_
         have hS46 := hS43.permT [5, 0, 0, 0, 0, 0, 0, 0] (L' := refA g4 D3 :: own na ((namesD D3).length) nc 9 1 ((namesD D3).map str) :: dkA g1 D3 :: own la ((loadD D3).1.bl.length) lc 9 1 ((loadD D3).1.bl.map str) :: own lb ((loadD D3).1.bl.length) ld 9 1 ((loadD D3).1.bl.map str) :: cel g31 [Value.int .i64 ((loadD D3).1.e), Value.int .i64 ((loadD D3).1.b), Value.int .i64 ((loadD D3).1.p), Value.int .i64 ((loadD D3).1.k), Value.int .i64 ((loadD D3).1.c), Value.slice lb ((loadD D3).1.bl.length) ld] 24 :: cel g25 [Value.int .i64 ((loadD D3).1.e), Value.int .i64 ((loadD D3).1.b), Value.int .i64 ((loadD D3).1.p), Value.int .i64 ((loadD D3).1.k), Value.int .i64 ((loadD D3).1.c), Value.slice la ((loadD D3).1.bl.length) lc] 30 :: (.pure True) :: L) rfl
         clear hS43
         refine WO.call rfl rfl Ty.hd31 rfl (r4list_spec kD3 (by omega) (by omega) hS46) (fun v48 w47 pv48 => ?_)
         obtain ⟨nb, nd, rfl, hS47⟩ := pv48
         clear hS46
         refine WO.nil ?_
         have s49 : (∀ j, World.cell? w47 ⟨g31, j, none⟩ = [Value.int .i64 ((loadD D3).1.e), Value.int .i64 ((loadD D3).1.b), Value.int .i64 ((loadD D3).1.p), Value.int .i64 ((loadD D3).1.k), Value.int .i64 ((loadD D3).1.c), Value.slice lb ((loadD D3).1.bl.length) ld][j]?) ∧ (∀ j, World.cell? w47 ⟨g25, j, none⟩ = [Value.int .i64 ((loadD D3).1.e), Value.int .i64 ((loadD D3).1.b), Value.int .i64 ((loadD D3).1.p), Value.int .i64 ((loadD D3).1.k), Value.int .i64 ((loadD D3).1.c), Value.slice la ((loadD D3).1.bl.length) lc][j]?) := ⟨hS47.cel_at 6 rfl, hS47.cel_at 7 rfl⟩
         refine NX.held s49 ?_
         refine WD.one (i := 15) manifestDoes_core_t22 (bt 25 65535) rfl (by kernel_rfl) ?_
         refine WO.on rfl rfl (decide_eq_false (fun h => h rfl)) ?_
         have hS50 := hS47.permT [2, 0, 0, 0, 0, 0, 0, 0, 0] (L' := own na ((namesD D3).length) nc 9 1 ((namesD D3).map str) :: own nb ((namesD D3).length) nd 9 1 ((namesD D3).map str) :: refA g4 D3 :: dkA g1 D3 :: own la ((loadD D3).1.bl.length) lc 9 1 ((loadD D3).1.bl.map str) :: own lb ((loadD D3).1.bl.length) ld 9 1 ((loadD D3).1.bl.map str) :: cel g31 [Value.int .i64 ((loadD D3).1.e), Value.int .i64 ((loadD D3).1.b), Value.int .i64 ((loadD D3).1.p), Value.int .i64 ((loadD D3).1.k), Value.int .i64 ((loadD D3).1.c), Value.slice lb ((loadD D3).1.bl.length) ld] 24 :: cel g25 [Value.int .i64 ((loadD D3).1.e), Value.int .i64 ((loadD D3).1.b), Value.int .i64 ((loadD D3).1.p), Value.int .i64 ((loadD D3).1.k), Value.int .i64 ((loadD D3).1.c), Value.slice la ((loadD D3).1.bl.length) lc] 30 :: (.pure True) :: L) rfl
         clear hS47
         refine WO.call rfl rfl Ty.hd30 rfl (sameTexts_spec (fun h => h.own_rd.1) (fun h => h.own_rd.1) hnl hS50) (fun v52 w51 pv52 => ?_)
         obtain ⟨rfl, hS51⟩ := pv52
         clear hS50
         refine WO.nil ?_
         have s53 : (∀ j, World.cell? w51 ⟨g31, j, none⟩ = [Value.int .i64 ((loadD D3).1.e), Value.int .i64 ((loadD D3).1.b), Value.int .i64 ((loadD D3).1.p), Value.int .i64 ((loadD D3).1.k), Value.int .i64 ((loadD D3).1.c), Value.slice lb ((loadD D3).1.bl.length) ld][j]?) ∧ (∀ j, World.cell? w51 ⟨g25, j, none⟩ = [Value.int .i64 ((loadD D3).1.e), Value.int .i64 ((loadD D3).1.b), Value.int .i64 ((loadD D3).1.p), Value.int .i64 ((loadD D3).1.k), Value.int .i64 ((loadD D3).1.c), Value.slice la ((loadD D3).1.bl.length) lc][j]?) := ⟨hS51.cel_at 6 rfl, hS51.cel_at 7 rfl⟩
         refine NX.held s53 ?_
         refine WD.pureOn (i := 16) manifestDoes_core_t22 (bt 25 131071) rfl rfl rfl (decide_eq_false (fun h => h rfl)) (by kernel_rfl) (PQ.then (PQ.blk (PQ.then (PQ.then (PQ.blk (PQ.then PQ.body)))))) rfl (fun w => run_not rfl rfl) ?_
         refine WD.pure (i := 17) manifestDoes_core_t22 (bt 25 262143) rfl rfl rfl (by kernel_rfl) (PQ.then (PQ.blk (PQ.then (PQ.then (PQ.blk (PQ.then PQ.body)))))) rfl (fun w => run_pickF rfl (decide_eq_false (fun h => h rfl)) rfl) ?_
         refine WD.pure (i := 18) manifestDoes_core_t22 (bt 25 524287) rfl rfl rfl (by kernel_rfl) (PQ.then (PQ.blk (PQ.then (PQ.then (PQ.blk (PQ.then PQ.body)))))) rfl (fun w => run_move rfl) ?_
         refine WD.pureOn (i := 19) manifestDoes_core_t22 (bt 25 1048575) rfl rfl rfl (notB_t (decide_eq_true rfl)) (by kernel_rfl) (PQ.then (PQ.blk (PQ.then (PQ.then (PQ.blk (PQ.then PQ.body)))))) rfl (fun w => run_move rfl) ?_
         refine WD.pureOn (i := 21) manifestDoes_core_t22 (bt 25 3145727) rfl rfl rfl (notB_t (decide_eq_true rfl)) (by kernel_rfl) (PQ.then (PQ.blk (PQ.then (PQ.then (PQ.blk (PQ.then PQ.body)))))) rfl (fun w => run_move rfl) ?_
         refine WD.one (i := 20) manifestDoes_core_t22 (bt 25 4194303) rfl (by kernel_rfl) ?_
         refine WO.on rfl rfl (notB_t (decide_eq_true rfl)) ?_
         have hS54 := hS51.permT [3, 0, 0, 0, 0, 0, 0, 0, 0] (L' := dkA g1 D3 :: own na ((namesD D3).length) nc 9 1 ((namesD D3).map str) :: own nb ((namesD D3).length) nd 9 1 ((namesD D3).map str) :: refA g4 D3 :: own la ((loadD D3).1.bl.length) lc 9 1 ((loadD D3).1.bl.map str) :: own lb ((loadD D3).1.bl.length) ld 9 1 ((loadD D3).1.bl.map str) :: cel g31 [Value.int .i64 ((loadD D3).1.e), Value.int .i64 ((loadD D3).1.b), Value.int .i64 ((loadD D3).1.p), Value.int .i64 ((loadD D3).1.k), Value.int .i64 ((loadD D3).1.c), Value.slice lb ((loadD D3).1.bl.length) ld] 24 :: cel g25 [Value.int .i64 ((loadD D3).1.e), Value.int .i64 ((loadD D3).1.b), Value.int .i64 ((loadD D3).1.p), Value.int .i64 ((loadD D3).1.k), Value.int .i64 ((loadD D3).1.c), Value.slice la ((loadD D3).1.bl.length) lc] 30 :: (.pure True) :: L) rfl
         clear hS51
         refine WO.call rfl rfl Ty.hd32 rfl (dused_spec kD3.w kD3.b (by omega) hS54) (fun v56 w55 pv56 => ?_)
         obtain ⟨rfl, hS55⟩ := pv56
         clear hS54
         refine WO.nil ?_
         have s57 : (∀ j, World.cell? w55 ⟨g31, j, none⟩ = [Value.int .i64 ((loadD D3).1.e), Value.int .i64 ((loadD D3).1.b), Value.int .i64 ((loadD D3).1.p), Value.int .i64 ((loadD D3).1.k), Value.int .i64 ((loadD D3).1.c), Value.slice lb ((loadD D3).1.bl.length) ld][j]?) ∧ (∀ j, World.cell? w55 ⟨g25, j, none⟩ = [Value.int .i64 ((loadD D3).1.e), Value.int .i64 ((loadD D3).1.b), Value.int .i64 ((loadD D3).1.p), Value.int .i64 ((loadD D3).1.k), Value.int .i64 ((loadD D3).1.c), Value.slice la ((loadD D3).1.bl.length) lc][j]?) := ⟨hS55.cel_at 6 rfl, hS55.cel_at 7 rfl⟩
         refine NX.held s57 ?_
         refine WD.one (i := 22) manifestDoes_core_t22 (bt 25 8388607) rfl (by kernel_rfl) ?_
         refine WO.on rfl rfl (notB_t (decide_eq_true rfl)) ?_
         have hS58 := hS55.permT [3, 0, 0, 0, 0, 0, 0, 0, 0] (L' := refA g4 D3 :: dkA g1 D3 :: own na ((namesD D3).length) nc 9 1 ((namesD D3).map str) :: own nb ((namesD D3).length) nd 9 1 ((namesD D3).map str) :: own la ((loadD D3).1.bl.length) lc 9 1 ((loadD D3).1.bl.map str) :: own lb ((loadD D3).1.bl.length) ld 9 1 ((loadD D3).1.bl.map str) :: cel g31 [Value.int .i64 ((loadD D3).1.e), Value.int .i64 ((loadD D3).1.b), Value.int .i64 ((loadD D3).1.p), Value.int .i64 ((loadD D3).1.k), Value.int .i64 ((loadD D3).1.c), Value.slice lb ((loadD D3).1.bl.length) ld] 24 :: cel g25 [Value.int .i64 ((loadD D3).1.e), Value.int .i64 ((loadD D3).1.b), Value.int .i64 ((loadD D3).1.p), Value.int .i64 ((loadD D3).1.k), Value.int .i64 ((loadD D3).1.c), Value.slice la ((loadD D3).1.bl.length) lc] 30 :: (.pure True) :: L) rfl
         clear hS55
         refine WO.call rfl rfl Ty.hd33 rfl (r4used_fold kD3.w kD3.b (by omega) hS58) (fun v60 w59 pv60 => ?_)
         obtain ⟨rfl, hS59⟩ := pv60
         clear hS58
         refine WO.nil ?_
         have s61 : (∀ j, World.cell? w59 ⟨g31, j, none⟩ = [Value.int .i64 ((loadD D3).1.e), Value.int .i64 ((loadD D3).1.b), Value.int .i64 ((loadD D3).1.p), Value.int .i64 ((loadD D3).1.k), Value.int .i64 ((loadD D3).1.c), Value.slice lb ((loadD D3).1.bl.length) ld][j]?) ∧ (∀ j, World.cell? w59 ⟨g25, j, none⟩ = [Value.int .i64 ((loadD D3).1.e), Value.int .i64 ((loadD D3).1.b), Value.int .i64 ((loadD D3).1.p), Value.int .i64 ((loadD D3).1.k), Value.int .i64 ((loadD D3).1.c), Value.slice la ((loadD D3).1.bl.length) lc][j]?) := ⟨hS59.cel_at 6 rfl, hS59.cel_at 7 rfl⟩
         refine NX.held s61 ?_
         refine WD.pureOn (i := 23) manifestDoes_core_t22 (bt 25 16777215) rfl rfl rfl (notB_t (decide_eq_true rfl)) (by kernel_rfl) (PQ.then (PQ.blk (PQ.then (PQ.then (PQ.blk (PQ.then PQ.body)))))) rfl (fun w => run_neq rfl rfl) ?_
         refine WD.pure (i := 24) manifestDoes_core_t22 (bt 25 33554431) rfl rfl rfl (by kernel_rfl) (PQ.then (PQ.blk (PQ.then (PQ.then (PQ.blk (PQ.then PQ.body)))))) rfl (fun w => run_pickF rfl (notB_t (decide_eq_true rfl)) rfl) ?_
         refine WD.done manifestDoes_core_t22 (by kernel_rfl) ?_
         refine NX.go ?_
         refine WP.condF rfl (decide_eq_false (fun h => h rfl)) ?_
         refine WP.skip (NX.blk (NX.go (WP.region rfl ?_)))
         refine WO.mv rfl rfl ?_
         refine WO.val (run_add rfl rfl (IntWalk.i64_in _ (by omega))) rfl rfl rfl ?_
         refine WO.asg rfl rfl ?_
         refine WO.nil ?_
         exact NX.again (i + 1, D3) ⟨⟨kD3.mono (by omega) (by omega), by omega⟩, (hS59.permT [2, 2, 2, 2, 2, 2, 0, 0, 0] (L' := own na ((namesD D3).length) nc 9 1 ((namesD D3).map str) :: own nb ((namesD D3).length) nd 9 1 ((namesD D3).map str) :: own la ((loadD D3).1.bl.length) lc 9 1 ((loadD D3).1.bl.map str) :: own lb ((loadD D3).1.bl.length) ld 9 1 ((loadD D3).1.bl.map str) :: cel g31 [Value.int .i64 ((loadD D3).1.e), Value.int .i64 ((loadD D3).1.b), Value.int .i64 ((loadD D3).1.p), Value.int .i64 ((loadD D3).1.k), Value.int .i64 ((loadD D3).1.c), Value.slice lb ((loadD D3).1.bl.length) ld] 24 :: cel g25 [Value.int .i64 ((loadD D3).1.e), Value.int .i64 ((loadD D3).1.b), Value.int .i64 ((loadD D3).1.p), Value.int .i64 ((loadD D3).1.k), Value.int .i64 ((loadD D3).1.c), Value.slice la ((loadD D3).1.bl.length) lc] 30 :: refA g4 D3 :: dkA g1 D3 :: (.pure True) :: L) rfl).drop.drop.drop.drop.drop.drop⟩ (by show 40 - (i + 1) < 40 - i; omega) (Sub.cons rfl (Sub.cons rfl (Sub.cons rfl (Sub.consE rfl (by congr 1) (Sub.nil _)))))
        ·
         refine WP.condB rfl (fun g78 => ?_) (fun g78 => ?_)
         ·
          refine WP.seq (WP.region rfl ?_)
          refine WO.mv rfl rfl ?_
          refine WO.buildSlice (l := []) hS17 Tryz.underlying37 rfl (fun w => by kernel_rfl) rfl (fun g63 w62 lg63 hS62 => ?_)
          clear hS17
          have hS62 := hS62.own_of_cel (m := 0) (k := 1) rfl
          refine WO.val (run_fieldAddr (q := ⟨g9, 7, none⟩) (show fieldB Tryz.prog 57 2 = some 7 from by kernel_rfl) rfl rfl) rfl rfl rfl ?_
          refine WO.val (run_load Ty.ag37 rfl ((hS62.cel_at 2 rfl 7).trans rfl)) rfl rfl rfl ?_
          refine WO.append (news := (ri oq.keep.l)) 0 rfl Tryz.underlying37 Tryz.underlying37 (fun _ h => by cases h) Ty.sz3 (by decide) Ty.by3 Ty.zr3 rfl rfl rfl rfl hS62 rfl (((fun h => St.rdB h hx.kd) (hS62.focus 3 rfl)).src) (ri_noAgg _) (by omega) (by omega) (fun a65 c66 w64 hS64 => ?_)
          replace hS64 : St B (own a65 oq.keep.l.length c66 3 1 (ri oq.keep.l) :: (.pure True) :: cel g9 [Value.int .i64 oq.m.e, Value.int .i64 oq.m.b, Value.int .i64 oq.m.p, Value.int .i64 oq.m.k, Value.int .i64 oq.m.c, Value.slice oq.a oq.m.bl.length oq.cap, Value.bool oq.crash, Value.slice oq.keep.a oq.keep.l.length oq.keep.cap, Value.int .i64 oq.fuse, str oq.name, str oq.s] 57 :: (.pure True) :: refA g4 D2 :: dkA g1 D2 :: (.pure True) :: L) w64 := (by have z := hS64; rw [Nat.zero_add] at z; exact z)
          refine WO.as (d := 83) (v := Value.slice a65 oq.keep.l.length c66) rfl (by rw [Nat.zero_add]) ?_
          clear hS62
          have hcap := hS64.own_le_i 0 rfl
          have hS67 := hS64.permT [5, 0, 0, 0, 0, 0, 0] (L' := dkA g1 D2 :: own a65 oq.keep.l.length c66 3 1 (ri oq.keep.l) :: (.pure True) :: cel g9 [Value.int .i64 oq.m.e, Value.int .i64 oq.m.b, Value.int .i64 oq.m.p, Value.int .i64 oq.m.k, Value.int .i64 oq.m.c, Value.slice oq.a oq.m.bl.length oq.cap, Value.bool oq.crash, Value.slice oq.keep.a oq.keep.l.length oq.keep.cap, Value.int .i64 oq.fuse, str oq.name, str oq.s] 57 :: (.pure True) :: refA g4 D2 :: (.pure True) :: L) rfl
          clear hS64
          refine WO.call rfl rfl Ty.hd19 rfl (dcrash_spec (zs := oq.keep.l) kD2.w kD2.b (by omega) (by omega) (fun h => h.own_rd.1) (by omega) (by omega) hS67) (fun v69 w68 pv69 => ?_)
          obtain ⟨rfl, hS68⟩ := pv69
          clear hS67
          refine WO.nil (NX.go (WP.region rfl ?_))
          refine WO.mv rfl rfl ?_
          refine WO.val (run_fieldAddr (q := ⟨g9, 7, none⟩) (show fieldB Tryz.prog 57 2 = some 7 from by kernel_rfl) rfl rfl) rfl rfl rfl ?_
          refine WO.val (run_load Ty.ag37 rfl ((hS68.cel_at 3 rfl 7).trans rfl)) rfl rfl rfl ?_
          have hS70 := hS68.permT [5, 4, 0, 0, 0, 0, 0] (L' := refA g4 D2 :: (.pure True) :: dkA g1 (crashD D2 oq.keep.l) :: own a65 oq.keep.l.length c66 3 1 (ri oq.keep.l) :: (.pure True) :: cel g9 [Value.int .i64 oq.m.e, Value.int .i64 oq.m.b, Value.int .i64 oq.m.p, Value.int .i64 oq.m.k, Value.int .i64 oq.m.c, Value.slice oq.a oq.m.bl.length oq.cap, Value.bool oq.crash, Value.slice oq.keep.a oq.keep.l.length oq.keep.cap, Value.int .i64 oq.fuse, str oq.name, str oq.s] 57 :: (.pure True) :: L) rfl
          clear hS68
          refine WO.call rfl rfl Ty.hd27 rfl (r4crash_spec (zs := oq.keep.l) kD2 (by omega) (by omega) (fun h => St.rdB h hx.kd) hS70) (fun v72 w71 pv72 => ?_)
          obtain ⟨rfl, hS71⟩ := pv72
          clear hS70
          refine WO.nil ?_
          exact K18 (crashD D2 oq.keep.l) _ _ ⟨(kD2.crash (zs := oq.keep.l)).mono (by omega) (by omega), (hS71.permT [3, 3, 3, 1, 0, 0, 0] (L' := own a65 oq.keep.l.length c66 3 1 (ri oq.keep.l) :: (.pure True) :: cel g9 [Value.int .i64 oq.m.e, Value.int .i64 oq.m.b, Value.int .i64 oq.m.p, Value.int .i64 oq.m.k, Value.int .i64 oq.m.c, Value.slice oq.a oq.m.bl.length oq.cap, Value.bool oq.crash, Value.slice oq.keep.a oq.keep.l.length oq.keep.cap, Value.int .i64 oq.fuse, str oq.name, str oq.s] 57 :: (.pure True) :: refA g4 (crashD D2 oq.keep.l) :: dkA g1 (crashD D2 oq.keep.l) :: (.pure True) :: L) rfl).drop⟩ (Sub.cons rfl (Sub.cons rfl (Sub.cons rfl (Sub.cons rfl (Sub.cons rfl (Sub.nil _))))))
         ·
          refine WP.seq ?_
          refine WD.start (fun w => (∀ j, World.cell? w ⟨g9, j, none⟩ = [Value.int .i64 oq.m.e, Value.int .i64 oq.m.b, Value.int .i64 oq.m.p, Value.int .i64 oq.m.k, Value.int .i64 oq.m.c, Value.slice oq.a oq.m.bl.length oq.cap, Value.bool oq.crash, Value.slice oq.keep.a oq.keep.l.length oq.keep.cap, Value.int .i64 oq.fuse, str oq.name, str oq.s][j]?)) [] (bt 10 0) Ty.mo rfl (by kernel_rfl) hS17 (fun _ h => h.cel_at 1 rfl) (fun w73 hS73 s74 => ?_)
          clear hS17
          refine WD.pure (i := 0) manifestDoes_core_t18 (bt 10 1) rfl rfl rfl (by kernel_rfl) (PQ.then (PQ.then (PQ.blk (PQ.then (PQ.then (PQ.blk (PQ.then PQ.body))))))) rfl (fun w => run_move rfl) ?_
          refine WD.pure (i := 1) manifestDoes_core_t18 (bt 10 3) rfl rfl rfl (by kernel_rfl) (PQ.then (PQ.then (PQ.blk (PQ.then (PQ.then (PQ.blk (PQ.then PQ.body))))))) rfl (fun w => run_fieldAddr (q := ⟨g9, 0, none⟩) (show fieldB Tryz.prog 57 0 = some 0 from by kernel_rfl) rfl rfl) ?_
          refine WD.take (i := 2) manifestDoes_core_t18 (bt 10 7) s74 rfl rfl rfl (by kernel_rfl) (PQ.then (PQ.then (PQ.blk (PQ.then (PQ.then (PQ.blk (PQ.then PQ.body))))))) rfl (fun w hs => run_loadAgg (vs := [Value.int .i64 oq.m.e, Value.int .i64 oq.m.b, Value.int .i64 oq.m.p, Value.int .i64 oq.m.k, Value.int .i64 oq.m.c, Value.slice oq.a oq.m.bl.length oq.cap]) Ty.ag24 Ty.sz24 rfl rfl (cell_all (hs) 0 rfl)) ?_
          refine WD.pure (i := 5) manifestDoes_core_t18 (bt 10 39) rfl rfl rfl (by kernel_rfl) (PQ.then (PQ.then (PQ.blk (PQ.then (PQ.then (PQ.blk (PQ.then PQ.body))))))) rfl (fun w => run_move rfl) ?_
          refine WD.pure (i := 6) manifestDoes_core_t18 (bt 10 103) rfl rfl rfl (by kernel_rfl) (PQ.then (PQ.then (PQ.blk (PQ.then (PQ.then (PQ.blk (PQ.then PQ.body))))))) rfl (fun w => run_fieldAddr (q := ⟨g9, 0, none⟩) (show fieldB Tryz.prog 57 0 = some 0 from by kernel_rfl) rfl rfl) ?_
          refine WD.take (i := 7) manifestDoes_core_t18 (bt 10 231) s74 rfl rfl rfl (by kernel_rfl) (PQ.then (PQ.then (PQ.blk (PQ.then (PQ.then (PQ.blk (PQ.then PQ.body))))))) rfl (fun w hs => run_loadAgg (vs := [Value.int .i64 oq.m.e, Value.int .i64 oq.m.b, Value.int .i64 oq.m.p, Value.int .i64 oq.m.k, Value.int .i64 oq.m.c, Value.slice oq.a oq.m.bl.length oq.cap]) Ty.ag24 Ty.sz24 rfl rfl (cell_all (hs) 0 rfl)) ?_
          refine WD.one (i := 3) manifestDoes_core_t18 (bt 10 239) rfl (by kernel_rfl) ?_
          refine WO.call rfl rfl Ty.hd11 rfl (to_spec (m := oq.m) (fun h => St.rdB h hx.rd) hx.r hS73) (fun v76 w75 pv76 => ?_)
          obtain ⟨b1, c1, rfl, hS75⟩ := pv76
          clear hS73
          refine WO.nil ?_
          have s77 : (∀ j, World.cell? w75 ⟨g9, j, none⟩ = [Value.int .i64 oq.m.e, Value.int .i64 oq.m.b, Value.int .i64 oq.m.p, Value.int .i64 oq.m.k, Value.int .i64 oq.m.c, Value.slice oq.a oq.m.bl.length oq.cap, Value.bool oq.crash, Value.slice oq.keep.a oq.keep.l.length oq.keep.cap, Value.int .i64 oq.fuse, str oq.name, str oq.s][j]?) := hS75.cel_at 2 rfl
          refine NX.held s77 ?_
          refine WD.one (i := 4) manifestDoes_core_t18 (bt 10 255) rfl (by kernel_rfl) ?_
          have hS78 := hS75.permT [5, 0, 0, 0, 0, 0, 0] (L' := dkA g1 D2 :: own b1 oq.m.bl.length c1 9 1 (oq.m.bl.map str) :: (.pure True) :: cel g9 [Value.int .i64 oq.m.e, Value.int .i64 oq.m.b, Value.int .i64 oq.m.p, Value.int .i64 oq.m.k, Value.int .i64 oq.m.c, Value.slice oq.a oq.m.bl.length oq.cap, Value.bool oq.crash, Value.slice oq.keep.a oq.keep.l.length oq.keep.cap, Value.int .i64 oq.fuse, str oq.name, str oq.s] 57 :: (.pure True) :: refA g4 D2 :: (.pure True) :: L) rfl
          clear hS75
          refine WO.call rfl rfl Ty.hd17 rfl (publish_spec (m := oq.m) (fun h => h.own_rd.1) hx.r kD2 (by omega) (by omega) (by have := enc_len hx.r; omega) hS78) (fun v80 w79 pv80 => ?_)
          obtain ⟨rfl, hS79⟩ := pv80
          clear hS78
          refine WO.nil ?_
          have s81 : (∀ j, World.cell? w79 ⟨g9, j, none⟩ = [Value.int .i64 oq.m.e, Value.int .i64 oq.m.b, Value.int .i64 oq.m.p, Value.int .i64 oq.m.k, Value.int .i64 oq.m.c, Value.slice oq.a oq.m.bl.length oq.cap, Value.bool oq.crash, Value.slice oq.keep.a oq.keep.l.length oq.keep.cap, Value.int .i64 oq.fuse, str oq.name, str oq.s][j]?) := hS79.cel_at 3 rfl
          refine NX.held s81 ?_
          refine WD.one (i := 8) manifestDoes_core_t18 (bt 10 511) rfl (by kernel_rfl) ?_
          have hS82 := hS79.permT [5, 2, 0, 0, 0, 0, 0] (L' := refA g4 D2 :: (.pure True) :: dkA g1 ((publishD D2 oq.m).1) :: own b1 oq.m.bl.length c1 9 1 (oq.m.bl.map str) :: cel g9 [Value.int .i64 oq.m.e, Value.int .i64 oq.m.b, Value.int .i64 oq.m.p, Value.int .i64 oq.m.k, Value.int .i64 oq.m.c, Value.slice oq.a oq.m.bl.length oq.cap, Value.bool oq.crash, Value.slice oq.keep.a oq.keep.l.length oq.keep.cap, Value.int .i64 oq.fuse, str oq.name, str oq.s] 57 :: (.pure True) :: (.pure True) :: L) rfl
          clear hS79
          refine WO.call rfl rfl Ty.hd28 rfl (rpublish_spec (m := oq.m) (fun h => St.rdB h hx.rd) hx.r kD2 (by omega) (by omega) (by have := enc_len hx.r; omega) hS82) (fun v84 w83 pv84 => ?_)
          obtain ⟨rfl, hS83⟩ := pv84
          clear hS82
          refine WO.nil ?_
          have s85 : (∀ j, World.cell? w83 ⟨g9, j, none⟩ = [Value.int .i64 oq.m.e, Value.int .i64 oq.m.b, Value.int .i64 oq.m.p, Value.int .i64 oq.m.k, Value.int .i64 oq.m.c, Value.slice oq.a oq.m.bl.length oq.cap, Value.bool oq.crash, Value.slice oq.keep.a oq.keep.l.length oq.keep.cap, Value.int .i64 oq.fuse, str oq.name, str oq.s][j]?) := hS83.cel_at 4 rfl
          refine NX.held s85 ?_
          refine WD.pure (i := 9) manifestDoes_core_t18 (bt 10 1023) rfl rfl rfl (by kernel_rfl) (PQ.then (PQ.then (PQ.blk (PQ.then (PQ.then (PQ.blk (PQ.then PQ.body))))))) rfl (fun w => run_neq rfl rfl) ?_
          refine WD.done manifestDoes_core_t18 (by kernel_rfl) ?_
          refine NX.go ?_
          refine WP.condF rfl (decide_eq_false (fun h => h rfl)) ?_
          refine WP.skip ?_
          exact K18 (publishD D2 oq.m).1 _ _ ⟨(kD2.publish (enc_len hx.r)).mono (by omega) (by omega), (hS83.permT [3, 1, 2, 2, 0, 0, 0] (L' := own b1 oq.m.bl.length c1 9 1 (oq.m.bl.map str) :: (.pure True) :: cel g9 [Value.int .i64 oq.m.e, Value.int .i64 oq.m.b, Value.int .i64 oq.m.p, Value.int .i64 oq.m.k, Value.int .i64 oq.m.c, Value.slice oq.a oq.m.bl.length oq.cap, Value.bool oq.crash, Value.slice oq.keep.a oq.keep.l.length oq.keep.cap, Value.int .i64 oq.fuse, str oq.name, str oq.s] 57 :: (.pure True) :: refA g4 ((publishD D2 oq.m).1) :: dkA g1 ((publishD D2 oq.m).1) :: (.pure True) :: L) rfl).drop⟩ (Sub.cons rfl (Sub.cons rfl (Sub.cons rfl (Sub.cons rfl (Sub.cons rfl (Sub.nil _))))))
       ·
        refine WP.condP rfl (fun g68 => ?_) (fun g68 => ?_)
        ·
         refine WP.seq (WP.region rfl ?_)
         refine WO.mv rfl rfl ?_
         refine WO.val (run_fieldAddr (q := ⟨g9, 8, none⟩) (show fieldB Tryz.prog 57 3 = some 8 from by kernel_rfl) rfl rfl) rfl rfl rfl ?_
         refine WO.val (run_load Ty.ag3 rfl ((hS15.cel_at 1 rfl 8).trans rfl)) rfl rfl rfl ?_
         have hS86 := hS15.permT [4, 0, 0, 0, 0, 0] (L' := dkA g1 D1 :: (.pure True) :: cel g9 [Value.int .i64 oq.m.e, Value.int .i64 oq.m.b, Value.int .i64 oq.m.p, Value.int .i64 oq.m.k, Value.int .i64 oq.m.c, Value.slice oq.a oq.m.bl.length oq.cap, Value.bool oq.crash, Value.slice oq.keep.a oq.keep.l.length oq.keep.cap, Value.int .i64 oq.fuse, str oq.name, str oq.s] 57 :: (.pure True) :: refA g4 D1 :: (.pure True) :: L) rfl
         clear hS15
         refine WO.call rfl rfl Ty.hd18 rfl (dfuse_spec oq.fuse hS86) (fun v88 w87 pv88 => ?_)
         obtain ⟨rfl, hS87⟩ := pv88
         clear hS86
         refine WO.nil (NX.go (WP.region rfl ?_))
         refine WO.mv rfl rfl ?_
         refine WO.val (run_fieldAddr (q := ⟨g9, 8, none⟩) (show fieldB Tryz.prog 57 3 = some 8 from by kernel_rfl) rfl rfl) rfl rfl rfl ?_
         refine WO.val (run_load Ty.ag3 rfl ((hS87.cel_at 2 rfl 8).trans rfl)) rfl rfl rfl ?_
         have hS89 := hS87.permT [4, 0, 0, 0, 0, 0] (L' := refA g4 D1 :: dkA g1 (fuseD D1 oq.fuse) :: (.pure True) :: cel g9 [Value.int .i64 oq.m.e, Value.int .i64 oq.m.b, Value.int .i64 oq.m.p, Value.int .i64 oq.m.k, Value.int .i64 oq.m.c, Value.slice oq.a oq.m.bl.length oq.cap, Value.bool oq.crash, Value.slice oq.keep.a oq.keep.l.length oq.keep.cap, Value.int .i64 oq.fuse, str oq.name, str oq.s] 57 :: (.pure True) :: (.pure True) :: L) rfl
         clear hS87
         refine WO.call rfl rfl Ty.hd26 rfl (r4fuse_spec oq.fuse hS89) (fun v91 w90 pv91 => ?_)
         obtain ⟨rfl, hS90⟩ := pv91
         clear hS89
         refine WO.nil ?_
         exact K16 (fuseD D1 oq.fuse) _ _ ⟨kD1.fuse hx.fl.2, (hS90.permT [2, 2, 2, 0, 0, 0] (L' := (.pure True) :: cel g9 [Value.int .i64 oq.m.e, Value.int .i64 oq.m.b, Value.int .i64 oq.m.p, Value.int .i64 oq.m.k, Value.int .i64 oq.m.c, Value.slice oq.a oq.m.bl.length oq.cap, Value.bool oq.crash, Value.slice oq.keep.a oq.keep.l.length oq.keep.cap, Value.int .i64 oq.fuse, str oq.name, str oq.s] 57 :: (.pure True) :: refA g4 (fuseD D1 oq.fuse) :: dkA g1 (fuseD D1 oq.fuse) :: (.pure True) :: L) rfl)⟩ (Sub.cons rfl (Sub.cons rfl (Sub.cons rfl (Sub.cons rfl (Sub.cons rfl (Sub.nil _))))))
        ·
         refine WP.skip ?_
         exact K16 D1 _ _ ⟨kD1, hS15⟩ (Sub.cons rfl (Sub.cons rfl (Sub.cons rfl (Sub.cons rfl (Sub.cons rfl (Sub.nil _))))))
      ·
       refine WD.start (fun w => (∀ j, World.cell? w ⟨g9, j, none⟩ = [Value.int .i64 oq.m.e, Value.int .i64 oq.m.b, Value.int .i64 oq.m.p, Value.int .i64 oq.m.k, Value.int .i64 oq.m.c, Value.slice oq.a oq.m.bl.length oq.cap, Value.bool oq.crash, Value.slice oq.keep.a oq.keep.l.length oq.keep.cap, Value.int .i64 oq.fuse, str oq.name, str oq.s][j]?)) [] (bt 18 0) Ty.mo rfl (by kernel_rfl) hS12 (fun _ h => h.cel_at 1 rfl) (fun w92 hS92 s93 => ?_)
       clear hS12
       refine WD.pure (i := 0) manifestDoes_core_t10 (bt 18 1) rfl rfl rfl (by kernel_rfl) (PQ.then (PQ.then (PQ.blk (PQ.then (PQ.then (PQ.blk (PQ.then PQ.body))))))) rfl (fun w => run_fieldAddr (q := ⟨g9, 9, none⟩) (show fieldB Tryz.prog 57 4 = some 9 from by kernel_rfl) rfl rfl) ?_
       refine WD.take (i := 1) manifestDoes_core_t10 (bt 18 3) s93 rfl rfl rfl (by kernel_rfl) (PQ.then (PQ.then (PQ.blk (PQ.then (PQ.then (PQ.blk (PQ.then PQ.body))))))) rfl (fun w hs => run_load Ty.ag9 rfl ((hs 9).trans rfl)) ?_
       refine WD.pure (i := 2) manifestDoes_core_t10 (bt 18 7) rfl rfl rfl (by kernel_rfl) (PQ.then (PQ.then (PQ.blk (PQ.then (PQ.then (PQ.blk (PQ.then PQ.body))))))) rfl (fun w => run_neqS rfl rfl) ?_
       refine WD.pure (i := 3) manifestDoes_core_t10 (bt 18 15) rfl rfl rfl (by kernel_rfl) (PQ.then (PQ.then (PQ.blk (PQ.then (PQ.then (PQ.blk (PQ.then PQ.body))))))) rfl (fun w => run_move rfl) ?_
       by_cases g51 : ¬ oq.name = []
       ·
        refine WD.pureOn (i := 4) manifestDoes_core_t10 (bt 18 31) rfl rfl rfl (decide_eq_true g51) (by kernel_rfl) (PQ.then (PQ.then (PQ.blk (PQ.then (PQ.then (PQ.blk (PQ.then PQ.body))))))) rfl (fun w => run_move rfl) ?_
        refine WD.pureOn (i := 5) manifestDoes_core_t10 (bt 18 63) rfl rfl rfl (decide_eq_true g51) (by kernel_rfl) (PQ.then (PQ.then (PQ.blk (PQ.then (PQ.then (PQ.blk (PQ.then PQ.body))))))) rfl (fun w => run_fieldAddr (q := ⟨g9, 9, none⟩) (show fieldB Tryz.prog 57 4 = some 9 from by kernel_rfl) rfl rfl) ?_
        refine WD.takeOn (i := 6) manifestDoes_core_t10 (bt 18 127) s93 rfl rfl rfl (decide_eq_true g51) (by kernel_rfl) (PQ.then (PQ.then (PQ.blk (PQ.then (PQ.then (PQ.blk (PQ.then PQ.body))))))) rfl (fun w hs => run_load Ty.ag9 rfl ((hs 9).trans rfl)) ?_
        refine WD.pureOn (i := 7) manifestDoes_core_t10 (bt 18 255) rfl rfl rfl (decide_eq_true g51) (by kernel_rfl) (PQ.then (PQ.then (PQ.blk (PQ.then (PQ.then (PQ.blk (PQ.then PQ.body))))))) rfl (fun w => run_fieldAddr (q := ⟨g9, 10, none⟩) (show fieldB Tryz.prog 57 5 = some 10 from by kernel_rfl) rfl rfl) ?_
        refine WD.takeOn (i := 8) manifestDoes_core_t10 (bt 18 511) s93 rfl rfl rfl (decide_eq_true g51) (by kernel_rfl) (PQ.then (PQ.then (PQ.blk (PQ.then (PQ.then (PQ.blk (PQ.then PQ.body))))))) rfl (fun w hs => run_load Ty.ag9 rfl ((hs 10).trans rfl)) ?_
        refine WD.pureOn (i := 10) manifestDoes_core_t10 (bt 18 1535) rfl rfl rfl (decide_eq_true g51) (by kernel_rfl) (PQ.then (PQ.then (PQ.blk (PQ.then (PQ.then (PQ.blk (PQ.then PQ.body))))))) rfl (fun w => run_move rfl) ?_
        refine WD.pureOn (i := 11) manifestDoes_core_t10 (bt 18 3583) rfl rfl rfl (decide_eq_true g51) (by kernel_rfl) (PQ.then (PQ.then (PQ.blk (PQ.then (PQ.then (PQ.blk (PQ.then PQ.body))))))) rfl (fun w => run_fieldAddr (q := ⟨g9, 9, none⟩) (show fieldB Tryz.prog 57 4 = some 9 from by kernel_rfl) rfl rfl) ?_
        refine WD.takeOn (i := 12) manifestDoes_core_t10 (bt 18 7679) s93 rfl rfl rfl (decide_eq_true g51) (by kernel_rfl) (PQ.then (PQ.then (PQ.blk (PQ.then (PQ.then (PQ.blk (PQ.then PQ.body))))))) rfl (fun w hs => run_load Ty.ag9 rfl ((hs 9).trans rfl)) ?_
        refine WD.pureOn (i := 13) manifestDoes_core_t10 (bt 18 15871) rfl rfl rfl (decide_eq_true g51) (by kernel_rfl) (PQ.then (PQ.then (PQ.blk (PQ.then (PQ.then (PQ.blk (PQ.then PQ.body))))))) rfl (fun w => run_fieldAddr (q := ⟨g9, 10, none⟩) (show fieldB Tryz.prog 57 5 = some 10 from by kernel_rfl) rfl rfl) ?_
        refine WD.takeOn (i := 14) manifestDoes_core_t10 (bt 18 32255) s93 rfl rfl rfl (decide_eq_true g51) (by kernel_rfl) (PQ.then (PQ.then (PQ.blk (PQ.then (PQ.then (PQ.blk (PQ.then PQ.body))))))) rfl (fun w hs => run_load Ty.ag9 rfl ((hs 10).trans rfl)) ?_
        refine WD.one (i := 9) manifestDoes_core_t10 (bt 18 32767) rfl (by kernel_rfl) ?_
        refine WO.on rfl rfl (decide_eq_true g51) ?_
        have hS94 := hS92.permT [4, 0, 0, 0, 0, 0] (L' := dkA g1 D :: (.pure True) :: cel g9 [Value.int .i64 oq.m.e, Value.int .i64 oq.m.b, Value.int .i64 oq.m.p, Value.int .i64 oq.m.k, Value.int .i64 oq.m.c, Value.slice oq.a oq.m.bl.length oq.cap, Value.bool oq.crash, Value.slice oq.keep.a oq.keep.l.length oq.keep.cap, Value.int .i64 oq.fuse, str oq.name, str oq.s] 57 :: (.pure True) :: refA g4 D :: (.pure True) :: L) rfl
        clear hS92
        refine WO.call rfl rfl Ty.hd23 rfl (dappend_spec kD.w kD.b (by omega) (by omega) oq.name oq.s (by have := hx.nl; omega) (by have := hx.sl; omega) hS94) (fun v96 w95 pv96 => ?_)
        obtain ⟨rfl, hS95⟩ := pv96
        clear hS94
        refine WO.nil ?_
        have s97 : (∀ j, World.cell? w95 ⟨g9, j, none⟩ = [Value.int .i64 oq.m.e, Value.int .i64 oq.m.b, Value.int .i64 oq.m.p, Value.int .i64 oq.m.k, Value.int .i64 oq.m.c, Value.slice oq.a oq.m.bl.length oq.cap, Value.bool oq.crash, Value.slice oq.keep.a oq.keep.l.length oq.keep.cap, Value.int .i64 oq.fuse, str oq.name, str oq.s][j]?) := hS95.cel_at 2 rfl
        refine NX.held s97 ?_
        refine WD.one (i := 15) manifestDoes_core_t10 (bt 18 65535) rfl (by kernel_rfl) ?_
        refine WO.on rfl rfl (decide_eq_true g51) ?_
        have hS98 := hS95.permT [4, 0, 0, 0, 0, 0] (L' := refA g4 D :: dkA g1 ((appendD D oq.name oq.s).1) :: (.pure True) :: cel g9 [Value.int .i64 oq.m.e, Value.int .i64 oq.m.b, Value.int .i64 oq.m.p, Value.int .i64 oq.m.k, Value.int .i64 oq.m.c, Value.slice oq.a oq.m.bl.length oq.cap, Value.bool oq.crash, Value.slice oq.keep.a oq.keep.l.length oq.keep.cap, Value.int .i64 oq.fuse, str oq.name, str oq.s] 57 :: (.pure True) :: (.pure True) :: L) rfl
        clear hS95
        refine WO.call rfl rfl Ty.hd25 rfl (r4append_spec kD (by omega) (by omega) oq.name oq.s (by have := hx.nl; omega) (by have := hx.sl; omega) hS98) (fun v100 w99 pv100 => ?_)
        obtain ⟨rfl, hS99⟩ := pv100
        clear hS98
        refine WO.nil ?_
        have s101 : (∀ j, World.cell? w99 ⟨g9, j, none⟩ = [Value.int .i64 oq.m.e, Value.int .i64 oq.m.b, Value.int .i64 oq.m.p, Value.int .i64 oq.m.k, Value.int .i64 oq.m.c, Value.slice oq.a oq.m.bl.length oq.cap, Value.bool oq.crash, Value.slice oq.keep.a oq.keep.l.length oq.keep.cap, Value.int .i64 oq.fuse, str oq.name, str oq.s][j]?) := hS99.cel_at 3 rfl
        refine NX.held s101 ?_
        refine WD.pureOn (i := 16) manifestDoes_core_t10 (bt 18 131071) rfl rfl rfl (decide_eq_true g51) (by kernel_rfl) (PQ.then (PQ.then (PQ.blk (PQ.then (PQ.then (PQ.blk (PQ.then PQ.body))))))) rfl (fun w => run_neq rfl rfl) ?_
        refine WD.pure (i := 17) manifestDoes_core_t10 (bt 18 262143) rfl rfl rfl (by kernel_rfl) (PQ.then (PQ.then (PQ.blk (PQ.then (PQ.then (PQ.blk (PQ.then PQ.body))))))) rfl (fun w => run_pickT rfl (decide_eq_true g51) rfl) ?_
        refine WD.done manifestDoes_core_t10 (by kernel_rfl) ?_
        exact K14 (appendD D oq.name oq.s).1 _ _ ⟨(kD.append (k := oq.name) (s := oq.s)).mono (by omega) (by omega), (hS99.permT [2, 2, 2, 0, 0, 0] (L' := (.pure True) :: cel g9 [Value.int .i64 oq.m.e, Value.int .i64 oq.m.b, Value.int .i64 oq.m.p, Value.int .i64 oq.m.k, Value.int .i64 oq.m.c, Value.slice oq.a oq.m.bl.length oq.cap, Value.bool oq.crash, Value.slice oq.keep.a oq.keep.l.length oq.keep.cap, Value.int .i64 oq.fuse, str oq.name, str oq.s] 57 :: (.pure True) :: refA g4 ((appendD D oq.name oq.s).1) :: dkA g1 ((appendD D oq.name oq.s).1) :: (.pure True) :: L) rfl)⟩ (Sub.cons rfl (Sub.cons rfl (Sub.cons rfl (Sub.cons rfl (Sub.cons rfl (Sub.consE rfl (by first | rfl | first | rfl | (congr 1; omega) | (simp; done) | (simp; omega)) (Sub.nil _)))))))
       ·
        refine WD.off (i := 4) manifestDoes_core_t10 (bt 18 31) rfl rfl rfl (decide_eq_false g51) (by kernel_rfl) (PQ.then (PQ.then (PQ.blk (PQ.then (PQ.then (PQ.blk (PQ.then PQ.body))))))) rfl ?_
        refine WD.off (i := 5) manifestDoes_core_t10 (bt 18 63) rfl rfl rfl (decide_eq_false g51) (by kernel_rfl) (PQ.then (PQ.then (PQ.blk (PQ.then (PQ.then (PQ.blk (PQ.then PQ.body))))))) rfl ?_
        refine WD.off (i := 6) manifestDoes_core_t10 (bt 18 127) rfl rfl rfl (decide_eq_false g51) (by kernel_rfl) (PQ.then (PQ.then (PQ.blk (PQ.then (PQ.then (PQ.blk (PQ.then PQ.body))))))) rfl ?_
        refine WD.off (i := 7) manifestDoes_core_t10 (bt 18 255) rfl rfl rfl (decide_eq_false g51) (by kernel_rfl) (PQ.then (PQ.then (PQ.blk (PQ.then (PQ.then (PQ.blk (PQ.then PQ.body))))))) rfl ?_
        refine WD.off (i := 8) manifestDoes_core_t10 (bt 18 511) rfl rfl rfl (decide_eq_false g51) (by kernel_rfl) (PQ.then (PQ.then (PQ.blk (PQ.then (PQ.then (PQ.blk (PQ.then PQ.body))))))) rfl ?_
        refine WD.off (i := 9) manifestDoes_core_t10 (bt 18 1023) rfl rfl rfl (decide_eq_false g51) (by kernel_rfl) (PQ.then (PQ.then (PQ.blk (PQ.then (PQ.then (PQ.blk (PQ.then PQ.body))))))) rfl ?_
        refine WD.off (i := 10) manifestDoes_core_t10 (bt 18 2047) rfl rfl rfl (decide_eq_false g51) (by kernel_rfl) (PQ.then (PQ.then (PQ.blk (PQ.then (PQ.then (PQ.blk (PQ.then PQ.body))))))) rfl ?_
        refine WD.off (i := 11) manifestDoes_core_t10 (bt 18 4095) rfl rfl rfl (decide_eq_false g51) (by kernel_rfl) (PQ.then (PQ.then (PQ.blk (PQ.then (PQ.then (PQ.blk (PQ.then PQ.body))))))) rfl ?_
        refine WD.off (i := 12) manifestDoes_core_t10 (bt 18 8191) rfl rfl rfl (decide_eq_false g51) (by kernel_rfl) (PQ.then (PQ.then (PQ.blk (PQ.then (PQ.then (PQ.blk (PQ.then PQ.body))))))) rfl ?_
        refine WD.off (i := 13) manifestDoes_core_t10 (bt 18 16383) rfl rfl rfl (decide_eq_false g51) (by kernel_rfl) (PQ.then (PQ.then (PQ.blk (PQ.then (PQ.then (PQ.blk (PQ.then PQ.body))))))) rfl ?_
        refine WD.off (i := 14) manifestDoes_core_t10 (bt 18 32767) rfl rfl rfl (decide_eq_false g51) (by kernel_rfl) (PQ.then (PQ.then (PQ.blk (PQ.then (PQ.then (PQ.blk (PQ.then PQ.body))))))) rfl ?_
        refine WD.off (i := 15) manifestDoes_core_t10 (bt 18 65535) rfl rfl rfl (decide_eq_false g51) (by kernel_rfl) (PQ.then (PQ.then (PQ.blk (PQ.then (PQ.then (PQ.blk (PQ.then PQ.body))))))) rfl ?_
        refine WD.off (i := 16) manifestDoes_core_t10 (bt 18 131071) rfl rfl rfl (decide_eq_false g51) (by kernel_rfl) (PQ.then (PQ.then (PQ.blk (PQ.then (PQ.then (PQ.blk (PQ.then PQ.body))))))) rfl ?_
        refine WD.pure (i := 17) manifestDoes_core_t10 (bt 18 262143) rfl rfl rfl (by kernel_rfl) (PQ.then (PQ.then (PQ.blk (PQ.then (PQ.then (PQ.blk (PQ.then PQ.body))))))) rfl (fun w => run_pickF rfl (decide_eq_false g51) rfl) ?_
        refine WD.done manifestDoes_core_t10 (by kernel_rfl) ?_
        exact K14 D _ _ ⟨kD.mono (by omega) (by omega), hS92⟩ (Sub.cons rfl (Sub.cons rfl (Sub.cons rfl (Sub.cons rfl (Sub.cons rfl (Sub.cons rfl (Sub.nil _)))))))
  ·
   refine WP.exit (NX.thenExit (NX.thenExit ?_))
   refine NX.blkExit ?_
   refine NX.go (WP.seq (WP.region rfl ?_))
   refine WO.asg rfl rfl ?_
   refine WO.nil (NX.go (WP.ret ?_))
   refine NX.done (l := [.tmp 4]) rfl rfl ?_
   exact ⟨rfl, hS7.drop.drop.drop⟩
 ·
  refine WO.off rfl rfl (decide_eq_false g23) rfl ?_
  refine WO.off rfl rfl (decide_eq_false g23) rfl ?_
  refine WO.val (run_pickF rfl (decide_eq_false g23) rfl) rfl rfl rfl ?_
  refine WO.nil (NX.go ?_)
  refine WP.condF rfl rfl ?_
  refine WP.exit (NX.thenExit (NX.thenExit ?_))
  refine NX.blkExit ?_
  refine NX.go (WP.seq (WP.region rfl ?_))
  refine WO.asg rfl rfl ?_
  refine WO.nil (NX.go (WP.ret ?_))
  refine NX.done (l := [.tmp 4]) rfl rfl ?_
  exact ⟨rfl, hS7.drop.drop.drop⟩
end Go.Proofs.YtcehlnpbdffdhaaGreatDoor.SL
