/- MergeAsks: the law. -/
import Derived.Test.YtidoidoelgfnaaaGreatDoorKk4
import Derived.Test.YtidoidoelgfnaaaGreatDoorKp1M
import Derived.Test.YtidoidoelgfnaaaGreatDoorKrmM
namespace Go.Proofs.YtidoidoelgfnaaaGreatDoor.SL
open Go.RowKit Go.Proofs.YtidoidoelgfnaaaGreatDoor
open Go.Proofs.YtidoidoelgfnaaaGreatDoorW.PrintLast (rtab opsOf)
set_option linter.unusedVariables false
set_option linter.unusedSimpArgs false

structure AskV where
  ms : SlV Mt
  fr : Int
  to : Int
def askc (q : AskV) : List Value := [.slice q.ms.a q.ms.l.length q.ms.cap, .int .i64 q.fr, .int .i64 q.to]
theorem mem_of_map {α β : Type} {f : α → β} {l m : List α} (h : l.map f = m.map f) {x : α} (hx : x ∈ l) : ∃ y ∈ m, f y = f x := by
  have : f x ∈ m.map f := by rw [← h]; exact List.mem_map.2 ⟨x, hx, rfl⟩
  exact List.mem_map.1 this
theorem MRow.of_p {r s : MRow} (h : r.p = s.p) : r.lb.l = s.lb.l ∧ r.last = s.last ∧ r.pt.l = s.pt.l := ⟨congrArg RowP.lb h, congrArg RowP.last h, congrArg RowP.pts h⟩
theorem BlkV.of_p {b c : BlkV} (h : b.p = c.p) : b.first = c.first ∧ b.to = c.to ∧ b.rs.l.map MRow.p = c.rs.l.map MRow.p ∧ b.ds.l.map Rcd.p = c.ds.l.map Rcd.p := ⟨congrArg BlkP.first h, congrArg BlkP.to h, congrArg BlkP.rows h, congrArg BlkP.dels h⟩
theorem map_len {α β : Type} {f : α → β} {l m : List α} (h : l.map f = m.map f) : l.length = m.length := by have := congrArg List.length h; simpa using this
theorem rsum_p : ∀ {l m : List MRow}, l.map MRow.p = m.map MRow.p → rsum l = rsum m
  | [], [], _ => rfl
  | [], _ :: _, h => by simp at h
  | _ :: _, [], h => by simp at h
  | r :: l, s :: m, h => by
    simp only [List.map_cons, List.cons.injEq] at h
    rw [rsum, rsum, (MRow.of_p h.1).2.2, rsum_p h.2]
theorem tots_p : ∀ {l m : List BlkV}, l.map BlkV.p = m.map BlkV.p → rtot l = rtot m ∧ ptot l = ptot m ∧ dtot l = dtot m
  | [], [], _ => ⟨rfl, rfl, rfl⟩
  | [], _ :: _, h => by simp at h
  | _ :: _, [], h => by simp at h
  | b :: l, c :: m, h => by
    simp only [List.map_cons, List.cons.injEq] at h
    obtain ⟨i1, i2, i3⟩ := tots_p h.2
    obtain ⟨_, _, h3, h4⟩ := BlkV.of_p h.1
    rw [rtot, rtot, ptot, ptot, dtot, dtot, i1, i2, i3, rsum_p h3, map_len h3, map_len h4]
    exact ⟨rfl, rfl, rfl⟩
theorem SzB.of_p {b c : BlkV} (h : c.p = b.p) (z : SzB b) : SzB c := by
  obtain ⟨_, _, h3, h4⟩ := BlkV.of_p h
  refine ⟨by rw [map_len h3]; exact z.nr, by rw [map_len h4]; exact z.nd, fun r hr => ?_, fun d hd => ?_⟩
  · obtain ⟨s, hs, e⟩ := mem_of_map h3 hr
    obtain ⟨e1, e2, e3⟩ := MRow.of_p e
    have := z.r s hs
    rw [e1, e3] at this; exact this
  · obtain ⟨s, hs, e⟩ := mem_of_map h4 hd
    exact SzR.of_p e.symm (z.d s hs)
theorem chk_of_p {l m : List BlkV} (h : l.map BlkV.p = m.map BlkV.p) (hm : ∀ b ∈ m, ∀ r ∈ b.rs.l, chk r.lb.l = true) : ∀ b ∈ l, ∀ r ∈ b.rs.l, chk r.lb.l = true := fun b hb r hr => by
  obtain ⟨c, hc, e⟩ := mem_of_map h hb
  obtain ⟨s, hs, e2⟩ := mem_of_map (BlkV.of_p e).2.2.1.symm hr
  rw [← (MRow.of_p e2).1]; exact hm c hc s hs
theorem rsum_mem : ∀ {l : List MRow} {r : MRow}, r ∈ l → r.pt.l.length ≤ rsum l
  | s :: l, r, h => by
    rcases List.mem_cons.1 h with e | h
    · subst e; rw [rsum]; omega
    · have := rsum_mem h; rw [rsum]; omega
theorem szB_of {b : BlkV} (z : MzB b) (h : checkB b = 0) (hw : wgt b ≤ 1999) : SzB b := by
  have h1 := wsum_ge (checkB_chk h)
  unfold wgt at hw
  exact ⟨z.nr, z.nd, fun r hr => ⟨(z.r r hr).1, by have := rsum_mem hr; omega, (z.r r hr).2.2⟩, z.d⟩
theorem allA_base {α : Type} {f : α → HP} {B : World} : ∀ {l : List α}, (∀ x ∈ l, ∀ {L : List HP} {w : World}, St B L w → St B (f x :: L) w) → ∀ {L : List HP} {w : World}, St B L w → St B (allA f l :: L) w
  | [], _, _, _, h => h.addPure trivial
  | x :: l, hf, L, w, h => St.join (hf x (by simp) (allA_base (fun y hy => hf y (by simp [hy])) h))
theorem mergeAsks_core_t10 : rtab .any (opsOf Tryz.f3 10) = (true, [([], []), ([0], [0]), ([], []), ([], []), ([], []), ([4], [4]), ([3, 5, 1], [3, 5]), ([], []), ([7], [7]), ([], []), ([9], [9]), ([1, 2, 6, 8, 10, 6], [1, 2, 6, 8, 10]), ([], []), ([], []), ([], []), ([14], [14]), ([], []), ([16], [16]), ([], []), ([18], [18]), ([12, 13, 15, 17, 19, 11], [12, 13, 15, 17, 19]), ([11, 20, 20], [11, 20]), ([21, 21, 0, 1, 2, 3, 4, 5, 6, 7, 8, 9, 10, 11, 12, 13, 14, 15, 16, 17, 18, 19, 20, 21], [21])]) := by kernel_rfl
theorem mergeAsks_core {B w : World} {L : List HP} {a b : Option Addr} {cap cap2 : Nat} {bs : List BlkV} {dels : List Rcd} (q : AskV) (hbz : ∀ b ∈ bs, MzB b) (hbn : bs.length ≤ 2199023255552) (hcp : bs.length ≤ cap) (hdz : ∀ r ∈ dels, SzR r) (hmz : SzM q.ms.l) (hS : St B ((rdH a bs.length 4 (bs.flatMap blc)) :: allA blA bs :: (rdH b dels.length 5 (dels.flatMap rcc)) :: allA recA dels :: (rdH q.ms.a q.ms.l.length 3 (q.ms.l.flatMap mtc)) :: L) w) : Does Tryz.prog 3 [Value.slice a bs.length cap, Value.slice b dels.length cap2, Value.agg #[Value.slice q.ms.a q.ms.l.length q.ms.cap, Value.int .i64 q.fr, Value.int .i64 q.to]] w (fun v w1 => v = .bool true ∧ St B L w1) := by
 refine enter (n := 84) Tryz.func3 rfl rfl [Value.slice a bs.length cap, Value.slice b dels.length cap2, Value.agg #[Value.slice q.ms.a q.ms.l.length q.ms.cap, Value.int .i64 q.fr, Value.int .i64 q.to]] rfl ?_
 refine WP.seq (WP.region rfl ?_)
 refine WO.box (l := [Value.slice q.ms.a q.ms.l.length q.ms.cap, Value.int .i64 q.fr, Value.int .i64 q.to]) hS rfl rfl rfl (fun g2 w1 lg2 hS1 => ?_)
 clear hS
 refine WO.asg rfl rfl ?_
 refine WO.nil (NX.go (WP.seq (WP.seq (WP.region rfl ?_))))
 refine WO.mv rfl rfl ?_
 have hS3 := hS1.permT [1, 1, 0, 0, 0, 0] (L' := (rdH a bs.length 4 (bs.flatMap blc)) :: allA blA bs :: cel g2 [Value.slice q.ms.a q.ms.l.length q.ms.cap, Value.int .i64 q.fr, Value.int .i64 q.to] 26 :: (rdH b dels.length 5 (dels.flatMap rcc)) :: allA recA dels :: (rdH q.ms.a q.ms.l.length 3 (q.ms.l.flatMap mtc)) :: L) rfl
 clear hS1
 refine WO.call rfl rfl Ty.hd12 rfl (g16_spec rdH_rd hbz hbn hS3) (fun v5 w4 pv5 => ?_)
 obtain ⟨⟨qg, rfl, hqg⟩, hS4⟩ := pv5
 clear hS3
 refine WO.mv rfl rfl ?_
 rcases Bool.eq_false_or_eq_true qg with g11 | g11
 ·
  refine WO.off rfl rfl g11 rfl ?_
  refine WO.off rfl rfl g11 rfl ?_
  refine WO.off rfl rfl g11 rfl ?_
  refine WO.val (run_pickT rfl g11 rfl) rfl rfl rfl ?_
  refine WO.mv rfl rfl ?_
  refine WO.off rfl rfl rfl rfl ?_
  refine WO.off rfl rfl rfl rfl ?_
  refine WO.off rfl rfl rfl rfl ?_
  refine WO.off rfl rfl rfl rfl ?_
  refine WO.val (run_pickT rfl rfl rfl) rfl rfl rfl ?_
  refine WO.mv rfl rfl ?_
  refine WO.off rfl rfl rfl rfl ?_
  refine WO.off rfl rfl rfl rfl ?_
  refine WO.off rfl rfl rfl rfl ?_
  refine WO.val (run_pickT rfl rfl rfl) rfl rfl rfl ?_
  refine WO.nil (NX.go ?_)
  refine WP.condT rfl rfl ?_
  refine WP.seq (WP.region rfl ?_)
  refine WO.asg rfl rfl ?_
  refine WO.nil (NX.go (WP.ret (NX.thenRet ?_)))
  refine NX.done (l := [.tmp 6]) rfl rfl ?_
  exact ⟨rfl, hS4.drop.drop.drop.drop.drop.drop⟩
 ·
  refine WO.on rfl rfl g11 ?_
  refine WO.mv rfl rfl ?_
  refine WO.on rfl rfl g11 ?_
  refine WO.val (run_len rfl Tryz.underlying23 rfl) rfl rfl rfl ?_
  refine WO.on rfl rfl g11 ?_
  refine WO.val (run_gtr rfl rfl) rfl rfl rfl ?_
  refine WO.val (run_pickF rfl g11 rfl) rfl rfl rfl ?_
  refine WO.mv rfl rfl ?_
  by_cases g16 : 20 < ((dels.length : Nat) : Int)
  ·
   refine WO.off rfl rfl (decide_eq_true g16) rfl ?_
   refine WO.off rfl rfl (decide_eq_true g16) rfl ?_
   refine WO.off rfl rfl (decide_eq_true g16) rfl ?_
   refine WO.off rfl rfl (decide_eq_true g16) rfl ?_
   refine WO.val (run_pickT rfl (decide_eq_true g16) rfl) rfl rfl rfl ?_
   refine WO.mv rfl rfl ?_
   refine WO.off rfl rfl rfl rfl ?_
   refine WO.off rfl rfl rfl rfl ?_
   refine WO.off rfl rfl rfl rfl ?_
   refine WO.val (run_pickT rfl rfl rfl) rfl rfl rfl ?_
   refine WO.nil (NX.go ?_)
   refine WP.condT rfl rfl ?_
   refine WP.seq (WP.region rfl ?_)
   refine WO.asg rfl rfl ?_
   refine WO.nil (NX.go (WP.ret (NX.thenRet ?_)))
   refine NX.done (l := [.tmp 6]) rfl rfl ?_
   exact ⟨rfl, hS4.drop.drop.drop.drop.drop.drop⟩
  ·
   refine WO.on rfl rfl (decide_eq_false g16) ?_
   refine WO.val (run_fieldAddr (q := ⟨g2, 0, none⟩) (show fieldB Tryz.prog 26 0 = some 0 from by kernel_rfl) rfl rfl) rfl rfl rfl ?_
   refine WO.on rfl rfl (decide_eq_false g16) ?_
   refine WO.val (run_load Ty.ag24 rfl ((hS4.cel_at 2 rfl 0).trans rfl)) rfl rfl rfl ?_
   refine WO.on rfl rfl (decide_eq_false g16) ?_
   refine WO.val (run_len rfl Tryz.underlying24 rfl) rfl rfl rfl ?_
   refine WO.on rfl rfl (decide_eq_false g16) ?_
   refine WO.val (run_gtr rfl rfl) rfl rfl rfl ?_
   refine WO.val (run_pickF rfl (decide_eq_false g16) rfl) rfl rfl rfl ?_
   refine WO.mv rfl rfl ?_
   by_cases g22 : 50 < ((q.ms.l.length : Nat) : Int)
   ·
    refine WO.off rfl rfl (decide_eq_true g22) rfl ?_
    refine WO.off rfl rfl (decide_eq_true g22) rfl ?_
    refine WO.off rfl rfl (decide_eq_true g22) rfl ?_
    refine WO.val (run_pickT rfl (decide_eq_true g22) rfl) rfl rfl rfl ?_
    refine WO.nil (NX.go ?_)
    refine WP.condT rfl rfl ?_
    refine WP.seq (WP.region rfl ?_)
    refine WO.asg rfl rfl ?_
    refine WO.nil (NX.go (WP.ret (NX.thenRet ?_)))
    refine NX.done (l := [.tmp 6]) rfl rfl ?_
    exact ⟨rfl, hS4.drop.drop.drop.drop.drop.drop⟩
   ·
    refine WO.on rfl rfl (decide_eq_false g22) ?_
    refine WO.mv rfl rfl ?_
    refine WO.on rfl rfl (decide_eq_false g22) ?_
    refine WO.call rfl rfl Ty.hd13 rfl (rfollow_spec rdH_rd hbz hcp (hqg g11).1 (hqg g11).2 hS4) (fun v7 w6 pv7 => ?_)
    obtain ⟨ef, rfl, hef, hS6⟩ := pv7
    clear hS4
    refine WO.on rfl rfl (decide_eq_false g22) ?_
    refine WO.val (run_neq rfl rfl) rfl rfl rfl ?_
    refine WO.val (run_pickF rfl (decide_eq_false g22) rfl) rfl rfl rfl ?_
    refine WO.nil (NX.go ?_)
    refine WP.condP rfl (fun g26 => ?_) (fun g26 => ?_)
    ·
     refine WP.seq (WP.region rfl ?_)
     refine WO.asg rfl rfl ?_
     refine WO.nil (NX.go (WP.ret (NX.thenRet ?_)))
     refine NX.done (l := [.tmp 6]) rfl rfl ?_
     exact ⟨rfl, hS6.drop.drop.drop.drop.drop.drop⟩
    ·
     refine WP.skip (NX.go (WP.seq ?_))
     have hef0 : ef = 0 := by simpa using g26
     have hch := hef hef0
     have hw8 := (hqg g11).1
     have hwg := (hqg g11).2
     have hsz : ∀ b ∈ bs, SzB b := fun b hb => szB_of (hbz b hb) (hch b hb) (hwg b hb)
     have hck : ∀ b ∈ bs, ∀ r ∈ b.rs.l, chk r.lb.l = true := fun b hb => checkB_chk (hch b hb)
     obtain ⟨u1, u2, u3⟩ := tots hch hwg
     have hmn : q.ms.l.length ≤ 4398046511104 := by omega
     refine WP.region rfl ?_
     refine WO.asg rfl rfl ?_
     refine WO.nil (NX.go (WP.seq (WP.seq (WP.region rfl ?_))))
     refine WO.asg rfl rfl ?_
     refine WO.nil (NX.go (WP.block ?_))
     replace hS6 := (St.addPure trivial hS6 : St B (allA recA [] :: (rdH a bs.length 4 (bs.flatMap blc)) :: allA blA bs :: cel g2 [Value.slice q.ms.a q.ms.l.length q.ms.cap, Value.int .i64 q.fr, Value.int .i64 q.to] 26 :: (rdH b dels.length 5 (dels.flatMap rcc)) :: allA recA dels :: (rdH q.ms.a q.ms.l.length 3 (q.ms.l.flatMap mtc)) :: L) w6)
     replace hS6 := hS6.own_nil 33 5
     refine WP.loop (α := Nat × List Rcd × Option Addr × Nat) (fun x => match x with | ⟨i, ol, oa, oc⟩ => [(0, Value.slice a bs.length cap), (1, Value.slice b dels.length cap2), (5, Value.pointer (some ⟨g2, 0, none⟩)), (7, Value.slice oa ol.length oc), (8, Value.int .i64 (i : Int))]) (fun x w => match x with | ⟨i, ol, oa, oc⟩ => (i ≤ dels.length ∧ ol.map Rcd.p = (dels.take i).map Rcd.p ∧ ol.length = i) ∧ St B (own oa ol.length oc 33 5 (ol.flatMap rcc) :: allA recA ol :: cel g2 [Value.slice q.ms.a q.ms.l.length q.ms.cap, Value.int .i64 q.fr, Value.int .i64 q.to] 26 :: (rdH a bs.length 4 (bs.flatMap blc)) :: allA blA bs :: (rdH b dels.length 5 (dels.flatMap rcc)) :: allA recA dels :: (rdH q.ms.a q.ms.l.length 3 (q.ms.l.flatMap mtc)) :: L) w) (fun x => match x with | ⟨i, ol, oa, oc⟩ => dels.length - i) (0, [], none, 0) ⟨⟨Nat.zero_le _, rfl, rfl⟩, (hS6.permT [0, 0, 2, 0, 0, 0, 0, 0] (L' := own none 0 0 33 5 [] :: allA recA [] :: cel g2 [Value.slice q.ms.a q.ms.l.length q.ms.cap, Value.int .i64 q.fr, Value.int .i64 q.to] 26 :: (rdH a bs.length 4 (bs.flatMap blc)) :: allA blA bs :: (rdH b dels.length 5 (dels.flatMap rcc)) :: allA recA dels :: (rdH q.ms.a q.ms.l.length 3 (q.ms.l.flatMap mtc)) :: L) rfl)⟩ (Sub.cons rfl (Sub.cons rfl (Sub.cons rfl (Sub.consE rfl (by first | rfl | first | rfl | (congr 1; omega) | (simp; done) | (simp; omega)) (Sub.consE rfl (by first | rfl | first | rfl | (congr 1; omega) | (simp; done) | (simp; omega)) (Sub.nil _)))))) ?_
     rintro ⟨i, ol, oa, oc⟩ w8 ⟨⟨hi, hol, hon⟩, hS8⟩
     clear hS6
     refine WP.seq (WP.seq (WP.region rfl ?_))
     refine WO.mv rfl rfl ?_
     refine WO.mv rfl rfl ?_
     refine WO.val (run_len rfl Tryz.underlying23 rfl) rfl rfl rfl ?_
     refine WO.val (run_lss rfl rfl) rfl rfl rfl ?_
     refine WO.nil (NX.go ?_)
     refine WP.condP rfl (fun g30 => ?_) (fun g30 => ?_)
     ·
      refine WP.skip (NX.go (WP.seq (WP.block (WP.seq (WP.seq ?_)))))
      obtain ⟨d1, hd1⟩ : ∃ qq, dels[i]? = some qq := ⟨_, List.getElem?_eq_getElem (by omega)⟩
      have hsa : b.isSome = true := rd_isSome ((rdH_rd (hS8.focus 5 rfl))) (by omega)
      have hS9 := allA_get recA_pers (List.mem_of_getElem? hd1) (hS8.permT [6, 0, 0, 0, 0, 0, 0, 0] (L' := allA recA dels :: own oa ol.length oc 33 5 (ol.flatMap rcc) :: allA recA ol :: cel g2 [Value.slice q.ms.a q.ms.l.length q.ms.cap, Value.int .i64 q.fr, Value.int .i64 q.to] 26 :: (rdH a bs.length 4 (bs.flatMap blc)) :: allA blA bs :: (rdH b dels.length 5 (dels.flatMap rcc)) :: (rdH q.ms.a q.ms.l.length 3 (q.ms.l.flatMap mtc)) :: L) rfl)
      clear hS8
      have hzd := hdz d1 (List.mem_of_getElem? hd1)
      refine WP.region rfl ?_
      refine WO.mv rfl rfl ?_
      refine WO.mv rfl rfl ?_
      refine WO.val (run_indexAddr (q := adr b (i * 5)) Tryz.underlying23 Ty.sz33 rfl rfl (by omega) (by omega) ((rdH_rd (hS9.focus 7 rfl)).2.1 (by omega)) rfl) rfl rfl rfl ?_
      refine WO.val (run_loadAgg (vs := [Value.int .i64 d1.k, Value.slice d1.ss.a d1.ss.l.length d1.ss.cap, Value.slice d1.ms.a d1.ms.l.length d1.ms.cap, Value.int .i64 d1.fr, Value.int .i64 d1.to]) Ty.ag33 Ty.sz33 rfl ((rdH_rd (hS9.focus 7 rfl)).cells (by rw [flat_len rcc_len]; omega) (flat_part rcc_len hd1)).1 ((rdH_rd (hS9.focus 7 rfl)).cells (by rw [flat_len rcc_len]; omega) (flat_part rcc_len hd1)).2) rfl rfl rfl ?_
      refine WO.call rfl rfl Ty.hd14 rfl (g12_spec d1 hzd hS9) (fun v11 w10 pv11 => ?_)
      obtain ⟨⟨qd, rfl⟩, hS10⟩ := pv11
      clear hS9
      refine WO.mv rfl rfl ?_
      rcases Bool.eq_false_or_eq_true qd with g38 | g38
      ·
       refine WO.off rfl rfl g38 rfl ?_
       refine WO.off rfl rfl g38 rfl ?_
       refine WO.off rfl rfl g38 rfl ?_
       refine WO.off rfl rfl g38 rfl ?_
       refine WO.off rfl rfl g38 rfl ?_
       refine WO.off rfl rfl g38 rfl ?_
       refine WO.val (run_pickT rfl g38 rfl) rfl rfl rfl ?_
       refine WO.mv rfl rfl ?_
       refine WO.off rfl rfl rfl rfl ?_
       refine WO.off rfl rfl rfl rfl ?_
       refine WO.off rfl rfl rfl rfl ?_
       refine WO.off rfl rfl rfl rfl ?_
       refine WO.off rfl rfl rfl rfl ?_
       refine WO.off rfl rfl rfl rfl ?_
       refine WO.val (run_pickT rfl rfl rfl) rfl rfl rfl ?_
       refine WO.nil (NX.go ?_)
       refine WP.condT rfl rfl ?_
       refine WP.seq (WP.region rfl ?_)
       refine WO.asg rfl rfl ?_
       refine WO.nil (NX.go (WP.ret (NX.thenRet (NX.blkRet (NX.thenRet (NX.thenRet (NX.blkRet (NX.thenRet ?_))))))))
       refine NX.done (l := [.tmp 6]) rfl rfl ?_
       exact ⟨rfl, hS10.drop.drop.drop.drop.drop.drop.drop.drop.drop⟩
      ·
       refine WO.on rfl rfl g38 ?_
       refine WO.mv rfl rfl ?_
       refine WO.on rfl rfl g38 ?_
       refine WO.mv rfl rfl ?_
       refine WO.on rfl rfl g38 ?_
       refine WO.val (run_indexAddr (q := adr b (i * 5)) Tryz.underlying23 Ty.sz33 rfl rfl (by omega) (by omega) ((rdH_rd (hS10.focus 7 rfl)).2.1 (by omega)) rfl) rfl rfl rfl ?_
       refine WO.on rfl rfl g38 ?_
       refine WO.val (run_fieldAddr (q := (adr b (i * 5 + 0))) (show fieldB Tryz.prog 33 0 = some 0 from by kernel_rfl) rfl (adr_add _ (by assumption) _ _)) rfl rfl rfl ?_
       refine WO.on rfl rfl g38 ?_
       refine WO.val (run_load Ty.ag3 rfl ((rdH_rd (hS10.focus 7 rfl)).cell ((flat_get rcc_len hd1 (j := 0) (by decide)).trans rfl))) rfl rfl rfl ?_
       refine WO.on rfl rfl g38 ?_
       refine WO.val (run_neq rfl rfl) rfl rfl rfl ?_
       refine WO.val (run_pickF rfl g38 rfl) rfl rfl rfl ?_
       refine WO.mv rfl rfl ?_
       by_cases g46 : ¬ d1.k = 2
       ·
        refine WO.off rfl rfl (decide_eq_true g46) rfl ?_
        refine WO.off rfl rfl (decide_eq_true g46) rfl ?_
        refine WO.off rfl rfl (decide_eq_true g46) rfl ?_
        refine WO.off rfl rfl (decide_eq_true g46) rfl ?_
        refine WO.off rfl rfl (decide_eq_true g46) rfl ?_
        refine WO.off rfl rfl (decide_eq_true g46) rfl ?_
        refine WO.val (run_pickT rfl (decide_eq_true g46) rfl) rfl rfl rfl ?_
        refine WO.nil (NX.go ?_)
        refine WP.condT rfl rfl ?_
        refine WP.seq (WP.region rfl ?_)
        refine WO.asg rfl rfl ?_
        refine WO.nil (NX.go (WP.ret (NX.thenRet (NX.blkRet (NX.thenRet (NX.thenRet (NX.blkRet (NX.thenRet ?_))))))))
        refine NX.done (l := [.tmp 6]) rfl rfl ?_
        exact ⟨rfl, hS10.drop.drop.drop.drop.drop.drop.drop.drop.drop⟩
       ·
        refine WO.on rfl rfl (decide_eq_false g46) ?_
        refine WO.mv rfl rfl ?_
        refine WO.on rfl rfl (decide_eq_false g46) ?_
        refine WO.mv rfl rfl ?_
        refine WO.on rfl rfl (decide_eq_false g46) ?_
        refine WO.val (run_indexAddr (q := adr b (i * 5)) Tryz.underlying23 Ty.sz33 rfl rfl (by omega) (by omega) ((rdH_rd (hS10.focus 7 rfl)).2.1 (by omega)) rfl) rfl rfl rfl ?_
        refine WO.on rfl rfl (decide_eq_false g46) ?_
        refine WO.val (run_loadAgg (vs := [Value.int .i64 d1.k, Value.slice d1.ss.a d1.ss.l.length d1.ss.cap, Value.slice d1.ms.a d1.ms.l.length d1.ms.cap, Value.int .i64 d1.fr, Value.int .i64 d1.to]) Ty.ag33 Ty.sz33 rfl ((rdH_rd (hS10.focus 7 rfl)).cells (by rw [flat_len rcc_len]; omega) (flat_part rcc_len hd1)).1 ((rdH_rd (hS10.focus 7 rfl)).cells (by rw [flat_len rcc_len]; omega) (flat_part rcc_len hd1)).2) rfl rfl rfl ?_
        refine WO.on rfl rfl (decide_eq_false g46) ?_
        refine WO.call rfl rfl Ty.hd15 rfl (r12chk_spec d1 hzd hS10) (fun v13 w12 pv13 => ?_)
        obtain ⟨rfl, hS12⟩ := pv13
        clear hS10
        refine WO.on rfl rfl (decide_eq_false g46) ?_
        refine WO.val (run_neq rfl rfl) rfl rfl rfl ?_
        refine WO.val (run_pickF rfl (decide_eq_false g46) rfl) rfl rfl rfl ?_
        refine WO.nil (NX.go ?_)
        refine WP.condP rfl (fun g53 => ?_) (fun g53 => ?_)
        ·
         refine WP.seq (WP.region rfl ?_)
         refine WO.asg rfl rfl ?_
         refine WO.nil (NX.go (WP.ret (NX.thenRet (NX.blkRet (NX.thenRet (NX.thenRet (NX.blkRet (NX.thenRet ?_))))))))
         refine NX.done (l := [.tmp 6]) rfl rfl ?_
         exact ⟨rfl, hS12.drop.drop.drop.drop.drop.drop.drop.drop.drop⟩
        ·
         refine WP.skip (NX.go (WP.region rfl ?_))
         refine WO.mv rfl rfl ?_
         refine WO.mv rfl rfl ?_
         refine WO.mv rfl rfl ?_
         refine WO.val (run_indexAddr (q := adr b (i * 5)) Tryz.underlying23 Ty.sz33 rfl rfl (by omega) (by omega) ((rdH_rd (hS12.focus 7 rfl)).2.1 (by omega)) rfl) rfl rfl rfl ?_
         refine WO.val (run_loadAgg (vs := [Value.int .i64 d1.k, Value.slice d1.ss.a d1.ss.l.length d1.ss.cap, Value.slice d1.ms.a d1.ms.l.length d1.ms.cap, Value.int .i64 d1.fr, Value.int .i64 d1.to]) Ty.ag33 Ty.sz33 rfl ((rdH_rd (hS12.focus 7 rfl)).cells (by rw [flat_len rcc_len]; omega) (flat_part rcc_len hd1)).1 ((rdH_rd (hS12.focus 7 rfl)).cells (by rw [flat_len rcc_len]; omega) (flat_part rcc_len hd1)).2) rfl rfl rfl ?_
         refine WO.call rfl rfl Ty.hd16 rfl (own12_spec d1 hzd hS12) (fun v15 w14 pv15 => ?_)
         obtain ⟨r1, rfl, hr1, hS14⟩ := pv15
         clear hS12
         refine WO.buildSlice (l := [Value.int .i64 r1.k, Value.slice r1.ss.a r1.ss.l.length r1.ss.cap, Value.slice r1.ms.a r1.ms.l.length r1.ms.cap, Value.int .i64 r1.fr, Value.int .i64 r1.to]) hS14 Tryz.underlying23 rfl (fun w => by kernel_rfl) rfl (fun g17 w16 lg17 hS16 => ?_)
         clear hS14
         refine WO.append (news := [Value.int .i64 r1.k, Value.slice r1.ss.a r1.ss.l.length r1.ss.cap, Value.slice r1.ms.a r1.ms.l.length r1.ms.cap, Value.int .i64 r1.fr, Value.int .i64 r1.to]) 4 rfl Tryz.underlying23 Tryz.underlying23 (fun _ h => by cases h) Ty.sz33 (by decide) Ty.by33 Ty.zr33 rfl rfl rfl rfl hS16 rfl ((hS16.cel_rd 0 rfl (o := 0) (m := 1) (k := 5) rfl (Nat.le_of_ble_eq_true rfl)).src) (by simp [noAgg]) (by omega) (by omega) (fun a19 c20 w18 hS18 => ?_)
         replace hS18 : St B (cel g17 [Value.int .i64 r1.k, Value.slice r1.ss.a r1.ss.l.length r1.ss.cap, Value.slice r1.ms.a r1.ms.l.length r1.ms.cap, Value.int .i64 r1.fr, Value.int .i64 r1.to] 33 :: recA r1 :: recA d1 :: allA recA dels :: own a19 (ol.length + 1) c20 33 5 ((ol.flatMap rcc) ++ [Value.int .i64 r1.k, Value.slice r1.ss.a r1.ss.l.length r1.ss.cap, Value.slice r1.ms.a r1.ms.l.length r1.ms.cap, Value.int .i64 r1.fr, Value.int .i64 r1.to]) :: allA recA ol :: cel g2 [Value.slice q.ms.a q.ms.l.length q.ms.cap, Value.int .i64 q.fr, Value.int .i64 q.to] 26 :: (rdH a bs.length 4 (bs.flatMap blc)) :: allA blA bs :: (rdH b dels.length 5 (dels.flatMap rcc)) :: (rdH q.ms.a q.ms.l.length 3 (q.ms.l.flatMap mtc)) :: L) w18 := hS18
         clear hS16
         refine WO.asg rfl rfl ?_
         refine WO.nil (NX.blk (NX.go (WP.region rfl ?_)))
         refine WO.mv rfl rfl ?_
         refine WO.val (run_add rfl rfl (IntWalk.i64_in _ (by omega))) rfl rfl rfl ?_
         refine WO.asg rfl rfl ?_
         refine WO.nil ?_
         have hS21 := allA_snoc (hS18.permT [5, 1, 0, 0, 0, 0, 0, 0, 0, 0, 0] (L' := allA recA ol :: recA r1 :: cel g17 [Value.int .i64 r1.k, Value.slice r1.ss.a r1.ss.l.length r1.ss.cap, Value.slice r1.ms.a r1.ms.l.length r1.ms.cap, Value.int .i64 r1.fr, Value.int .i64 r1.to] 33 :: recA d1 :: allA recA dels :: own a19 (ol.length + 1) c20 33 5 ((ol.flatMap rcc) ++ [Value.int .i64 r1.k, Value.slice r1.ss.a r1.ss.l.length r1.ss.cap, Value.slice r1.ms.a r1.ms.l.length r1.ms.cap, Value.int .i64 r1.fr, Value.int .i64 r1.to]) :: cel g2 [Value.slice q.ms.a q.ms.l.length q.ms.cap, Value.int .i64 q.fr, Value.int .i64 q.to] 26 :: (rdH a bs.length 4 (bs.flatMap blc)) :: allA blA bs :: (rdH b dels.length 5 (dels.flatMap rcc)) :: (rdH q.ms.a q.ms.l.length 3 (q.ms.l.flatMap mtc)) :: L) rfl)
         clear hS18
         exact NX.again (i + 1, ol ++ [r1], a19, c20) ⟨⟨by omega, by rw [take_snocM hd1, List.map_append, List.map_append, hol, List.map_cons, hr1]; rfl, by rw [List.length_append, hon]; rfl⟩, own_eqM (hS21.permT [1, 1, 2, 0, 1, 1, 1, 1, 0, 0] (L' := cel g17 [Value.int .i64 r1.k, Value.slice r1.ss.a r1.ss.l.length r1.ss.cap, Value.slice r1.ms.a r1.ms.l.length r1.ms.cap, Value.int .i64 r1.fr, Value.int .i64 r1.to] 33 :: recA d1 :: own a19 (ol.length + 1) c20 33 5 ((ol.flatMap rcc) ++ [Value.int .i64 r1.k, Value.slice r1.ss.a r1.ss.l.length r1.ss.cap, Value.slice r1.ms.a r1.ms.l.length r1.ms.cap, Value.int .i64 r1.fr, Value.int .i64 r1.to]) :: allA recA (ol ++ [r1]) :: cel g2 [Value.slice q.ms.a q.ms.l.length q.ms.cap, Value.int .i64 q.fr, Value.int .i64 q.to] 26 :: (rdH a bs.length 4 (bs.flatMap blc)) :: allA blA bs :: (rdH b dels.length 5 (dels.flatMap rcc)) :: allA recA dels :: (rdH q.ms.a q.ms.l.length 3 (q.ms.l.flatMap mtc)) :: L) rfl).drop.drop (by simp) (by simp [rcc])⟩ (by show dels.length - (i + 1) < dels.length - i; omega) (Sub.cons rfl (Sub.cons rfl (Sub.cons rfl (Sub.consE rfl (by simp) (Sub.consE rfl (by congr 1) (Sub.nil _))))))
     ·
      refine WP.exit (NX.thenExit (NX.thenExit ?_))
      refine NX.blkExit ?_
      refine NX.go (WP.seq ?_)
      have hole : ol.map Rcd.p = dels.map Rcd.p := by rw [hol, List.take_of_length_le (by omega)]
      have holz : ∀ r ∈ ol, SzR r := fun r hr => by obtain ⟨e, he, h9⟩ := mem_of_map hole hr; exact SzR.of_p h9.symm (hdz e he)
      refine WD.start (fun w => (∀ jz, World.cell? w ⟨g2, jz, none⟩ = [Value.slice q.ms.a q.ms.l.length q.ms.cap, Value.int .i64 q.fr, Value.int .i64 q.to][jz]?)) [] (bt 23 0) Ty.mo rfl (by kernel_rfl) hS8 (fun _ h => h.cel_at 2 rfl) (fun w22 hS22 s23 => ?_)
      clear hS8
      refine WD.pure (i := 0) mergeAsks_core_t10 (bt 23 1) rfl rfl rfl (by kernel_rfl) (PQ.then PQ.body) rfl (fun w => run_move rfl) ?_
      refine WD.pure (i := 2) mergeAsks_core_t10 (bt 23 5) rfl rfl rfl (by kernel_rfl) (PQ.then PQ.body) rfl (fun w => run_move rfl) ?_
      refine WD.pure (i := 4) mergeAsks_core_t10 (bt 23 21) rfl rfl rfl (by kernel_rfl) (PQ.then PQ.body) rfl (fun w => run_fieldAddr (q := ⟨g2, 0, none⟩) (show fieldB Tryz.prog 26 0 = some 0 from by kernel_rfl) rfl rfl) ?_
      refine WD.take (i := 5) mergeAsks_core_t10 (bt 23 53) s23 rfl rfl rfl (by kernel_rfl) (PQ.then PQ.body) rfl (fun w hs => run_load Ty.ag24 rfl ((hs 0).trans rfl)) ?_
      refine WD.pure (i := 7) mergeAsks_core_t10 (bt 23 181) rfl rfl rfl (by kernel_rfl) (PQ.then PQ.body) rfl (fun w => run_fieldAddr (q := ⟨g2, 1, none⟩) (show fieldB Tryz.prog 26 1 = some 1 from by kernel_rfl) rfl rfl) ?_
      refine WD.take (i := 8) mergeAsks_core_t10 (bt 23 437) s23 rfl rfl rfl (by kernel_rfl) (PQ.then PQ.body) rfl (fun w hs => run_load Ty.ag2 rfl ((hs 1).trans rfl)) ?_
      refine WD.pure (i := 9) mergeAsks_core_t10 (bt 23 949) rfl rfl rfl (by kernel_rfl) (PQ.then PQ.body) rfl (fun w => run_fieldAddr (q := ⟨g2, 2, none⟩) (show fieldB Tryz.prog 26 2 = some 2 from by kernel_rfl) rfl rfl) ?_
      refine WD.take (i := 10) mergeAsks_core_t10 (bt 23 1973) s23 rfl rfl rfl (by kernel_rfl) (PQ.then PQ.body) rfl (fun w hs => run_load Ty.ag2 rfl ((hs 2).trans rfl)) ?_
      refine WD.pure (i := 12) mergeAsks_core_t10 (bt 23 6069) rfl rfl rfl (by kernel_rfl) (PQ.then PQ.body) rfl (fun w => run_move rfl) ?_
      refine WD.pure (i := 13) mergeAsks_core_t10 (bt 23 14261) rfl rfl rfl (by kernel_rfl) (PQ.then PQ.body) rfl (fun w => run_move rfl) ?_
      refine WD.pure (i := 14) mergeAsks_core_t10 (bt 23 30645) rfl rfl rfl (by kernel_rfl) (PQ.then PQ.body) rfl (fun w => run_fieldAddr (q := ⟨g2, 0, none⟩) (show fieldB Tryz.prog 26 0 = some 0 from by kernel_rfl) rfl rfl) ?_
      refine WD.take (i := 15) mergeAsks_core_t10 (bt 23 63413) s23 rfl rfl rfl (by kernel_rfl) (PQ.then PQ.body) rfl (fun w hs => run_load Ty.ag24 rfl ((hs 0).trans rfl)) ?_
      refine WD.pure (i := 16) mergeAsks_core_t10 (bt 23 128949) rfl rfl rfl (by kernel_rfl) (PQ.then PQ.body) rfl (fun w => run_fieldAddr (q := ⟨g2, 1, none⟩) (show fieldB Tryz.prog 26 1 = some 1 from by kernel_rfl) rfl rfl) ?_
      refine WD.take (i := 17) mergeAsks_core_t10 (bt 23 260021) s23 rfl rfl rfl (by kernel_rfl) (PQ.then PQ.body) rfl (fun w hs => run_load Ty.ag2 rfl ((hs 1).trans rfl)) ?_
      refine WD.pure (i := 18) mergeAsks_core_t10 (bt 23 522165) rfl rfl rfl (by kernel_rfl) (PQ.then PQ.body) rfl (fun w => run_fieldAddr (q := ⟨g2, 2, none⟩) (show fieldB Tryz.prog 26 2 = some 2 from by kernel_rfl) rfl rfl) ?_
      refine WD.take (i := 19) mergeAsks_core_t10 (bt 23 1046453) s23 rfl rfl rfl (by kernel_rfl) (PQ.then PQ.body) rfl (fun w hs => run_load Ty.ag2 rfl ((hs 2).trans rfl)) ?_
      refine WD.two (i := 1) (k := 3) mergeAsks_core_t10 (bt 23 1046455) (bt 23 1046461) rfl rfl (by kernel_rfl) ?_ ?_
      ·
       have hS24 := hS22.permT [3, 3, 0, 0, 0, 0, 0, 0] (L' := (rdH a bs.length 4 (bs.flatMap blc)) :: allA blA bs :: own oa ol.length oc 33 5 (ol.flatMap rcc) :: allA recA ol :: cel g2 [Value.slice q.ms.a q.ms.l.length q.ms.cap, Value.int .i64 q.fr, Value.int .i64 q.to] 26 :: (rdH b dels.length 5 (dels.flatMap rcc)) :: allA recA dels :: (rdH q.ms.a q.ms.l.length 3 (q.ms.l.flatMap mtc)) :: L) rfl
       clear hS22
       refine WO.call rfl rfl Ty.hd19 rfl (to16_spec rdH_rd hbz (by omega) hS24) (fun v26 w25 pv26 => ?_)
       obtain ⟨ba, bc, Cs, rfl, hCs, hS25⟩ := pv26
       clear hS24
       refine WO.nil ?_
       have s27 : (∀ jz, World.cell? w25 ⟨g2, jz, none⟩ = [Value.slice q.ms.a q.ms.l.length q.ms.cap, Value.int .i64 q.fr, Value.int .i64 q.to][jz]?) := hS25.cel_at 6 rfl
       refine NX.held s27 ?_
       refine WD.one (i := 3) mergeAsks_core_t10 (bt 23 1046463) rfl (by kernel_rfl) ?_
       refine WO.buildSlice (l := []) hS25 Tryz.underlying24 rfl (fun w => by kernel_rfl) rfl (fun g29 w28 lg29 hS28 => ?_)
       clear hS25
       have hS28 := hS28.own_of_cel (m := 0) (k := 3) rfl
       refine WO.nil ?_
       have s30 : (∀ jz, World.cell? w28 ⟨g2, jz, none⟩ = [Value.slice q.ms.a q.ms.l.length q.ms.cap, Value.int .i64 q.fr, Value.int .i64 q.to][jz]?) := hS28.cel_at 7 rfl
       refine NX.held s30 ?_
       refine WD.one (i := 6) mergeAsks_core_t10 (bt 23 1046527) rfl (by kernel_rfl) ?_
       refine WO.append (news := (q.ms.l.flatMap mtc)) 0 rfl Tryz.underlying24 Tryz.underlying24 (fun _ h => by cases h) Ty.sz151 (by decide) Ty.by151 Ty.zr151 rfl rfl rfl rfl hS28 rfl ((rdH_rd (hS28.focus 10 rfl)).src) (flat_noAgg mtc_na _) (by omega) (by omega) (fun a32 c33 w31 hS31 => ?_)
       replace hS31 : St B (own a32 q.ms.l.length c33 151 3 (q.ms.l.flatMap mtc) :: own ba Cs.length bc 46 4 (Cs.flatMap blc) :: allA blA Cs :: (rdH a bs.length 4 (bs.flatMap blc)) :: allA blA bs :: own oa ol.length oc 33 5 (ol.flatMap rcc) :: allA recA ol :: cel g2 [Value.slice q.ms.a q.ms.l.length q.ms.cap, Value.int .i64 q.fr, Value.int .i64 q.to] 26 :: (rdH b dels.length 5 (dels.flatMap rcc)) :: allA recA dels :: (rdH q.ms.a q.ms.l.length 3 (q.ms.l.flatMap mtc)) :: L) w31 := (by have z := hS31; rw [Nat.zero_add, List.nil_append] at z; exact z)
       refine WO.as (d := 68) (v := Value.slice a32 q.ms.l.length c33) rfl (congrArg (fun z => Value.slice _ z _) (Nat.zero_add _)) ?_
       clear hS28
       refine WO.nil ?_
       have s34 : (∀ jz, World.cell? w31 ⟨g2, jz, none⟩ = [Value.slice q.ms.a q.ms.l.length q.ms.cap, Value.int .i64 q.fr, Value.int .i64 q.to][jz]?) := hS31.cel_at 7 rfl
       refine NX.held s34 ?_
       refine WD.one (i := 11) mergeAsks_core_t10 (bt 23 1048575) rfl (by kernel_rfl) ?_
       have hCz : ∀ c ∈ Cs, SzB c := fun c hc => by obtain ⟨e, he, h9⟩ := mem_of_map hCs hc; exact SzB.of_p h9.symm (hsz e he)
       obtain ⟨t1, t2, t3⟩ := tots_p hCs
       have hCl := map_len hCs
       have hS35 : St B (own a32 q.ms.l.length c33 151 3 (q.ms.l.flatMap mtc) :: own ba Cs.length bc 46 4 (Cs.flatMap blc) :: allA blA Cs :: own oa ol.length oc 33 5 (ol.flatMap rcc) :: allA recA ol :: cel g2 [Value.slice q.ms.a q.ms.l.length q.ms.cap, Value.int .i64 q.fr, Value.int .i64 q.to] 26 :: (rdH a bs.length 4 (bs.flatMap blc)) :: allA blA bs :: (rdH b dels.length 5 (dels.flatMap rcc)) :: allA recA dels :: (rdH q.ms.a q.ms.l.length 3 (q.ms.l.flatMap mtc)) :: L) w31 := (hS31.permT [0, 0, 0, 2, 2, 2, 0, 0, 0, 0, 0] (L' := own a32 q.ms.l.length c33 151 3 (q.ms.l.flatMap mtc) :: own ba Cs.length bc 46 4 (Cs.flatMap blc) :: allA blA Cs :: own oa ol.length oc 33 5 (ol.flatMap rcc) :: allA recA ol :: cel g2 [Value.slice q.ms.a q.ms.l.length q.ms.cap, Value.int .i64 q.fr, Value.int .i64 q.to] 26 :: (rdH a bs.length 4 (bs.flatMap blc)) :: allA blA bs :: (rdH b dels.length 5 (dels.flatMap rcc)) :: allA recA dels :: (rdH q.ms.a q.ms.l.length 3 (q.ms.l.flatMap mtc)) :: L) rfl)
       clear hS31
       have hcc := hS35.own_le_i 1 rfl
       have hS36 := hS35.permT [1, 1, 1, 1, 0, 0] (L' := own ba Cs.length bc 46 4 (Cs.flatMap blc) :: allA blA Cs :: own oa ol.length oc 33 5 (ol.flatMap rcc) :: allA recA ol :: own a32 q.ms.l.length c33 151 3 (q.ms.l.flatMap mtc) :: cel g2 [Value.slice q.ms.a q.ms.l.length q.ms.cap, Value.int .i64 q.fr, Value.int .i64 q.to] 26 :: (rdH a bs.length 4 (bs.flatMap blc)) :: allA blA bs :: (rdH b dels.length 5 (dels.flatMap rcc)) :: allA recA dels :: (rdH q.ms.a q.ms.l.length 3 (q.ms.l.flatMap mtc)) :: L) rfl
       clear hS35
       refine WO.call rfl rfl Ty.hd18 rfl (pquery_spec (X := own ba Cs.length bc 46 4 (Cs.flatMap blc)) (D := own oa ol.length oc 33 5 (ol.flatMap rcc)) (M := own a32 q.ms.l.length c33 151 3 (q.ms.l.flatMap mtc)) (fun h => h.own_rd.1) (fun h => h.own_rd.1) (fun h => h.own_rd.1) hCz holz (chk_of_p hCs hck) hmz hmn hcc (by omega) (by omega) (by omega) (by omega) q.fr q.to hS36) (fun v38 w37 pv38 => ?_)
       obtain ⟨ua, uc, o1, rfl, ho1, hn1, hz1, hS37⟩ := pv38
       clear hS36
       refine WO.nil ?_
       have s39 : (∀ jz, World.cell? w37 ⟨g2, jz, none⟩ = [Value.slice q.ms.a q.ms.l.length q.ms.cap, Value.int .i64 q.fr, Value.int .i64 q.to][jz]?) := hS37.cel_at 7 rfl
       refine NX.held s39 ?_
       refine WD.one (i := 20) mergeAsks_core_t10 (bt 23 2097151) rfl (by kernel_rfl) ?_
       have hS40 : St B (own ua o1.length uc 68 2 (o1.flatMap msc) :: allA serA o1 :: cel g2 [Value.slice q.ms.a q.ms.l.length q.ms.cap, Value.int .i64 q.fr, Value.int .i64 q.to] 26 :: (rdH a bs.length 4 (bs.flatMap blc)) :: allA blA bs :: (rdH b dels.length 5 (dels.flatMap rcc)) :: allA recA dels :: (rdH q.ms.a q.ms.l.length 3 (q.ms.l.flatMap mtc)) :: L) w37 := (hS37.permT [2, 2, 2, 2, 2, 0, 0, 0] (L' := own ba Cs.length bc 46 4 (Cs.flatMap blc) :: allA blA Cs :: own oa ol.length oc 33 5 (ol.flatMap rcc) :: allA recA ol :: own a32 q.ms.l.length c33 151 3 (q.ms.l.flatMap mtc) :: own ua o1.length uc 68 2 (o1.flatMap msc) :: allA serA o1 :: cel g2 [Value.slice q.ms.a q.ms.l.length q.ms.cap, Value.int .i64 q.fr, Value.int .i64 q.to] 26 :: (rdH a bs.length 4 (bs.flatMap blc)) :: allA blA bs :: (rdH b dels.length 5 (dels.flatMap rcc)) :: allA recA dels :: (rdH q.ms.a q.ms.l.length 3 (q.ms.l.flatMap mtc)) :: L) rfl).drop.drop.drop.drop.drop
       clear hS37
       have hS41 := hS40.permT [3, 3, 3, 3, 3, 0, 0, 0] (L' := (rdH a bs.length 4 (bs.flatMap blc)) :: allA blA bs :: (rdH b dels.length 5 (dels.flatMap rcc)) :: allA recA dels :: (rdH q.ms.a q.ms.l.length 3 (q.ms.l.flatMap mtc)) :: own ua o1.length uc 68 2 (o1.flatMap msc) :: allA serA o1 :: cel g2 [Value.slice q.ms.a q.ms.l.length q.ms.cap, Value.int .i64 q.fr, Value.int .i64 q.to] 26 :: L) rfl
       clear hS40
       refine WO.call rfl rfl Ty.hd20 rfl (rquery_spec rdH_rd rdH_rd rdH_rd hsz hdz hmz hmn (by omega) (by omega) (by omega) (by omega) q.fr q.to hS41) (fun v43 w42 pv43 => ?_)
       obtain ⟨va, vc, o2, rfl, ho2, hn2, hz2, hS42⟩ := pv43
       clear hS41
       refine WO.nil ?_
       have s44 : (∀ jz, World.cell? w42 ⟨g2, jz, none⟩ = [Value.slice q.ms.a q.ms.l.length q.ms.cap, Value.int .i64 q.fr, Value.int .i64 q.to][jz]?) := hS42.cel_at 9 rfl
       refine NX.held s44 ?_
       refine WD.one (i := 21) mergeAsks_core_t10 (bt 23 4194303) rfl (by kernel_rfl) ?_
       have hS45 : St B (own va o2.length vc 68 2 (o2.flatMap msc) :: allA serA o2 :: (rdH a bs.length 4 (bs.flatMap blc)) :: (rdH b dels.length 5 (dels.flatMap rcc)) :: (rdH q.ms.a q.ms.l.length 3 (q.ms.l.flatMap mtc)) :: own ua o1.length uc 68 2 (o1.flatMap msc) :: allA serA o1 :: cel g2 [Value.slice q.ms.a q.ms.l.length q.ms.cap, Value.int .i64 q.fr, Value.int .i64 q.to] 26 :: L) w42 := (hS42.permT [3, 4, 0, 0, 0, 0, 0, 0, 0, 0] (L' := allA blA bs :: allA recA dels :: own va o2.length vc 68 2 (o2.flatMap msc) :: allA serA o2 :: (rdH a bs.length 4 (bs.flatMap blc)) :: (rdH b dels.length 5 (dels.flatMap rcc)) :: (rdH q.ms.a q.ms.l.length 3 (q.ms.l.flatMap mtc)) :: own ua o1.length uc 68 2 (o1.flatMap msc) :: allA serA o1 :: cel g2 [Value.slice q.ms.a q.ms.l.length q.ms.cap, Value.int .i64 q.fr, Value.int .i64 q.to] 26 :: L) rfl).drop.drop
       clear hS42
       have hS46 := hS45.permT [5, 5, 0, 0, 0, 0, 0, 0] (L' := own ua o1.length uc 68 2 (o1.flatMap msc) :: allA serA o1 :: own va o2.length vc 68 2 (o2.flatMap msc) :: allA serA o2 :: (rdH a bs.length 4 (bs.flatMap blc)) :: (rdH b dels.length 5 (dels.flatMap rcc)) :: (rdH q.ms.a q.ms.l.length 3 (q.ms.l.flatMap mtc)) :: cel g2 [Value.slice q.ms.a q.ms.l.length q.ms.cap, Value.int .i64 q.fr, Value.int .i64 q.to] 26 :: L) rfl
       clear hS45
       refine WO.call rfl rfl Ty.hd17 rfl (rssame_spec (X := own ua o1.length uc 68 2 (o1.flatMap msc)) (Y := own va o2.length vc 68 2 (o2.flatMap msc)) (fun h => h.own_rd.1) (fun h => h.own_rd.1) (by omega) (by omega) hz1 hz2 hS46) (fun v48 w47 pv48 => ?_)
       obtain ⟨rfl, hS47⟩ := pv48
       clear hS46
       refine WO.nil ?_
       have s49 : (∀ jz, World.cell? w47 ⟨g2, jz, none⟩ = [Value.slice q.ms.a q.ms.l.length q.ms.cap, Value.int .i64 q.fr, Value.int .i64 q.to][jz]?) := hS47.cel_at 7 rfl
       refine NX.held s49 ?_
       refine WD.pure (i := 22) mergeAsks_core_t10 (bt 23 8388607) rfl rfl rfl (by kernel_rfl) (PQ.then PQ.body) rfl (fun w => run_assign rfl) ?_
       refine WD.done mergeAsks_core_t10 (by kernel_rfl) ?_
       refine NX.go (WP.ret ?_)
       refine NX.done (l := [.tmp 6]) rfl rfl ?_
       have heq : o1.map MSer.p = o2.map MSer.p := by rw [ho1, ho2, hole, hCs]
       exact ⟨congrArg Value.bool (decide_eq_true heq), hS47.drop.drop.drop.drop.drop.drop.drop.drop⟩
      ·
       refine WO.buildSlice (l := []) hS22 Tryz.underlying24 rfl (fun w => by kernel_rfl) rfl (fun g51 w50 lg51 hS50 => ?_)
       clear hS22
       have hS50 := hS50.own_of_cel (m := 0) (k := 3) rfl
       refine WO.nil ?_
       have s52 : (∀ jz, World.cell? w50 ⟨g2, jz, none⟩ = [Value.slice q.ms.a q.ms.l.length q.ms.cap, Value.int .i64 q.fr, Value.int .i64 q.to][jz]?) := hS50.cel_at 3 rfl
       refine NX.held s52 ?_
       refine WD.one (i := 1) mergeAsks_core_t10 (bt 23 1046463) rfl (by kernel_rfl) ?_
       have hS53 := hS50.permT [4, 4, 0, 0, 0, 0, 0, 0, 0] (L' := (rdH a bs.length 4 (bs.flatMap blc)) :: allA blA bs :: own (some ⟨g51, 0, none⟩) 0 0 151 3 [] :: own oa ol.length oc 33 5 (ol.flatMap rcc) :: allA recA ol :: cel g2 [Value.slice q.ms.a q.ms.l.length q.ms.cap, Value.int .i64 q.fr, Value.int .i64 q.to] 26 :: (rdH b dels.length 5 (dels.flatMap rcc)) :: allA recA dels :: (rdH q.ms.a q.ms.l.length 3 (q.ms.l.flatMap mtc)) :: L) rfl
       clear hS50
       refine WO.call rfl rfl Ty.hd19 rfl (to16_spec rdH_rd hbz (by omega) hS53) (fun v55 w54 pv55 => ?_)
       obtain ⟨ba, bc, Cs, rfl, hCs, hS54⟩ := pv55
       clear hS53
       refine WO.nil ?_
       have s56 : (∀ jz, World.cell? w54 ⟨g2, jz, none⟩ = [Value.slice q.ms.a q.ms.l.length q.ms.cap, Value.int .i64 q.fr, Value.int .i64 q.to][jz]?) := hS54.cel_at 7 rfl
       refine NX.held s56 ?_
       refine WD.one (i := 6) mergeAsks_core_t10 (bt 23 1046527) rfl (by kernel_rfl) ?_
       refine WO.append (news := (q.ms.l.flatMap mtc)) 4 rfl Tryz.underlying24 Tryz.underlying24 (fun _ h => by cases h) Ty.sz151 (by decide) Ty.by151 Ty.zr151 rfl rfl rfl rfl hS54 rfl ((rdH_rd (hS54.focus 10 rfl)).src) (flat_noAgg mtc_na _) (by omega) (by omega) (fun a58 c59 w57 hS57 => ?_)
       replace hS57 : St B (own ba Cs.length bc 46 4 (Cs.flatMap blc) :: allA blA Cs :: (rdH a bs.length 4 (bs.flatMap blc)) :: allA blA bs :: own a58 q.ms.l.length c59 151 3 (q.ms.l.flatMap mtc) :: own oa ol.length oc 33 5 (ol.flatMap rcc) :: allA recA ol :: cel g2 [Value.slice q.ms.a q.ms.l.length q.ms.cap, Value.int .i64 q.fr, Value.int .i64 q.to] 26 :: (rdH b dels.length 5 (dels.flatMap rcc)) :: allA recA dels :: (rdH q.ms.a q.ms.l.length 3 (q.ms.l.flatMap mtc)) :: L) w57 := (by have z := hS57; rw [Nat.zero_add, List.nil_append] at z; exact z)
       refine WO.as (d := 68) (v := Value.slice a58 q.ms.l.length c59) rfl (congrArg (fun z => Value.slice _ z _) (Nat.zero_add _)) ?_
       clear hS54
       refine WO.nil ?_
       have s60 : (∀ jz, World.cell? w57 ⟨g2, jz, none⟩ = [Value.slice q.ms.a q.ms.l.length q.ms.cap, Value.int .i64 q.fr, Value.int .i64 q.to][jz]?) := hS57.cel_at 7 rfl
       refine NX.held s60 ?_
       refine WD.one (i := 11) mergeAsks_core_t10 (bt 23 1048575) rfl (by kernel_rfl) ?_
       have hCz : ∀ c ∈ Cs, SzB c := fun c hc => by obtain ⟨e, he, h9⟩ := mem_of_map hCs hc; exact SzB.of_p h9.symm (hsz e he)
       obtain ⟨t1, t2, t3⟩ := tots_p hCs
       have hCl := map_len hCs
       have hS61 : St B (own ba Cs.length bc 46 4 (Cs.flatMap blc) :: allA blA Cs :: own a58 q.ms.l.length c59 151 3 (q.ms.l.flatMap mtc) :: own oa ol.length oc 33 5 (ol.flatMap rcc) :: allA recA ol :: cel g2 [Value.slice q.ms.a q.ms.l.length q.ms.cap, Value.int .i64 q.fr, Value.int .i64 q.to] 26 :: (rdH a bs.length 4 (bs.flatMap blc)) :: allA blA bs :: (rdH b dels.length 5 (dels.flatMap rcc)) :: allA recA dels :: (rdH q.ms.a q.ms.l.length 3 (q.ms.l.flatMap mtc)) :: L) w57 := (hS57.permT [0, 0, 2, 2, 2, 2, 0, 0, 0, 0, 0] (L' := own ba Cs.length bc 46 4 (Cs.flatMap blc) :: allA blA Cs :: own a58 q.ms.l.length c59 151 3 (q.ms.l.flatMap mtc) :: own oa ol.length oc 33 5 (ol.flatMap rcc) :: allA recA ol :: cel g2 [Value.slice q.ms.a q.ms.l.length q.ms.cap, Value.int .i64 q.fr, Value.int .i64 q.to] 26 :: (rdH a bs.length 4 (bs.flatMap blc)) :: allA blA bs :: (rdH b dels.length 5 (dels.flatMap rcc)) :: allA recA dels :: (rdH q.ms.a q.ms.l.length 3 (q.ms.l.flatMap mtc)) :: L) rfl)
       clear hS57
       have hcc := hS61.own_le_i 0 rfl
       have hS62 := hS61.permT [0, 0, 1, 1, 0, 0] (L' := own ba Cs.length bc 46 4 (Cs.flatMap blc) :: allA blA Cs :: own oa ol.length oc 33 5 (ol.flatMap rcc) :: allA recA ol :: own a58 q.ms.l.length c59 151 3 (q.ms.l.flatMap mtc) :: cel g2 [Value.slice q.ms.a q.ms.l.length q.ms.cap, Value.int .i64 q.fr, Value.int .i64 q.to] 26 :: (rdH a bs.length 4 (bs.flatMap blc)) :: allA blA bs :: (rdH b dels.length 5 (dels.flatMap rcc)) :: allA recA dels :: (rdH q.ms.a q.ms.l.length 3 (q.ms.l.flatMap mtc)) :: L) rfl
       clear hS61
       refine WO.call rfl rfl Ty.hd18 rfl (pquery_spec (X := own ba Cs.length bc 46 4 (Cs.flatMap blc)) (D := own oa ol.length oc 33 5 (ol.flatMap rcc)) (M := own a58 q.ms.l.length c59 151 3 (q.ms.l.flatMap mtc)) (fun h => h.own_rd.1) (fun h => h.own_rd.1) (fun h => h.own_rd.1) hCz holz (chk_of_p hCs hck) hmz hmn hcc (by omega) (by omega) (by omega) (by omega) q.fr q.to hS62) (fun v64 w63 pv64 => ?_)
       obtain ⟨ua, uc, o1, rfl, ho1, hn1, hz1, hS63⟩ := pv64
       clear hS62
       refine WO.nil ?_
       have s65 : (∀ jz, World.cell? w63 ⟨g2, jz, none⟩ = [Value.slice q.ms.a q.ms.l.length q.ms.cap, Value.int .i64 q.fr, Value.int .i64 q.to][jz]?) := hS63.cel_at 7 rfl
       refine NX.held s65 ?_
       refine WD.one (i := 20) mergeAsks_core_t10 (bt 23 2097151) rfl (by kernel_rfl) ?_
       have hS66 : St B (own ua o1.length uc 68 2 (o1.flatMap msc) :: allA serA o1 :: cel g2 [Value.slice q.ms.a q.ms.l.length q.ms.cap, Value.int .i64 q.fr, Value.int .i64 q.to] 26 :: (rdH a bs.length 4 (bs.flatMap blc)) :: allA blA bs :: (rdH b dels.length 5 (dels.flatMap rcc)) :: allA recA dels :: (rdH q.ms.a q.ms.l.length 3 (q.ms.l.flatMap mtc)) :: L) w63 := (hS63.permT [2, 2, 2, 2, 2, 0, 0, 0] (L' := own ba Cs.length bc 46 4 (Cs.flatMap blc) :: allA blA Cs :: own oa ol.length oc 33 5 (ol.flatMap rcc) :: allA recA ol :: own a58 q.ms.l.length c59 151 3 (q.ms.l.flatMap mtc) :: own ua o1.length uc 68 2 (o1.flatMap msc) :: allA serA o1 :: cel g2 [Value.slice q.ms.a q.ms.l.length q.ms.cap, Value.int .i64 q.fr, Value.int .i64 q.to] 26 :: (rdH a bs.length 4 (bs.flatMap blc)) :: allA blA bs :: (rdH b dels.length 5 (dels.flatMap rcc)) :: allA recA dels :: (rdH q.ms.a q.ms.l.length 3 (q.ms.l.flatMap mtc)) :: L) rfl).drop.drop.drop.drop.drop
       clear hS63
       have hS67 := hS66.permT [3, 3, 3, 3, 3, 0, 0, 0] (L' := (rdH a bs.length 4 (bs.flatMap blc)) :: allA blA bs :: (rdH b dels.length 5 (dels.flatMap rcc)) :: allA recA dels :: (rdH q.ms.a q.ms.l.length 3 (q.ms.l.flatMap mtc)) :: own ua o1.length uc 68 2 (o1.flatMap msc) :: allA serA o1 :: cel g2 [Value.slice q.ms.a q.ms.l.length q.ms.cap, Value.int .i64 q.fr, Value.int .i64 q.to] 26 :: L) rfl
       clear hS66
       refine WO.call rfl rfl Ty.hd20 rfl (rquery_spec rdH_rd rdH_rd rdH_rd hsz hdz hmz hmn (by omega) (by omega) (by omega) (by omega) q.fr q.to hS67) (fun v69 w68 pv69 => ?_)
       obtain ⟨va, vc, o2, rfl, ho2, hn2, hz2, hS68⟩ := pv69
       clear hS67
       refine WO.nil ?_
       have s70 : (∀ jz, World.cell? w68 ⟨g2, jz, none⟩ = [Value.slice q.ms.a q.ms.l.length q.ms.cap, Value.int .i64 q.fr, Value.int .i64 q.to][jz]?) := hS68.cel_at 9 rfl
       refine NX.held s70 ?_
       refine WD.one (i := 21) mergeAsks_core_t10 (bt 23 4194303) rfl (by kernel_rfl) ?_
       have hS71 : St B (own va o2.length vc 68 2 (o2.flatMap msc) :: allA serA o2 :: (rdH a bs.length 4 (bs.flatMap blc)) :: (rdH b dels.length 5 (dels.flatMap rcc)) :: (rdH q.ms.a q.ms.l.length 3 (q.ms.l.flatMap mtc)) :: own ua o1.length uc 68 2 (o1.flatMap msc) :: allA serA o1 :: cel g2 [Value.slice q.ms.a q.ms.l.length q.ms.cap, Value.int .i64 q.fr, Value.int .i64 q.to] 26 :: L) w68 := (hS68.permT [3, 4, 0, 0, 0, 0, 0, 0, 0, 0] (L' := allA blA bs :: allA recA dels :: own va o2.length vc 68 2 (o2.flatMap msc) :: allA serA o2 :: (rdH a bs.length 4 (bs.flatMap blc)) :: (rdH b dels.length 5 (dels.flatMap rcc)) :: (rdH q.ms.a q.ms.l.length 3 (q.ms.l.flatMap mtc)) :: own ua o1.length uc 68 2 (o1.flatMap msc) :: allA serA o1 :: cel g2 [Value.slice q.ms.a q.ms.l.length q.ms.cap, Value.int .i64 q.fr, Value.int .i64 q.to] 26 :: L) rfl).drop.drop
       clear hS68
       have hS72 := hS71.permT [5, 5, 0, 0, 0, 0, 0, 0] (L' := own ua o1.length uc 68 2 (o1.flatMap msc) :: allA serA o1 :: own va o2.length vc 68 2 (o2.flatMap msc) :: allA serA o2 :: (rdH a bs.length 4 (bs.flatMap blc)) :: (rdH b dels.length 5 (dels.flatMap rcc)) :: (rdH q.ms.a q.ms.l.length 3 (q.ms.l.flatMap mtc)) :: cel g2 [Value.slice q.ms.a q.ms.l.length q.ms.cap, Value.int .i64 q.fr, Value.int .i64 q.to] 26 :: L) rfl
       clear hS71
       refine WO.call rfl rfl Ty.hd17 rfl (rssame_spec (X := own ua o1.length uc 68 2 (o1.flatMap msc)) (Y := own va o2.length vc 68 2 (o2.flatMap msc)) (fun h => h.own_rd.1) (fun h => h.own_rd.1) (by omega) (by omega) hz1 hz2 hS72) (fun v74 w73 pv74 => ?_)
       obtain ⟨rfl, hS73⟩ := pv74
       clear hS72
       refine WO.nil ?_
       have s75 : (∀ jz, World.cell? w73 ⟨g2, jz, none⟩ = [Value.slice q.ms.a q.ms.l.length q.ms.cap, Value.int .i64 q.fr, Value.int .i64 q.to][jz]?) := hS73.cel_at 7 rfl
       refine NX.held s75 ?_
       refine WD.pure (i := 22) mergeAsks_core_t10 (bt 23 8388607) rfl rfl rfl (by kernel_rfl) (PQ.then PQ.body) rfl (fun w => run_assign rfl) ?_
       refine WD.done mergeAsks_core_t10 (by kernel_rfl) ?_
       refine NX.go (WP.ret ?_)
       refine NX.done (l := [.tmp 6]) rfl rfl ?_
       have heq : o1.map MSer.p = o2.map MSer.p := by rw [ho1, ho2, hole, hCs]
       exact ⟨congrArg Value.bool (decide_eq_true heq), hS73.drop.drop.drop.drop.drop.drop.drop.drop⟩
end Go.Proofs.YtidoidoelgfnaaaGreatDoor.SL
