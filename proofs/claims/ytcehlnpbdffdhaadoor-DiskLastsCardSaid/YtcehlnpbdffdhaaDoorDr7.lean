/- A disk: other names. -/
import Derived.Test.YtcehlnpbdffdhaaDoorDr6
namespace Go.Proofs.YtcehlnpbdffdhaaDoor.SL
open Go.RowKit Go.Proofs.YtcehlnpbdffdhaaDoor
open Go.Proofs.YtcehlnpbdffdhaaDoorW.PrintLast (rtab opsOf)
set_option linter.unusedVariables false
set_option linter.unusedSimpArgs false

theorem change_ok {dx : DkX} {D D1 : Dk} {c : Chg} {a : Option Addr} {cap : Nat} {v : Value} (ok : OkX dx D) (hw : WFD D) (hc : OkC D.f.length c) (h1 : D1.f = D.f) (h2 : D1.nm = D.nm) (h3 : D1.last = D.last) (h4 : D1.ch = D.ch) :
    OkX ⟨dx.gs, dx.r1, applyE dx.gs dx.e1 c, dx.r2, dx.e2, a, cap, dx.vs ++ [v]⟩ (changeD D1 c) := by
  refine ⟨?_, ?_, ?_, ?_⟩
  · show dx.gs.length = D1.f.length
    rw [h1]; exact ok.g
  · show (applyE dx.gs dx.e1 c).Perm (esOf dx.gs (applyN D1.nm c))
    rw [h2]; exact applyE_perm ok.p1 hw.good hc
  · show dx.e2.Perm (esOf dx.gs D1.last)
    rw [h3]; exact ok.p2
  · show (D1.ch ++ [_]).length = (dx.vs ++ [v]).length
    rw [List.length_append, List.length_append, h4, ok.v]; rfl
theorem drename_spec {B w : World} {L : List HP} {g : Nat} {D : Dk} {n t : Nat} (hw : WFD D) (hb : Bnd D n t) (hn1 : n ≤ 1000000000) (k u : List UInt8) (hul : u.length ≤ 140737488355328) (hS : St B (dkA g D :: L) w) : Does Tryd.prog 30 [Value.pointer (some ⟨g, 0, none⟩), str k, str u] w (fun v w1 => v = .int .i64 (renameD D k u).2 ∧ St B (dkA g (renameD D k u).1 :: L) w1) := by
 obtain ⟨dx, ok, h0⟩ := hS.dk_open
 clear hS
 have hvs : dx.vs.length ≤ 1099511627776 := by have := ok.v; have := hb.ch; omega
 refine enter (n := 26) Tryd.func30 rfl rfl [Value.pointer (some ⟨g, 0, none⟩), str k, str u] rfl ?_
 refine WP.seq ?_
 refine WP.region rfl ?_
 refine WO.box (l := [str k]) h0 rfl rfl rfl (fun g2 w1 lg2 hS1 => ?_)
 clear h0
 refine WO.box (l := [str u]) hS1 rfl rfl rfl (fun g4 w3 lg4 hS3 => ?_)
 clear hS1
 refine WO.val (run_assign rfl) rfl rfl rfl ?_
 refine WO.nil ?_
 refine NX.go ?_
 refine WP.seq ?_
 refine WP.region rfl ?_
 refine WO.val (run_move rfl) rfl rfl rfl ?_
 refine WO.val (run_load Ty.ag9 rfl ((hS3.cel_at 1 rfl 0).trans rfl)) rfl rfl rfl ?_
 have hS5 := hS3.permT [2, 2, 0, 0, 0, 0, 0, 0] (L' := cel g [Value.int .i64 D.room, Value.map (some dx.r1), Value.map (some dx.r2), Value.slice dx.a dx.vs.length dx.cap, Value.bool D.dead, Value.int .i64 D.left] 103 :: mpS dx.r1 dx.e1 :: cel g4 [str u] 9 :: cel g2 [str k] 9 :: mpS dx.r2 dx.e2 :: own dx.a dx.vs.length dx.cap 108 1 dx.vs :: chsA dx.gs D.ch dx.vs :: filesA dx.gs D.f :: L) rfl
 clear hS3
 refine WO.call rfl rfl Ty.hd67 rfl (dfind_spec hw.left hw.lrng k (look_ok ok hw k) hS5) (fun v7 w6 pv7 => ?_)
 obtain ⟨rfl, hS6⟩ := pv7
 clear hS5
 refine WO.val (run_move rfl) rfl rfl rfl ?_
 refine WO.val (run_extract rfl rfl) rfl rfl rfl ?_
 refine WO.val (run_extract rfl rfl) rfl rfl rfl ?_
 refine WO.alloc (l := [Value.pointer none]) hS6 Ty.zr104 rfl rfl (fun g9 w8 lg9 hS8 => ?_)
 clear hS6
 refine WO.store (l' := [Value.pointer (fdP D.dead D.left (findP dx.gs k D.nm))]) 0 hS8 rfl Ty.sz104 rfl rfl rfl rfl rfl (Nat.le_of_ble_eq_true rfl) rfl (fun w10 (hS10 : St B (cel g9 [Value.pointer (fdP D.dead D.left (findP dx.gs k D.nm))] 104 :: cel g [Value.int .i64 D.room, Value.map (some dx.r1), Value.map (some dx.r2), Value.slice dx.a dx.vs.length dx.cap, Value.bool (wDead D.dead D.left), Value.int .i64 (wLeft D.dead D.left)] 103 :: mpS dx.r1 dx.e1 :: cel g4 [str u] 9 :: cel g2 [str k] 9 :: mpS dx.r2 dx.e2 :: own dx.a dx.vs.length dx.cap 108 1 dx.vs :: chsA dx.gs D.ch dx.vs :: filesA dx.gs D.f :: L) w10) => ?_)
 clear hS8
 refine WO.val (run_assign rfl) rfl rfl rfl ?_
 refine WO.nil ?_
 refine NX.go ?_
 refine WP.seq ?_
 refine WP.block ?_
 refine WP.seq ?_
 refine WP.region rfl ?_
 refine WO.val (run_move rfl) rfl rfl rfl ?_
 refine WO.val (run_neq rfl rfl) rfl rfl rfl ?_
 refine WO.val (run_assign rfl) rfl rfl rfl ?_
 refine WO.nil ?_
 refine NX.go ?_
 refine WP.condP rfl (fun g15 => ?_) (fun g15 => ?_)
 ·
  refine WP.seq ?_
  refine WP.region rfl ?_
  refine WO.val (run_move rfl) rfl rfl rfl ?_
  refine WO.val (run_assign rfl) rfl rfl rfl ?_
  refine WO.nil ?_
  refine NX.go ?_
  refine WP.ret ?_
  refine NX.blkRet ?_
  refine NX.thenRet ?_
  refine NX.done (l := [.tmp 6]) rfl rfl ?_
  rcases fd_err (by first | exact g15 | exact g14) with ⟨h1, h2, h3⟩ | ⟨h1, h3⟩
  · have e : renameD D k u = ({ D with dead := wDead D.dead D.left, left := wLeft D.dead D.left }, 12) := (by unfold renameD; rw [onWrite_eq, if_pos h1]; show rename1 _ k u = _; unfold rename1; rw [show findN k (Dk.nm { D with dead := wDead D.dead D.left, left := wLeft D.dead D.left }) = none from h2]); rw [e, h3]; exact ⟨rfl, St.dk_shut (D := { D with dead := wDead D.dead D.left, left := wLeft D.dead D.left }) ⟨ok.g, ok.p1, ok.p2, ok.v⟩ ((hS10.permT [0, 2, 2, 0, 0, 0, 0, 0, 0] (L' := cel g9 [Value.pointer (fdP D.dead D.left (findP dx.gs k D.nm))] 104 :: cel g4 [str u] 9 :: cel g2 [str k] 9 :: cel g [Value.int .i64 D.room, Value.map (some dx.r1), Value.map (some dx.r2), Value.slice dx.a dx.vs.length dx.cap, Value.bool (wDead D.dead D.left), Value.int .i64 (wLeft D.dead D.left)] 103 :: mpS dx.r1 dx.e1 :: mpS dx.r2 dx.e2 :: own dx.a dx.vs.length dx.cap 108 1 dx.vs :: chsA dx.gs D.ch dx.vs :: filesA dx.gs D.f :: L) rfl).drop.drop.drop)⟩
  · have e : renameD D k u = ({ D with dead := wDead D.dead D.left, left := wLeft D.dead D.left }, 11) := (by unfold renameD; rw [onWrite_eq, if_neg (by rw [h1]; decide)]); rw [e, h3]; exact ⟨rfl, St.dk_shut (D := { D with dead := wDead D.dead D.left, left := wLeft D.dead D.left }) ⟨ok.g, ok.p1, ok.p2, ok.v⟩ ((hS10.permT [0, 2, 2, 0, 0, 0, 0, 0, 0] (L' := cel g9 [Value.pointer (fdP D.dead D.left (findP dx.gs k D.nm))] 104 :: cel g4 [str u] 9 :: cel g2 [str k] 9 :: cel g [Value.int .i64 D.room, Value.map (some dx.r1), Value.map (some dx.r2), Value.slice dx.a dx.vs.length dx.cap, Value.bool (wDead D.dead D.left), Value.int .i64 (wLeft D.dead D.left)] 103 :: mpS dx.r1 dx.e1 :: mpS dx.r2 dx.e2 :: own dx.a dx.vs.length dx.cap 108 1 dx.vs :: chsA dx.gs D.ch dx.vs :: filesA dx.gs D.f :: L) rfl).drop.drop.drop)⟩
 ·
  obtain ⟨hok, i, hi⟩ := fd_ok (Decidable.of_not_not g15)
  obtain ⟨q, hq⟩ : ∃ q, q = dx.gs.getD i 0 := ⟨_, rfl⟩
  have hlt := hw.find hi
  rw [fdP_eq hok hi hq] at hS10
  refine WP.seq ?_
  refine WP.region rfl ?_
  refine WO.val (run_load Ty.ag9 rfl ((hS10.cel_at 3 rfl 0).trans rfl)) rfl rfl rfl ?_
  refine WO.call rfl rfl Ty.hd60 rfl (dright_spec u (by omega) hS10) (fun v12 w11 pv12 => ?_)
  obtain ⟨rfl, hS11⟩ := pv12
  clear hS10
  refine WO.val (run_not rfl rfl) rfl rfl rfl ?_
  refine WO.val (run_assign rfl) rfl rfl rfl ?_
  refine WO.nil ?_
  refine NX.go ?_
  refine WP.condB rfl (fun g19 => ?_) (fun g19 => ?_)
  ·
   refine WP.seq ?_
   refine WP.region rfl ?_
   refine WO.val (run_assign rfl) rfl rfl rfl ?_
   refine WO.nil ?_
   refine NX.go ?_
   refine WP.ret ?_
   refine NX.blkRet ?_
   refine NX.thenRet ?_
   refine NX.done (l := [.tmp 6]) rfl rfl ?_
   have e : renameD D k u = ({ D with dead := wDead D.dead D.left, left := wLeft D.dead D.left }, 3) := by unfold renameD; rw [onWrite_eq, if_pos hok]; show rename1 _ k u = _; unfold rename1; rw [show findN k (Dk.nm { D with dead := wDead D.dead D.left, left := wLeft D.dead D.left }) = some i from hi]; exact if_pos (by simpa using g19)
   rw [e]
   exact ⟨rfl, St.dk_shut (D := { D with dead := wDead D.dead D.left, left := wLeft D.dead D.left }) ⟨ok.g, ok.p1, ok.p2, ok.v⟩ ((hS11.permT [0, 2, 2, 0, 0, 0, 0, 0, 0] (L' := cel g9 [Value.pointer (some ⟨q, 0, none⟩)] 104 :: cel g4 [str u] 9 :: cel g2 [str k] 9 :: cel g [Value.int .i64 D.room, Value.map (some dx.r1), Value.map (some dx.r2), Value.slice dx.a dx.vs.length dx.cap, Value.bool (wDead D.dead D.left), Value.int .i64 (wLeft D.dead D.left)] 103 :: mpS dx.r1 dx.e1 :: mpS dx.r2 dx.e2 :: own dx.a dx.vs.length dx.cap 108 1 dx.vs :: chsA dx.gs D.ch dx.vs :: filesA dx.gs D.f :: L) rfl).drop.drop.drop)⟩
  ·
   have hu : fileF u = true := by simpa using g19
   refine WP.skip ?_
   refine NX.blk ?_
   refine NX.go ?_
   refine WP.seq ?_
   refine WP.region rfl ?_
   refine WO.val (run_move rfl) rfl rfl rfl ?_
   refine WO.val (run_makeFunc rfl rfl) rfl rfl rfl ?_
   have hS13 : St B (cel g9 [Value.pointer (some ⟨q, 0, none⟩)] 104 :: cel g [Value.int .i64 D.room, Value.map (some dx.r1), Value.map (some dx.r2), Value.slice dx.a dx.vs.length dx.cap, Value.bool (wDead D.dead D.left), Value.int .i64 (wLeft D.dead D.left)] 103 :: mpS dx.r1 dx.e1 :: cel g4 [str u] 9 :: scel g2 [str k] 9 :: mpS dx.r2 dx.e2 :: own dx.a dx.vs.length dx.cap 108 1 dx.vs :: chsA dx.gs D.ch dx.vs :: filesA dx.gs D.f :: L) w11 := hS11.cel_seal_i 4 rfl rfl
   clear hS11
   have hS14 : St B (scel g9 [Value.pointer (some ⟨q, 0, none⟩)] 104 :: cel g [Value.int .i64 D.room, Value.map (some dx.r1), Value.map (some dx.r2), Value.slice dx.a dx.vs.length dx.cap, Value.bool (wDead D.dead D.left), Value.int .i64 (wLeft D.dead D.left)] 103 :: mpS dx.r1 dx.e1 :: cel g4 [str u] 9 :: scel g2 [str k] 9 :: mpS dx.r2 dx.e2 :: own dx.a dx.vs.length dx.cap 108 1 dx.vs :: chsA dx.gs D.ch dx.vs :: filesA dx.gs D.f :: L) w11 := hS13.cel_seal_i 0 rfl rfl
   clear hS13
   have hS15 : St B (scel g9 [Value.pointer (some ⟨q, 0, none⟩)] 104 :: cel g [Value.int .i64 D.room, Value.map (some dx.r1), Value.map (some dx.r2), Value.slice dx.a dx.vs.length dx.cap, Value.bool (wDead D.dead D.left), Value.int .i64 (wLeft D.dead D.left)] 103 :: mpS dx.r1 dx.e1 :: scel g4 [str u] 9 :: scel g2 [str k] 9 :: mpS dx.r2 dx.e2 :: own dx.a dx.vs.length dx.cap 108 1 dx.vs :: chsA dx.gs D.ch dx.vs :: filesA dx.gs D.f :: L) w11 := hS14.cel_seal_i 3 rfl rfl
   clear hS14
   have hS16 : St B (chgA dx.gs (Chg.mk k u i) (Value.func (.func 68) #[] #[ptrV g2, ptrV g9, ptrV g4]) :: cel g [Value.int .i64 D.room, Value.map (some dx.r1), Value.map (some dx.r2), Value.slice dx.a dx.vs.length dx.cap, Value.bool (wDead D.dead D.left), Value.int .i64 (wLeft D.dead D.left)] 103 :: mpS dx.r1 dx.e1 :: mpS dx.r2 dx.e2 :: own dx.a dx.vs.length dx.cap 108 1 dx.vs :: chsA dx.gs D.ch dx.vs :: filesA dx.gs D.f :: L) w11 := mk_mov (c := (Chg.mk k u i)) (fileF_ne hu) (fileF_ne hlt.2) hq (hS15.permT [4, 0, 2, 0, 0, 0, 0, 0, 0] (L' := scel g2 [str k] 9 :: scel g9 [Value.pointer (some ⟨q, 0, none⟩)] 104 :: scel g4 [str u] 9 :: cel g [Value.int .i64 D.room, Value.map (some dx.r1), Value.map (some dx.r2), Value.slice dx.a dx.vs.length dx.cap, Value.bool (wDead D.dead D.left), Value.int .i64 (wLeft D.dead D.left)] 103 :: mpS dx.r1 dx.e1 :: mpS dx.r2 dx.e2 :: own dx.a dx.vs.length dx.cap 108 1 dx.vs :: chsA dx.gs D.ch dx.vs :: filesA dx.gs D.f :: L) rfl)
   clear hS15
   have hS17 := hS16.permT [0, 1, 0, 1, 0, 0, 0] (L' := chgA dx.gs (Chg.mk k u i) (Value.func (.func 68) #[] #[ptrV g2, ptrV g9, ptrV g4]) :: mpS dx.r1 dx.e1 :: cel g [Value.int .i64 D.room, Value.map (some dx.r1), Value.map (some dx.r2), Value.slice dx.a dx.vs.length dx.cap, Value.bool (wDead D.dead D.left), Value.int .i64 (wLeft D.dead D.left)] 103 :: own dx.a dx.vs.length dx.cap 108 1 dx.vs :: mpS dx.r2 dx.e2 :: chsA dx.gs D.ch dx.vs :: filesA dx.gs D.f :: L) rfl
   clear hS16
   refine WO.call rfl rfl Ty.hd61 rfl (dchange_spec (gs := dx.gs) (c := (Chg.mk k u i)) (cs := [ptrV g2, ptrV g9, ptrV g4]) hvs hS17) (fun v19 w18 pv19 => ?_)
   obtain ⟨a2, c2, rfl, hS18⟩ := pv19
   clear hS17
   refine WO.nil ?_
   refine NX.go ?_
   refine WP.seq ?_
   refine WP.region rfl ?_
   refine WO.val (run_assign rfl) rfl rfl rfl ?_
   refine WO.nil ?_
   refine NX.go ?_
   refine WP.ret ?_
   have hS20 : St B (chsA dx.gs (D.ch ++ [(Chg.mk k u i)]) (dx.vs ++ [Value.func (.func 68) #[] #[ptrV g2, ptrV g9, ptrV g4]]) :: mpS dx.r1 (applyE dx.gs dx.e1 (Chg.mk k u i)) :: cel g [Value.int .i64 D.room, Value.map (some dx.r1), Value.map (some dx.r2), Value.slice a2 ((dx.vs ++ [Value.func (.func 68) #[] #[ptrV g2, ptrV g9, ptrV g4]]).length) c2, Value.bool (wDead D.dead D.left), Value.int .i64 (wLeft D.dead D.left)] 103 :: own a2 ((dx.vs ++ [Value.func (.func 68) #[] #[ptrV g2, ptrV g9, ptrV g4]]).length) c2 108 1 (dx.vs ++ [Value.func (.func 68) #[] #[ptrV g2, ptrV g9, ptrV g4]]) :: mpS dx.r2 dx.e2 :: filesA dx.gs D.f :: L) w18 := chsA_snoc (hS18.permT [5, 0, 0, 0, 0, 0, 0] (L' := chsA dx.gs D.ch dx.vs :: chgA dx.gs (Chg.mk k u i) (Value.func (.func 68) #[] #[ptrV g2, ptrV g9, ptrV g4]) :: mpS dx.r1 (applyE dx.gs dx.e1 (Chg.mk k u i)) :: cel g [Value.int .i64 D.room, Value.map (some dx.r1), Value.map (some dx.r2), Value.slice a2 ((dx.vs ++ [Value.func (.func 68) #[] #[ptrV g2, ptrV g9, ptrV g4]]).length) c2, Value.bool (wDead D.dead D.left), Value.int .i64 (wLeft D.dead D.left)] 103 :: own a2 ((dx.vs ++ [Value.func (.func 68) #[] #[ptrV g2, ptrV g9, ptrV g4]]).length) c2 108 1 (dx.vs ++ [Value.func (.func 68) #[] #[ptrV g2, ptrV g9, ptrV g4]]) :: mpS dx.r2 dx.e2 :: filesA dx.gs D.f :: L) rfl)
   refine NX.done (l := [.tmp 6]) rfl rfl ?_
   have e : renameD D k u = ((changeD { D with dead := wDead D.dead D.left, left := wLeft D.dead D.left } (Chg.mk k u i)), 0) := by unfold renameD; rw [onWrite_eq, if_pos hok]; show rename1 _ k u = _; unfold rename1; rw [show findN k (Dk.nm { D with dead := wDead D.dead D.left, left := wLeft D.dead D.left }) = some i from hi]; exact if_neg (by rw [hu]; decide)
   rw [e]
   exact ⟨rfl, St.dk_shut (D := (changeD { D with dead := wDead D.dead D.left, left := wLeft D.dead D.left } (Chg.mk k u i))) (change_ok (D1 := { D with dead := wDead D.dead D.left, left := wLeft D.dead D.left }) (a := a2) (cap := c2) (v := Value.func (.func 68) #[] #[ptrV g2, ptrV g9, ptrV g4]) ok hw (.inr ⟨hu, hlt.1, .inr hlt.2⟩) rfl rfl rfl rfl) ((hS20.permT [2, 1, 2, 1, 0, 0] (L' := cel g [Value.int .i64 D.room, Value.map (some dx.r1), Value.map (some dx.r2), Value.slice a2 ((dx.vs ++ [Value.func (.func 68) #[] #[ptrV g2, ptrV g9, ptrV g4]]).length) c2, Value.bool (wDead D.dead D.left), Value.int .i64 (wLeft D.dead D.left)] 103 :: mpS dx.r1 (applyE dx.gs dx.e1 (Chg.mk k u i)) :: mpS dx.r2 dx.e2 :: own a2 ((dx.vs ++ [Value.func (.func 68) #[] #[ptrV g2, ptrV g9, ptrV g4]]).length) c2 108 1 (dx.vs ++ [Value.func (.func 68) #[] #[ptrV g2, ptrV g9, ptrV g4]]) :: chsA dx.gs (D.ch ++ [(Chg.mk k u i)]) (dx.vs ++ [Value.func (.func 68) #[] #[ptrV g2, ptrV g9, ptrV g4]]) :: filesA dx.gs D.f :: L) rfl))⟩
theorem dremove_spec {B w : World} {L : List HP} {g : Nat} {D : Dk} {n t : Nat} (hw : WFD D) (hb : Bnd D n t) (hn1 : n ≤ 1000000000) (k : List UInt8) (hS : St B (dkA g D :: L) w) : Does Tryd.prog 72 [Value.pointer (some ⟨g, 0, none⟩), str k] w (fun v w1 => v = .int .i64 (removeD D k).2 ∧ St B (dkA g (removeD D k).1 :: L) w1) := by
 obtain ⟨dx, ok, h0⟩ := hS.dk_open
 clear hS
 have hvs : dx.vs.length ≤ 1099511627776 := by have := ok.v; have := hb.ch; omega
 refine enter (n := 19) Tryd.func72 rfl rfl [Value.pointer (some ⟨g, 0, none⟩), str k] rfl ?_
 refine WP.seq ?_
 refine WP.region rfl ?_
 refine WO.box (l := [str k]) h0 rfl rfl rfl (fun g2 w1 lg2 hS1 => ?_)
 clear h0
 refine WO.val (run_assign rfl) rfl rfl rfl ?_
 refine WO.nil ?_
 refine NX.go ?_
 refine WP.seq ?_
 refine WP.region rfl ?_
 refine WO.val (run_move rfl) rfl rfl rfl ?_
 refine WO.val (run_load Ty.ag9 rfl ((hS1.cel_at 0 rfl 0).trans rfl)) rfl rfl rfl ?_
 have hS3 := hS1.permT [1, 1, 0, 0, 0, 0, 0] (L' := cel g [Value.int .i64 D.room, Value.map (some dx.r1), Value.map (some dx.r2), Value.slice dx.a dx.vs.length dx.cap, Value.bool D.dead, Value.int .i64 D.left] 103 :: mpS dx.r1 dx.e1 :: cel g2 [str k] 9 :: mpS dx.r2 dx.e2 :: own dx.a dx.vs.length dx.cap 108 1 dx.vs :: chsA dx.gs D.ch dx.vs :: filesA dx.gs D.f :: L) rfl
 clear hS1
 refine WO.call rfl rfl Ty.hd67 rfl (dfind_spec hw.left hw.lrng k (look_ok ok hw k) hS3) (fun v5 w4 pv5 => ?_)
 obtain ⟨rfl, hS4⟩ := pv5
 clear hS3
 refine WO.val (run_move rfl) rfl rfl rfl ?_
 refine WO.val (run_extract rfl rfl) rfl rfl rfl ?_
 refine WO.val (run_extract rfl rfl) rfl rfl rfl ?_
 refine WO.val (run_assign rfl) rfl rfl rfl ?_
 refine WO.val (run_assign rfl) rfl rfl rfl ?_
 refine WO.nil ?_
 refine NX.go ?_
 refine WP.seq ?_
 refine WP.seq ?_
 refine WP.region rfl ?_
 refine WO.val (run_move rfl) rfl rfl rfl ?_
 refine WO.val (run_eql rfl rfl) rfl rfl rfl ?_
 refine WO.nil ?_
 refine NX.go ?_
 refine WP.condP rfl (fun g14 => ?_) (fun g14 => ?_)
 ·
  obtain ⟨hok, i, hi⟩ := fd_ok g14
  have hlt := hw.find hi
  refine WP.region rfl ?_
  refine WO.val (run_move rfl) rfl rfl rfl ?_
  refine WO.val (run_makeFunc rfl rfl) rfl rfl rfl ?_
  have hS6 : St B (cel g [Value.int .i64 D.room, Value.map (some dx.r1), Value.map (some dx.r2), Value.slice dx.a dx.vs.length dx.cap, Value.bool (wDead D.dead D.left), Value.int .i64 (wLeft D.dead D.left)] 103 :: mpS dx.r1 dx.e1 :: scel g2 [str k] 9 :: mpS dx.r2 dx.e2 :: own dx.a dx.vs.length dx.cap 108 1 dx.vs :: chsA dx.gs D.ch dx.vs :: filesA dx.gs D.f :: L) w4 := hS4.cel_seal_i 2 rfl rfl
  clear hS4
  have hS7 : St B (chgA dx.gs (Chg.mk k [] 0) (Value.func (.func 101) #[] #[ptrV g2]) :: cel g [Value.int .i64 D.room, Value.map (some dx.r1), Value.map (some dx.r2), Value.slice dx.a dx.vs.length dx.cap, Value.bool (wDead D.dead D.left), Value.int .i64 (wLeft D.dead D.left)] 103 :: mpS dx.r1 dx.e1 :: mpS dx.r2 dx.e2 :: own dx.a dx.vs.length dx.cap 108 1 dx.vs :: chsA dx.gs D.ch dx.vs :: filesA dx.gs D.f :: L) w4 := mk_del (c := (Chg.mk k [] 0)) rfl (hS6.permT [2, 0, 0, 0, 0, 0, 0] (L' := scel g2 [str k] 9 :: cel g [Value.int .i64 D.room, Value.map (some dx.r1), Value.map (some dx.r2), Value.slice dx.a dx.vs.length dx.cap, Value.bool (wDead D.dead D.left), Value.int .i64 (wLeft D.dead D.left)] 103 :: mpS dx.r1 dx.e1 :: mpS dx.r2 dx.e2 :: own dx.a dx.vs.length dx.cap 108 1 dx.vs :: chsA dx.gs D.ch dx.vs :: filesA dx.gs D.f :: L) rfl)
  clear hS6
  have hS8 := hS7.permT [0, 1, 0, 1, 0, 0, 0] (L' := chgA dx.gs (Chg.mk k [] 0) (Value.func (.func 101) #[] #[ptrV g2]) :: mpS dx.r1 dx.e1 :: cel g [Value.int .i64 D.room, Value.map (some dx.r1), Value.map (some dx.r2), Value.slice dx.a dx.vs.length dx.cap, Value.bool (wDead D.dead D.left), Value.int .i64 (wLeft D.dead D.left)] 103 :: own dx.a dx.vs.length dx.cap 108 1 dx.vs :: mpS dx.r2 dx.e2 :: chsA dx.gs D.ch dx.vs :: filesA dx.gs D.f :: L) rfl
  clear hS7
  refine WO.call rfl rfl Ty.hd61 rfl (dchange_spec (gs := dx.gs) (c := (Chg.mk k [] 0)) (cs := [ptrV g2]) hvs hS8) (fun v10 w9 pv10 => ?_)
  obtain ⟨a2, c2, rfl, hS9⟩ := pv10
  clear hS8
  refine WO.nil ?_
  refine NX.go ?_
  refine WP.seq ?_
  refine WP.region rfl ?_
  refine WO.val (run_move rfl) rfl rfl rfl ?_
  refine WO.val (run_assign rfl) rfl rfl rfl ?_
  refine WO.nil ?_
  refine NX.go ?_
  refine WP.ret ?_
  have hS11 : St B (chsA dx.gs (D.ch ++ [(Chg.mk k [] 0)]) (dx.vs ++ [Value.func (.func 101) #[] #[ptrV g2]]) :: mpS dx.r1 (applyE dx.gs dx.e1 (Chg.mk k [] 0)) :: cel g [Value.int .i64 D.room, Value.map (some dx.r1), Value.map (some dx.r2), Value.slice a2 ((dx.vs ++ [Value.func (.func 101) #[] #[ptrV g2]]).length) c2, Value.bool (wDead D.dead D.left), Value.int .i64 (wLeft D.dead D.left)] 103 :: own a2 ((dx.vs ++ [Value.func (.func 101) #[] #[ptrV g2]]).length) c2 108 1 (dx.vs ++ [Value.func (.func 101) #[] #[ptrV g2]]) :: mpS dx.r2 dx.e2 :: filesA dx.gs D.f :: L) w9 := chsA_snoc (hS9.permT [5, 0, 0, 0, 0, 0, 0] (L' := chsA dx.gs D.ch dx.vs :: chgA dx.gs (Chg.mk k [] 0) (Value.func (.func 101) #[] #[ptrV g2]) :: mpS dx.r1 (applyE dx.gs dx.e1 (Chg.mk k [] 0)) :: cel g [Value.int .i64 D.room, Value.map (some dx.r1), Value.map (some dx.r2), Value.slice a2 ((dx.vs ++ [Value.func (.func 101) #[] #[ptrV g2]]).length) c2, Value.bool (wDead D.dead D.left), Value.int .i64 (wLeft D.dead D.left)] 103 :: own a2 ((dx.vs ++ [Value.func (.func 101) #[] #[ptrV g2]]).length) c2 108 1 (dx.vs ++ [Value.func (.func 101) #[] #[ptrV g2]]) :: mpS dx.r2 dx.e2 :: filesA dx.gs D.f :: L) rfl)
  refine NX.done (l := [.tmp 4]) rfl rfl ?_
  rw [g14]
  have e : removeD D k = ((changeD { D with dead := wDead D.dead D.left, left := wLeft D.dead D.left } (Chg.mk k [] 0)), 0) := by unfold removeD; rw [onWrite_eq, if_pos hok]; show remove1 _ k = _; unfold remove1; rw [show findN k (Dk.nm { D with dead := wDead D.dead D.left, left := wLeft D.dead D.left }) = some i from hi]
  rw [e]
  exact ⟨rfl, St.dk_shut (D := (changeD { D with dead := wDead D.dead D.left, left := wLeft D.dead D.left } (Chg.mk k [] 0))) (change_ok (D1 := { D with dead := wDead D.dead D.left, left := wLeft D.dead D.left }) (a := a2) (cap := c2) (v := Value.func (.func 101) #[] #[ptrV g2]) ok hw (.inl ⟨rfl, hlt.2⟩) rfl rfl rfl rfl) ((hS11.permT [2, 1, 2, 1, 0, 0] (L' := cel g [Value.int .i64 D.room, Value.map (some dx.r1), Value.map (some dx.r2), Value.slice a2 ((dx.vs ++ [Value.func (.func 101) #[] #[ptrV g2]]).length) c2, Value.bool (wDead D.dead D.left), Value.int .i64 (wLeft D.dead D.left)] 103 :: mpS dx.r1 (applyE dx.gs dx.e1 (Chg.mk k [] 0)) :: mpS dx.r2 dx.e2 :: own a2 ((dx.vs ++ [Value.func (.func 101) #[] #[ptrV g2]]).length) c2 108 1 (dx.vs ++ [Value.func (.func 101) #[] #[ptrV g2]]) :: chsA dx.gs (D.ch ++ [(Chg.mk k [] 0)]) (dx.vs ++ [Value.func (.func 101) #[] #[ptrV g2]]) :: filesA dx.gs D.f :: L) rfl))⟩
 ·
  refine WP.skip ?_
  refine NX.go ?_
  refine WP.seq ?_
  refine WP.region rfl ?_
  refine WO.val (run_move rfl) rfl rfl rfl ?_
  refine WO.val (run_assign rfl) rfl rfl rfl ?_
  refine WO.nil ?_
  refine NX.go ?_
  refine WP.ret ?_
  refine NX.done (l := [.tmp 4]) rfl rfl ?_
  rcases fd_err (by first | exact g15 | exact g14) with ⟨h1, h2, h3⟩ | ⟨h1, h3⟩
  · have e : removeD D k = ({ D with dead := wDead D.dead D.left, left := wLeft D.dead D.left }, 12) := (by unfold removeD; rw [onWrite_eq, if_pos h1]; show remove1 _ k = _; unfold remove1; rw [show findN k (Dk.nm { D with dead := wDead D.dead D.left, left := wLeft D.dead D.left }) = none from h2]); rw [e, h3]; exact ⟨rfl, St.dk_shut (D := { D with dead := wDead D.dead D.left, left := wLeft D.dead D.left }) ⟨ok.g, ok.p1, ok.p2, ok.v⟩ ((hS4.permT [2, 0, 0, 0, 0, 0, 0] (L' := cel g2 [str k] 9 :: cel g [Value.int .i64 D.room, Value.map (some dx.r1), Value.map (some dx.r2), Value.slice dx.a dx.vs.length dx.cap, Value.bool (wDead D.dead D.left), Value.int .i64 (wLeft D.dead D.left)] 103 :: mpS dx.r1 dx.e1 :: mpS dx.r2 dx.e2 :: own dx.a dx.vs.length dx.cap 108 1 dx.vs :: chsA dx.gs D.ch dx.vs :: filesA dx.gs D.f :: L) rfl).drop)⟩
  · have e : removeD D k = ({ D with dead := wDead D.dead D.left, left := wLeft D.dead D.left }, 11) := (by unfold removeD; rw [onWrite_eq, if_neg (by rw [h1]; decide)]); rw [e, h3]; exact ⟨rfl, St.dk_shut (D := { D with dead := wDead D.dead D.left, left := wLeft D.dead D.left }) ⟨ok.g, ok.p1, ok.p2, ok.v⟩ ((hS4.permT [2, 0, 0, 0, 0, 0, 0] (L' := cel g2 [str k] 9 :: cel g [Value.int .i64 D.room, Value.map (some dx.r1), Value.map (some dx.r2), Value.slice dx.a dx.vs.length dx.cap, Value.bool (wDead D.dead D.left), Value.int .i64 (wLeft D.dead D.left)] 103 :: mpS dx.r1 dx.e1 :: mpS dx.r2 dx.e2 :: own dx.a dx.vs.length dx.cap 108 1 dx.vs :: chsA dx.gs D.ch dx.vs :: filesA dx.gs D.f :: L) rfl).drop)⟩
end Go.Proofs.YtcehlnpbdffdhaaDoor.SL
