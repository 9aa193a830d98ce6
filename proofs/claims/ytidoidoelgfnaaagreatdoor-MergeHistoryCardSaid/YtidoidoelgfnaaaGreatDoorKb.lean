/- Builders; the bytes of labels. -/
import Derived.Test.YtidoidoelgfnaaaGreatDoorBd
import Derived.Test.YtidoidoelgfnaaaGreatDoorEnc
import Derived.Test.YtidoidoelgfnaaaGreatDoorShelf
namespace Go.Proofs.YtidoidoelgfnaaaGreatDoor.SL
open Go.RowKit Go.Proofs.YtidoidoelgfnaaaGreatDoor
open Go.Proofs.YtidoidoelgfnaaaGreatDoorW.PrintLast (rtab opsOf)
set_option linter.unusedVariables false
set_option linter.unusedSimpArgs false

/-- A builder that was written to. -/
def bldA (g : Nat) (t : List UInt8) : HP := .ex fun x : Option Addr × Nat => .sep (cel g [.pointer (some ⟨g, 0, none⟩), .slice x.1 t.length x.2] 162) (own x.1 t.length x.2 5 1 (t.map fun b => Value.int .u8 b.toNat))
theorem bldA_open {B w : World} {L : List HP} {g : Nat} {t : List UInt8} (h : St B (bldA g t :: L) w) : ∃ a cap, St B (cel g [.pointer (some ⟨g, 0, none⟩), .slice a t.length cap] 162 :: own a t.length cap 5 1 (t.map fun b => Value.int .u8 b.toNat) :: L) w := by
  obtain ⟨x, h1⟩ := h.ex
  exact ⟨x.1, x.2, h1.sep⟩
theorem bldA_shut {B w : World} {L : List HP} {g cap : Nat} {a : Option Addr} {t : List UInt8} (h : St B (cel g [.pointer (some ⟨g, 0, none⟩), .slice a t.length cap] 162 :: own a t.length cap 5 1 (t.map fun b => Value.int .u8 b.toNat) :: L) w) : St B (bldA g t :: L) w := (St.join h).give (a, cap)
theorem bcheck0 {B w : World} {L : List HP} {g n cap : Nat} {a : Option Addr} (hS : St B (cel g [Value.pointer none, Value.slice a n cap] 162 :: L) w) : Does Tryz.prog 126 [Value.pointer (some ⟨g, 0, none⟩)] w (fun v w1 => v = .tuple #[] ∧ St B (cel g [Value.pointer (some ⟨g, 0, none⟩), Value.slice a n cap] 162 :: L) w1) := by
 refine enter (n := 20) Tryz.func126 rfl rfl [Value.pointer (some ⟨g, 0, none⟩)] rfl ?_
 refine WP.seq (WP.region rfl ?_)
 refine WO.mv rfl rfl ?_
 refine WO.V (run_nilCheck rfl) ?_
 refine WO.V (run_fa 0 ⟨g, 0, none⟩ rfl rfl) ?_
 refine WO.V (run_load Ty.ag159 rfl ((hS.cel_at 0 rfl 0).trans rfl)) ?_
 refine WO.V (run_eqlNilP Tryz.underlying159 rfl rfl) ?_
 refine WO.nil (NX.go ?_)
 refine WP.condT rfl rfl ?_
 refine WP.region rfl ?_
 refine WO.mv rfl rfl ?_
 refine WO.mv rfl rfl ?_
 refine WO.V (run_toUnsafe 0 hS rfl Tryz.underlying159 Tryz.underlying200 (show (Tryz.prog.info? 162).map (·.size) = some 2 from by kernel_rfl) (by decide) (Nat.le_of_ble_eq_true rfl) rfl) ?_
 refine WO.extern (v := Value.pointer (some ⟨g, 0, none⟩)) rfl rfl Tryz.func137 (by kernel_rfl) (by kernel_rfl) (by kernel_rfl) (e := Extern.AbiNoEscape.same) (by kernel_rfl) (fun w => Lib.run_noEscape w _) rfl ?_
 refine WO.V (run_fromUnsafe 0 hS rfl Tryz.underlying200 Tryz.underlying159 (show (Tryz.prog.info? 162).map (·.size) = some 2 from by kernel_rfl) (by kernel_rfl) rfl) ?_
 refine WO.V (run_nilCheck rfl) ?_
 refine WO.V (run_fa 0 ⟨g, 0, none⟩ rfl rfl) ?_
 refine WO.store (l' := [Value.pointer (some ⟨g, 0, none⟩), Value.slice a n cap]) 0 hS rfl Ty.sz159 rfl rfl rfl rfl rfl (Nat.le_of_ble_eq_true rfl) rfl (fun w1 (hS1 : St B (_::L) w1) => ?_)
 clear hS
 refine WO.nil ?_
 refine NX.ended (l := []) rfl rfl ?_
 exact ⟨rfl, hS1⟩
theorem bcheck1 {B w : World} {L : List HP} {g n cap : Nat} {a : Option Addr} (hS : St B (cel g [Value.pointer (some ⟨g, 0, none⟩), Value.slice a n cap] 162 :: L) w) : Does Tryz.prog 126 [Value.pointer (some ⟨g, 0, none⟩)] w (fun v w1 => v = .tuple #[] ∧ St B (cel g [Value.pointer (some ⟨g, 0, none⟩), Value.slice a n cap] 162 :: L) w1) := by
 refine enter (n := 20) Tryz.func126 rfl rfl [Value.pointer (some ⟨g, 0, none⟩)] rfl ?_
 refine WP.seq (WP.region rfl ?_)
 refine WO.mv rfl rfl ?_
 refine WO.V (run_nilCheck rfl) ?_
 refine WO.V (run_fa 0 ⟨g, 0, none⟩ rfl rfl) ?_
 refine WO.V (run_load Ty.ag159 rfl ((hS.cel_at 0 rfl 0).trans rfl)) ?_
 refine WO.V (run_eqlNilP Tryz.underlying159 rfl rfl) ?_
 refine WO.nil (NX.go ?_)
 refine WP.condF rfl rfl ?_
 refine WP.seq (WP.region rfl ?_)
 refine WO.mv rfl rfl ?_
 refine WO.V (run_nilCheck rfl) ?_
 refine WO.V (run_fa 0 ⟨g, 0, none⟩ rfl rfl) ?_
 refine WO.V (run_load Ty.ag159 rfl ((hS.cel_at 0 rfl 0).trans rfl)) ?_
 refine WO.mv rfl rfl ?_
 refine WO.V (run_neqPtr Tryz.underlying159 (show (Tryz.prog.info? 162).map (·.size) = some 2 from by kernel_rfl) rfl rfl) ?_
 refine WO.nil (NX.go ?_)
 refine WP.condF rfl rfl ?_
 refine WP.skip ?_
 refine NX.ended (l := []) rfl rfl ?_
 exact ⟨rfl, hS⟩
theorem bwrite0 {B w : World} {L : List HP} {g : Nat} (s : List UInt8) (hs : s.length ≤ 140737488355328) (hS : St B (cel g [Value.pointer none, Value.slice none 0 0] 162 :: L) w) : Does Tryz.prog 97 [Value.pointer (some ⟨g, 0, none⟩), str s] w (fun v w1 => v = .tuple #[.int .i64 (s.length : Int), .nilIface] ∧ St B (bldA g s :: L) w1) := by
 refine enter (n := 19) Tryz.func97 rfl rfl [Value.pointer (some ⟨g, 0, none⟩), str s] rfl ?_
 refine WP.seq (WP.region rfl ?_)
 refine WO.asg rfl rfl ?_
 refine WO.asg rfl rfl ?_
 refine WO.nil (NX.go (WP.seq (WP.region rfl ?_)))
 refine WO.mv rfl rfl ?_
 refine WO.call rfl rfl Ty.hd126 rfl (bcheck0 hS) (fun v2 w1 pv2 => ?_)
 obtain ⟨rfl, hS1⟩ := pv2
 clear hS
 refine WO.nil (NX.go (WP.seq (WP.region rfl ?_)))
 refine WO.mv rfl rfl ?_
 refine WO.mv rfl rfl ?_
 refine WO.V (run_nilCheck rfl) ?_
 refine WO.V (run_fa 1 ⟨g, 1, none⟩ rfl rfl) ?_
 refine WO.V (run_load Ty.ag160 rfl ((hS1.cel_at 0 rfl 1).trans rfl)) ?_
 refine WO.mv rfl rfl ?_
 have hS1 := hS1.own_nil 5 1
 refine WO.append (news := (s.map fun b => Value.int .u8 b.toNat)) 0 rfl Tryz.underlying160 Tryz.underlying9 (fun _ h => by cases h) Ty.sz5 (by decide) Ty.by5 Ty.zr5 rfl rfl rfl rfl hS1 rfl (str_src _) (u8s_noAgg _) (by omega) (by omega) (fun a4 c5 w3 hS3 => ?_)
 replace hS3 : St B (own a4 (0 + s.length) c5 5 1 ([] ++ (s.map fun b => Value.int .u8 b.toNat)) :: cel g [Value.pointer (some ⟨g, 0, none⟩), Value.slice none 0 0] 162 :: L) w3 := hS3
 clear hS1
 refine WO.V (run_nilCheck rfl) ?_
 refine WO.V (run_fa 1 ⟨g, 1, none⟩ rfl rfl) ?_
 refine WO.store (l' := [Value.pointer (some ⟨g, 0, none⟩), Value.slice a4 (0 + s.length) c5]) 1 hS3 rfl Ty.sz160 rfl rfl rfl rfl rfl (Nat.le_of_ble_eq_true rfl) rfl (fun w6 (hS6 : St B (_::cel g [Value.pointer (some ⟨g, 0, none⟩), Value.slice a4 (0 + s.length) c5] 162 :: L) w6) => ?_)
 clear hS3
 refine WO.nil (NX.go (WP.seq (WP.region rfl ?_)))
 refine WO.mv rfl rfl ?_
 refine WO.V (run_lenS rfl Tryz.underlying9 rfl) ?_
 refine WO.asg rfl rfl ?_
 refine WO.asg rfl rfl ?_
 refine WO.nil (NX.go (WP.ret ?_))
 refine NX.done (l := [.tmp 4, .tmp 5]) rfl rfl ?_
 have hfin := (hS6.permT [1] (L' := _::_::L) rfl)
 exact ⟨rfl, bldA_shut (by simpa using hfin)⟩
theorem bwrite1 {B w : World} {L : List HP} {g : Nat} {t : List UInt8} (s : List UInt8) (hs : t.length + s.length ≤ 140737488355328) (hS : St B (bldA g t :: L) w) : Does Tryz.prog 97 [Value.pointer (some ⟨g, 0, none⟩), str s] w (fun v w1 => v = .tuple #[.int .i64 (s.length : Int), .nilIface] ∧ St B (bldA g (t ++ s) :: L) w1) := by
 obtain ⟨a, cap, hS⟩ := bldA_open hS
 refine enter (n := 19) Tryz.func97 rfl rfl [Value.pointer (some ⟨g, 0, none⟩), str s] rfl ?_
 refine WP.seq (WP.region rfl ?_)
 refine WO.asg rfl rfl ?_
 refine WO.asg rfl rfl ?_
 refine WO.nil (NX.go (WP.seq (WP.region rfl ?_)))
 refine WO.mv rfl rfl ?_
 refine WO.call rfl rfl Ty.hd126 rfl (bcheck1 hS) (fun v2 w1 pv2 => ?_)
 obtain ⟨rfl, hS1⟩ := pv2
 clear hS
 refine WO.nil (NX.go (WP.seq (WP.region rfl ?_)))
 refine WO.mv rfl rfl ?_
 refine WO.mv rfl rfl ?_
 refine WO.V (run_nilCheck rfl) ?_
 refine WO.V (run_fa 1 ⟨g, 1, none⟩ rfl rfl) ?_
 refine WO.V (run_load Ty.ag160 rfl ((hS1.cel_at 0 rfl 1).trans rfl)) ?_
 refine WO.mv rfl rfl ?_
 refine WO.append (news := (s.map fun b => Value.int .u8 b.toNat)) 1 rfl Tryz.underlying160 Tryz.underlying9 (fun _ h => by cases h) Ty.sz5 (by decide) Ty.by5 Ty.zr5 rfl rfl rfl rfl hS1 rfl (str_src _) (u8s_noAgg _) (by omega) (by omega) (fun a4 c5 w3 hS3 => ?_)
 replace hS3 : St B (cel g [Value.pointer (some ⟨g, 0, none⟩), Value.slice a t.length cap] 162 :: own a4 (t.length + s.length) c5 5 1 ((t.map fun b => Value.int .u8 b.toNat) ++ (s.map fun b => Value.int .u8 b.toNat)) :: L) w3 := hS3
 clear hS1
 refine WO.V (run_nilCheck rfl) ?_
 refine WO.V (run_fa 1 ⟨g, 1, none⟩ rfl rfl) ?_
 refine WO.store (l' := [Value.pointer (some ⟨g, 0, none⟩), Value.slice a4 (t.length + s.length) c5]) 0 hS3 rfl Ty.sz160 rfl rfl rfl rfl rfl (Nat.le_of_ble_eq_true rfl) rfl (fun w6 (hS6 : St B (cel g [Value.pointer (some ⟨g, 0, none⟩), Value.slice a4 (t.length + s.length) c5] 162 :: _::L) w6) => ?_)
 clear hS3
 refine WO.nil (NX.go (WP.seq (WP.region rfl ?_)))
 refine WO.mv rfl rfl ?_
 refine WO.V (run_lenS rfl Tryz.underlying9 rfl) ?_
 refine WO.asg rfl rfl ?_
 refine WO.asg rfl rfl ?_
 refine WO.nil (NX.go (WP.ret ?_))
 refine NX.done (l := [.tmp 4, .tmp 5]) rfl rfl ?_
 have hfin := hS6
 exact ⟨rfl, bldA_shut (by simpa using hfin)⟩
theorem t100_1 : rtab .any (opsOf Tryz.f100 1) = (true, [([], []), ([0], [0]), ([1], [1]), ([2], [2]), ([3], [3]), ([], []), ([5], [5]), ([6], [6]), ([7], [7]), ([8], [8]), ([4, 9], [4, 9]), ([10, 0, 1, 2, 3, 4, 5, 6, 7, 8, 9, 10], [10])]) := by kernel_rfl
theorem bstring {B w : World} {L : List HP} {g : Nat} {t : List UInt8} (ht : t ≠ []) (hs : t.length ≤ 140737488355328) (hS : St B (bldA g t :: L) w) : Does Tryz.prog 100 [Value.pointer (some ⟨g, 0, none⟩)] w (fun v w1 => v = str t ∧ St B L w1) := by
 obtain ⟨a, cap, hS⟩ := bldA_open hS
 have hpos : 0 < t.length := List.length_pos_iff.2 ht
 obtain ⟨p, rfl, _⟩ := (hS.own_rd_i 1 rfl).2.1 hpos
 have hcap := (hS.focus 1 rfl).own_rd.2
 refine enter (n := 14) Tryz.func100 rfl rfl [Value.pointer (some ⟨g, 0, none⟩)] rfl ?_
 refine WP.seq (WP.region rfl ?_)
 refine WO.asg rfl rfl ?_
 refine WO.nil (NX.go (WP.seq ?_))
 refine WD.start (fun w => (∀ jz, World.cell? w ⟨g, jz, none⟩ = [Value.pointer (some ⟨g, 0, none⟩), Value.slice (some p) t.length cap][jz]?) ∧ Rd w (some p) t.length 1 (t.map fun b => Value.int .u8 b.toNat)) [10] (bt 12 0) Ty.mo rfl (by kernel_rfl) hS (fun _ h => ⟨h.cel_at 0 rfl, (h.own_rd_i 1 rfl)⟩) (fun w1 hS1 s2 => ?_)
 clear hS
 refine DP (i := 0) t100_1 (bt 12 1) rfl rfl rfl rfl (fun w => run_move rfl) ?_
 refine DP (i := 1) t100_1 (bt 12 3) rfl rfl rfl rfl (fun w => run_nilCheck rfl) ?_
 refine DP (i := 2) t100_1 (bt 12 7) rfl rfl rfl rfl (fun w => run_fa 1 ⟨g, 1, none⟩ rfl rfl) ?_
 refine DT (i := 3) t100_1 (bt 12 15) s2 rfl rfl rfl rfl (fun w hs => run_load Ty.ag160 rfl ((hs.1 1).trans rfl)) ?_
 refine DP (i := 4) t100_1 (bt 12 31) rfl rfl rfl rfl (fun w => run_sliceData rfl (by omega)) ?_
 refine DP (i := 5) t100_1 (bt 12 63) rfl rfl rfl rfl (fun w => run_move rfl) ?_
 refine DP (i := 6) t100_1 (bt 12 127) rfl rfl rfl rfl (fun w => run_nilCheck rfl) ?_
 refine DP (i := 7) t100_1 (bt 12 255) rfl rfl rfl rfl (fun w => run_fa 1 ⟨g, 1, none⟩ rfl rfl) ?_
 refine DT (i := 8) t100_1 (bt 12 511) s2 rfl rfl rfl rfl (fun w hs => run_load Ty.ag160 rfl ((hs.1 1).trans rfl)) ?_
 refine DP (i := 9) t100_1 (bt 12 1023) rfl rfl rfl rfl (fun w => run_len rfl Tryz.underlying160 rfl) ?_
 refine WD.one (i := 10) t100_1 (bt 12 2047) rfl (by kernel_rfl) ?_
 refine WO.takeString (bs := t) 1 hS1 rfl ht (by omega) Tryz.underlying190 (by kernel_rfl) rfl rfl rfl (fun w3 hS3 => ?_)
 clear hS1
 refine WO.nil ?_
 refine NX.last (by decide) ?_
 refine DP (i := 11) t100_1 (bt 12 4095) rfl rfl rfl rfl (fun w => run_assign rfl) ?_
 refine WD.done t100_1 (by kernel_rfl) ?_
 refine NX.go (WP.ret ?_)
 refine NX.done (l := [.tmp 2]) rfl rfl ?_
 exact ⟨rfl, hS3.drop⟩

theorem take_snoc {α : Type} {l : List α} {i : Nat} {x : α} (h : l[i]? = some x) : l.take (i + 1) = l.take i ++ [x] := by
  rw [List.take_add_one, h]; rfl
theorem pairB_len {p : Pr} (h : p.n.length ≤ 32 ∧ p.v.length ≤ 64) : (pairB p).length ≤ 114 := by
  have h1 := numB_len (n := p.n.length) (by omega)
  have h2 := numB_len (n := p.v.length) (by omega)
  unfold pairB textB
  simp only [List.length_append]; omega
theorem pairsB_len : ∀ {l : List Pr}, (∀ p ∈ l, p.n.length ≤ 32 ∧ p.v.length ≤ 64) → (l.flatMap pairB).length ≤ l.length * 114
  | [], _ => by simp
  | p :: l, h => by
    have h1 := pairB_len (h p (by simp))
    have h2 := pairsB_len (l := l) (fun q hq => h q (by simp [hq]))
    rw [List.flatMap_cons, List.length_append, List.length_cons]; omega

theorem enc_room {l : List Pr} (h : chk l = true) (i : Nat) : (numB l.length ++ (l.take i).flatMap pairB).length ≤ 921 := by
  have h0 := chk_sz h
  have h1 := numB_len (n := l.length) (by omega)
  have h2 := pairsB_len (l := l.take i) (fun q hq => h0.2.2 q (List.mem_of_mem_take hq))
  rw [List.length_take] at h2
  rw [List.length_append]; omega
theorem t59_9 : rtab .any (opsOf Tryz.f59 9) = (true, [([], []), ([0], [0]), ([1], [1]), ([], []), ([3], [3]), ([4, 2], [4]), ([2, 5], [2, 5]), ([6, 5], [6])]) := by kernel_rfl
theorem lenc_spec {B w : World} {L : List HP} {X : HP} {a : Option Addr} {cap : Nat} {l : List Pr} (hX : ∀ {L : List HP} {w : World}, St B (X :: L) w → Rd w a l.length 2 (l.flatMap prc)) (hb : SzP l) (hl : l.length ≤ 4398046511104) (hS : St B (X :: L) w) : Does Tryz.prog 59 [Value.slice a l.length cap] w (fun v w1 => v = .tuple #[str (keyB l), .int .i64 (if chk l = true then 0 else 16)] ∧ St B (X :: L) w1) := by
 refine enter (n := 34) Tryz.func59 rfl rfl [Value.slice a l.length cap] rfl ?_
 refine WP.seq (WP.region rfl ?_)
 refine WO.asg rfl rfl ?_
 refine WO.asg rfl rfl ?_
 refine WO.nil (NX.go (WP.seq (WP.seq (WP.region rfl ?_))))
 refine WO.mv rfl rfl ?_
 refine WO.call rfl rfl Ty.hd94 rfl (lcheck_spec hX hb hl hS) (fun v2 w1 pv2 => ?_)
 obtain ⟨rfl, hS1⟩ := pv2
 clear hS
 refine WO.asg rfl rfl ?_
 refine WO.nil (NX.go (WP.seq (WP.region rfl ?_)))
 refine WO.mv rfl rfl ?_
 refine WO.V (run_neq rfl rfl) ?_
 refine WO.nil (NX.go ?_)
 refine WP.condP rfl (fun g11 => ?_) (fun g11 => ?_)
 ·
  refine WP.seq (WP.region rfl ?_)
  refine WO.mv rfl rfl ?_
  refine WO.asg rfl rfl ?_
  refine WO.asg rfl rfl ?_
  refine WO.nil (NX.go (WP.ret (NX.thenRet ?_)))
  refine NX.done (l := [.tmp 2, .tmp 3]) rfl rfl ?_
  have hck : chk l = false := by cases hq : chk l with | false => rfl | true => (rw [hq] at g11; exact absurd rfl g11)
  exact ⟨by rw [keyB, hck]; rfl, hS1⟩
 ·
  have hck : chk l = true := by cases hq : chk l with | true => rfl | false => (rw [hq] at g11; exact absurd (by decide) g11)
  refine WP.skip (NX.go (WP.seq (WP.region rfl ?_)))
  refine WO.alloc (l := [Value.pointer none, Value.slice none 0 0]) hS1 Ty.zr162 rfl rfl (fun g4 w3 lg4 hS3 => ?_)
  clear hS1
  refine WO.nil (NX.go (WP.seq (WP.region rfl ?_)))
  refine WO.mv rfl rfl ?_
  refine WO.V (run_len rfl Tryz.underlying65 rfl) ?_
  refine WO.V (run_convI Tryz.underlying81 (by kernel_rfl) rfl (IntWalk.u64_in _ (by omega))) ?_
  refine WO.call rfl rfl Ty.hd98 rfl (num_spec l.length (by omega) hS3) (fun v6 w5 pv6 => ?_)
  obtain ⟨rfl, hS5⟩ := pv6
  clear hS3
  refine WO.call rfl rfl Ty.hd97 rfl (bwrite0 (numB l.length) (by have := numB_len (n := l.length) (by omega); omega) hS5) (fun v8 w7 pv8 => ?_)
  obtain ⟨rfl, hS7⟩ := pv8
  clear hS5
  refine WO.nil (NX.go (WP.seq (WP.seq (WP.region rfl ?_))))
  refine WO.mv rfl rfl ?_
  refine WO.V (run_len rfl Tryz.underlying65 rfl) ?_
  refine WO.mv rfl rfl ?_
  refine WO.nil (NX.go (WP.block ?_))
  refine WP.loop (α := Nat) (fun x => match x with | i => [(0, Value.slice a l.length cap), (5, Value.pointer (some ⟨g4, 0, none⟩)), (18, Value.slice a l.length cap), (19, Value.int .i64 ((l.length : Nat) : Int)), (20, Value.int .i64 (i : Int))]) (fun x w => match x with | i => (i ≤ l.length) ∧ St B (X :: bldA g4 (numB l.length ++ (l.take i).flatMap pairB) :: L) w) (fun x => match x with | i => l.length - i) 0 ⟨Nat.zero_le _, show St B (X :: bldA g4 (numB l.length ++ (l.take 0).flatMap pairB) :: L) w7 from by simpa using (hS7.permT [1] (L' := _::_::L) rfl)⟩ (Sub.cons rfl (Sub.cons rfl (Sub.cons rfl (Sub.cons rfl (Sub.consE rfl (by first | rfl | first | rfl | (congr 1; omega) | (simp; done) | (simp; omega)) (Sub.nil _)))))) ?_
  rintro i w9 ⟨hi, hS9⟩
  clear hS7
  refine WP.seq (WP.region rfl ?_)
  refine WO.V (run_lss rfl rfl) ?_
  refine WO.nil (NX.go (WP.seq ?_))
  refine WP.condP rfl (fun g21 => ?_) (fun g21 => ?_)
  ·
   refine WP.skip (NX.go (WP.seq (WP.block (WP.seq (WP.region rfl ?_)))))
   obtain ⟨p, hp⟩ : ∃ p, l[i]? = some p := ⟨_, List.getElem?_eq_getElem (by omega)⟩
   have hsz := (chk_sz hck).2.2 p (List.mem_of_getElem? hp)
   refine WO.V (run_indexAddr (q := adr a (i * 2)) Tryz.underlying65 Ty.sz105 rfl rfl (by omega) (by omega) ((hX (hS9.focus 0 rfl)).2.1 (by omega)) rfl) ?_
   refine WO.V (run_loadAgg (vs := [str p.n, str p.v]) Ty.ag105 Ty.sz105 rfl ((hX (hS9.focus 0 rfl)).cells (by rw [flat_len prc_len]; omega) (flat_part prc_len hp)).1 ((hX (hS9.focus 0 rfl)).cells (by rw [flat_len prc_len]; omega) (flat_part prc_len hp)).2) ?_
   refine WO.alloc (l := [str [], str []]) hS9 Ty.zr105 rfl rfl (fun g12 w10 lg12 hS10 => ?_)
   clear hS9
   refine WO.store (l' := [str p.n, str p.v]) 0 hS10 rfl Ty.sz105 rfl rfl rfl rfl rfl (Nat.le_of_ble_eq_true rfl) rfl (fun w13 (hS13 : St B (cel g12 [str p.n, str p.v] 105 :: _::_::L) w13) => ?_)
   clear hS10
   refine WO.nil (NX.go ?_)
   have hroom : (numB l.length ++ (l.take i).flatMap pairB).length + (textB p.n ++ textB p.v).length ≤ 140737488355328 := by have h1 := enc_room hck i; have h3 := pairB_len hsz; unfold pairB at h3; omega
   refine WD.start (fun w => (∀ jz, World.cell? w ⟨g12, jz, none⟩ = [str p.n, str p.v][jz]?) ∧ Rd w a l.length 2 (l.flatMap prc)) [] (bt 8 0) Ty.mo rfl (by kernel_rfl) hS13 (fun _ h => ⟨h.cel_at 0 rfl, (hX (h.focus 1 rfl))⟩) (fun w14 hS14 s15 => ?_)
   clear hS13
   refine DP (i := 0) t59_9 (bt 8 1) rfl rfl rfl rfl (fun w => run_fa 0 ⟨g12, 0, none⟩ rfl rfl) ?_
   refine DT (i := 1) t59_9 (bt 8 3) s15 rfl rfl rfl rfl (fun w hs => run_load Ty.ag9 rfl ((hs.1 0).trans rfl)) ?_
   refine DP (i := 3) t59_9 (bt 8 11) rfl rfl rfl rfl (fun w => run_fa 1 ⟨g12, 1, none⟩ rfl rfl) ?_
   refine DT (i := 4) t59_9 (bt 8 27) s15 rfl rfl rfl rfl (fun w hs => run_load Ty.ag9 rfl ((hs.1 1).trans rfl)) ?_
   refine WD.one (i := 2) t59_9 (bt 8 31) rfl (by kernel_rfl) ?_
   refine WO.call rfl rfl Ty.hd99 rfl (text_spec p.n (by omega) hS14) (fun v17 w16 pv17 => ?_)
   obtain ⟨rfl, hS16⟩ := pv17
   clear hS14
   refine WO.nil ?_
   have s18 : (∀ jz, World.cell? w16 ⟨g12, jz, none⟩ = [str p.n, str p.v][jz]?) ∧ Rd w16 a l.length 2 (l.flatMap prc) := ⟨hS16.cel_at 0 rfl, (hX (hS16.focus 1 rfl))⟩
   refine NX.held s18 ?_
   refine WD.one (i := 5) t59_9 (bt 8 63) rfl (by kernel_rfl) ?_
   refine WO.call rfl rfl Ty.hd99 rfl (text_spec p.v (by omega) hS16) (fun v20 w19 pv20 => ?_)
   obtain ⟨rfl, hS19⟩ := pv20
   clear hS16
   refine WO.nil ?_
   have s21 : (∀ jz, World.cell? w19 ⟨g12, jz, none⟩ = [str p.n, str p.v][jz]?) ∧ Rd w19 a l.length 2 (l.flatMap prc) := ⟨hS19.cel_at 0 rfl, (hX (hS19.focus 1 rfl))⟩
   refine NX.held s21 ?_
   refine DP (i := 6) t59_9 (bt 8 127) rfl rfl rfl rfl (fun w => run_cat rfl rfl (by have h3 := pairB_len hsz; unfold pairB at h3; simp only [List.length_append] at h3 ⊢; omega)) ?_
   refine WD.one (i := 7) t59_9 (bt 8 255) rfl (by kernel_rfl) ?_
   have hS22 := hS19.permT [2] (L' := _::_::_::L) rfl
   clear hS19
   refine WO.call rfl rfl Ty.hd97 rfl (bwrite1 ((textB p.n) ++ (textB p.v)) hroom hS22) (fun v24 w23 pv24 => ?_)
   obtain ⟨rfl, hS23⟩ := pv24
   clear hS22
   refine WO.nil ?_
   have s25 : (∀ jz, World.cell? w23 ⟨g12, jz, none⟩ = [str p.n, str p.v][jz]?) ∧ Rd w23 a l.length 2 (l.flatMap prc) := ⟨hS23.cel_at 1 rfl, (hX (hS23.focus 2 rfl))⟩
   refine NX.held s25 ?_
   refine WD.done t59_9 (by kernel_rfl) ?_
   refine NX.blk (NX.go (WP.region rfl ?_))
   refine WO.V (run_add rfl rfl (IntWalk.i64_in _ (by omega))) ?_
   refine WO.mv rfl rfl ?_
   refine WO.nil ?_
   exact NX.again (i + 1) ⟨by omega, by rw [take_snoc hp]; simpa [pairB] using ((hS23.mask [true, false] (L' := _::_::L) rfl).permT [1] (L' := _::_::L) rfl)⟩ (by show l.length - (i + 1) < l.length - i; omega) (Sub.cons rfl (Sub.cons rfl (Sub.cons rfl (Sub.cons rfl (Sub.consE rfl (by congr 1) (Sub.nil _))))))
  ·
   refine WP.exit (NX.thenExit (NX.thenExit ?_))
   refine NX.blkExit ?_
   refine NX.go (WP.seq (WP.region rfl ?_))
   have hS26 := hS9.permT [1] (L' := _::_::L) rfl
   clear hS9
   refine WO.call rfl rfl Ty.hd100 rfl (bstring (by simp [numB]) (by have := enc_room hck i; omega) hS26) (fun v28 w27 pv28 => ?_)
   obtain ⟨rfl, hS27⟩ := pv28
   clear hS26
   refine WO.asg rfl rfl ?_
   refine WO.asg rfl rfl ?_
   refine WO.nil (NX.go (WP.ret ?_))
   refine NX.done (l := [.tmp 2, .tmp 3]) rfl rfl ?_
   refine ⟨?_, hS27⟩
   rw [keyB, hck]
   simp [encB, List.take_of_length_le (show l.length ≤ i by omega)]; rfl
end Go.Proofs.YtidoidoelgfnaaaGreatDoor.SL
