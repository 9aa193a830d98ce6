/- The manifest, as used to be. -/
import Derived.Test.YtcehlnpbdffdhaaGreatDoorMan2
namespace Go.Proofs.YtcehlnpbdffdhaaGreatDoor.SL
open Go.RowKit Go.Proofs.YtcehlnpbdffdhaaGreatDoor
open Go.Proofs.YtcehlnpbdffdhaaGreatDoorW.PrintLast (rtab opsOf)
set_option linter.unusedVariables false
set_option linter.unusedSimpArgs false

def m2 : Man := ⟨2, 0, 2, 0, 0, []⟩
theorem m2_rng : RngM m2 := ⟨by decide, by decide, by decide, by decide, by decide, by decide, by intro t h; cases h⟩
theorem m2_ok : checkM m2 = 0 := by decide
theorem m2_len : (encM m2).1.length ≤ 100 := by
  rw [enc_ok m2_rng m2_ok]
  have h1 := numB_len (n := 2) (by decide)
  have h0 := numB_len (n := 0) (by decide)
  have hz : zig 0 = 0 := by decide
  have hd : dataM m2 = numB 2 ++ (numB 0 ++ (numB 2 ++ (numB (zig 0) ++ (numB 0 ++ (numB 0 ++ []))))) := rfl
  have hl : (dataM m2).length ≤ 54 := by rw [hd, hz]; simp only [List.length_append, List.length_nil]; omega
  rw [putF_length (by decide) (by decide) (by omega), textB_length]
  have := numB_len (show (dataM m2).length < 18446744073709551616 by omega)
  omega
def pbD (r : Int) (s : List UInt8) : Dk := ⟨r, [(s, s.length)], [([109], 0)], [([109], 0)], [], false, -1⟩
theorem pb_1 {r : Int} {s : List UInt8} (h : (s.length : Int) ≤ r) : appendD (newD r) [110] s = (⟨r, [(s, 0)], [([110], 0)], [], [⟨[], [110], 0⟩], false, -1⟩, 0) := by
  unfold appendD onWrite
  rw [writeD_up rfl rfl, if_pos rfl]
  show append1 (newD r) [110] s = _
  unfold append1
  rw [if_neg (by decide), if_neg (by
    intro h2
    rcases h2 with h2 | h2
    · have : (newD r).room - ((usedN (newD r).f (newD r).nm : Nat) : Int) = r - 0 := rfl
      omega
    · exact absurd h2.2 (by show ¬ (0 : Nat) = 64; decide))]
  rfl
theorem pub_new {r : Int} {m : Man} (h0 : (encM m).2 = 0) (h : ((encM m).1.length : Int) ≤ r) : publishD (newD r) m = (pbD r (encM m).1, 0) := by
  unfold publishD
  rw [if_neg (fun q => q h0), if_neg (by show ¬ (12 : Int) = 0; decide)]
  have e2 : runD (stepsP (encM m).1) (newD r) = if (appendD (newD r) [110] (encM m).1).2 = 0 then runD [fun D => syncD D [110], fun D => renameD D [110] [109], syncNamesD] (appendD (newD r) [110] (encM m).1).1 else appendD (newD r) [110] (encM m).1 := rfl
  rw [e2, pb_1 h]; rfl
theorem pb_crash (r : Int) (s : List UInt8) (zs : List Int) : crashD (pbD r s) zs = pbD r s := by
  have hl : applyL (pbD r s).last ((pbD r s).ch.take (keptF zs 0 (pbD r s).ch.length)) = [([109], 0)] := by show applyL [([109], 0)] (List.take _ []) = _; rw [List.take_nil]; rfl
  unfold crashD; rw [hl]
  show (⟨r, [cutF zs 1 (s, s.length)], _, _, _, _, _⟩ : Dk) = _
  rw [cut_full]; rfl
theorem pb_load (r : Int) {m : Man} (hr : RngM m) (h : checkM m = 0) : loadD (pbD r (encM m).1) = (m, 0) := by
  have e : readD (pbD r (encM m).1) [109] = ((encM m).1, 0) := rfl
  unfold loadD; rw [e, if_pos rfl]; exact (dec_enc hr h).1
theorem works17_spec {B w : World} {L : List HP} (hS : St B L w) : Does Tryz.prog 8 [] w (fun v w1 => v = .bool true ∧ St B L w1) := by
 refine enter (n := 55) Tryz.func8 rfl rfl [] rfl ?_
 refine WP.seq ?_
 refine WP.region rfl ?_
 refine WO.val (run_assign rfl) rfl rfl rfl ?_
 refine WO.nil ?_
 refine NX.go ?_
 refine WP.seq ?_
 refine WP.region rfl ?_
 refine WO.call rfl rfl Ty.hd16 rfl (dnew_spec 1000 hS) (fun v2 w1 pv2 => ?_)
 obtain ⟨g, rfl, hS1⟩ := pv2
 clear hS
 have kD : OkD (newD 1000) 0 0 := OkD.new (by omega)
 refine WO.val (run_assign rfl) rfl rfl rfl ?_
 refine WO.nil ?_
 refine NX.go ?_
 refine WP.seq ?_
 refine WP.seq ?_
 refine WP.region rfl ?_
 refine WO.val (run_move rfl) rfl rfl rfl ?_
 refine WO.val (run_eqlNilP Tryz.underlying39 rfl rfl) rfl rfl rfl ?_
 refine WO.nil ?_
 refine NX.go ?_
 refine WP.condF rfl rfl ?_
 refine WP.skip ?_
 refine NX.go ?_
 refine WP.seq ?_
 refine WP.region rfl ?_
 refine WO.val (run_move rfl) rfl rfl rfl ?_
 refine WO.call rfl rfl Ty.hd20 rfl (load_spec kD (by omega) hS1) (fun v4 w3 pv4 => ?_)
 obtain ⟨la, lc, hv, _, hS3⟩ := pv4
 clear hS1
 have hl0 : loadD (newD 1000) = (noneM, 0) := rfl
 rw [hl0] at hv
 rw [hl0] at hS3
 change _ = Value.tuple #[Value.agg #[Value.int .i64 1, Value.int .i64 0, Value.int .i64 1, Value.int .i64 (-9223372036854775808), Value.int .i64 0, Value.slice la 0 lc], Value.int .i64 0] at hv
 subst hv
 replace hS3 : St B (own la 0 lc 9 1 [] :: dkA g (newD 1000) :: L) w3 := hS3
 refine WO.val (run_move rfl) rfl rfl rfl ?_
 refine WO.val (run_extract rfl rfl) rfl rfl rfl ?_
 refine WO.val (run_extract rfl rfl) rfl rfl rfl ?_
 refine WO.alloc (l := [Value.int .i64 0, Value.int .i64 0, Value.int .i64 0, Value.int .i64 0, Value.int .i64 0, Value.slice none 0 0]) hS3 Ty.zr30 rfl rfl (fun g6 w5 lg6 hS5 => ?_)
 clear hS3
 refine WO.store (l' := [Value.int .i64 1, Value.int .i64 0, Value.int .i64 1, Value.int .i64 (-9223372036854775808), Value.int .i64 0, Value.slice la 0 lc]) 0 hS5 rfl Ty.sz30 rfl rfl rfl rfl rfl (Nat.le_of_ble_eq_true rfl) rfl (fun w7 (hS7 : St B (cel g6 [Value.int .i64 1, Value.int .i64 0, Value.int .i64 1, Value.int .i64 (-9223372036854775808), Value.int .i64 0, Value.slice la 0 lc] 30 :: own la 0 lc 9 1 [] :: dkA g (newD 1000) :: L) w7) => ?_)
 clear hS5
 refine WO.val (run_assign rfl) rfl rfl rfl ?_
 refine WO.nil ?_
 refine NX.go ?_
 refine WP.seq ?_
 refine WP.region rfl ?_
 refine WO.val (run_move rfl) rfl rfl rfl ?_
 refine WO.val (run_build (v := Value.agg #[Value.int .i64 2, Value.int .i64 0, Value.int .i64 2, Value.int .i64 0, Value.int .i64 0, Value.slice none 0 0]) rfl (fun w => by kernel_rfl)) rfl rfl rfl ?_
 replace hS7 := hS7.own_nil 9 1
 have hS8 := hS7.permT [3, 0, 0, 0] (L' := dkA g (newD 1000) :: own none 0 0 9 1 [] :: cel g6 [Value.int .i64 1, Value.int .i64 0, Value.int .i64 1, Value.int .i64 (-9223372036854775808), Value.int .i64 0, Value.slice la 0 lc] 30 :: own la 0 lc 9 1 [] :: L) rfl
 clear hS7
 refine WO.call rfl rfl Ty.hd17 rfl (publish_spec (m := m2) (a := none) (cap := 0) (fun h => h.own_rd.1) m2_rng kD (by omega) (by omega) (by have := m2_len; omega) hS8) (fun v10 w9 pv10 => ?_)
 obtain ⟨hv, hS9⟩ := pv10
 clear hS8
 have hpn := pub_new (r := 1000) (m := m2) (by rw [enc_ok m2_rng m2_ok]) (by have := m2_len; omega)
 rw [hpn] at hv
 rw [hpn] at hS9
 change _ = Value.int .i64 0 at hv
 subst hv
 replace hS9 : St B (dkA g (pbD 1000 (encM m2).1) :: own none 0 0 9 1 [] :: cel g6 [Value.int .i64 1, Value.int .i64 0, Value.int .i64 1, Value.int .i64 (-9223372036854775808), Value.int .i64 0, Value.slice la 0 lc] 30 :: own la 0 lc 9 1 [] :: L) w9 := hS9
 have kD2 : OkD (pbD 1000 (encM m2).1) (0 + 5) (0 + 5 * 100) := by have := kD.publish (m := m2) m2_len; rw [hpn] at this; exact this
 refine WO.val (run_assign rfl) rfl rfl rfl ?_
 refine WO.nil ?_
 refine NX.go ?_
 refine WP.seq ?_
 refine WP.region rfl ?_
 refine WO.val (run_move rfl) rfl rfl rfl ?_
 replace hS9 := hS9.own_nil 3 1
 have hS11 := hS9.permT [1, 0, 0, 0, 0] (L' := dkA g (pbD 1000 (encM m2).1) :: own none 0 0 3 1 [] :: own none 0 0 9 1 [] :: cel g6 [Value.int .i64 1, Value.int .i64 0, Value.int .i64 1, Value.int .i64 (-9223372036854775808), Value.int .i64 0, Value.slice la 0 lc] 30 :: own la 0 lc 9 1 [] :: L) rfl
 clear hS9
 refine WO.call rfl rfl Ty.hd19 rfl (dcrash_spec (zs := []) kD2.w kD2.b (by omega) (by omega) (fun h => h.own_rd.1) (by decide) (by decide) hS11) (fun v13 w12 pv13 => ?_)
 obtain ⟨rfl, hS12⟩ := pv13
 clear hS11
 rw [pb_crash] at hS12
 refine WO.nil ?_
 refine NX.go ?_
 refine WP.seq ?_
 refine WP.region rfl ?_
 refine WO.val (run_move rfl) rfl rfl rfl ?_
 refine WO.call rfl rfl Ty.hd20 rfl (load_spec kD2 (by omega) hS12) (fun v15 w14 pv15 => ?_)
 obtain ⟨lb, ld, hv, _, hS14⟩ := pv15
 clear hS12
 have hl1 : loadD (pbD 1000 (encM m2).1) = (m2, 0) := pb_load _ m2_rng m2_ok
 rw [hl1] at hv
 rw [hl1] at hS14
 change _ = Value.tuple #[Value.agg #[Value.int .i64 2, Value.int .i64 0, Value.int .i64 2, Value.int .i64 0, Value.int .i64 0, Value.slice lb 0 ld], Value.int .i64 0] at hv
 subst hv
 replace hS14 : St B (own lb 0 ld 9 1 [] :: dkA g (pbD 1000 (encM m2).1) :: own none 0 0 3 1 [] :: own none 0 0 9 1 [] :: cel g6 [Value.int .i64 1, Value.int .i64 0, Value.int .i64 1, Value.int .i64 (-9223372036854775808), Value.int .i64 0, Value.slice la 0 lc] 30 :: own la 0 lc 9 1 [] :: L) w14 := hS14
 refine WO.val (run_move rfl) rfl rfl rfl ?_
 refine WO.val (run_extract rfl rfl) rfl rfl rfl ?_
 refine WO.val (run_extract rfl rfl) rfl rfl rfl ?_
 refine WO.alloc (l := [Value.int .i64 0, Value.int .i64 0, Value.int .i64 0, Value.int .i64 0, Value.int .i64 0, Value.slice none 0 0]) hS14 Ty.zr30 rfl rfl (fun g17 w16 lg17 hS16 => ?_)
 clear hS14
 refine WO.store (l' := [Value.int .i64 2, Value.int .i64 0, Value.int .i64 2, Value.int .i64 0, Value.int .i64 0, Value.slice lb 0 ld]) 0 hS16 rfl Ty.sz30 rfl rfl rfl rfl rfl (Nat.le_of_ble_eq_true rfl) rfl (fun w18 (hS18 : St B (cel g17 [Value.int .i64 2, Value.int .i64 0, Value.int .i64 2, Value.int .i64 0, Value.int .i64 0, Value.slice lb 0 ld] 30 :: own lb 0 ld 9 1 [] :: dkA g (pbD 1000 (encM m2).1) :: own none 0 0 3 1 [] :: own none 0 0 9 1 [] :: cel g6 [Value.int .i64 1, Value.int .i64 0, Value.int .i64 1, Value.int .i64 (-9223372036854775808), Value.int .i64 0, Value.slice la 0 lc] 30 :: own la 0 lc 9 1 [] :: L) w18) => ?_)
 clear hS16
 refine WO.val (run_assign rfl) rfl rfl rfl ?_
 refine WO.nil ?_
 refine NX.go ?_
 refine WP.seq ?_
 refine WP.region rfl ?_
 refine WO.val (run_fieldAddr (q := ⟨g6, 0, none⟩) (show fieldB Tryz.prog 30 0 = some 0 from by kernel_rfl) rfl rfl) rfl rfl rfl ?_
 refine WO.val (run_load Ty.ag3 rfl ((hS18.cel_at 5 rfl 0).trans rfl)) rfl rfl rfl ?_
 refine WO.val (run_eql rfl rfl) rfl rfl rfl ?_
 refine WO.val (run_move rfl) rfl rfl rfl ?_
 refine WO.on rfl rfl (by decide) ?_
 refine WO.val (run_fieldAddr (q := ⟨g6, 3, none⟩) (show fieldB Tryz.prog 30 3 = some 3 from by kernel_rfl) rfl rfl) rfl rfl rfl ?_
 refine WO.on rfl rfl (by decide) ?_
 refine WO.val (run_load Ty.ag2 rfl ((hS18.cel_at 5 rfl 3).trans rfl)) rfl rfl rfl ?_
 refine WO.on rfl rfl (by decide) ?_
 refine WO.val (run_eql rfl rfl) rfl rfl rfl ?_
 refine WO.val (run_pickT rfl (by decide) rfl) rfl rfl rfl ?_
 refine WO.val (run_move rfl) rfl rfl rfl ?_
 refine WO.on rfl rfl (by decide) ?_
 refine WO.val (run_move rfl) rfl rfl rfl ?_
 refine WO.on rfl rfl (by decide) ?_
 refine WO.val (run_eql rfl rfl) rfl rfl rfl ?_
 refine WO.val (run_pickT rfl (by decide) rfl) rfl rfl rfl ?_
 refine WO.val (run_move rfl) rfl rfl rfl ?_
 refine WO.on rfl rfl (by decide) ?_
 refine WO.val (run_move rfl) rfl rfl rfl ?_
 refine WO.on rfl rfl (by decide) ?_
 refine WO.val (run_eql rfl rfl) rfl rfl rfl ?_
 refine WO.val (run_pickT rfl (by decide) rfl) rfl rfl rfl ?_
 refine WO.val (run_move rfl) rfl rfl rfl ?_
 refine WO.on rfl rfl (by decide) ?_
 refine WO.val (run_fieldAddr (q := ⟨g17, 0, none⟩) (show fieldB Tryz.prog 30 0 = some 0 from by kernel_rfl) rfl rfl) rfl rfl rfl ?_
 refine WO.on rfl rfl (by decide) ?_
 refine WO.val (run_load Ty.ag3 rfl ((hS18.cel_at 0 rfl 0).trans rfl)) rfl rfl rfl ?_
 refine WO.on rfl rfl (by decide) ?_
 refine WO.val (run_eql rfl rfl) rfl rfl rfl ?_
 refine WO.val (run_pickT rfl (by decide) rfl) rfl rfl rfl ?_
 refine WO.val (run_move rfl) rfl rfl rfl ?_
 refine WO.on rfl rfl (by decide) ?_
 refine WO.val (run_fieldAddr (q := ⟨g17, 3, none⟩) (show fieldB Tryz.prog 30 3 = some 3 from by kernel_rfl) rfl rfl) rfl rfl rfl ?_
 refine WO.on rfl rfl (by decide) ?_
 refine WO.val (run_load Ty.ag2 rfl ((hS18.cel_at 0 rfl 3).trans rfl)) rfl rfl rfl ?_
 refine WO.on rfl rfl (by decide) ?_
 refine WO.val (run_eql rfl rfl) rfl rfl rfl ?_
 refine WO.val (run_pickT rfl (by decide) rfl) rfl rfl rfl ?_
 refine WO.val (run_move rfl) rfl rfl rfl ?_
 refine WO.on rfl rfl (by decide) ?_
 refine WO.val (run_move rfl) rfl rfl rfl ?_
 refine WO.on rfl rfl (by decide) ?_
 refine WO.val (run_eql rfl rfl) rfl rfl rfl ?_
 refine WO.val (run_pickT rfl (by decide) rfl) rfl rfl rfl ?_
 refine WO.val (run_assign rfl) rfl rfl rfl ?_
 refine WO.nil ?_
 refine NX.go ?_
 refine WP.ret ?_
 refine NX.done (l := [.tmp 0]) rfl rfl ?_
 exact ⟨by rfl, hS18.drop.drop.drop.drop.drop.drop.drop⟩
end Go.Proofs.YtcehlnpbdffdhaaGreatDoor.SL
