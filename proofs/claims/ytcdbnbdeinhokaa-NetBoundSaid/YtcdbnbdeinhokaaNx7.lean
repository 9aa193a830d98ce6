/- Contracts of net: the small law that looks whether it works at all. -/
import Derived.Test.YtcdbnbdeinhokaaNx6
namespace Go.Proofs.Ytcdbnbdeinhokaa.Nx
open Go.RowKit
open Go.Proofs.Ytcdbnbdeinhokaa.Xb Go.Proofs.Ytcdbnbdeinhokaa.Nb
set_option linter.unusedSimpArgs false
set_option linter.unusedVariables false
theorem Net.below {base : Nat} {w w1 : World} {g : Nat} {L : List PV} {gone : Int} (h : Net base w g L gone) (hb : Below w.heap.size w w1) : Net base w1 g L gone := by
  obtain ⟨v, h⟩ := h
  exact ⟨v, h.below hb⟩
set_option maxHeartbeats 4000000 in
set_option maxRecDepth 10000 in
theorem works_any (w : World) : Calls Try.prog 7 #[] w fun e w' => e = .returned (.bool true) ∧ Below w.heap.size w w' := by
  go_enter Try.func7, Try.ntmps7
  go_wp2_with fail
  refine (new_any _).mono ?_; rintro en w1 ⟨rfl, hk, hb⟩
  have N1 := Asd.mk (net_new (base := w.heap.size) hk (Nat.le_refl _)); have B := Asd.mk hb; clear hk hb
  go_wp2_with fail
  refine (send_ok N1.out (by simp) 1 ⟨#[97]⟩ (.inr rfl) (by decide)).mono ?_; rintro en w2 ⟨rfl, bv1, hn, hc⟩
  have hn' : Net w.heap.size w2 w.heap.size [⟨1, bv1, false, ⟨#[97]⟩⟩] 0 := hn
  have h_ := NChg.below B.out hc
  clear N1 B hn hc; have N1 := Asd.mk hn'; have B := Asd.mk h_; clear hn' h_
  go_wp2_with fail
  refine (send_ok N1.out (by simp) 1 ⟨#[98]⟩ (.inr rfl) (by decide)).mono ?_; rintro en w3 ⟨rfl, bv2, hn, hc⟩
  have hn' : Net w.heap.size w3 w.heap.size [⟨1, bv1, false, ⟨#[97]⟩⟩, ⟨1, bv2, false, ⟨#[98]⟩⟩] 0 := hn
  have h_ := NChg.below B.out hc
  clear N1 B hn hc; have N1 := Asd.mk hn'; have B := Asd.mk h_; clear hn' h_
  go_wp2_with fail
  refine (send_ok N1.out (by simp) 1 ⟨#[99]⟩ (.inr rfl) (by decide)).mono ?_; rintro en w4 ⟨rfl, bv3, hn, hc⟩
  have hn' : Net w.heap.size w4 w.heap.size [⟨1, bv1, false, ⟨#[97]⟩⟩, ⟨1, bv2, false, ⟨#[98]⟩⟩, ⟨1, bv3, false, ⟨#[99]⟩⟩] 0 := hn
  have h_ := NChg.below B.out hc
  clear N1 B hn hc; have N1 := Asd.mk hn'; have B := Asd.mk h_; clear hn' h_
  go_wp2_with fail
  refine (take_some N1.out (m := 2) rfl (by decide) 0 (p := ⟨1, bv1, false, ⟨#[97]⟩⟩) (pl := ⟨1, bv3, false, ⟨#[99]⟩⟩) rfl rfl).mono ?_; rintro en w5 ⟨rfl, hn, hc⟩
  have hn' : Net w.heap.size w5 w.heap.size [⟨1, bv3, false, ⟨#[99]⟩⟩, ⟨1, bv2, false, ⟨#[98]⟩⟩] 0 := hn
  have h_ := NChg.below B.out hc
  clear N1 B hn hc; have N1 := Asd.mk hn'; have B := Asd.mk h_; clear hn' h_
  go_wp2_with fail
  refine (at_some N1.out (by simp) 0 ⟨1, bv3, false, ⟨#[99]⟩⟩ rfl).mono ?_; rintro en w6 ⟨rfl, hb⟩
  have hn' := N1.out.below hb
  have h_ := below_step B.out hb
  clear N1 B hb; have N1 := Asd.mk hn'; have B := Asd.mk h_; clear hn' h_
  go_wp2_with fail
  refine (spoil_some N1.out (by simp) 0 (p := ⟨1, bv3, false, ⟨#[99]⟩⟩) rfl rfl 0 (show 0 < 1 by decide) (show 1 ≤ 4096 by decide) 1 (by decide) 99 rfl ⟨#[98]⟩ (show nums ⟨#[98]⟩ = (nums ⟨#[99]⟩).set 0 (bits .xor .u8 99 1) by decide)).mono ?_; rintro en w7 ⟨rfl, ⟨bv4, hn⟩, hc⟩
  have hn' : Net w.heap.size w7 w.heap.size [⟨1, bv4, true, ⟨#[98]⟩⟩, ⟨1, bv2, false, ⟨#[98]⟩⟩] 0 := hn
  have h_ := NChg.below B.out hc
  clear N1 B hn hc; have N1 := Asd.mk hn'; have B := Asd.mk h_; clear hn' h_
  go_wp2_with fail
  refine (spoil_twice N1.out (by simp) 0 (p := ⟨1, bv4, true, ⟨#[98]⟩⟩) rfl rfl 0 (show 0 < 1 by decide) (show 1 ≤ 4096 by decide) 1 (by decide)).mono ?_; rintro en w_ ⟨rfl, rfl⟩
  go_wp2_with fail
  refine (at_some N1.out (by simp) 0 ⟨1, bv4, true, ⟨#[98]⟩⟩ rfl).mono ?_; rintro en w8 ⟨rfl, hb⟩
  have hn' := N1.out.below hb
  have h_ := below_step B.out hb
  clear N1 B hb; have N1 := Asd.mk hn'; have B := Asd.mk h_; clear hn' h_
  go_wp2_with fail
  refine (len_any N1.out (by simp)).mono ?_; rintro en w_ ⟨rfl, rfl⟩
  go_wp2
  go_ret
  exact ⟨rfl, B.out⟩
end Go.Proofs.Ytcdbnbdeinhokaa.Nx
