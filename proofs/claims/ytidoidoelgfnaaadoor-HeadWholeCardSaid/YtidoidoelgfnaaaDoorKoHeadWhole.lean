/- The arguments' types of a law, opened. -/
import Derived.Test.YtidoidoelgfnaaaDoorLh8
import Derived.Test.YtidoidoelgfnaaaDoorXr
namespace Go.Proofs.YtidoidoelgfnaaaDoor.SL
set_option maxRecDepth 100000
set_option linter.unusedVariables false
theorem opens53 {H : Type} {ec : TypeId × Value → H} {W : World} {base : Nat} {spare : Nat → Bool} {held : Bool} : Opens ec Tryd.prog W base spare held 53 prc (fun x : Pr => (x.n.length ≤ reachBytes) ∧ (x.v.length ≤ reachBytes)) := fun n cs y h hw => by
  have hl := Opens.cells Tryd.underlying53 h
  rw [show Tryd.prog.cellsOf 53 = 2 by kernel_rfl] at hl
  obtain ⟨c0, c1, rfl⟩ : ∃ c0 c1, cs = [c0, c1] := by
    match cs, hl with
    | [c0, c1], _ => exact ⟨c0, c1, rfl⟩
  obtain ⟨x0, e0, g0⟩ := Opens.field Tryd.underlying53 h hw 0 0 1 _ rfl rfl (show Tryd.prog.cellsOf 9 = 1 by kernel_rfl) (Opens.string Tryd.underlying9)
  replace e0 : [c0] = (fun x : List UInt8 => [str x]) x0 := e0
  obtain ⟨x1, e1, g1⟩ := Opens.field Tryd.underlying53 h hw 1 1 1 _ rfl rfl (show Tryd.prog.cellsOf 9 = 1 by kernel_rfl) (Opens.string Tryd.underlying9)
  replace e1 : [c1] = (fun x : List UInt8 => [str x]) x1 := e1
  refine ⟨⟨x0, x1⟩, ?_, g0, g1⟩
  show [c0] ++ ([c1]) = _
  rw [e0, e1]; rfl
theorem opens40 {H : Type} {ec : TypeId × Value → H} {W : World} {base : Nat} {spare : Nat → Bool} {held : Bool} : Opens ec Tryd.prog W base spare held 40 smc (fun x : Smp => (Rd W x.lb.a x.lb.l.length 2 (x.lb.l.flatMap prc) ∧ x.lb.l.length * Tryd.prog.bytesOf 53 ≤ reachBytes ∧ ∀ xx ∈ x.lb.l, (xx.n.length ≤ reachBytes) ∧ (xx.v.length ≤ reachBytes)) ∧ (-9223372036854775808 ≤ x.t ∧ x.t ≤ 9223372036854775807) ∧ ((Lit.int .u64 x.v).wf = true)) := fun n cs y h hw => by
  have hl := Opens.cells Tryd.underlying40 h
  rw [show Tryd.prog.cellsOf 40 = 3 by kernel_rfl] at hl
  obtain ⟨c0, c1, c2, rfl⟩ : ∃ c0 c1 c2, cs = [c0, c1, c2] := by
    match cs, hl with
    | [c0, c1, c2], _ => exact ⟨c0, c1, c2, rfl⟩
  obtain ⟨x0, e0, g0⟩ := Opens.field Tryd.underlying40 h hw 0 0 1 _ rfl rfl (show Tryd.prog.cellsOf 38 = 1 by kernel_rfl) (Opens.slice Tryd.underlying38 (show Tryd.prog.cellsOf 53 = 2 by kernel_rfl) (by decide) (fun _ => rfl) opens53)
  replace e0 : [c0] = SlV.enc x0 := e0
  obtain ⟨x1, e1, g1⟩ := Opens.field Tryd.underlying40 h hw 1 1 1 _ rfl rfl (show Tryd.prog.cellsOf 2 = 1 by kernel_rfl) (Opens.i64 Tryd.underlying2)
  replace e1 : [c1] = (fun x : Int => [.int .i64 x]) x1 := e1
  obtain ⟨x2, e2, g2⟩ := Opens.field Tryd.underlying40 h hw 2 2 1 _ rfl rfl (show Tryd.prog.cellsOf 37 = 1 by kernel_rfl) (Opens.int Tryd.underlying37)
  replace e2 : [c2] = (fun x : Int => [.int .u64 x]) x2 := e2
  refine ⟨⟨x0, x1, x2⟩, ?_, g0, g1, g2⟩
  show [c0] ++ ([c1] ++ ([c2])) = _
  rw [e0, e1, e2]; rfl
theorem opens88 {H : Type} {ec : TypeId × Value → H} {W : World} {base : Nat} {spare : Nat → Bool} {held : Bool} : Opens ec Tryd.prog W base spare held 88 mtc (fun x : Mt => (-9223372036854775808 ≤ x.k ∧ x.k ≤ 9223372036854775807) ∧ (x.n.length ≤ reachBytes) ∧ (x.v.length ≤ reachBytes)) := fun n cs y h hw => by
  have hl := Opens.cells Tryd.underlying88 h
  rw [show Tryd.prog.cellsOf 88 = 3 by kernel_rfl] at hl
  obtain ⟨c0, c1, c2, rfl⟩ : ∃ c0 c1 c2, cs = [c0, c1, c2] := by
    match cs, hl with
    | [c0, c1, c2], _ => exact ⟨c0, c1, c2, rfl⟩
  obtain ⟨x0, e0, g0⟩ := Opens.field Tryd.underlying88 h hw 0 0 1 _ rfl rfl (show Tryd.prog.cellsOf 3 = 1 by kernel_rfl) (Opens.i64 Tryd.underlying3)
  replace e0 : [c0] = (fun x : Int => [.int .i64 x]) x0 := e0
  obtain ⟨x1, e1, g1⟩ := Opens.field Tryd.underlying88 h hw 1 1 1 _ rfl rfl (show Tryd.prog.cellsOf 9 = 1 by kernel_rfl) (Opens.string Tryd.underlying9)
  replace e1 : [c1] = (fun x : List UInt8 => [str x]) x1 := e1
  obtain ⟨x2, e2, g2⟩ := Opens.field Tryd.underlying88 h hw 2 2 1 _ rfl rfl (show Tryd.prog.cellsOf 9 = 1 by kernel_rfl) (Opens.string Tryd.underlying9)
  replace e2 : [c2] = (fun x : List UInt8 => [str x]) x2 := e2
  refine ⟨⟨x0, x1, x2⟩, ?_, g0, g1, g2⟩
  show [c0] ++ ([c1] ++ ([c2])) = _
  rw [e0, e1, e2]; rfl
theorem opens26 {H : Type} {ec : TypeId × Value → H} {W : World} {base : Nat} {spare : Nat → Bool} {held : Bool} : Opens ec Tryd.prog W base spare held 26 rcc (fun x : Rcd => (-9223372036854775808 ≤ x.k ∧ x.k ≤ 9223372036854775807) ∧ (Rd W x.ss.a x.ss.l.length 3 (x.ss.l.flatMap smc) ∧ x.ss.l.length * Tryd.prog.bytesOf 40 ≤ reachBytes ∧ ∀ xx ∈ x.ss.l, (Rd W xx.lb.a xx.lb.l.length 2 (xx.lb.l.flatMap prc) ∧ xx.lb.l.length * Tryd.prog.bytesOf 53 ≤ reachBytes ∧ ∀ xxx ∈ xx.lb.l, (xxx.n.length ≤ reachBytes) ∧ (xxx.v.length ≤ reachBytes)) ∧ (-9223372036854775808 ≤ xx.t ∧ xx.t ≤ 9223372036854775807) ∧ ((Lit.int .u64 xx.v).wf = true)) ∧ (Rd W x.ms.a x.ms.l.length 3 (x.ms.l.flatMap mtc) ∧ x.ms.l.length * Tryd.prog.bytesOf 88 ≤ reachBytes ∧ ∀ xx ∈ x.ms.l, (-9223372036854775808 ≤ xx.k ∧ xx.k ≤ 9223372036854775807) ∧ (xx.n.length ≤ reachBytes) ∧ (xx.v.length ≤ reachBytes)) ∧ (-9223372036854775808 ≤ x.fr ∧ x.fr ≤ 9223372036854775807) ∧ (-9223372036854775808 ≤ x.to ∧ x.to ≤ 9223372036854775807)) := fun n cs y h hw => by
  have hl := Opens.cells Tryd.underlying26 h
  rw [show Tryd.prog.cellsOf 26 = 5 by kernel_rfl] at hl
  obtain ⟨c0, c1, c2, c3, c4, rfl⟩ : ∃ c0 c1 c2 c3 c4, cs = [c0, c1, c2, c3, c4] := by
    match cs, hl with
    | [c0, c1, c2, c3, c4], _ => exact ⟨c0, c1, c2, c3, c4, rfl⟩
  obtain ⟨x0, e0, g0⟩ := Opens.field Tryd.underlying26 h hw 0 0 1 _ rfl rfl (show Tryd.prog.cellsOf 3 = 1 by kernel_rfl) (Opens.i64 Tryd.underlying3)
  replace e0 : [c0] = (fun x : Int => [.int .i64 x]) x0 := e0
  obtain ⟨x1, e1, g1⟩ := Opens.field Tryd.underlying26 h hw 1 1 1 _ rfl rfl (show Tryd.prog.cellsOf 23 = 1 by kernel_rfl) (Opens.slice Tryd.underlying23 (show Tryd.prog.cellsOf 40 = 3 by kernel_rfl) (by decide) (fun _ => rfl) opens40)
  replace e1 : [c1] = SlV.enc x1 := e1
  obtain ⟨x2, e2, g2⟩ := Opens.field Tryd.underlying26 h hw 2 2 1 _ rfl rfl (show Tryd.prog.cellsOf 24 = 1 by kernel_rfl) (Opens.slice Tryd.underlying24 (show Tryd.prog.cellsOf 88 = 3 by kernel_rfl) (by decide) (fun _ => rfl) opens88)
  replace e2 : [c2] = SlV.enc x2 := e2
  obtain ⟨x3, e3, g3⟩ := Opens.field Tryd.underlying26 h hw 3 3 1 _ rfl rfl (show Tryd.prog.cellsOf 2 = 1 by kernel_rfl) (Opens.i64 Tryd.underlying2)
  replace e3 : [c3] = (fun x : Int => [.int .i64 x]) x3 := e3
  obtain ⟨x4, e4, g4⟩ := Opens.field Tryd.underlying26 h hw 4 4 1 _ rfl rfl (show Tryd.prog.cellsOf 2 = 1 by kernel_rfl) (Opens.i64 Tryd.underlying2)
  replace e4 : [c4] = (fun x : Int => [.int .i64 x]) x4 := e4
  refine ⟨⟨x0, x1, x2, x3, x4⟩, ?_, g0, g1, g2, g3, g4⟩
  show [c0] ++ ([c1] ++ ([c2] ++ ([c3] ++ ([c4])))) = _
  rw [e0, e1, e2, e3, e4]; rfl
theorem opensP22 {H : Type} {ec : TypeId × Value → H} {W : World} {base : Nat} {spare : Nat → Bool} {held : Bool} : Opens ec Tryd.prog W base spare held 22 SlV.enc (fun x : SlV (Rcd) => Rd W x.a x.l.length 5 (x.l.flatMap rcc) ∧ x.l.length * Tryd.prog.bytesOf 26 ≤ reachBytes ∧ ∀ xx ∈ x.l, (-9223372036854775808 ≤ xx.k ∧ xx.k ≤ 9223372036854775807) ∧ (Rd W xx.ss.a xx.ss.l.length 3 (xx.ss.l.flatMap smc) ∧ xx.ss.l.length * Tryd.prog.bytesOf 40 ≤ reachBytes ∧ ∀ xxx ∈ xx.ss.l, (Rd W xxx.lb.a xxx.lb.l.length 2 (xxx.lb.l.flatMap prc) ∧ xxx.lb.l.length * Tryd.prog.bytesOf 53 ≤ reachBytes ∧ ∀ xxxx ∈ xxx.lb.l, (xxxx.n.length ≤ reachBytes) ∧ (xxxx.v.length ≤ reachBytes)) ∧ (-9223372036854775808 ≤ xxx.t ∧ xxx.t ≤ 9223372036854775807) ∧ ((Lit.int .u64 xxx.v).wf = true)) ∧ (Rd W xx.ms.a xx.ms.l.length 3 (xx.ms.l.flatMap mtc) ∧ xx.ms.l.length * Tryd.prog.bytesOf 88 ≤ reachBytes ∧ ∀ xxx ∈ xx.ms.l, (-9223372036854775808 ≤ xxx.k ∧ xxx.k ≤ 9223372036854775807) ∧ (xxx.n.length ≤ reachBytes) ∧ (xxx.v.length ≤ reachBytes)) ∧ (-9223372036854775808 ≤ xx.fr ∧ xx.fr ≤ 9223372036854775807) ∧ (-9223372036854775808 ≤ xx.to ∧ xx.to ≤ 9223372036854775807)) := (Opens.slice Tryd.underlying22 (show Tryd.prog.cellsOf 26 = 5 by kernel_rfl) (by decide) (fun _ => rfl) opens26)
theorem szP_of {W : World} {l : List Pr} (h : ∀ p ∈ l, (p.n.length ≤ reachBytes) ∧ (p.v.length ≤ reachBytes)) : SzP l := fun p hp => ⟨Nat.le_trans (h p hp).1 (by decide), Nat.le_trans (h p hp).2 (by decide)⟩
theorem szM_of {l : List Mt} (h : ∀ p ∈ l, ((-9223372036854775808 ≤ p.k ∧ p.k ≤ 9223372036854775807) ∧ (p.n.length ≤ reachBytes) ∧ (p.v.length ≤ reachBytes))) : SzM l := fun p hp => ⟨Nat.le_trans (h p hp).2.1 (by decide), Nat.le_trans (h p hp).2.2 (by decide)⟩
theorem smp_of {W : World} {s : Smp} (h : (Rd W s.lb.a s.lb.l.length 2 (s.lb.l.flatMap prc) ∧ s.lb.l.length * Tryd.prog.bytesOf 53 ≤ reachBytes ∧ ∀ sx ∈ s.lb.l, (sx.n.length ≤ reachBytes) ∧ (sx.v.length ≤ reachBytes)) ∧ (-9223372036854775808 ≤ s.t ∧ s.t ≤ 9223372036854775807) ∧ ((Lit.int .u64 s.v).wf = true)) : (∀ {L : List HP} {w : World}, St W L w → St W (labA s.lb :: L) w) ∧ s.lb.l.length ≤ 4398046511104 ∧ SzP s.lb.l := by
  have hPair : Tryd.prog.bytesOf 53 = 32 := by kernel_rfl
  have e : reachBytes = 140737488351232 := by decide
  obtain ⟨⟨h1, h2, h3⟩, _⟩ := h
  rw [hPair] at h2
  exact ⟨fun hS => rdH_base (by decide) h1 hS, by omega, szP_of (W := W) h3⟩
theorem rec_of {W : World} {r : Rcd} (h : (-9223372036854775808 ≤ r.k ∧ r.k ≤ 9223372036854775807) ∧ (Rd W r.ss.a r.ss.l.length 3 (r.ss.l.flatMap smc) ∧ r.ss.l.length * Tryd.prog.bytesOf 40 ≤ reachBytes ∧ ∀ rx ∈ r.ss.l, (Rd W rx.lb.a rx.lb.l.length 2 (rx.lb.l.flatMap prc) ∧ rx.lb.l.length * Tryd.prog.bytesOf 53 ≤ reachBytes ∧ ∀ rxx ∈ rx.lb.l, (rxx.n.length ≤ reachBytes) ∧ (rxx.v.length ≤ reachBytes)) ∧ (-9223372036854775808 ≤ rx.t ∧ rx.t ≤ 9223372036854775807) ∧ ((Lit.int .u64 rx.v).wf = true)) ∧ (Rd W r.ms.a r.ms.l.length 3 (r.ms.l.flatMap mtc) ∧ r.ms.l.length * Tryd.prog.bytesOf 88 ≤ reachBytes ∧ ∀ rx ∈ r.ms.l, (-9223372036854775808 ≤ rx.k ∧ rx.k ≤ 9223372036854775807) ∧ (rx.n.length ≤ reachBytes) ∧ (rx.v.length ≤ reachBytes)) ∧ (-9223372036854775808 ≤ r.fr ∧ r.fr ≤ 9223372036854775807) ∧ (-9223372036854775808 ≤ r.to ∧ r.to ≤ 9223372036854775807)) : (∀ {L : List HP} {w : World}, St W L w → St W (recA r :: L) w) ∧ SzR r := by
  have hSample : Tryd.prog.bytesOf 40 = 40 := by kernel_rfl
  have hMatch : Tryd.prog.bytesOf 88 = 40 := by kernel_rfl
  have e : reachBytes = 140737488351232 := by decide
  obtain ⟨_, ⟨h1, h2, h3⟩, ⟨h4, h5, h6⟩, _⟩ := h
  rw [hSample] at h2
  rw [hMatch] at h5
  refine ⟨fun hS => ?_, by omega, by omega, szM_of h6, fun s hs => (smp_of (h3 s hs)).2⟩
  have k1 := allA_base (f := fun s : Smp => labA s.lb) (l := r.ss.l) (fun s hs => (smp_of (h3 s hs)).1) hS
  rw [← smsA_eq] at k1
  have k2 := St.join (rdH_base (by decide) h4 k1)
  exact St.join (rdH_base (by decide) h1 k2)

theorem whole_row {W w : World} {L : List HP} {x0 : SlV Rcd} {x1 : Rcd} (at9 : Int) (h0 : Rd W x0.a x0.l.length 5 (x0.l.flatMap rcc) ∧ x0.l.length * Tryd.prog.bytesOf 26 ≤ reachBytes ∧ ∀ x0x ∈ x0.l, (-9223372036854775808 ≤ x0x.k ∧ x0x.k ≤ 9223372036854775807) ∧ (Rd W x0x.ss.a x0x.ss.l.length 3 (x0x.ss.l.flatMap smc) ∧ x0x.ss.l.length * Tryd.prog.bytesOf 40 ≤ reachBytes ∧ ∀ x0xx ∈ x0x.ss.l, (Rd W x0xx.lb.a x0xx.lb.l.length 2 (x0xx.lb.l.flatMap prc) ∧ x0xx.lb.l.length * Tryd.prog.bytesOf 53 ≤ reachBytes ∧ ∀ x0xxx ∈ x0xx.lb.l, (x0xxx.n.length ≤ reachBytes) ∧ (x0xxx.v.length ≤ reachBytes)) ∧ (-9223372036854775808 ≤ x0xx.t ∧ x0xx.t ≤ 9223372036854775807) ∧ ((Lit.int .u64 x0xx.v).wf = true)) ∧ (Rd W x0x.ms.a x0x.ms.l.length 3 (x0x.ms.l.flatMap mtc) ∧ x0x.ms.l.length * Tryd.prog.bytesOf 88 ≤ reachBytes ∧ ∀ x0xx ∈ x0x.ms.l, (-9223372036854775808 ≤ x0xx.k ∧ x0xx.k ≤ 9223372036854775807) ∧ (x0xx.n.length ≤ reachBytes) ∧ (x0xx.v.length ≤ reachBytes)) ∧ (-9223372036854775808 ≤ x0x.fr ∧ x0x.fr ≤ 9223372036854775807) ∧ (-9223372036854775808 ≤ x0x.to ∧ x0x.to ≤ 9223372036854775807)) (h1 : (-9223372036854775808 ≤ x1.k ∧ x1.k ≤ 9223372036854775807) ∧ (Rd W x1.ss.a x1.ss.l.length 3 (x1.ss.l.flatMap smc) ∧ x1.ss.l.length * Tryd.prog.bytesOf 40 ≤ reachBytes ∧ ∀ x1x ∈ x1.ss.l, (Rd W x1x.lb.a x1x.lb.l.length 2 (x1x.lb.l.flatMap prc) ∧ x1x.lb.l.length * Tryd.prog.bytesOf 53 ≤ reachBytes ∧ ∀ x1xx ∈ x1x.lb.l, (x1xx.n.length ≤ reachBytes) ∧ (x1xx.v.length ≤ reachBytes)) ∧ (-9223372036854775808 ≤ x1x.t ∧ x1x.t ≤ 9223372036854775807) ∧ ((Lit.int .u64 x1x.v).wf = true)) ∧ (Rd W x1.ms.a x1.ms.l.length 3 (x1.ms.l.flatMap mtc) ∧ x1.ms.l.length * Tryd.prog.bytesOf 88 ≤ reachBytes ∧ ∀ x1x ∈ x1.ms.l, (-9223372036854775808 ≤ x1x.k ∧ x1x.k ≤ 9223372036854775807) ∧ (x1x.n.length ≤ reachBytes) ∧ (x1x.v.length ≤ reachBytes)) ∧ (-9223372036854775808 ≤ x1.fr ∧ x1.fr ≤ 9223372036854775807) ∧ (-9223372036854775808 ≤ x1.to ∧ x1.to ≤ 9223372036854775807)) (hS : St W L w) :
    Does Tryd.prog 3 [.slice x0.a x0.l.length x0.cap, .agg (rcc x1).toArray, .int .i64 at9] w (fun v w1 => v = .bool true ∧ St W L w1) := by
  have hb1 : Tryd.prog.bytesOf 26 = 72 := by kernel_rfl
  have e : reachBytes = 140737488351232 := by decide
  obtain ⟨a1, a2, a3⟩ := h0
  rw [hb1] at a2
  have k1 := (rec_of h1).1 hS
  have k2 := allA_base (f := recA) (l := x0.l) (fun d hd => (rec_of (a3 d hd)).1) k1
  have k3 := rdH_base (k := 5) (by decide) a1 k2
  exact headWhole_core (cap := x0.cap) (fun r hr => (rec_of (a3 r hr)).2) (by omega) x1 (rec_of h1).2 at9 k3
end Go.Proofs.YtidoidoelgfnaaaDoor.SL
