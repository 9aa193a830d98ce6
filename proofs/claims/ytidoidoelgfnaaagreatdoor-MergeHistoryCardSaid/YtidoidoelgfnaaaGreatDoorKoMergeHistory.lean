/- The arguments' types of a law, opened. -/
import Derived.Test.YtidoidoelgfnaaaGreatDoorHis6
import Derived.Test.YtidoidoelgfnaaaGreatDoorXr
namespace Go.Proofs.YtidoidoelgfnaaaGreatDoor.SL
set_option maxRecDepth 100000
set_option linter.unusedVariables false
theorem opens105 {H : Type} {ec : TypeId × Value → H} {W : World} {base : Nat} {spare : Nat → Bool} {held : Bool} : Opens ec Tryz.prog W base spare held 105 prc (fun x : Pr => (x.n.length ≤ reachBytes) ∧ (x.v.length ≤ reachBytes)) := fun n cs y h hw => by
  have hl := Opens.cells Tryz.underlying105 h
  rw [show Tryz.prog.cellsOf 105 = 2 by kernel_rfl] at hl
  obtain ⟨c0, c1, rfl⟩ : ∃ c0 c1, cs = [c0, c1] := by
    match cs, hl with
    | [c0, c1], _ => exact ⟨c0, c1, rfl⟩
  obtain ⟨x0, e0, g0⟩ := Opens.field Tryz.underlying105 h hw 0 0 1 _ rfl rfl (show Tryz.prog.cellsOf 9 = 1 by kernel_rfl) (Opens.string Tryz.underlying9)
  replace e0 : [c0] = (fun x : List UInt8 => [str x]) x0 := e0
  obtain ⟨x1, e1, g1⟩ := Opens.field Tryz.underlying105 h hw 1 1 1 _ rfl rfl (show Tryz.prog.cellsOf 9 = 1 by kernel_rfl) (Opens.string Tryz.underlying9)
  replace e1 : [c1] = (fun x : List UInt8 => [str x]) x1 := e1
  refine ⟨⟨x0, x1⟩, ?_, g0, g1⟩
  show [c0] ++ ([c1]) = _
  rw [e0, e1]; rfl
theorem opens83 {H : Type} {ec : TypeId × Value → H} {W : World} {base : Nat} {spare : Nat → Bool} {held : Bool} : Opens ec Tryz.prog W base spare held 83 smc (fun x : Smp => (Rd W x.lb.a x.lb.l.length 2 (x.lb.l.flatMap prc) ∧ x.lb.l.length * Tryz.prog.bytesOf 105 ≤ reachBytes ∧ ∀ xx ∈ x.lb.l, (xx.n.length ≤ reachBytes) ∧ (xx.v.length ≤ reachBytes)) ∧ (-9223372036854775808 ≤ x.t ∧ x.t ≤ 9223372036854775807) ∧ ((Lit.int .u64 x.v).wf = true)) := fun n cs y h hw => by
  have hl := Opens.cells Tryz.underlying83 h
  rw [show Tryz.prog.cellsOf 83 = 3 by kernel_rfl] at hl
  obtain ⟨c0, c1, c2, rfl⟩ : ∃ c0 c1 c2, cs = [c0, c1, c2] := by
    match cs, hl with
    | [c0, c1, c2], _ => exact ⟨c0, c1, c2, rfl⟩
  obtain ⟨x0, e0, g0⟩ := Opens.field Tryz.underlying83 h hw 0 0 1 _ rfl rfl (show Tryz.prog.cellsOf 65 = 1 by kernel_rfl) (Opens.slice Tryz.underlying65 (show Tryz.prog.cellsOf 105 = 2 by kernel_rfl) (by decide) (fun _ => rfl) opens105)
  replace e0 : [c0] = SlV.enc x0 := e0
  obtain ⟨x1, e1, g1⟩ := Opens.field Tryz.underlying83 h hw 1 1 1 _ rfl rfl (show Tryz.prog.cellsOf 2 = 1 by kernel_rfl) (Opens.i64 Tryz.underlying2)
  replace e1 : [c1] = (fun x : Int => [.int .i64 x]) x1 := e1
  obtain ⟨x2, e2, g2⟩ := Opens.field Tryz.underlying83 h hw 2 2 1 _ rfl rfl (show Tryz.prog.cellsOf 81 = 1 by kernel_rfl) (Opens.int Tryz.underlying81)
  replace e2 : [c2] = (fun x : Int => [.int .u64 x]) x2 := e2
  refine ⟨⟨x0, x1, x2⟩, ?_, g0, g1, g2⟩
  show [c0] ++ ([c1] ++ ([c2])) = _
  rw [e0, e1, e2]; rfl
theorem opens151 {H : Type} {ec : TypeId × Value → H} {W : World} {base : Nat} {spare : Nat → Bool} {held : Bool} : Opens ec Tryz.prog W base spare held 151 mtc (fun x : Mt => (-9223372036854775808 ≤ x.k ∧ x.k ≤ 9223372036854775807) ∧ (x.n.length ≤ reachBytes) ∧ (x.v.length ≤ reachBytes)) := fun n cs y h hw => by
  have hl := Opens.cells Tryz.underlying151 h
  rw [show Tryz.prog.cellsOf 151 = 3 by kernel_rfl] at hl
  obtain ⟨c0, c1, c2, rfl⟩ : ∃ c0 c1 c2, cs = [c0, c1, c2] := by
    match cs, hl with
    | [c0, c1, c2], _ => exact ⟨c0, c1, c2, rfl⟩
  obtain ⟨x0, e0, g0⟩ := Opens.field Tryz.underlying151 h hw 0 0 1 _ rfl rfl (show Tryz.prog.cellsOf 3 = 1 by kernel_rfl) (Opens.i64 Tryz.underlying3)
  replace e0 : [c0] = (fun x : Int => [.int .i64 x]) x0 := e0
  obtain ⟨x1, e1, g1⟩ := Opens.field Tryz.underlying151 h hw 1 1 1 _ rfl rfl (show Tryz.prog.cellsOf 9 = 1 by kernel_rfl) (Opens.string Tryz.underlying9)
  replace e1 : [c1] = (fun x : List UInt8 => [str x]) x1 := e1
  obtain ⟨x2, e2, g2⟩ := Opens.field Tryz.underlying151 h hw 2 2 1 _ rfl rfl (show Tryz.prog.cellsOf 9 = 1 by kernel_rfl) (Opens.string Tryz.underlying9)
  replace e2 : [c2] = (fun x : List UInt8 => [str x]) x2 := e2
  refine ⟨⟨x0, x1, x2⟩, ?_, g0, g1, g2⟩
  show [c0] ++ ([c1] ++ ([c2])) = _
  rw [e0, e1, e2]; rfl
theorem opens33 {H : Type} {ec : TypeId × Value → H} {W : World} {base : Nat} {spare : Nat → Bool} {held : Bool} : Opens ec Tryz.prog W base spare held 33 rcc (fun x : Rcd => (-9223372036854775808 ≤ x.k ∧ x.k ≤ 9223372036854775807) ∧ (Rd W x.ss.a x.ss.l.length 3 (x.ss.l.flatMap smc) ∧ x.ss.l.length * Tryz.prog.bytesOf 83 ≤ reachBytes ∧ ∀ xx ∈ x.ss.l, (Rd W xx.lb.a xx.lb.l.length 2 (xx.lb.l.flatMap prc) ∧ xx.lb.l.length * Tryz.prog.bytesOf 105 ≤ reachBytes ∧ ∀ xxx ∈ xx.lb.l, (xxx.n.length ≤ reachBytes) ∧ (xxx.v.length ≤ reachBytes)) ∧ (-9223372036854775808 ≤ xx.t ∧ xx.t ≤ 9223372036854775807) ∧ ((Lit.int .u64 xx.v).wf = true)) ∧ (Rd W x.ms.a x.ms.l.length 3 (x.ms.l.flatMap mtc) ∧ x.ms.l.length * Tryz.prog.bytesOf 151 ≤ reachBytes ∧ ∀ xx ∈ x.ms.l, (-9223372036854775808 ≤ xx.k ∧ xx.k ≤ 9223372036854775807) ∧ (xx.n.length ≤ reachBytes) ∧ (xx.v.length ≤ reachBytes)) ∧ (-9223372036854775808 ≤ x.fr ∧ x.fr ≤ 9223372036854775807) ∧ (-9223372036854775808 ≤ x.to ∧ x.to ≤ 9223372036854775807)) := fun n cs y h hw => by
  have hl := Opens.cells Tryz.underlying33 h
  rw [show Tryz.prog.cellsOf 33 = 5 by kernel_rfl] at hl
  obtain ⟨c0, c1, c2, c3, c4, rfl⟩ : ∃ c0 c1 c2 c3 c4, cs = [c0, c1, c2, c3, c4] := by
    match cs, hl with
    | [c0, c1, c2, c3, c4], _ => exact ⟨c0, c1, c2, c3, c4, rfl⟩
  obtain ⟨x0, e0, g0⟩ := Opens.field Tryz.underlying33 h hw 0 0 1 _ rfl rfl (show Tryz.prog.cellsOf 3 = 1 by kernel_rfl) (Opens.i64 Tryz.underlying3)
  replace e0 : [c0] = (fun x : Int => [.int .i64 x]) x0 := e0
  obtain ⟨x1, e1, g1⟩ := Opens.field Tryz.underlying33 h hw 1 1 1 _ rfl rfl (show Tryz.prog.cellsOf 31 = 1 by kernel_rfl) (Opens.slice Tryz.underlying31 (show Tryz.prog.cellsOf 83 = 3 by kernel_rfl) (by decide) (fun _ => rfl) opens83)
  replace e1 : [c1] = SlV.enc x1 := e1
  obtain ⟨x2, e2, g2⟩ := Opens.field Tryz.underlying33 h hw 2 2 1 _ rfl rfl (show Tryz.prog.cellsOf 24 = 1 by kernel_rfl) (Opens.slice Tryz.underlying24 (show Tryz.prog.cellsOf 151 = 3 by kernel_rfl) (by decide) (fun _ => rfl) opens151)
  replace e2 : [c2] = SlV.enc x2 := e2
  obtain ⟨x3, e3, g3⟩ := Opens.field Tryz.underlying33 h hw 3 3 1 _ rfl rfl (show Tryz.prog.cellsOf 2 = 1 by kernel_rfl) (Opens.i64 Tryz.underlying2)
  replace e3 : [c3] = (fun x : Int => [.int .i64 x]) x3 := e3
  obtain ⟨x4, e4, g4⟩ := Opens.field Tryz.underlying33 h hw 4 4 1 _ rfl rfl (show Tryz.prog.cellsOf 2 = 1 by kernel_rfl) (Opens.i64 Tryz.underlying2)
  replace e4 : [c4] = (fun x : Int => [.int .i64 x]) x4 := e4
  refine ⟨⟨x0, x1, x2, x3, x4⟩, ?_, g0, g1, g2, g3, g4⟩
  show [c0] ++ ([c1] ++ ([c2] ++ ([c3] ++ ([c4])))) = _
  rw [e0, e1, e2, e3, e4]; rfl
theorem opensP23 {H : Type} {ec : TypeId × Value → H} {W : World} {base : Nat} {spare : Nat → Bool} {held : Bool} : Opens ec Tryz.prog W base spare held 23 SlV.enc (fun x : SlV (Rcd) => Rd W x.a x.l.length 5 (x.l.flatMap rcc) ∧ x.l.length * Tryz.prog.bytesOf 33 ≤ reachBytes ∧ ∀ xx ∈ x.l, (-9223372036854775808 ≤ xx.k ∧ xx.k ≤ 9223372036854775807) ∧ (Rd W xx.ss.a xx.ss.l.length 3 (xx.ss.l.flatMap smc) ∧ xx.ss.l.length * Tryz.prog.bytesOf 83 ≤ reachBytes ∧ ∀ xxx ∈ xx.ss.l, (Rd W xxx.lb.a xxx.lb.l.length 2 (xxx.lb.l.flatMap prc) ∧ xxx.lb.l.length * Tryz.prog.bytesOf 105 ≤ reachBytes ∧ ∀ xxxx ∈ xxx.lb.l, (xxxx.n.length ≤ reachBytes) ∧ (xxxx.v.length ≤ reachBytes)) ∧ (-9223372036854775808 ≤ xxx.t ∧ xxx.t ≤ 9223372036854775807) ∧ ((Lit.int .u64 xxx.v).wf = true)) ∧ (Rd W xx.ms.a xx.ms.l.length 3 (xx.ms.l.flatMap mtc) ∧ xx.ms.l.length * Tryz.prog.bytesOf 151 ≤ reachBytes ∧ ∀ xxx ∈ xx.ms.l, (-9223372036854775808 ≤ xxx.k ∧ xxx.k ≤ 9223372036854775807) ∧ (xxx.n.length ≤ reachBytes) ∧ (xxx.v.length ≤ reachBytes)) ∧ (-9223372036854775808 ≤ xx.fr ∧ xx.fr ≤ 9223372036854775807) ∧ (-9223372036854775808 ≤ xx.to ∧ xx.to ≤ 9223372036854775807)) := (Opens.slice Tryz.underlying23 (show Tryz.prog.cellsOf 33 = 5 by kernel_rfl) (by decide) (fun _ => rfl) opens33)
theorem opensP86 {H : Type} {ec : TypeId × Value → H} {W : World} {base : Nat} {spare : Nat → Bool} {held : Bool} : Opens ec Tryz.prog W base spare held 86 SlV.enc (fun x : SlV (Bool) => Rd W x.a x.l.length 1 (x.l.flatMap (fun x : Bool => [.bool x])) ∧ x.l.length * Tryz.prog.bytesOf 4 ≤ reachBytes ∧ ∀ xx ∈ x.l, True) := (Opens.slice Tryz.underlying86 (show Tryz.prog.cellsOf 4 = 1 by kernel_rfl) (by decide) (fun _ => rfl) (Opens.bool Tryz.underlying4))
theorem opens26 {H : Type} {ec : TypeId × Value → H} {W : World} {base : Nat} {spare : Nat → Bool} {held : Bool} : Opens ec Tryz.prog W base spare held 26 askc (fun x : AskV => (Rd W x.ms.a x.ms.l.length 3 (x.ms.l.flatMap mtc) ∧ x.ms.l.length * Tryz.prog.bytesOf 151 ≤ reachBytes ∧ ∀ xx ∈ x.ms.l, (-9223372036854775808 ≤ xx.k ∧ xx.k ≤ 9223372036854775807) ∧ (xx.n.length ≤ reachBytes) ∧ (xx.v.length ≤ reachBytes)) ∧ (-9223372036854775808 ≤ x.fr ∧ x.fr ≤ 9223372036854775807) ∧ (-9223372036854775808 ≤ x.to ∧ x.to ≤ 9223372036854775807)) := fun n cs y h hw => by
  have hl := Opens.cells Tryz.underlying26 h
  rw [show Tryz.prog.cellsOf 26 = 3 by kernel_rfl] at hl
  obtain ⟨c0, c1, c2, rfl⟩ : ∃ c0 c1 c2, cs = [c0, c1, c2] := by
    match cs, hl with
    | [c0, c1, c2], _ => exact ⟨c0, c1, c2, rfl⟩
  obtain ⟨x0, e0, g0⟩ := Opens.field Tryz.underlying26 h hw 0 0 1 _ rfl rfl (show Tryz.prog.cellsOf 24 = 1 by kernel_rfl) (Opens.slice Tryz.underlying24 (show Tryz.prog.cellsOf 151 = 3 by kernel_rfl) (by decide) (fun _ => rfl) opens151)
  replace e0 : [c0] = SlV.enc x0 := e0
  obtain ⟨x1, e1, g1⟩ := Opens.field Tryz.underlying26 h hw 1 1 1 _ rfl rfl (show Tryz.prog.cellsOf 2 = 1 by kernel_rfl) (Opens.i64 Tryz.underlying2)
  replace e1 : [c1] = (fun x : Int => [.int .i64 x]) x1 := e1
  obtain ⟨x2, e2, g2⟩ := Opens.field Tryz.underlying26 h hw 2 2 1 _ rfl rfl (show Tryz.prog.cellsOf 2 = 1 by kernel_rfl) (Opens.i64 Tryz.underlying2)
  replace e2 : [c2] = (fun x : Int => [.int .i64 x]) x2 := e2
  refine ⟨⟨x0, x1, x2⟩, ?_, g0, g1, g2⟩
  show [c0] ++ ([c1] ++ ([c2])) = _
  rw [e0, e1, e2]; rfl
theorem szP_of {W : World} {l : List Pr} (h : ∀ p ∈ l, (p.n.length ≤ reachBytes) ∧ (p.v.length ≤ reachBytes)) : SzP l := fun p hp => ⟨Nat.le_trans (h p hp).1 (by decide), Nat.le_trans (h p hp).2 (by decide)⟩
theorem szM_of {l : List Mt} (h : ∀ p ∈ l, ((-9223372036854775808 ≤ p.k ∧ p.k ≤ 9223372036854775807) ∧ (p.n.length ≤ reachBytes) ∧ (p.v.length ≤ reachBytes))) : SzM l := fun p hp => ⟨Nat.le_trans (h p hp).2.1 (by decide), Nat.le_trans (h p hp).2.2 (by decide)⟩
theorem smp_of {W : World} {s : Smp} (h : (Rd W s.lb.a s.lb.l.length 2 (s.lb.l.flatMap prc) ∧ s.lb.l.length * Tryz.prog.bytesOf 105 ≤ reachBytes ∧ ∀ sx ∈ s.lb.l, (sx.n.length ≤ reachBytes) ∧ (sx.v.length ≤ reachBytes)) ∧ (-9223372036854775808 ≤ s.t ∧ s.t ≤ 9223372036854775807) ∧ ((Lit.int .u64 s.v).wf = true)) : (∀ {L : List HP} {w : World}, St W L w → St W (labA s.lb :: L) w) ∧ s.lb.l.length ≤ 4398046511104 ∧ SzP s.lb.l := by
  have hPair : Tryz.prog.bytesOf 105 = 32 := by kernel_rfl
  have e : reachBytes = 140737488351232 := by decide
  obtain ⟨⟨h1, h2, h3⟩, _⟩ := h
  rw [hPair] at h2
  exact ⟨fun hS => rdH_base (by decide) h1 hS, by omega, szP_of (W := W) h3⟩
theorem rec_of {W : World} {r : Rcd} (h : (-9223372036854775808 ≤ r.k ∧ r.k ≤ 9223372036854775807) ∧ (Rd W r.ss.a r.ss.l.length 3 (r.ss.l.flatMap smc) ∧ r.ss.l.length * Tryz.prog.bytesOf 83 ≤ reachBytes ∧ ∀ rx ∈ r.ss.l, (Rd W rx.lb.a rx.lb.l.length 2 (rx.lb.l.flatMap prc) ∧ rx.lb.l.length * Tryz.prog.bytesOf 105 ≤ reachBytes ∧ ∀ rxx ∈ rx.lb.l, (rxx.n.length ≤ reachBytes) ∧ (rxx.v.length ≤ reachBytes)) ∧ (-9223372036854775808 ≤ rx.t ∧ rx.t ≤ 9223372036854775807) ∧ ((Lit.int .u64 rx.v).wf = true)) ∧ (Rd W r.ms.a r.ms.l.length 3 (r.ms.l.flatMap mtc) ∧ r.ms.l.length * Tryz.prog.bytesOf 151 ≤ reachBytes ∧ ∀ rx ∈ r.ms.l, (-9223372036854775808 ≤ rx.k ∧ rx.k ≤ 9223372036854775807) ∧ (rx.n.length ≤ reachBytes) ∧ (rx.v.length ≤ reachBytes)) ∧ (-9223372036854775808 ≤ r.fr ∧ r.fr ≤ 9223372036854775807) ∧ (-9223372036854775808 ≤ r.to ∧ r.to ≤ 9223372036854775807)) : (∀ {L : List HP} {w : World}, St W L w → St W (recA r :: L) w) ∧ SzR r := by
  have hSample : Tryz.prog.bytesOf 83 = 40 := by kernel_rfl
  have hMatch : Tryz.prog.bytesOf 151 = 40 := by kernel_rfl
  have e : reachBytes = 140737488351232 := by decide
  obtain ⟨_, ⟨h1, h2, h3⟩, ⟨h4, h5, h6⟩, _⟩ := h
  rw [hSample] at h2
  rw [hMatch] at h5
  refine ⟨fun hS => ?_, by omega, by omega, szM_of h6, fun s hs => (smp_of (h3 s hs)).2⟩
  have k1 := allA_base (f := fun s : Smp => labA s.lb) (l := r.ss.l) (fun s hs => (smp_of (h3 s hs)).1) hS
  rw [← smsA_eq] at k1
  have k2 := St.join (rdH_base (by decide) h4 k1)
  exact St.join (rdH_base (by decide) h1 k2)

theorem rng_of {W : World} {r : Rcd} (h : (-9223372036854775808 ≤ r.k ∧ r.k ≤ 9223372036854775807) ∧ (Rd W r.ss.a r.ss.l.length 3 (r.ss.l.flatMap smc) ∧ r.ss.l.length * Tryz.prog.bytesOf 83 ≤ reachBytes ∧ ∀ rx ∈ r.ss.l, (Rd W rx.lb.a rx.lb.l.length 2 (rx.lb.l.flatMap prc) ∧ rx.lb.l.length * Tryz.prog.bytesOf 105 ≤ reachBytes ∧ ∀ rxx ∈ rx.lb.l, (rxx.n.length ≤ reachBytes) ∧ (rxx.v.length ≤ reachBytes)) ∧ (-9223372036854775808 ≤ rx.t ∧ rx.t ≤ 9223372036854775807) ∧ ((Lit.int .u64 rx.v).wf = true)) ∧ (Rd W r.ms.a r.ms.l.length 3 (r.ms.l.flatMap mtc) ∧ r.ms.l.length * Tryz.prog.bytesOf 151 ≤ reachBytes ∧ ∀ rx ∈ r.ms.l, (-9223372036854775808 ≤ rx.k ∧ rx.k ≤ 9223372036854775807) ∧ (rx.n.length ≤ reachBytes) ∧ (rx.v.length ≤ reachBytes)) ∧ (-9223372036854775808 ≤ r.fr ∧ r.fr ≤ 9223372036854775807) ∧ (-9223372036854775808 ≤ r.to ∧ r.to ≤ 9223372036854775807)) : RngP r.p := fun s hs => by
  obtain ⟨_, ⟨_, _, h3⟩, _⟩ := h
  obtain ⟨q, hq, rfl⟩ := List.mem_map.1 hs
  exact (h3 q hq).2.1
theorem mhist_row {W w : World} {L : List HP} {x0 : SlV Rcd} {x1 : SlV Bool} {x2 : AskV} (n3 : Int) (r3 : -9223372036854775808 ≤ n3 ∧ n3 ≤ 9223372036854775807) (h0 : Rd W x0.a x0.l.length 5 (x0.l.flatMap rcc) ∧ x0.l.length * Tryz.prog.bytesOf 33 ≤ reachBytes ∧ ∀ x0x ∈ x0.l, (-9223372036854775808 ≤ x0x.k ∧ x0x.k ≤ 9223372036854775807) ∧ (Rd W x0x.ss.a x0x.ss.l.length 3 (x0x.ss.l.flatMap smc) ∧ x0x.ss.l.length * Tryz.prog.bytesOf 83 ≤ reachBytes ∧ ∀ x0xx ∈ x0x.ss.l, (Rd W x0xx.lb.a x0xx.lb.l.length 2 (x0xx.lb.l.flatMap prc) ∧ x0xx.lb.l.length * Tryz.prog.bytesOf 105 ≤ reachBytes ∧ ∀ x0xxx ∈ x0xx.lb.l, (x0xxx.n.length ≤ reachBytes) ∧ (x0xxx.v.length ≤ reachBytes)) ∧ (-9223372036854775808 ≤ x0xx.t ∧ x0xx.t ≤ 9223372036854775807) ∧ ((Lit.int .u64 x0xx.v).wf = true)) ∧ (Rd W x0x.ms.a x0x.ms.l.length 3 (x0x.ms.l.flatMap mtc) ∧ x0x.ms.l.length * Tryz.prog.bytesOf 151 ≤ reachBytes ∧ ∀ x0xx ∈ x0x.ms.l, (-9223372036854775808 ≤ x0xx.k ∧ x0xx.k ≤ 9223372036854775807) ∧ (x0xx.n.length ≤ reachBytes) ∧ (x0xx.v.length ≤ reachBytes)) ∧ (-9223372036854775808 ≤ x0x.fr ∧ x0x.fr ≤ 9223372036854775807) ∧ (-9223372036854775808 ≤ x0x.to ∧ x0x.to ≤ 9223372036854775807)) (h1 : Rd W x1.a x1.l.length 1 (x1.l.flatMap (fun x : Bool => [.bool x])) ∧ x1.l.length * Tryz.prog.bytesOf 4 ≤ reachBytes ∧ ∀ x1x ∈ x1.l, True) (h2 : (Rd W x2.ms.a x2.ms.l.length 3 (x2.ms.l.flatMap mtc) ∧ x2.ms.l.length * Tryz.prog.bytesOf 151 ≤ reachBytes ∧ ∀ x2x ∈ x2.ms.l, (-9223372036854775808 ≤ x2x.k ∧ x2x.k ≤ 9223372036854775807) ∧ (x2x.n.length ≤ reachBytes) ∧ (x2x.v.length ≤ reachBytes)) ∧ (-9223372036854775808 ≤ x2.fr ∧ x2.fr ≤ 9223372036854775807) ∧ (-9223372036854775808 ≤ x2.to ∧ x2.to ≤ 9223372036854775807)) (hS : St W L w) :
    Does Tryz.prog 9 [.slice x0.a x0.l.length x0.cap, .slice x1.a x1.l.length x1.cap, .agg (askc x2).toArray, .int .i64 n3] w (fun v w1 => v = .bool true ∧ St W L w1) := by
  have hb1 : Tryz.prog.bytesOf 33 = 72 := by kernel_rfl
  have hb2 : Tryz.prog.bytesOf 4 = 1 := by kernel_rfl
  have e : reachBytes = 140737488351232 := by decide
  obtain ⟨a1, a2, a3⟩ := h0
  rw [hb1] at a2
  obtain ⟨b1, b2, b3⟩ := h1
  rw [hb2] at b2
  rw [show (x1.l.flatMap fun x : Bool => [Value.bool x]) = x1.l.map Value.bool from List.map_eq_flatMap.symm] at b1
  have hb3 : Tryz.prog.bytesOf 151 = 40 := by kernel_rfl
  obtain ⟨⟨c1, c2, c3⟩, r4, r5⟩ := h2
  rw [hb3] at c2
  have k0 := rdH_base (k := 3) (by decide) c1 hS
  have k1 := rdH_base (k := 1) (by decide) b1 k0
  have k2 := allA_base (f := recA) (l := x0.l) (fun d hd => (rec_of (a3 d hd)).1) k1
  have k3 := rdH_base (k := 5) (by decide) a1 k2
  exact mergeHistory_core (cap := x0.cap) (cap2 := x1.cap) (fun r hr => (rec_of (a3 r hr)).2) (fun r hr => rng_of (a3 r hr)) (by omega) (by omega) x2 (szM_of c3) (by omega) r4 r5 n3 r3 k3
end Go.Proofs.YtidoidoelgfnaaaGreatDoor.SL
