/- The arguments' types of a law, opened. -/
import Derived.Test.YtidoidoelgfnaaaGreatDoorMt1
import Derived.Test.YtidoidoelgfnaaaGreatDoorXr
namespace Go.Proofs.YtidoidoelgfnaaaGreatDoor.SL
set_option maxRecDepth 100000
set_option linter.unusedVariables false
theorem opens105 {H : Type} {ec : TypeId × Value → H} {W : World} {base : Nat} {spare : Nat → Bool} {held : Bool} : Opens ec Tryz.prog W base spare held 105 prc (fun x : Pr => (x.n.length ≤ reachBytes) ∧ (x.v.length ≤ reachBytes)) := fun n cs y h hw => by
  have hl := Opens.cells Tryz.underlying105 h
  rw [show Tryz.prog.cellsOf 105 = 2 by kernel_rfl] at hl
  obtain ⟨c0, c1, rfl⟩ : ∃ c0 c1, cs = [c0, c1] := by
    match cs, hl with
    | [c0, c1], _ => exact ⟨c0, c1, rfl⟩
  obtain ⟨x0, e0, g0⟩ := Opens.field Tryz.underlying105 h hw 0 0 1 _ rfl rfl (show Tryz.prog.cellsOf 9 = 1 by kernel_rfl) (Opens.string Tryz.underlying9)
  replace e0 : [c0] = (fun x : List UInt8 => [str x]) x0 := e0
  obtain ⟨x1, e1, g1⟩ := Opens.field Tryz.underlying105 h hw 1 1 1 _ rfl rfl (show Tryz.prog.cellsOf 9 = 1 by kernel_rfl) (Opens.string Tryz.underlying9)
  replace e1 : [c1] = (fun x : List UInt8 => [str x]) x1 := e1
  refine ⟨⟨x0, x1⟩, ?_, g0, g1⟩
  show [c0] ++ ([c1]) = _
  rw [e0, e1]; rfl
theorem opens103 {H : Type} {ec : TypeId × Value → H} {W : World} {base : Nat} {spare : Nat → Bool} {held : Bool} : Opens ec Tryz.prog W base spare held 103 ptc (fun x : Pt => (-9223372036854775808 ≤ x.t ∧ x.t ≤ 9223372036854775807) ∧ ((Lit.int .u64 x.v).wf = true)) := fun n cs y h hw => by
  have hl := Opens.cells Tryz.underlying103 h
  rw [show Tryz.prog.cellsOf 103 = 2 by kernel_rfl] at hl
  obtain ⟨c0, c1, rfl⟩ : ∃ c0 c1, cs = [c0, c1] := by
    match cs, hl with
    | [c0, c1], _ => exact ⟨c0, c1, rfl⟩
  obtain ⟨x0, e0, g0⟩ := Opens.field Tryz.underlying103 h hw 0 0 1 _ rfl rfl (show Tryz.prog.cellsOf 2 = 1 by kernel_rfl) (Opens.i64 Tryz.underlying2)
  replace e0 : [c0] = (fun x : Int => [.int .i64 x]) x0 := e0
  obtain ⟨x1, e1, g1⟩ := Opens.field Tryz.underlying103 h hw 1 1 1 _ rfl rfl (show Tryz.prog.cellsOf 81 = 1 by kernel_rfl) (Opens.int Tryz.underlying81)
  replace e1 : [c1] = (fun x : Int => [.int .u64 x]) x1 := e1
  refine ⟨⟨x0, x1⟩, ?_, g0, g1⟩
  show [c0] ++ ([c1]) = _
  rw [e0, e1]; rfl
theorem opens99 {H : Type} {ec : TypeId × Value → H} {W : World} {base : Nat} {spare : Nat → Bool} {held : Bool} : Opens ec Tryz.prog W base spare held 99 mrc (fun x : MRow => (Rd W x.lb.a x.lb.l.length 2 (x.lb.l.flatMap prc) ∧ x.lb.l.length * Tryz.prog.bytesOf 105 ≤ reachBytes ∧ ∀ xx ∈ x.lb.l, (xx.n.length ≤ reachBytes) ∧ (xx.v.length ≤ reachBytes)) ∧ (-9223372036854775808 ≤ x.last ∧ x.last ≤ 9223372036854775807) ∧ (Rd W x.pt.a x.pt.l.length 2 (x.pt.l.flatMap ptc) ∧ x.pt.l.length * Tryz.prog.bytesOf 103 ≤ reachBytes ∧ ∀ xx ∈ x.pt.l, (-9223372036854775808 ≤ xx.t ∧ xx.t ≤ 9223372036854775807) ∧ ((Lit.int .u64 xx.v).wf = true))) := fun n cs y h hw => by
  have hl := Opens.cells Tryz.underlying99 h
  rw [show Tryz.prog.cellsOf 99 = 3 by kernel_rfl] at hl
  obtain ⟨c0, c1, c2, rfl⟩ : ∃ c0 c1 c2, cs = [c0, c1, c2] := by
    match cs, hl with
    | [c0, c1, c2], _ => exact ⟨c0, c1, c2, rfl⟩
  obtain ⟨x0, e0, g0⟩ := Opens.field Tryz.underlying99 h hw 0 0 1 _ rfl rfl (show Tryz.prog.cellsOf 65 = 1 by kernel_rfl) (Opens.slice Tryz.underlying65 (show Tryz.prog.cellsOf 105 = 2 by kernel_rfl) (by decide) (fun _ => rfl) opens105)
  replace e0 : [c0] = SlV.enc x0 := e0
  obtain ⟨x1, e1, g1⟩ := Opens.field Tryz.underlying99 h hw 1 1 1 _ rfl rfl (show Tryz.prog.cellsOf 2 = 1 by kernel_rfl) (Opens.i64 Tryz.underlying2)
  replace e1 : [c1] = (fun x : Int => [.int .i64 x]) x1 := e1
  obtain ⟨x2, e2, g2⟩ := Opens.field Tryz.underlying99 h hw 2 2 1 _ rfl rfl (show Tryz.prog.cellsOf 66 = 1 by kernel_rfl) (Opens.slice Tryz.underlying66 (show Tryz.prog.cellsOf 103 = 2 by kernel_rfl) (by decide) (fun _ => rfl) opens103)
  replace e2 : [c2] = SlV.enc x2 := e2
  refine ⟨⟨x0, x1, x2⟩, ?_, g0, g1, g2⟩
  show [c0] ++ ([c1] ++ ([c2])) = _
  rw [e0, e1, e2]; rfl
theorem opens83 {H : Type} {ec : TypeId × Value → H} {W : World} {base : Nat} {spare : Nat → Bool} {held : Bool} : Opens ec Tryz.prog W base spare held 83 smc (fun x : Smp => (Rd W x.lb.a x.lb.l.length 2 (x.lb.l.flatMap prc) ∧ x.lb.l.length * Tryz.prog.bytesOf 105 ≤ reachBytes ∧ ∀ xx ∈ x.lb.l, (xx.n.length ≤ reachBytes) ∧ (xx.v.length ≤ reachBytes)) ∧ (-9223372036854775808 ≤ x.t ∧ x.t ≤ 9223372036854775807) ∧ ((Lit.int .u64 x.v).wf = true)) := fun n cs y h hw => by
  have hl := Opens.cells Tryz.underlying83 h
  rw [show Tryz.prog.cellsOf 83 = 3 by kernel_rfl] at hl
  obtain ⟨c0, c1, c2, rfl⟩ : ∃ c0 c1 c2, cs = [c0, c1, c2] := by
    match cs, hl with
    | [c0, c1, c2], _ => exact ⟨c0, c1, c2, rfl⟩
  obtain ⟨x0, e0, g0⟩ := Opens.field Tryz.underlying83 h hw 0 0 1 _ rfl rfl (show Tryz.prog.cellsOf 65 = 1 by kernel_rfl) (Opens.slice Tryz.underlying65 (show Tryz.prog.cellsOf 105 = 2 by kernel_rfl) (by decide) (fun _ => rfl) opens105)
  replace e0 : [c0] = SlV.enc x0 := e0
  obtain ⟨x1, e1, g1⟩ := Opens.field Tryz.underlying83 h hw 1 1 1 _ rfl rfl (show Tryz.prog.cellsOf 2 = 1 by kernel_rfl) (Opens.i64 Tryz.underlying2)
  replace e1 : [c1] = (fun x : Int => [.int .i64 x]) x1 := e1
  obtain ⟨x2, e2, g2⟩ := Opens.field Tryz.underlying83 h hw 2 2 1 _ rfl rfl (show Tryz.prog.cellsOf 81 = 1 by kernel_rfl) (Opens.int Tryz.underlying81)
  replace e2 : [c2] = (fun x : Int => [.int .u64 x]) x2 := e2
  refine ⟨⟨x0, x1, x2⟩, ?_, g0, g1, g2⟩
  show [c0] ++ ([c1] ++ ([c2])) = _
  rw [e0, e1, e2]; rfl
theorem opens151 {H : Type} {ec : TypeId × Value → H} {W : World} {base : Nat} {spare : Nat → Bool} {held : Bool} : Opens ec Tryz.prog W base spare held 151 mtc (fun x : Mt => (-9223372036854775808 ≤ x.k ∧ x.k ≤ 9223372036854775807) ∧ (x.n.length ≤ reachBytes) ∧ (x.v.length ≤ reachBytes)) := fun n cs y h hw => by
  have hl := Opens.cells Tryz.underlying151 h
  rw [show Tryz.prog.cellsOf 151 = 3 by kernel_rfl] at hl
  obtain ⟨c0, c1, c2, rfl⟩ : ∃ c0 c1 c2, cs = [c0, c1, c2] := by
    match cs, hl with
    | [c0, c1, c2], _ => exact ⟨c0, c1, c2, rfl⟩
  obtain ⟨x0, e0, g0⟩ := Opens.field Tryz.underlying151 h hw 0 0 1 _ rfl rfl (show Tryz.prog.cellsOf 3 = 1 by kernel_rfl) (Opens.i64 Tryz.underlying3)
  replace e0 : [c0] = (fun x : Int => [.int .i64 x]) x0 := e0
  obtain ⟨x1, e1, g1⟩ := Opens.field Tryz.underlying151 h hw 1 1 1 _ rfl rfl (show Tryz.prog.cellsOf 9 = 1 by kernel_rfl) (Opens.string Tryz.underlying9)
  replace e1 : [c1] = (fun x : List UInt8 => [str x]) x1 := e1
  obtain ⟨x2, e2, g2⟩ := Opens.field Tryz.underlying151 h hw 2 2 1 _ rfl rfl (show Tryz.prog.cellsOf 9 = 1 by kernel_rfl) (Opens.string Tryz.underlying9)
  replace e2 : [c2] = (fun x : List UInt8 => [str x]) x2 := e2
  refine ⟨⟨x0, x1, x2⟩, ?_, g0, g1, g2⟩
  show [c0] ++ ([c1] ++ ([c2])) = _
  rw [e0, e1, e2]; rfl
theorem opens33 {H : Type} {ec : TypeId × Value → H} {W : World} {base : Nat} {spare : Nat → Bool} {held : Bool} : Opens ec Tryz.prog W base spare held 33 rcc (fun x : Rcd => (-9223372036854775808 ≤ x.k ∧ x.k ≤ 9223372036854775807) ∧ (Rd W x.ss.a x.ss.l.length 3 (x.ss.l.flatMap smc) ∧ x.ss.l.length * Tryz.prog.bytesOf 83 ≤ reachBytes ∧ ∀ xx ∈ x.ss.l, (Rd W xx.lb.a xx.lb.l.length 2 (xx.lb.l.flatMap prc) ∧ xx.lb.l.length * Tryz.prog.bytesOf 105 ≤ reachBytes ∧ ∀ xxx ∈ xx.lb.l, (xxx.n.length ≤ reachBytes) ∧ (xxx.v.length ≤ reachBytes)) ∧ (-9223372036854775808 ≤ xx.t ∧ xx.t ≤ 9223372036854775807) ∧ ((Lit.int .u64 xx.v).wf = true)) ∧ (Rd W x.ms.a x.ms.l.length 3 (x.ms.l.flatMap mtc) ∧ x.ms.l.length * Tryz.prog.bytesOf 151 ≤ reachBytes ∧ ∀ xx ∈ x.ms.l, (-9223372036854775808 ≤ xx.k ∧ xx.k ≤ 9223372036854775807) ∧ (xx.n.length ≤ reachBytes) ∧ (xx.v.length ≤ reachBytes)) ∧ (-9223372036854775808 ≤ x.fr ∧ x.fr ≤ 9223372036854775807) ∧ (-9223372036854775808 ≤ x.to ∧ x.to ≤ 9223372036854775807)) := fun n cs y h hw => by
  have hl := Opens.cells Tryz.underlying33 h
  rw [show Tryz.prog.cellsOf 33 = 5 by kernel_rfl] at hl
  obtain ⟨c0, c1, c2, c3, c4, rfl⟩ : ∃ c0 c1 c2 c3 c4, cs = [c0, c1, c2, c3, c4] := by
    match cs, hl with
    | [c0, c1, c2, c3, c4], _ => exact ⟨c0, c1, c2, c3, c4, rfl⟩
  obtain ⟨x0, e0, g0⟩ := Opens.field Tryz.underlying33 h hw 0 0 1 _ rfl rfl (show Tryz.prog.cellsOf 3 = 1 by kernel_rfl) (Opens.i64 Tryz.underlying3)
  replace e0 : [c0] = (fun x : Int => [.int .i64 x]) x0 := e0
  obtain ⟨x1, e1, g1⟩ := Opens.field Tryz.underlying33 h hw 1 1 1 _ rfl rfl (show Tryz.prog.cellsOf 31 = 1 by kernel_rfl) (Opens.slice Tryz.underlying31 (show Tryz.prog.cellsOf 83 = 3 by kernel_rfl) (by decide) (fun _ => rfl) opens83)
  replace e1 : [c1] = SlV.enc x1 := e1
  obtain ⟨x2, e2, g2⟩ := Opens.field Tryz.underlying33 h hw 2 2 1 _ rfl rfl (show Tryz.prog.cellsOf 24 = 1 by kernel_rfl) (Opens.slice Tryz.underlying24 (show Tryz.prog.cellsOf 151 = 3 by kernel_rfl) (by decide) (fun _ => rfl) opens151)
  replace e2 : [c2] = SlV.enc x2 := e2
  obtain ⟨x3, e3, g3⟩ := Opens.field Tryz.underlying33 h hw 3 3 1 _ rfl rfl (show Tryz.prog.cellsOf 2 = 1 by kernel_rfl) (Opens.i64 Tryz.underlying2)
  replace e3 : [c3] = (fun x : Int => [.int .i64 x]) x3 := e3
  obtain ⟨x4, e4, g4⟩ := Opens.field Tryz.underlying33 h hw 4 4 1 _ rfl rfl (show Tryz.prog.cellsOf 2 = 1 by kernel_rfl) (Opens.i64 Tryz.underlying2)
  replace e4 : [c4] = (fun x : Int => [.int .i64 x]) x4 := e4
  refine ⟨⟨x0, x1, x2, x3, x4⟩, ?_, g0, g1, g2, g3, g4⟩
  show [c0] ++ ([c1] ++ ([c2] ++ ([c3] ++ ([c4])))) = _
  rw [e0, e1, e2, e3, e4]; rfl
theorem opens51 {H : Type} {ec : TypeId × Value → H} {W : World} {base : Nat} {spare : Nat → Bool} {held : Bool} : Opens ec Tryz.prog W base spare held 51 blc (fun x : BlkV => (-9223372036854775808 ≤ x.first ∧ x.first ≤ 9223372036854775807) ∧ (-9223372036854775808 ≤ x.to ∧ x.to ≤ 9223372036854775807) ∧ (Rd W x.rs.a x.rs.l.length 3 (x.rs.l.flatMap mrc) ∧ x.rs.l.length * Tryz.prog.bytesOf 99 ≤ reachBytes ∧ ∀ xx ∈ x.rs.l, (Rd W xx.lb.a xx.lb.l.length 2 (xx.lb.l.flatMap prc) ∧ xx.lb.l.length * Tryz.prog.bytesOf 105 ≤ reachBytes ∧ ∀ xxx ∈ xx.lb.l, (xxx.n.length ≤ reachBytes) ∧ (xxx.v.length ≤ reachBytes)) ∧ (-9223372036854775808 ≤ xx.last ∧ xx.last ≤ 9223372036854775807) ∧ (Rd W xx.pt.a xx.pt.l.length 2 (xx.pt.l.flatMap ptc) ∧ xx.pt.l.length * Tryz.prog.bytesOf 103 ≤ reachBytes ∧ ∀ xxx ∈ xx.pt.l, (-9223372036854775808 ≤ xxx.t ∧ xxx.t ≤ 9223372036854775807) ∧ ((Lit.int .u64 xxx.v).wf = true))) ∧ (Rd W x.ds.a x.ds.l.length 5 (x.ds.l.flatMap rcc) ∧ x.ds.l.length * Tryz.prog.bytesOf 33 ≤ reachBytes ∧ ∀ xx ∈ x.ds.l, (-9223372036854775808 ≤ xx.k ∧ xx.k ≤ 9223372036854775807) ∧ (Rd W xx.ss.a xx.ss.l.length 3 (xx.ss.l.flatMap smc) ∧ xx.ss.l.length * Tryz.prog.bytesOf 83 ≤ reachBytes ∧ ∀ xxx ∈ xx.ss.l, (Rd W xxx.lb.a xxx.lb.l.length 2 (xxx.lb.l.flatMap prc) ∧ xxx.lb.l.length * Tryz.prog.bytesOf 105 ≤ reachBytes ∧ ∀ xxxx ∈ xxx.lb.l, (xxxx.n.length ≤ reachBytes) ∧ (xxxx.v.length ≤ reachBytes)) ∧ (-9223372036854775808 ≤ xxx.t ∧ xxx.t ≤ 9223372036854775807) ∧ ((Lit.int .u64 xxx.v).wf = true)) ∧ (Rd W xx.ms.a xx.ms.l.length 3 (xx.ms.l.flatMap mtc) ∧ xx.ms.l.length * Tryz.prog.bytesOf 151 ≤ reachBytes ∧ ∀ xxx ∈ xx.ms.l, (-9223372036854775808 ≤ xxx.k ∧ xxx.k ≤ 9223372036854775807) ∧ (xxx.n.length ≤ reachBytes) ∧ (xxx.v.length ≤ reachBytes)) ∧ (-9223372036854775808 ≤ xx.fr ∧ xx.fr ≤ 9223372036854775807) ∧ (-9223372036854775808 ≤ xx.to ∧ xx.to ≤ 9223372036854775807))) := fun n cs y h hw => by
  have hl := Opens.cells Tryz.underlying51 h
  rw [show Tryz.prog.cellsOf 51 = 4 by kernel_rfl] at hl
  obtain ⟨c0, c1, c2, c3, rfl⟩ : ∃ c0 c1 c2 c3, cs = [c0, c1, c2, c3] := by
    match cs, hl with
    | [c0, c1, c2, c3], _ => exact ⟨c0, c1, c2, c3, rfl⟩
  obtain ⟨x0, e0, g0⟩ := Opens.field Tryz.underlying51 h hw 0 0 1 _ rfl rfl (show Tryz.prog.cellsOf 3 = 1 by kernel_rfl) (Opens.i64 Tryz.underlying3)
  replace e0 : [c0] = (fun x : Int => [.int .i64 x]) x0 := e0
  obtain ⟨x1, e1, g1⟩ := Opens.field Tryz.underlying51 h hw 1 1 1 _ rfl rfl (show Tryz.prog.cellsOf 3 = 1 by kernel_rfl) (Opens.i64 Tryz.underlying3)
  replace e1 : [c1] = (fun x : Int => [.int .i64 x]) x1 := e1
  obtain ⟨x2, e2, g2⟩ := Opens.field Tryz.underlying51 h hw 2 2 1 _ rfl rfl (show Tryz.prog.cellsOf 49 = 1 by kernel_rfl) (Opens.slice Tryz.underlying49 (show Tryz.prog.cellsOf 99 = 3 by kernel_rfl) (by decide) (fun _ => rfl) opens99)
  replace e2 : [c2] = SlV.enc x2 := e2
  obtain ⟨x3, e3, g3⟩ := Opens.field Tryz.underlying51 h hw 3 3 1 _ rfl rfl (show Tryz.prog.cellsOf 23 = 1 by kernel_rfl) (Opens.slice Tryz.underlying23 (show Tryz.prog.cellsOf 33 = 5 by kernel_rfl) (by decide) (fun _ => rfl) opens33)
  replace e3 : [c3] = SlV.enc x3 := e3
  refine ⟨⟨x0, x1, x2, x3⟩, ?_, g0, g1, g2, g3⟩
  show [c0] ++ ([c1] ++ ([c2] ++ ([c3]))) = _
  rw [e0, e1, e2, e3]; rfl
theorem opensP22 {H : Type} {ec : TypeId × Value → H} {W : World} {base : Nat} {spare : Nat → Bool} {held : Bool} : Opens ec Tryz.prog W base spare held 22 SlV.enc (fun x : SlV (BlkV) => Rd W x.a x.l.length 4 (x.l.flatMap blc) ∧ x.l.length * Tryz.prog.bytesOf 51 ≤ reachBytes ∧ ∀ xx ∈ x.l, (-9223372036854775808 ≤ xx.first ∧ xx.first ≤ 9223372036854775807) ∧ (-9223372036854775808 ≤ xx.to ∧ xx.to ≤ 9223372036854775807) ∧ (Rd W xx.rs.a xx.rs.l.length 3 (xx.rs.l.flatMap mrc) ∧ xx.rs.l.length * Tryz.prog.bytesOf 99 ≤ reachBytes ∧ ∀ xxx ∈ xx.rs.l, (Rd W xxx.lb.a xxx.lb.l.length 2 (xxx.lb.l.flatMap prc) ∧ xxx.lb.l.length * Tryz.prog.bytesOf 105 ≤ reachBytes ∧ ∀ xxxx ∈ xxx.lb.l, (xxxx.n.length ≤ reachBytes) ∧ (xxxx.v.length ≤ reachBytes)) ∧ (-9223372036854775808 ≤ xxx.last ∧ xxx.last ≤ 9223372036854775807) ∧ (Rd W xxx.pt.a xxx.pt.l.length 2 (xxx.pt.l.flatMap ptc) ∧ xxx.pt.l.length * Tryz.prog.bytesOf 103 ≤ reachBytes ∧ ∀ xxxx ∈ xxx.pt.l, (-9223372036854775808 ≤ xxxx.t ∧ xxxx.t ≤ 9223372036854775807) ∧ ((Lit.int .u64 xxxx.v).wf = true))) ∧ (Rd W xx.ds.a xx.ds.l.length 5 (xx.ds.l.flatMap rcc) ∧ xx.ds.l.length * Tryz.prog.bytesOf 33 ≤ reachBytes ∧ ∀ xxx ∈ xx.ds.l, (-9223372036854775808 ≤ xxx.k ∧ xxx.k ≤ 9223372036854775807) ∧ (Rd W xxx.ss.a xxx.ss.l.length 3 (xxx.ss.l.flatMap smc) ∧ xxx.ss.l.length * Tryz.prog.bytesOf 83 ≤ reachBytes ∧ ∀ xxxx ∈ xxx.ss.l, (Rd W xxxx.lb.a xxxx.lb.l.length 2 (xxxx.lb.l.flatMap prc) ∧ xxxx.lb.l.length * Tryz.prog.bytesOf 105 ≤ reachBytes ∧ ∀ xxxxx ∈ xxxx.lb.l, (xxxxx.n.length ≤ reachBytes) ∧ (xxxxx.v.length ≤ reachBytes)) ∧ (-9223372036854775808 ≤ xxxx.t ∧ xxxx.t ≤ 9223372036854775807) ∧ ((Lit.int .u64 xxxx.v).wf = true)) ∧ (Rd W xxx.ms.a xxx.ms.l.length 3 (xxx.ms.l.flatMap mtc) ∧ xxx.ms.l.length * Tryz.prog.bytesOf 151 ≤ reachBytes ∧ ∀ xxxx ∈ xxx.ms.l, (-9223372036854775808 ≤ xxxx.k ∧ xxxx.k ≤ 9223372036854775807) ∧ (xxxx.n.length ≤ reachBytes) ∧ (xxxx.v.length ≤ reachBytes)) ∧ (-9223372036854775808 ≤ xxx.fr ∧ xxx.fr ≤ 9223372036854775807) ∧ (-9223372036854775808 ≤ xxx.to ∧ xxx.to ≤ 9223372036854775807))) := (Opens.slice Tryz.underlying22 (show Tryz.prog.cellsOf 51 = 4 by kernel_rfl) (by decide) (fun _ => rfl) opens51)
theorem opens_cap {P : Program} {H : Type} {ec : TypeId × Value → H} {W : World} {base : Nat} {spare : Nat → Bool} {held : Bool} {t e : TypeId} {α : Type} {good : SlV α → Prop} (ht : P.underlying t = some (.slice e)) (ho : Opens ec P W base spare held t (SlV.enc (α := α)) good) : Opens ec P W base spare held t (SlV.enc (α := α)) (fun s => good s ∧ s.l.length ≤ s.cap) := fun n cs y h hw => by
  obtain ⟨x, hx, hg⟩ := ho n cs y h hw
  refine ⟨x, hx, hg, ?_⟩
  rcases DataW.trod_slice ht h with ⟨e1, _⟩ | ⟨a, len, cap, _, _, _, _, e1, _, _, hl, _⟩
  · rw [hx] at e1; simp [SlV.enc] at e1; rw [e1.2.1]; exact Nat.zero_le _
  · rw [hx] at e1; simp [SlV.enc] at e1; omega
theorem opensC22 {H : Type} {ec : TypeId × Value → H} {W : World} {base : Nat} {spare : Nat → Bool} {held : Bool} : Opens ec Tryz.prog W base spare held 22 SlV.enc (fun x : SlV (BlkV) => (Rd W x.a x.l.length 4 (x.l.flatMap blc) ∧ x.l.length * Tryz.prog.bytesOf 51 ≤ reachBytes ∧ ∀ xx ∈ x.l, (-9223372036854775808 ≤ xx.first ∧ xx.first ≤ 9223372036854775807) ∧ (-9223372036854775808 ≤ xx.to ∧ xx.to ≤ 9223372036854775807) ∧ (Rd W xx.rs.a xx.rs.l.length 3 (xx.rs.l.flatMap mrc) ∧ xx.rs.l.length * Tryz.prog.bytesOf 99 ≤ reachBytes ∧ ∀ xxx ∈ xx.rs.l, (Rd W xxx.lb.a xxx.lb.l.length 2 (xxx.lb.l.flatMap prc) ∧ xxx.lb.l.length * Tryz.prog.bytesOf 105 ≤ reachBytes ∧ ∀ xxxx ∈ xxx.lb.l, (xxxx.n.length ≤ reachBytes) ∧ (xxxx.v.length ≤ reachBytes)) ∧ (-9223372036854775808 ≤ xxx.last ∧ xxx.last ≤ 9223372036854775807) ∧ (Rd W xxx.pt.a xxx.pt.l.length 2 (xxx.pt.l.flatMap ptc) ∧ xxx.pt.l.length * Tryz.prog.bytesOf 103 ≤ reachBytes ∧ ∀ xxxx ∈ xxx.pt.l, (-9223372036854775808 ≤ xxxx.t ∧ xxxx.t ≤ 9223372036854775807) ∧ ((Lit.int .u64 xxxx.v).wf = true))) ∧ (Rd W xx.ds.a xx.ds.l.length 5 (xx.ds.l.flatMap rcc) ∧ xx.ds.l.length * Tryz.prog.bytesOf 33 ≤ reachBytes ∧ ∀ xxx ∈ xx.ds.l, (-9223372036854775808 ≤ xxx.k ∧ xxx.k ≤ 9223372036854775807) ∧ (Rd W xxx.ss.a xxx.ss.l.length 3 (xxx.ss.l.flatMap smc) ∧ xxx.ss.l.length * Tryz.prog.bytesOf 83 ≤ reachBytes ∧ ∀ xxxx ∈ xxx.ss.l, (Rd W xxxx.lb.a xxxx.lb.l.length 2 (xxxx.lb.l.flatMap prc) ∧ xxxx.lb.l.length * Tryz.prog.bytesOf 105 ≤ reachBytes ∧ ∀ xxxxx ∈ xxxx.lb.l, (xxxxx.n.length ≤ reachBytes) ∧ (xxxxx.v.length ≤ reachBytes)) ∧ (-9223372036854775808 ≤ xxxx.t ∧ xxxx.t ≤ 9223372036854775807) ∧ ((Lit.int .u64 xxxx.v).wf = true)) ∧ (Rd W xxx.ms.a xxx.ms.l.length 3 (xxx.ms.l.flatMap mtc) ∧ xxx.ms.l.length * Tryz.prog.bytesOf 151 ≤ reachBytes ∧ ∀ xxxx ∈ xxx.ms.l, (-9223372036854775808 ≤ xxxx.k ∧ xxxx.k ≤ 9223372036854775807) ∧ (xxxx.n.length ≤ reachBytes) ∧ (xxxx.v.length ≤ reachBytes)) ∧ (-9223372036854775808 ≤ xxx.fr ∧ xxx.fr ≤ 9223372036854775807) ∧ (-9223372036854775808 ≤ xxx.to ∧ xxx.to ≤ 9223372036854775807))) ∧ x.l.length ≤ x.cap) := opens_cap Tryz.underlying22 opensP22
theorem szP_of {W : World} {l : List Pr} (h : ∀ p ∈ l, (p.n.length ≤ reachBytes) ∧ (p.v.length ≤ reachBytes)) : SzP l := fun p hp => ⟨Nat.le_trans (h p hp).1 (by decide), Nat.le_trans (h p hp).2 (by decide)⟩
theorem szM_of {l : List Mt} (h : ∀ p ∈ l, ((-9223372036854775808 ≤ p.k ∧ p.k ≤ 9223372036854775807) ∧ (p.n.length ≤ reachBytes) ∧ (p.v.length ≤ reachBytes))) : SzM l := fun p hp => ⟨Nat.le_trans (h p hp).2.1 (by decide), Nat.le_trans (h p hp).2.2 (by decide)⟩
theorem smp_of {W : World} {s : Smp} (h : (Rd W s.lb.a s.lb.l.length 2 (s.lb.l.flatMap prc) ∧ s.lb.l.length * Tryz.prog.bytesOf 105 ≤ reachBytes ∧ ∀ sx ∈ s.lb.l, (sx.n.length ≤ reachBytes) ∧ (sx.v.length ≤ reachBytes)) ∧ (-9223372036854775808 ≤ s.t ∧ s.t ≤ 9223372036854775807) ∧ ((Lit.int .u64 s.v).wf = true)) : (∀ {L : List HP} {w : World}, St W L w → St W (labA s.lb :: L) w) ∧ s.lb.l.length ≤ 4398046511104 ∧ SzP s.lb.l := by
  have hPair : Tryz.prog.bytesOf 105 = 32 := by kernel_rfl
  have e : reachBytes = 140737488351232 := by decide
  obtain ⟨⟨h1, h2, h3⟩, _⟩ := h
  rw [hPair] at h2
  exact ⟨fun hS => rdH_base (by decide) h1 hS, by omega, szP_of (W := W) h3⟩
theorem rec_of {W : World} {r : Rcd} (h : (-9223372036854775808 ≤ r.k ∧ r.k ≤ 9223372036854775807) ∧ (Rd W r.ss.a r.ss.l.length 3 (r.ss.l.flatMap smc) ∧ r.ss.l.length * Tryz.prog.bytesOf 83 ≤ reachBytes ∧ ∀ rx ∈ r.ss.l, (Rd W rx.lb.a rx.lb.l.length 2 (rx.lb.l.flatMap prc) ∧ rx.lb.l.length * Tryz.prog.bytesOf 105 ≤ reachBytes ∧ ∀ rxx ∈ rx.lb.l, (rxx.n.length ≤ reachBytes) ∧ (rxx.v.length ≤ reachBytes)) ∧ (-9223372036854775808 ≤ rx.t ∧ rx.t ≤ 9223372036854775807) ∧ ((Lit.int .u64 rx.v).wf = true)) ∧ (Rd W r.ms.a r.ms.l.length 3 (r.ms.l.flatMap mtc) ∧ r.ms.l.length * Tryz.prog.bytesOf 151 ≤ reachBytes ∧ ∀ rx ∈ r.ms.l, (-9223372036854775808 ≤ rx.k ∧ rx.k ≤ 9223372036854775807) ∧ (rx.n.length ≤ reachBytes) ∧ (rx.v.length ≤ reachBytes)) ∧ (-9223372036854775808 ≤ r.fr ∧ r.fr ≤ 9223372036854775807) ∧ (-9223372036854775808 ≤ r.to ∧ r.to ≤ 9223372036854775807)) : (∀ {L : List HP} {w : World}, St W L w → St W (recA r :: L) w) ∧ SzR r := by
  have hSample : Tryz.prog.bytesOf 83 = 40 := by kernel_rfl
  have hMatch : Tryz.prog.bytesOf 151 = 40 := by kernel_rfl
  have e : reachBytes = 140737488351232 := by decide
  obtain ⟨_, ⟨h1, h2, h3⟩, ⟨h4, h5, h6⟩, _⟩ := h
  rw [hSample] at h2
  rw [hMatch] at h5
  refine ⟨fun hS => ?_, by omega, by omega, szM_of h6, fun s hs => (smp_of (h3 s hs)).2⟩
  have k1 := allA_base (f := fun s : Smp => labA s.lb) (l := r.ss.l) (fun s hs => (smp_of (h3 s hs)).1) hS
  rw [← smsA_eq] at k1
  have k2 := St.join (rdH_base (by decide) h4 k1)
  exact St.join (rdH_base (by decide) h1 k2)
theorem row_of {W : World} {r : MRow} (h : (Rd W r.lb.a r.lb.l.length 2 (r.lb.l.flatMap prc) ∧ r.lb.l.length * Tryz.prog.bytesOf 105 ≤ reachBytes ∧ ∀ rx ∈ r.lb.l, (rx.n.length ≤ reachBytes) ∧ (rx.v.length ≤ reachBytes)) ∧ (-9223372036854775808 ≤ r.last ∧ r.last ≤ 9223372036854775807) ∧ (Rd W r.pt.a r.pt.l.length 2 (r.pt.l.flatMap ptc) ∧ r.pt.l.length * Tryz.prog.bytesOf 103 ≤ reachBytes ∧ ∀ rx ∈ r.pt.l, (-9223372036854775808 ≤ rx.t ∧ rx.t ≤ 9223372036854775807) ∧ ((Lit.int .u64 rx.v).wf = true))) : (∀ {L : List HP} {w : World}, St W L w → St W (mrA r :: L) w) ∧ r.lb.l.length ≤ 4398046511104 ∧ r.pt.l.length ≤ 8796093022208 ∧ SzP r.lb.l := by
  have hPair : Tryz.prog.bytesOf 105 = 32 := by kernel_rfl
  have hPoint : Tryz.prog.bytesOf 103 = 16 := by kernel_rfl
  have e : reachBytes = 140737488351232 := by decide
  obtain ⟨⟨h1, h2, h3⟩, _, ⟨h4, h5, _⟩⟩ := h
  rw [hPair] at h2
  rw [hPoint] at h5
  exact ⟨fun hS => St.join (rdH_base (by decide) h1 (rdH_base (by decide) h4 hS)), by omega, by omega, szP_of (W := W) h3⟩
theorem blk_of {W : World} {b : BlkV} (h : (-9223372036854775808 ≤ b.first ∧ b.first ≤ 9223372036854775807) ∧ (-9223372036854775808 ≤ b.to ∧ b.to ≤ 9223372036854775807) ∧ (Rd W b.rs.a b.rs.l.length 3 (b.rs.l.flatMap mrc) ∧ b.rs.l.length * Tryz.prog.bytesOf 99 ≤ reachBytes ∧ ∀ bx ∈ b.rs.l, (Rd W bx.lb.a bx.lb.l.length 2 (bx.lb.l.flatMap prc) ∧ bx.lb.l.length * Tryz.prog.bytesOf 105 ≤ reachBytes ∧ ∀ bxx ∈ bx.lb.l, (bxx.n.length ≤ reachBytes) ∧ (bxx.v.length ≤ reachBytes)) ∧ (-9223372036854775808 ≤ bx.last ∧ bx.last ≤ 9223372036854775807) ∧ (Rd W bx.pt.a bx.pt.l.length 2 (bx.pt.l.flatMap ptc) ∧ bx.pt.l.length * Tryz.prog.bytesOf 103 ≤ reachBytes ∧ ∀ bxx ∈ bx.pt.l, (-9223372036854775808 ≤ bxx.t ∧ bxx.t ≤ 9223372036854775807) ∧ ((Lit.int .u64 bxx.v).wf = true))) ∧ (Rd W b.ds.a b.ds.l.length 5 (b.ds.l.flatMap rcc) ∧ b.ds.l.length * Tryz.prog.bytesOf 33 ≤ reachBytes ∧ ∀ bx ∈ b.ds.l, (-9223372036854775808 ≤ bx.k ∧ bx.k ≤ 9223372036854775807) ∧ (Rd W bx.ss.a bx.ss.l.length 3 (bx.ss.l.flatMap smc) ∧ bx.ss.l.length * Tryz.prog.bytesOf 83 ≤ reachBytes ∧ ∀ bxx ∈ bx.ss.l, (Rd W bxx.lb.a bxx.lb.l.length 2 (bxx.lb.l.flatMap prc) ∧ bxx.lb.l.length * Tryz.prog.bytesOf 105 ≤ reachBytes ∧ ∀ bxxx ∈ bxx.lb.l, (bxxx.n.length ≤ reachBytes) ∧ (bxxx.v.length ≤ reachBytes)) ∧ (-9223372036854775808 ≤ bxx.t ∧ bxx.t ≤ 9223372036854775807) ∧ ((Lit.int .u64 bxx.v).wf = true)) ∧ (Rd W bx.ms.a bx.ms.l.length 3 (bx.ms.l.flatMap mtc) ∧ bx.ms.l.length * Tryz.prog.bytesOf 151 ≤ reachBytes ∧ ∀ bxx ∈ bx.ms.l, (-9223372036854775808 ≤ bxx.k ∧ bxx.k ≤ 9223372036854775807) ∧ (bxx.n.length ≤ reachBytes) ∧ (bxx.v.length ≤ reachBytes)) ∧ (-9223372036854775808 ≤ bx.fr ∧ bx.fr ≤ 9223372036854775807) ∧ (-9223372036854775808 ≤ bx.to ∧ bx.to ≤ 9223372036854775807))) : (∀ {L : List HP} {w : World}, St W L w → St W (blA b :: L) w) ∧ MzB b := by
  have hRow : Tryz.prog.bytesOf 99 = 56 := by kernel_rfl
  have hRecord : Tryz.prog.bytesOf 33 = 72 := by kernel_rfl
  have e : reachBytes = 140737488351232 := by decide
  obtain ⟨_, _, ⟨h1, h2, h3⟩, ⟨h4, h5, h6⟩⟩ := h
  rw [hRow] at h2
  rw [hRecord] at h5
  refine ⟨fun hS => ?_, by omega, by omega, fun r hr => (row_of (h3 r hr)).2, fun d hd => (rec_of (h6 d hd)).2⟩
  have k1 := allA_base (f := recA) (l := b.ds.l) (fun d hd => (rec_of (h6 d hd)).1) hS
  have k2 := St.join (rdH_base (by decide) h4 k1)
  have k3 := St.join (allA_base (f := mrA) (l := b.rs.l) (fun r hr => (row_of (h3 r hr)).1) k2)
  exact St.join (rdH_base (by decide) h1 k3)

theorem tells_row {W w : World} {L : List HP} {x0 : SlV BlkV} (mark : Int) (h0 : (Rd W x0.a x0.l.length 4 (x0.l.flatMap blc) ∧ x0.l.length * Tryz.prog.bytesOf 51 ≤ reachBytes ∧ ∀ x0x ∈ x0.l, (-9223372036854775808 ≤ x0x.first ∧ x0x.first ≤ 9223372036854775807) ∧ (-9223372036854775808 ≤ x0x.to ∧ x0x.to ≤ 9223372036854775807) ∧ (Rd W x0x.rs.a x0x.rs.l.length 3 (x0x.rs.l.flatMap mrc) ∧ x0x.rs.l.length * Tryz.prog.bytesOf 99 ≤ reachBytes ∧ ∀ x0xx ∈ x0x.rs.l, (Rd W x0xx.lb.a x0xx.lb.l.length 2 (x0xx.lb.l.flatMap prc) ∧ x0xx.lb.l.length * Tryz.prog.bytesOf 105 ≤ reachBytes ∧ ∀ x0xxx ∈ x0xx.lb.l, (x0xxx.n.length ≤ reachBytes) ∧ (x0xxx.v.length ≤ reachBytes)) ∧ (-9223372036854775808 ≤ x0xx.last ∧ x0xx.last ≤ 9223372036854775807) ∧ (Rd W x0xx.pt.a x0xx.pt.l.length 2 (x0xx.pt.l.flatMap ptc) ∧ x0xx.pt.l.length * Tryz.prog.bytesOf 103 ≤ reachBytes ∧ ∀ x0xxx ∈ x0xx.pt.l, (-9223372036854775808 ≤ x0xxx.t ∧ x0xxx.t ≤ 9223372036854775807) ∧ ((Lit.int .u64 x0xxx.v).wf = true))) ∧ (Rd W x0x.ds.a x0x.ds.l.length 5 (x0x.ds.l.flatMap rcc) ∧ x0x.ds.l.length * Tryz.prog.bytesOf 33 ≤ reachBytes ∧ ∀ x0xx ∈ x0x.ds.l, (-9223372036854775808 ≤ x0xx.k ∧ x0xx.k ≤ 9223372036854775807) ∧ (Rd W x0xx.ss.a x0xx.ss.l.length 3 (x0xx.ss.l.flatMap smc) ∧ x0xx.ss.l.length * Tryz.prog.bytesOf 83 ≤ reachBytes ∧ ∀ x0xxx ∈ x0xx.ss.l, (Rd W x0xxx.lb.a x0xxx.lb.l.length 2 (x0xxx.lb.l.flatMap prc) ∧ x0xxx.lb.l.length * Tryz.prog.bytesOf 105 ≤ reachBytes ∧ ∀ x0xxxx ∈ x0xxx.lb.l, (x0xxxx.n.length ≤ reachBytes) ∧ (x0xxxx.v.length ≤ reachBytes)) ∧ (-9223372036854775808 ≤ x0xxx.t ∧ x0xxx.t ≤ 9223372036854775807) ∧ ((Lit.int .u64 x0xxx.v).wf = true)) ∧ (Rd W x0xx.ms.a x0xx.ms.l.length 3 (x0xx.ms.l.flatMap mtc) ∧ x0xx.ms.l.length * Tryz.prog.bytesOf 151 ≤ reachBytes ∧ ∀ x0xxx ∈ x0xx.ms.l, (-9223372036854775808 ≤ x0xxx.k ∧ x0xxx.k ≤ 9223372036854775807) ∧ (x0xxx.n.length ≤ reachBytes) ∧ (x0xxx.v.length ≤ reachBytes)) ∧ (-9223372036854775808 ≤ x0xx.fr ∧ x0xx.fr ≤ 9223372036854775807) ∧ (-9223372036854775808 ≤ x0xx.to ∧ x0xx.to ≤ 9223372036854775807))) ∧ x0.l.length ≤ x0.cap) (hS : St W L w) :
    Does Tryz.prog 4 [.slice x0.a x0.l.length x0.cap, .int .i64 mark] w (fun v w1 => v = .bool true ∧ St W L w1) := by
  have hb0 : Tryz.prog.bytesOf 51 = 64 := by kernel_rfl
  have e : reachBytes = 140737488351232 := by decide
  obtain ⟨⟨a1, a2, a3⟩, a4⟩ := h0
  rw [hb0] at a2
  have k4 := allA_base (f := blA) (l := x0.l) (fun b hb => (blk_of (a3 b hb)).1) hS
  have k5 := rdH_base (k := 4) (by decide) a1 k4
  exact mergeTells_core (cap := x0.cap) (fun b hb => (blk_of (a3 b hb)).2) (by omega) a4 mark k5
end Go.Proofs.YtidoidoelgfnaaaGreatDoor.SL
