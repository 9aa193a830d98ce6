/- Pairs as keys. -/
import Derived.Test.YtogidmceomlkeaaGreatDoorMk
import Derived.Test.YtogidmceomlkeaaGreatDoorKm4
namespace Go.Proofs.YtogidmceomlkeaaGreatDoor.SL
open Go.RowKit Go.Proofs.YtogidmceomlkeaaGreatDoor
open Go.Proofs.YtogidmceomlkeaaGreatDoorW.PrintLast (rtab opsOf)
set_option linter.unusedVariables false
set_option linter.unusedSimpArgs false

def encPr (p : Pr) : Value := .agg #[str p.n, str p.v]
theorem eqIn_pair (p q : Pr) (w : World) : (Op.equalIn 10000 35 (.agg #[str p.n, str p.v]) (.agg #[str q.n, str q.v])).run Tryz.prog w = .ok (decide (p = q)) w := by
  have u3 := Tryz.underlying9
  have a3 := Tryz.isAgg9
  have z3 := Tryz.sizeOf9
  have hS : Tryz.prog.underlying 35 = some (.struct (Tryz.prog.fieldsOf 35)) := by kernel_rfl
  have hp : Tryz.prog.stoodInHeld 35 = false := by kernel_rfl
  rw [show (10000 : Nat) = 9999 + 1 from rfl, run_equalIn_agg w 9999 35 _ _ hS hp]
  simp only [Program.fieldsOf, Tryz.underlying35]
  go_simp
  obtain ⟨n, v⟩ := p
  obtain ⟨n', v'⟩ := q
  by_cases h1 : n = n' <;> by_cases h2 : v = v' <;> simp [h1, h2, ByteArray.toList_eq]
theorem pairKey : KeyL Tryz.prog 35 encPr where
  chk := fun b k w => by
    have u3 := Tryz.underlying9
    have a3 := Tryz.isAgg9
    have z3 := Tryz.sizeOf9
    have hk : ∀ (s : List UInt8) (w : World), (Instr.checkKey b 9999 9 (str s)).run Tryz.prog w = .ok () w := fun s w => by
      show (Instr.checkKey b (9998 + 1) 9 (str s)).run Tryz.prog w = .ok () w
      unfold Instr.checkKey
      simp only [Sem.run_bind, run_underlying u3, Result.andThen_ok]
      rfl
    show (Instr.checkKey b (9999 + 1) 35 (.agg #[str k.n, str k.v])).run Tryz.prog w = .ok () w
    unfold Instr.checkKey
    simp only [Sem.run_bind, run_underlying Tryz.underlying35, Result.andThen_ok]
    go_simp
  find := fun k ks es w h => find_notNow (d := .struct (Tryz.prog.fieldsOf 35)) (by kernel_rfl) (fun _ _ => rfl) (fun a b w => eqIn_pair a b w) k ks es w h
  same := fun k => by simp [encPr, Instr.sameBits, strBeq]
end Go.Proofs.YtogidmceomlkeaaGreatDoor.SL
