/- Pairs as keys. -/
import Derived.Test.YtogidmceomlkeaaDoorMk
import Derived.Test.YtogidmceomlkeaaDoorKm4
namespace Go.Proofs.YtogidmceomlkeaaDoor.SL
open Go.RowKit Go.Proofs.YtogidmceomlkeaaDoor
open Go.Proofs.YtogidmceomlkeaaDoorW.PrintLast (rtab opsOf)
set_option linter.unusedVariables false
set_option linter.unusedSimpArgs false

def encPr (p : Pr) : Value := .agg #[str p.n, str p.v]
theorem eqIn_pair (p q : Pr) (w : World) : (Op.equalIn 10000 25 (.agg #[str p.n, str p.v]) (.agg #[str q.n, str q.v])).run Tryd.prog w = .ok (decide (p = q)) w := by
  have u3 := Tryd.underlying9
  have a3 := Tryd.isAgg9
  have z3 := Tryd.sizeOf9
  have hS : Tryd.prog.underlying 25 = some (.struct (Tryd.prog.fieldsOf 25)) := by kernel_rfl
  have hp : Tryd.prog.stoodInHeld 25 = false := by kernel_rfl
  rw [show (10000 : Nat) = 9999 + 1 from rfl, run_equalIn_agg w 9999 25 _ _ hS hp]
  simp only [Program.fieldsOf, Tryd.underlying25]
  go_simp
  obtain ⟨n, v⟩ := p
  obtain ⟨n', v'⟩ := q
  by_cases h1 : n = n' <;> by_cases h2 : v = v' <;> simp [h1, h2, ByteArray.toList_eq]
theorem pairKey : KeyL Tryd.prog 25 encPr where
  chk := fun b k w => by
    have u3 := Tryd.underlying9
    have a3 := Tryd.isAgg9
    have z3 := Tryd.sizeOf9
    have hk : ∀ (s : List UInt8) (w : World), (Instr.checkKey b 9999 9 (str s)).run Tryd.prog w = .ok () w := fun s w => by
      show (Instr.checkKey b (9998 + 1) 9 (str s)).run Tryd.prog w = .ok () w
      unfold Instr.checkKey
      simp only [Sem.run_bind, run_underlying u3, Result.andThen_ok]
      rfl
    show (Instr.checkKey b (9999 + 1) 25 (.agg #[str k.n, str k.v])).run Tryd.prog w = .ok () w
    unfold Instr.checkKey
    simp only [Sem.run_bind, run_underlying Tryd.underlying25, Result.andThen_ok]
    go_simp
  find := fun k ks es w h => find_notNow (d := .struct (Tryd.prog.fieldsOf 25)) (by kernel_rfl) (fun _ _ => rfl) (fun a b w => eqIn_pair a b w) k ks es w h
  same := fun k => by simp [encPr, Instr.sameBits, strBeq]
end Go.Proofs.YtogidmceomlkeaaDoor.SL
