import Derived.Test.YtegcibphlpanfaaGreatDoorSl9
/-! Results that lie in cells. -/
namespace Go.Proofs.YtegcibphlpanfaaGreatDoor.SL
open Go.RowKit
set_option linter.unusedVariables false
variable {P : Program} {n : Nat} {D : List Deferred} {T : Tm} {w : World}
/-- What a result is: a temporary's value, or what is loaded of its place. -/
inductive OutC (P : Program) (T : Tm) (w : World) : ResultVar → Value → Prop
  | tmp {t : Tmp} {v : Value} (h : look T t = some v) : OutC P T w (.tmp t) v
  | cell {a : Tmp} {t : TypeId} {p : Addr} {v : Value} (h : look T a = some (.pointer (some p))) (hl : (loadVar t p).run P w = .ok v w) : OutC P T w (.cell a t) v
inductive OutsC (P : Program) (T : Tm) (w : World) : List ResultVar → List Value → Prop
  | nil : OutsC P T w [] []
  | cons {r : ResultVar} {v : Value} {rs : List ResultVar} {vs : List Value} (h : OutC P T w r v) (t : OutsC P T w rs vs) : OutsC P T w (r :: rs) (v :: vs)
theorem loadVar_agg {t : TypeId} {p : Addr} {k : Nat} {vs : List Value} (ha : aggB P t = some true) (hs : sizeB P t = some k) (hk : vs.length = k) (hc : ∀ j, j < vs.length → w.cell? (p.add j) = vs[j]?) : (loadVar t p).run P w = .ok (.agg vs.toArray) w := by
  simp [loadVar, run_isAgg ha, run_sizeOf hs, run_loadCells hk hc]
theorem loadVar_one {t : TypeId} {p : Addr} {v : Value} (ha : aggB P t = some false) (hc : w.cell? p = some v) : (loadVar t p).run P w = .ok v w := by
  simp [loadVar, run_isAgg ha, load, Sem.run, hc]
theorem outC_run {a : Act} (f : Fits n D T a) {r : ResultVar} {v : Value} (h : OutC P T w r v) : (resOf a.tmps r).run P w = .ok v w := by
  cases h with
  | tmp h => rename_i t; have hv : a.tmps.getD t undef = v := by simp [f.out t v h]
             simp [resOf, hv]
  | cell h hl => rename_i b t p; have hv : a.tmps.getD b undef = .pointer (some p) := by simp [f.out b _ h]
                 simp [resOf, hv, asAddr, hl]
theorem outsC_map {a : Act} (f : Fits n D T a) {l : List ResultVar} {vs : List Value} (h : OutsC P T w l vs) : (l.mapM (resOf a.tmps)).run P w = .ok vs w := by
  induction h with
  | nil => rfl
  | cons h t ih => simp [List.mapM_cons, outC_run f h, ih]
theorem resultsC_ok {fn : Func} {a : Act} (f : Fits n D T a) {vs : List Value} {l : List ResultVar} (hr : fn.results = l.toArray) (h : OutsC P T w l vs) : (results fn a.tmps).run P w = .ok (one vs) w := by
  have := outsC_map f h
  rw [results_eq, hr, List.mapM_toArray]
  simp [this, one]
  split
  · rename_i h1
    obtain ⟨v, rfl⟩ := List.length_eq_one_iff.1 h1
    rfl
  · rename_i h1
    split
    · exact absurd rfl h1
    · rfl
theorem NX.doneC {fn : Func} {Φ : Value → World → Prop} {l : List ResultVar} {vs : List Value} (hr : fn.results = l.toArray) (ht : OutsC P T w l vs) (h : Φ (one vs) w) : NX n [] (bodyPost P fn (SL.ret Φ)) .ret T w :=
  fun a f => ⟨f.defs, _, resultsC_ok f hr ht, _, rfl, h⟩
end Go.Proofs.YtegcibphlpanfaaGreatDoor.SL
