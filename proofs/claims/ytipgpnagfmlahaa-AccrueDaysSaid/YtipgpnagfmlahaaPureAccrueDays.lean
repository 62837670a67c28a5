/- The plain statement of AccrueDays: the program's days and the document's are the same. -/
import Derived.Test.YtipgpnagfmlahaaPuAcc
namespace Go.Proofs.Ytipgpnagfmlahaa
open Go Go.Pm

theorem Pure.AccrueDays : ∀ (x0 : lombardref03_Meter) (x1 : Int) (x2 : Int) (x3 : Int), (lombardref03_Meter.bd x0) → (inK .i64 x1) → (inK .i64 x2) → (inK .i64 x3) → lombardlaw03_AccrueDays.f x0 x1 x2 x3 = some true := by
  intro x0 x1 x2 x3 h0 h1 h2 h3
  have hU : inI64 x0.Units := in64 h0.1
  have hR : inI64 x0.Rest := in64 h0.2.1
  unfold lombardlaw03_AccrueDays.f
  have e := ref_day_is x0.Units x0.Rest x1 x2 hU hR
  obtain ⟨d1, d2⟩ := days_is x0.Units x0.Rest x1 x2 x3 hU hR
  have d2' : lombardref03_Meter_Days.f x0 x1 x2 x3 = _ := d2
  have e' : lombardref03_Meter_Day.f x0 x1 x2 = _ := e
  rw [day_is _ _ _ _ hU hR, Option.bind_some, e', Option.bind_some, awake_is, d1, d2', Option.bind_some, Option.bind_some]
  simp

end Go.Proofs.Ytipgpnagfmlahaa

