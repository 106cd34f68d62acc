/- SorterNetworks: the plain law. -/
import Derived.Test.YtmgjohlaoflebaaSbLSorterNetworks
namespace Go.Proofs.Ytmgjohlaoflebaa.Sb
open Go.RowKit
theorem alive_true : juntolaw14_alive.f 400 = some true := by decide +kernel
theorem alive_ok : ∀ k, 400 ≤ k → juntolaw14_alive.f k = some true := fun k hk => by
  obtain ⟨d, rfl⟩ := Nat.exists_eq_add_of_le hk
  clear hk
  induction d with
  | zero => exact alive_true
  | succ d ih => exact juntolaw14_alive.mono _ _ ih
theorem networks_in : ∀ m : Fin 33, juntolaw14_SorterNetworks.f 3000 (m.val : Int) = some true := by decide +kernel
theorem Pure_SorterNetworks : juntolaw14_SorterNetworks.Pure := by
  intro a0 _
  by_cases h0 : a0 < 0
  · refine ⟨401, ?_⟩
    simp only [juntolaw14_SorterNetworks.f, sorter_Network.f, if_pos h0, Option.bind_some, juntolaw14_SorterNetworks.j0]
    simp [alive_true]
  by_cases h1 : a0 > 32
  · refine ⟨401, ?_⟩
    simp only [juntolaw14_SorterNetworks.f, sorter_Network.f, if_neg h0, if_pos h1, Option.bind_some, juntolaw14_SorterNetworks.j0, decide_eq_true h1]
    simp [alive_true]
  · refine ⟨3000, ?_⟩
    have := networks_in ⟨a0.toNat, by omega⟩
    rwa [show ((⟨a0.toNat, by omega⟩ : Fin 33).val : Int) = a0 by show ((a0.toNat : Nat) : Int) = a0; omega] at this
end Go.Proofs.Ytmgjohlaoflebaa.Sb
