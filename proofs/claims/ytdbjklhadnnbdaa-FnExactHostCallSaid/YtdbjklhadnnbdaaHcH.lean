/- HostCall: what the arguments are. -/
import Derived.Test.YtdbjklhadnnbdaaHcG
import Derived.Test.YtdbjklhadnnbdaaAbs6
set_option linter.unusedVariables false
set_option linter.unusedSimpArgs false
open Go Go.Abs Go.Proofs V1
namespace H8
theorem deal_of {d : Nat} {l : List AV} (h : OfT T (d + 2) 130 l) : ∃ r : Deal, l = dealR r := by
  obtain ⟨_, _, rfl, ⟨k, rfl⟩, _, _, rfl, ⟨n, rfl⟩, _, _, rfl, ⟨s, rfl⟩, _, _, rfl, ⟨t, rfl⟩, rfl⟩ := h
  exact ⟨⟨k, n, s, t⟩, rfl⟩
theorem host_of {l : List AV} (h : OfT T 10 56 l) : ∃ gr st q tk ds, l = hstR ⟨gr, st, q, tk, ds⟩ := by
  obtain ⟨_, _, rfl, ⟨r1, rfl, h1⟩, _, _, rfl, ⟨r2, rfl, h2⟩, _, _, rfl, ⟨r3, rfl, h3⟩, _, _, rfl, ⟨tk, rfl⟩, _, _, rfl, ⟨r5, rfl, h5⟩, rfl⟩ := h
  obtain ⟨gr, rfl⟩ := rows_map boolR h1
  obtain ⟨st, rfl⟩ := rows_map intR h2
  obtain ⟨q, rfl⟩ := rows_map intR h3
  obtain ⟨ds, rfl⟩ := rows_map dealR fun row hr => deal_of (d := 6) (h5 row hr)
  exact ⟨gr, st, q, tk, ds, rfl⟩
theorem data_of {l : List AV} (h : OfT T 10 57 l) : ∃ st bk ce he ba ou, l = datR ⟨st, bk, ce, he, ba, ou⟩ := by
  obtain ⟨_, _, rfl, ⟨r1, rfl, h1⟩, _, _, rfl, ⟨r2, rfl, h2⟩, _, _, rfl, ⟨r3, rfl, h3⟩, _, _, rfl, ⟨he, rfl⟩, _, _, rfl, ⟨ba, rfl⟩, _, _, rfl, ⟨ou, rfl⟩, rfl⟩ := h
  obtain ⟨st, rfl⟩ := rows_map intR h1
  obtain ⟨bk, rfl⟩ := rows_map intR h2
  obtain ⟨ce, rfl⟩ := rows_map intR h3
  exact ⟨st, bk, ce, he, ba, ou, rfl⟩
theorem int_of {x : AV} (h : OfT T 10 3 [x]) : ∃ n, x = .int .i64 n := by
  obtain ⟨n, h1⟩ := h
  injection h1 with h1
  exact ⟨n, h1⟩
end H8
