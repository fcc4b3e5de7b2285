/- For every two numbers of 64 bits, the program's CountCommandWords answers what the reference's does. -/
import Derived.Test.YtollpomnfpkaeaaPFnExactCountCommandWordsx1
namespace Go.Proofs.Ytollpomnfpkaeaa.Pure
open Go.RowKit Go.Proofs.Ytollpomnfpkaeaa.PFnExactCountCommandWords Go.Proofs.YtollpomnfpkaeaaW.PrintWords Go.Proofs.YtollpomnfpkaeaaW.PrintLast
set_option linter.unusedVariables false
set_option linter.unusedSimpArgs false

theorem w64 {x : Int} (h1 : -9223372036854775808 ≤ x) (h2 : x ≤ 9223372036854775807) : wrap64 x = x := by
  unfold wrap64
  omega
theorem wf_lo {a : Int} (h : (Lit.int .i64 a).wf = true) : -9223372036854775808 ≤ a := by
  have h' : IntKind.i64.min ≤ a ∧ a ≤ IntKind.i64.max := by simpa [Lit.wf] using h
  have e : IntKind.i64.min = -9223372036854775808 := by decide
  omega
theorem wf_hi {a : Int} (h : (Lit.int .i64 a).wf = true) : a ≤ 9223372036854775807 := by
  have h' : IntKind.i64.min ≤ a ∧ a ≤ IntKind.i64.max := by simpa [Lit.wf] using h
  have e : IntKind.i64.max = 9223372036854775807 := by decide
  omega
theorem ev_congr_fun {α : Type} {g f : Nat → Option α} {r : α} (h : g = f) (k : Ev f r) : Ev g r := h ▸ k
theorem rd_mid (pre : List Int) (x : Int) (rest : List Int) : rd (pre ++ x :: rest) (pre.length : Int) = x := by
  simp [rd]
theorem FnExactCountCommandWords : laws_FnExactCountCommandWords.Pure := by
  intro a0 a1 w0 w1
  refine ⟨3, ?_⟩
  unfold laws_FnExactCountCommandWords.f spec_CountCommandWords.f impl_CountCommandWords.f impl_isWay.f
  simp only [spec_l1In.f, impl_in.f]
  by_cases h1 : 0 ≤ a0
  · by_cases h2 : a0 ≤ 24
    · by_cases h3 : 0 ≤ a1
      · by_cases h4 : a1 ≤ 3
        · by_cases h5 : a0 = 0
          · subst h5
            by_cases h6 : a1 = 0 <;> simp [h3, h4, h6, spec_CountCommandWords.j0, impl_CountCommandWords.j0]
          · have h7 : 0 < a0 := by omega
            simp [h1, h2, h3, h4, h5, h7, spec_CountCommandWords.j0, impl_CountCommandWords.j0]
            have e1 : wrap64 (a0 - 1) = a0 - 1 := w64 (by omega) (by omega)
            have e2 : wrap64 (2 * (a0 - 1)) = 2 * (a0 - 1) := w64 (by omega) (by omega)
            have h8 : 0 ≤ 2 * (a0 - 1) := by omega
            simp [e1, e2, h8]
        · simp [h1, h2, h3, h4, spec_CountCommandWords.j0, impl_CountCommandWords.j0]
      · simp [h1, h2, h3, spec_CountCommandWords.j0, impl_CountCommandWords.j0]
    · simp [h1, h2, spec_CountCommandWords.j0, impl_CountCommandWords.j0]
  · simp [h1, spec_CountCommandWords.j0, impl_CountCommandWords.j0]

end Go.Proofs.Ytollpomnfpkaeaa.Pure
