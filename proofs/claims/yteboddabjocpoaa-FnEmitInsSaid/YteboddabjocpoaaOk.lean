/- The machine's calls are sound over this place's program. -/
import Derived.Test.YteboddabjocpoaaTab
import Derived.Test.YteboddabjocpoaaAm6
set_option linter.all false
namespace Go.Am.Try
open Go Go.Am
set_option maxRecDepth 100000
noncomputable abbrev P0 : Program := Go.Proofs.Try.prog
theorem names_ok : ((List.range P0.funcs.size).all fun f => match P0.funcs[f]? with | some fn => !(fn.name == "runtime.NumGoroutine") | none => true) = true := by kernel_rfl
theorem mixed : P0.follows .mixedOrders = true := by kernel_rfl
theorem Fs_of {P : Program} {here : Nat → Bool} {T : Types} {neu lit : Nat → Bool} {an : Nat → An} {f : Nat} {rf : RFD} (h : (match here f with | true => (match P.funcs[f]? with | some fn => resFD T neu (lit f) (an f) fn | none => none) | false => none) = some rf) :
    ∃ fn, P.funcs[f]? = some fn ∧ resFD T neu (lit f) (an f) fn = some rf := by
  cases hh : here f with
  | false => rw [hh] at h; cases h
  | true =>
    rw [hh] at h
    simp only at h
    cases hf : P.funcs[f]? with
    | none => rw [hf] at h; cases h
    | some fn => rw [hf] at h; exact ⟨fn, rfl, h⟩
theorem Fs_ok (f : Nat) (rf : RFD) (h : Fs f = some rf) : Good P0 f ∧ ∃ fn lit an, P0.funcs[f]? = some fn ∧ resFD (tiOf P0) neuT lit an fn = some rf := by
  obtain ⟨fn, hfn, h⟩ := Fs_of (P := P0) h
  obtain ⟨c, _, hc, _⟩ := resF_of h
  have hlt : f < P0.funcs.size := (Array.getElem?_eq_some_iff.1 hfn).1
  have hn := List.all_eq_true.1 names_ok f (List.mem_range.2 hlt)
  rw [hfn] at hn
  exact ⟨⟨fn, c, hfn, by simpa using hn, hc⟩, fn, _, _, hfn, h⟩
theorem CC_ok (k : Nat) : CallOk P0 (CC k) := by
  rw [CC_eq]
  exact callD_ok (F := Fs) (sig := sigT) (orc := orcT) (neu := neuT) (fun _ _ h => h) mixed Fs_ok (fun f h => h) (fun f g h => by cases h) (fun f g h => by cases h) k
end Go.Am.Try
