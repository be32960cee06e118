/- FnEmitIns answers true for every slice of bytes: the steps of a drawn place of a list are the reference's, right, at most four, and the last makes what the place makes in its home. No condition beyond the given row's own. -/
import Derived.Test.YteboddabjocpoaaRows
import Derived.Test.YteboddabjocpoaaOk
import Derived.Test.YteboddabjocpoaaEI9
import Derived.WalkKit
import Derived.ProofKit
import Derived.OpenShut
import Derived.ShutString
import Derived.ChangeOld
import Derived.Below
import Derived.SizedLaws
set_option linter.all false
namespace Go.Proofs.Yteboddabjocpoaa.fnEmitIns
open Go.ChangeShapes Go.WideShapes Go.ChangeAt Go.RowKit Go.Am
open Go.ChangeMaps (open_string shut_string)
theorem own : ownKnob Try.prog.godebug = none := by kernel_rfl
theorem laidOut : laidOutB Try.prog = true := by kernel_rfl

theorem bytes_es : ∀ (es : List (List V)), (∀ c ∈ es, ∃ n, c = [V.i IntKind.u8 n] ∧ (Lit.int IntKind.u8 n).wf = true) → ∃ l, es = Go.Am.Try.by_ l
  | [], _ => ⟨[], rfl⟩
  | c :: es, h => by
    obtain ⟨l, rfl⟩ := bytes_es es fun c hc => h c (by simp [hc])
    obtain ⟨n, rfl, _⟩ := h c (by simp)
    exact ⟨n :: l, rfl⟩
theorem bytes_of {vs : List V} (h : HasT (.sl (.int .u8)) vs) : ∃ l, vs = [.tl false 1 (Go.Am.Try.by_ l)] := by
  simp only [HasT] at h
  obtain ⟨es, rfl, _, he⟩ := h
  obtain ⟨l, rfl⟩ := bytes_es es he
  exact ⟨l, rfl⟩

set_option maxRecDepth 100000 in
theorem lifted (os : Os) (started : os.Started) (H : Type) (enc : TypeId × Value → H) :
    ReturnsInHanded {} Try.checked os 4 .any (Rows.fnEmitInsSpec.pre6 enc Try.prog Try.f4 Rows.fnEmitInsRow.domain false) (Rows.fnEmitInsSpec.post enc Try.prog Try.f4 false true false false) := by
  refine returnsInHanded_of_change_sized (C := Try.checked) own started (by kernel_rfl) Try.func4
    (ChangeSpec.witness6 (enc := enc) (C := Try.checked) false ⟨#[], #[.slice none 0 0], []⟩ 8 (by kernel_rfl) (by kernel_rfl) (by kernel_rfl) (by kernel_rfl)) ?_
  intro W base args ds gs before hval0 hW hcnd hsz0 _
  have hval : ∀ (j : Nat) t v, Try.f4.params[j]? = some t → args[j]? = some v → Value.okWide Try.prog W .any base t v := hval0
  have hW' := hW
  obtain ⟨p, q, hA0, hV, rfl, hfz, hnd⟩ := hW
  have hA : DataW.TrodAll enc Try.prog W 0 (fun _ => true) true Try.f4.params.toList args.toList ds p := hA0
  rw [Try.params4] at hA hval
  obtain ⟨v0, vs0, d0, ds0, p0, q0, hargs, rfl, rfl, h0, r0⟩ := trodAll_cons hA
  obtain ⟨rfl, rfl, rfl⟩ := trodAll_nil r0
  obtain rfl : args = #[v0] := by cases args; simp_all
  obtain ⟨rfl, rfl⟩ := trodVars_none hV
  have k0 := h0
  have lt0 : ∀ x ∈ p0, x.block < W.heap.size := by obtain ⟨m, hm⟩ := k0; exact DataW.trod_lt m _ _ _ hm
  obtain ⟨a0, len0, cap0, rfl⟩ := okWide_slice Try.underlying22 (hval 0 22 v0 rfl rfl)
  obtain ⟨fuel, hf⟩ := h0
  obtain ⟨vs, t1, t2, _⟩ := open_T 4 fuel 22 (.sl (.int .u8)) _ _ (by kernel_rfl) hf
  obtain ⟨l, rfl⟩ := bytes_of t1
  have hvr : VR W [] (fun _ => False) (.tl false 1 (Go.Am.Try.by_ l)) (.slice a0 len0 cap0) := (t2.2 0 _ _ rfl rfl).1
  have run := calls_true (Go.Am.Try.CC_ok (8192 + 20)) (Go.Am.Try.FnEmitIns_ok (k := 8192) (K := fun v _ => v = .b true) (w := false) (code := l) (Nat.le_refl _) (fun _ => rfl)) (vals := #[.slice a0 len0 cap0]) (W := W) rfl (by
    intro n x v hx hv
    cases n with
    | zero => simp at hx hv; subst hx; subst hv; exact hvr
    | succ n => simp at hx)
  refine run.mono fun e W' ⟨he, bel⟩ => ?_
  subst he
  exact ⟨_, rfl, _, _, _, [], _, [], hW', trodAll_mk1 (shut_bool Try.underlying4 _), (trodAll_cons_mk (Below.trod laidOut (by kernel_rfl) (of_decide_eq_true (by kernel_rfl)) k0 bel lt0) trodAll_mk0), rfl, bel.frame _, fun h => by cases h⟩
theorem over : Rows.fnEmitInsRow.holds Try.pinned (OpenSpec.ofChange Rows.fnEmitInsSpec) :=
  OpenClaim.holds_of_wide 4 Try.f4 rfl rfl rfl rfl rfl rfl rfl ⟨rfl, rfl, rfl, rfl, rfl⟩ rfl rfl rfl rfl rfl (by kernel_rfl) Try.func4 (by kernel_rfl)
    (of_decide_eq_true (by kernel_rfl)) (by unfold Func.isWrapper; first | (rw [if_pos (by decide +kernel)]; kernel_rfl) | (rw [if_neg (by decide +kernel)]; exact ⟨rfl, rfl⟩))
    (fun os started H enc _ => lifted os started H enc)
theorem proved : Rows.FnEmitInsSaid := over
end Go.Proofs.Yteboddabjocpoaa.fnEmitIns
namespace Go.Proofs.Yteboddabjocpoaa
/-- The row, under a short name, for the claim. -/
theorem fnEmitIns_holds : Rows.FnEmitInsSaid := fnEmitIns.proved
#print axioms fnEmitIns_holds
end Go.Proofs.Yteboddabjocpoaa
