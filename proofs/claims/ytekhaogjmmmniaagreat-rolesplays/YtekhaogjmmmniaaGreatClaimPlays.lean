/- The statement RolesPlaysSaid of the given rows: proved for every input: no condition of its own. -/
import Derived.Test.YtekhaogjmmmniaaGreatPackPlaysF
namespace Go.Proofs.YtekhaogjmmmniaaGreat
open Go Go.RowKit Go.ChangeShapes Go.WideShapes Go.ChangeAt

set_option maxRecDepth 100000 in
theorem rolesPlays_lifted (os : Os) (started : os.Started) (H : Type) (enc : TypeId × Value → H) :
    ReturnsInHanded {} Tryz.checked os 5 .any (Rows.rolesPlaysSpec.pre6 enc Tryz.prog Tryz.f5 Rows.rolesPlaysRow.domain false) (Rows.rolesPlaysSpec.post enc Tryz.prog Tryz.f5 false true false false) := by
  refine returnsInHanded_of_change_sized (C := Tryz.checked) Tryz.own started (by kernel_rfl) Tryz.func5
    (ChangeSpec.witness6 (enc := enc) (C := Tryz.checked) false ⟨#[], #[.slice none 0 0], []⟩ 8 (by kernel_rfl) (by kernel_rfl) (by kernel_rfl) (by kernel_rfl)) ?_
  intro W base args ds gs before hval0 hW _ hsz0 _
  have hval : ∀ (j : Nat) t v, Tryz.f5.params[j]? = some t → args[j]? = some v → Value.okWide Tryz.prog W .any base t v := hval0
  have hsz : (DataW.weightsEach Tryz.prog (Tryz.f5.params.toList ++ []) (ds ++ gs)).all (· ≤ reachBytes) = true := hsz0
  have hW' := hW
  obtain ⟨p, q, hA0, hV, rfl, _, _⟩ := hW
  have hA : DataW.TrodAll enc Tryz.prog W 0 (fun _ => true) true Tryz.f5.params.toList args.toList ds p := hA0
  rw [Tryz.params5] at hA hval hsz
  obtain ⟨rfl, rfl⟩ := trodVars_none hV
  obtain ⟨args⟩ := args
  simp only [List.append_nil] at hW' hsz
  obtain ⟨v0, r0, d0, e0, p0, q0, hr0, rfl, rfl, h0, hT0⟩ := trodAll_cons hA
  simp only at hr0; subst hr0
  obtain ⟨rfl, rfl, rfl⟩ := trodAll_nil hT0
  clear hA0 hval0 hsz0
  have hlt := hW'.lt
  obtain ⟨s0, l0, rfl, hS0, hV0⟩ := arg_Moves (hval 0 57 v0 rfl rfl) h0 (szds hsz 0 rfl rfl)
  refine Ret.said (f5 hS0 hV0) fun W' hK => ?_
  have hn := hK.below
  refine ⟨_, rfl, _, _, _, [], p0 ++ ([]), [], hW', trodAll_mk1 (shut_bool Tryz.underlying4 _), ?_, rfl, hn.frame _, fun h => by cases h⟩
  exact trodAll_cons_mk (Below.trod Tryz.laidOut (by kernel_rfl) (of_decide_eq_true (by kernel_rfl)) h0 hn (fun x hx => hlt x (by simp [hx]))) (trodAll_mk0)

theorem rolesPlays : Rows.RolesPlaysSaid :=
  OpenClaim.holds_of_wide 5 Tryz.f5 rfl rfl rfl rfl rfl rfl rfl ⟨rfl, rfl, rfl, rfl, rfl⟩ rfl rfl rfl rfl rfl (by kernel_rfl) Tryz.func5 (by kernel_rfl)
    (of_decide_eq_true (by kernel_rfl)) (by unfold Func.isWrapper; rw [if_neg (of_decide_eq_false (by kernel_rfl))]; exact ⟨rfl, rfl⟩)
    (fun os started H enc _ => rolesPlays_lifted os started H enc)

#print axioms rolesPlays
end Go.Proofs.YtekhaogjmmmniaaGreat
