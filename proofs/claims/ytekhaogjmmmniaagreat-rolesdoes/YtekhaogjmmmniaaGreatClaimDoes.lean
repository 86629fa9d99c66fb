/- The statement RolesDoesSaid of the given rows: proved for every input: no condition of its own. -/
import Derived.Test.YtekhaogjmmmniaaGreatPackDoesF
namespace Go.Proofs.YtekhaogjmmmniaaGreat
open Go Go.RowKit Go.ChangeShapes Go.WideShapes Go.ChangeAt

set_option maxRecDepth 100000 in
theorem rolesDoes_lifted (os : Os) (started : os.Started) (H : Type) (enc : TypeId × Value → H) :
    ReturnsInHanded {} Tryz.checked os 7 .any (Rows.rolesDoesSpec.pre6 enc Tryz.prog Tryz.f7 Rows.rolesDoesRow.domain false) (Rows.rolesDoesSpec.post enc Tryz.prog Tryz.f7 false true false false) := by
  refine returnsInHanded_of_change_sized (C := Tryz.checked) Tryz.own started (by kernel_rfl) Tryz.func7
    (ChangeSpec.witness6 (enc := enc) (C := Tryz.checked) false ⟨#[], #[.agg SRep.zero.cells, .agg (Array.replicate 32 (.int .u8 0)), .agg ARep.zero.cells], []⟩ 8 (by kernel_rfl) (by kernel_rfl) (by kernel_rfl) (by kernel_rfl)) ?_
  intro W base args ds gs before hval0 hW _ hsz0 _
  have hval : ∀ (j : Nat) t v, Tryz.f7.params[j]? = some t → args[j]? = some v → Value.okWide Tryz.prog W .any base t v := hval0
  have hsz : (DataW.weightsEach Tryz.prog (Tryz.f7.params.toList ++ []) (ds ++ gs)).all (· ≤ reachBytes) = true := hsz0
  have hW' := hW
  obtain ⟨p, q, hA0, hV, rfl, _, _⟩ := hW
  have hA : DataW.TrodAll enc Tryz.prog W 0 (fun _ => true) true Tryz.f7.params.toList args.toList ds p := hA0
  rw [Tryz.params7] at hA hval hsz
  obtain ⟨rfl, rfl⟩ := trodVars_none hV
  obtain ⟨args⟩ := args
  simp only [List.append_nil] at hW' hsz
  obtain ⟨v0, r0, d0, e0, p0, q0, hr0, rfl, rfl, h0, hT0⟩ := trodAll_cons hA
  simp only at hr0; subst hr0
  obtain ⟨v1, r1, d1, e1, p1, q1, hr1, rfl, rfl, h1, hT1⟩ := trodAll_cons hT0
  subst hr1
  obtain ⟨v2, r2, d2, e2, p2, q2, hr2, rfl, rfl, h2, hT2⟩ := trodAll_cons hT1
  subst hr2
  obtain ⟨rfl, rfl, rfl⟩ := trodAll_nil hT2
  clear hA0 hval0 hsz0
  have hlt := hW'.lt
  obtain ⟨S0, k0, rfl, hS0⟩ := arg_State (hval 0 37 v0 rfl rfl) h0 (szds hsz 0 rfl rfl)
  obtain ⟨y1, rfl⟩ := arg_Pt (hval 1 24 v1 rfl rfl) h1
  obtain ⟨S2, k2, rfl, hS2⟩ := arg_Action (hval 2 42 v2 rfl rfl) h2 (szds hsz 2 rfl rfl)
  refine Ret.said ((f7 hS0 hS2 y1).mono fun v w h => ⟨by rw [h.1, does_true], h.2⟩) fun W' hK => ?_
  have hn := hK.below
  refine ⟨_, rfl, _, _, _, [], p0 ++ (p1 ++ (p2 ++ ([]))), [], hW', trodAll_mk1 (shut_bool Tryz.underlying4 _), ?_, rfl, hn.frame _, fun h => by cases h⟩
  exact trodAll_cons_mk (Below.trod Tryz.laidOut (by kernel_rfl) (of_decide_eq_true (by kernel_rfl)) h0 hn (fun x hx => hlt x (by simp [hx]))) (trodAll_cons_mk (Below.trod Tryz.laidOut (by kernel_rfl) (of_decide_eq_true (by kernel_rfl)) h1 hn (fun x hx => hlt x (by simp [hx]))) (trodAll_cons_mk (Below.trod Tryz.laidOut (by kernel_rfl) (of_decide_eq_true (by kernel_rfl)) h2 hn (fun x hx => hlt x (by simp [hx]))) (trodAll_mk0)))

theorem rolesDoes : Rows.RolesDoesSaid :=
  OpenClaim.holds_of_wide 7 Tryz.f7 rfl rfl rfl rfl rfl rfl rfl ⟨rfl, rfl, rfl, rfl, rfl⟩ rfl rfl rfl rfl rfl (by kernel_rfl) Tryz.func7 (by kernel_rfl)
    (of_decide_eq_true (by kernel_rfl)) (by unfold Func.isWrapper; rw [if_neg (of_decide_eq_false (by kernel_rfl))]; exact ⟨rfl, rfl⟩)
    (fun os started H enc _ => rolesDoes_lifted os started H enc)

#print axioms rolesDoes
end Go.Proofs.YtekhaogjmmmniaaGreat
