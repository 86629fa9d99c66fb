/- The statement RolesBackSaid of the given rows: proved for every input: no condition of its own. -/
import Derived.Test.YtekhaogjmmmniaaGreatPackBackF
namespace Go.Proofs.YtekhaogjmmmniaaGreat
open Go Go.RowKit Go.ChangeShapes Go.WideShapes Go.ChangeAt

set_option maxRecDepth 100000 in
theorem rolesBack_lifted (os : Os) (started : os.Started) (H : Type) (enc : TypeId × Value → H) :
    ReturnsInHanded {} Tryz.checked os 8 .any (Rows.rolesBackSpec.pre6 enc Tryz.prog Tryz.f8 Rows.rolesBackRow.domain false) (Rows.rolesBackSpec.post enc Tryz.prog Tryz.f8 false true false false) := by
  refine returnsInHanded_of_change_sized (C := Tryz.checked) Tryz.own started (by kernel_rfl) Tryz.func8
    (ChangeSpec.witness6 (enc := enc) (C := Tryz.checked) false ⟨#[], #[.agg SRep.zero.cells, .agg (Array.replicate 32 (.int .u8 0)), .agg (Array.replicate 64 (.int .u8 0)), .int .u8 0], []⟩ 8 (by kernel_rfl) (by kernel_rfl) (by kernel_rfl) (by kernel_rfl)) ?_
  intro W base args ds gs before hval0 hW _ hsz0 _
  have hval : ∀ (j : Nat) t v, Tryz.f8.params[j]? = some t → args[j]? = some v → Value.okWide Tryz.prog W .any base t v := hval0
  have hsz : (DataW.weightsEach Tryz.prog (Tryz.f8.params.toList ++ []) (ds ++ gs)).all (· ≤ reachBytes) = true := hsz0
  have hW' := hW
  obtain ⟨p, q, hA0, hV, rfl, _, _⟩ := hW
  have hA : DataW.TrodAll enc Tryz.prog W 0 (fun _ => true) true Tryz.f8.params.toList args.toList ds p := hA0
  rw [Tryz.params8] at hA hval hsz
  obtain ⟨rfl, rfl⟩ := trodVars_none hV
  obtain ⟨args⟩ := args
  simp only [List.append_nil] at hW' hsz
  obtain ⟨v0, r0, d0, e0, p0, q0, hr0, rfl, rfl, h0, hT0⟩ := trodAll_cons hA
  simp only at hr0; subst hr0
  obtain ⟨v1, r1, d1, e1, p1, q1, hr1, rfl, rfl, h1, hT1⟩ := trodAll_cons hT0
  subst hr1
  obtain ⟨v2, r2, d2, e2, p2, q2, hr2, rfl, rfl, h2, hT2⟩ := trodAll_cons hT1
  subst hr2
  obtain ⟨v3, r3, d3, e3, p3, q3, hr3, rfl, rfl, h3, hT3⟩ := trodAll_cons hT2
  subst hr3
  obtain ⟨rfl, rfl, rfl⟩ := trodAll_nil hT3
  clear hA0 hval0 hsz0
  have hlt := hW'.lt
  obtain ⟨S0, k0, rfl, hS0⟩ := arg_State (hval 0 37 v0 rfl rfl) h0 (szds hsz 0 rfl rfl)
  obtain ⟨y1, rfl⟩ := arg_Pt (hval 1 24 v1 rfl rfl) h1
  obtain ⟨y2, rfl⟩ := arg_Cipher (hval 2 40 v2 rfl rfl) h2
  obtain ⟨y3, rfl⟩ := arg_role (hval 3 28 v3 rfl rfl) h3
  refine Ret.said ((f8 hS0 y1 y2 y3).mono fun v w h => ⟨by rw [h.1, back_true], h.2⟩) fun W' hK => ?_
  have hn := hK.below
  refine ⟨_, rfl, _, _, _, [], p0 ++ (p1 ++ (p2 ++ (p3 ++ ([])))), [], hW', trodAll_mk1 (shut_bool Tryz.underlying4 _), ?_, rfl, hn.frame _, fun h => by cases h⟩
  exact trodAll_cons_mk (Below.trod Tryz.laidOut (by kernel_rfl) (of_decide_eq_true (by kernel_rfl)) h0 hn (fun x hx => hlt x (by simp [hx]))) (trodAll_cons_mk (Below.trod Tryz.laidOut (by kernel_rfl) (of_decide_eq_true (by kernel_rfl)) h1 hn (fun x hx => hlt x (by simp [hx]))) (trodAll_cons_mk (Below.trod Tryz.laidOut (by kernel_rfl) (of_decide_eq_true (by kernel_rfl)) h2 hn (fun x hx => hlt x (by simp [hx]))) (trodAll_cons_mk (Below.trod Tryz.laidOut (by kernel_rfl) (of_decide_eq_true (by kernel_rfl)) h3 hn (fun x hx => hlt x (by simp [hx]))) (trodAll_mk0))))

theorem rolesBack : Rows.RolesBackSaid :=
  OpenClaim.holds_of_wide 8 Tryz.f8 rfl rfl rfl rfl rfl rfl rfl ⟨rfl, rfl, rfl, rfl, rfl⟩ rfl rfl rfl rfl rfl (by kernel_rfl) Tryz.func8 (by kernel_rfl)
    (of_decide_eq_true (by kernel_rfl)) (by unfold Func.isWrapper; rw [if_neg (of_decide_eq_false (by kernel_rfl))]; exact ⟨rfl, rfl⟩)
    (fun os started H enc _ => rolesBack_lifted os started H enc)

#print axioms rolesBack
end Go.Proofs.YtekhaogjmmmniaaGreat
