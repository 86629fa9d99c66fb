/- Part 6 of the proof of RolesApartSaid: what the functions reached compute, in plain words and by walks through their code. No statement of the rows is proved here. -/
import Derived.Test.YtekhaogjmmmniaaGreatPackApartE
namespace Go.Proofs.YtekhaogjmmmniaaGreat
open Go Go.RowKit

theorem f15z {A : Nat → Prop} {w : World} {S : State} {q : Six} (hS : StV A w q S) : Ret 15 #[.agg (S.rep q).cells, .agg SRep.zero.cells] w (fun v w' => v = .bool (sameState S State.zero) ∧ Keeps [] w w') := by
  have h := f15 hS (stvZero (fun _ => True) w)
  rw [zero_rep] at h
  exact h
theorem step_err {S : State} {by_ : Pt} {a : Action} (h : ¬ (stepS S by_ a).1 = 0) : (stepS S by_ a).2 = State.zero := by
  revert h
  unfold stepS
  cases (okS S && okAct a)
  · exact fun _ => rfl
  cases decide (a.ver.toNat = S.ver.toNat + 1)
  · exact fun _ => rfl
  cases decide (S.seats.length = 0)
  · cases decide (mayE S by_ a (roleOf S.seats by_) = 0)
    · exact fun _ => rfl
    cases decide ((doS S by_ a (roleOf S.seats by_)).1 = 0)
    · exact fun _ => rfl
    · exact fun h => absurd rfl h
  · exact fun _ => rfl
/-- What stands behind a step that is done. -/
structure Done (S : State) (by_ : Pt) (a : Action) (T : State) : Prop where
  ok : OkState S
  act : okAct a = true
  ver : a.ver.toNat = S.ver.toNat + 1
  some_ : ¬ S.seats.length = 0
  may : mayE S by_ a (roleOf S.seats by_) = 0
  do_ : (doS S by_ a (roleOf S.seats by_)).1 = 0
  res : T = { (doS S by_ a (roleOf S.seats by_)).2 with ver := a.ver }
theorem step_ok {S : State} {by_ : Pt} {a : Action} (h : (stepS S by_ a).1 = 0) : Done S by_ a (stepS S by_ a).2 := by
  unfold stepS at *
  cases h1 : (okS S && okAct a)
  · rw [h1] at h; cases h
  rw [h1] at h
  simp only [cond_true] at h ⊢
  cases h2 : decide (a.ver.toNat = S.ver.toNat + 1)
  · rw [h2] at h; cases h
  rw [h2] at h
  simp only [cond_true] at h ⊢
  cases h3 : decide (S.seats.length = 0)
  · rw [h3] at h
    simp only [cond_false] at h ⊢
    cases h4 : decide (mayE S by_ a (roleOf S.seats by_) = 0)
    · rw [h4] at h
      simp only [cond_false] at h
      exact absurd h (of_decide_eq_false h4)
    rw [h4] at h
    simp only [cond_true] at h ⊢
    cases h5 : decide ((doS S by_ a (roleOf S.seats by_)).1 = 0)
    · rw [h5] at h
      simp only [cond_false] at h
      exact absurd h (of_decide_eq_false h5)
    · rw [Bool.and_eq_true] at h1
      exact ⟨okS_iff.1 h1.1, h1.2, of_decide_eq_true h2, of_decide_eq_false h3, of_decide_eq_true h4, of_decide_eq_true h5, rfl⟩
  · rw [h3] at h; cases h

/-! ## Where somebody stands -/
theorem place_def (S : State) (e : Pt) : placeOf S e = match S.seats.find? (isK Seat.key e) with
    | some x => (1, x.role.toNat * 4294967296 + x.joined.toNat, Pt.zero)
    | none => match S.invites.find? (isK Invite.key e) with
      | some x => (2, x.role.toNat, x.by_.E)
      | none => match S.asks.find? (isK Ask.key e) with
        | some x => (3, x.at_.toNat, Pt.zero)
        | none => match S.bans.find? (isK Ban.key e) with
          | some x => (4, 0, x.by_.E)
          | none => (0, 0, Pt.zero) := rfl
theorem findK_no {α : Type} {key : α → Pt} {l : List α} {e : Pt} (h : hasK key l e = false) : l.find? (isK key e) = none := by
  rw [has_find?] at h
  cases hf : l.find? (isK key e) with
  | none => rfl
  | some x => rw [hf] at h; cases h
theorem place_apart {S : State} {e : Pt} (h : ¬ (1 ≤ (placeOf S e).1 ∧ (placeOf S e).1 ≤ 3)) : hasK Seat.key S.seats e = false ∧ hasK Invite.key S.invites e = false ∧ hasK Ask.key S.asks e = false := by
  rw [place_def] at h
  rw [has_find?, has_find?, has_find?]
  cases h1 : S.seats.find? (isK Seat.key e) with
  | some x => rw [h1] at h; exact absurd ⟨Nat.le_refl _, by simp⟩ h
  | none =>
    rw [h1] at h
    cases h2 : S.invites.find? (isK Invite.key e) with
    | some x => rw [h2] at h; exact absurd ⟨by simp, by simp⟩ h
    | none =>
      rw [h2] at h
      cases h3 : S.asks.find? (isK Ask.key e) with
      | some x => rw [h3] at h; exact absurd ⟨by simp, by simp⟩ h
      | none => exact ⟨rfl, rfl, rfl⟩
theorem place_none {S : State} {e : Pt} (h1 : hasK Seat.key S.seats e = false) (h2 : hasK Invite.key S.invites e = false) (h3 : hasK Ask.key S.asks e = false) (h4 : hasK Ban.key S.bans e = false) : placeOf S e = (0, 0, Pt.zero) := by
  rw [place_def, findK_no h1, findK_no h2, findK_no h3, findK_no h4]
theorem role_no {l : List Seat} {e : Pt} (h : hasK Seat.key l e = false) : roleOf l e = 0 := by
  unfold roleOf
  rw [show seatIs e = isK Seat.key e from rfl, findK_no h]
theorem right0 (l : UInt8) : rightE 0 l = 191 := by simp [rightE]

noncomputable def apartB (S : State) (by_ : Pt) (a : Action) : Bool :=
  cond (largeB S a) true (cond (!decide ((stepS S by_ a).1 = 0) || (decide (1 ≤ (placeOf S by_).1) && decide ((placeOf S by_).1 ≤ 3))) (decide ((stepS S by_ a).1 = 0) || sameState (stepS S by_ a).2 State.zero)
    (decide ((placeOf S by_).1 = 0) && (decide (a.kind = 9) || decide (a.kind = 10)) && decide (0 < S.pass.length) && decide (a.pass = S.pass) && decide (a.who.E = by_)))
theorem newc_ok {S : State} {a : Action} {link : UInt8} {inv asked : Bool} (h : newcE S a link inv asked = 0) : hasK Ban.key S.bans a.who.E = false ∧ hasK Seat.key S.seats a.who.E = false ∧
    (inv = true → hasK Invite.key S.invites a.who.E = false) ∧ (asked = true → hasK Ask.key S.asks a.who.E = false) ∧ (¬ link = 0 → 0 < S.pass.length ∧ S.pass = a.pass) := by
  unfold newcE at h
  cases h1 : hasK Ban.key S.bans a.who.E with
  | true => rw [h1] at h; cases h
  | false =>
    rw [h1] at h
    simp only [cond_false] at h
    cases h2 : (hasK Seat.key S.seats a.who.E || (inv && hasK Invite.key S.invites a.who.E) || (asked && hasK Ask.key S.asks a.who.E)) with
    | true => rw [h2] at h; cases h
    | false =>
      rw [h2] at h
      simp only [cond_false] at h
      simp only [Bool.or_eq_false_iff, Bool.and_eq_false_iff] at h2
      refine ⟨rfl, h2.1.1, fun hi => ?_, fun hi => ?_, fun hl => ?_⟩
      · rcases h2.1.2 with h3 | h3
        · rw [hi] at h3; cases h3
        · exact h3
      · rcases h2.2 with h3 | h3
        · rw [hi] at h3; cases h3
        · exact h3
      · rw [show decide (link = 0) = false from decide_eq_false hl] at h
        simp only [Bool.not_false, Bool.true_and] at h
        cases h4 : decide (S.acc.link = link) with
        | false => rw [h4] at h; cases h
        | true =>
          rw [h4] at h
          simp only [Bool.not_true, cond_false] at h
          cases h5 : (decide (S.pass.length = 0) || !decide (S.pass = a.pass)) with
          | true => rw [h5] at h; cases h
          | false =>
            simp only [Bool.or_eq_false_iff, decide_eq_false_iff_not, Bool.not_eq_false', decide_eq_true_eq] at h5
            exact ⟨by omega, h5.2⟩
theorem may0 {S : State} {by_ : Pt} {a : Action} (h : mayE S by_ a 0 = 0) : a.kind = 7 ∨ a.kind = 8 ∨ a.kind = 11 ∨ ((a.kind = 9 ∨ a.kind = 10) ∧ a.who.E = by_) := by
  unfold mayE at h
  simp only [right0] at h
  cases h1 : (decide (a.kind = 1) || decide (a.kind = 5) || decide (a.kind = 12)) with
  | true => rw [h1] at h; simp at h
  | false =>
    rw [h1] at h
    simp only [cond_false] at h
    cases h2 : decide (a.kind = 16) with
    | true => rw [h2] at h; cases h
    | false =>
      rw [h2] at h
      simp only [cond_false] at h
      cases h3 : (decide (a.kind = 4) || decide (a.kind = 6)) with
      | true => rw [h3] at h; cases h
      | false =>
        rw [h3] at h
        simp only [cond_false] at h
        cases h4 : (decide (a.kind = 7) || decide (a.kind = 8) || decide (a.kind = 11)) with
        | true =>
          simp only [Bool.or_eq_true, decide_eq_true_eq] at h4
          rcases h4 with (h4 | h4) | h4
          · exact .inl h4
          · exact .inr (.inl h4)
          · exact .inr (.inr (.inl h4))
        | false =>
          rw [h4] at h
          simp only [cond_false] at h
          cases h5 : (decide (a.kind = 9) || decide (a.kind = 10)) with
          | false => rw [h5] at h; cases h
          | true =>
            rw [h5] at h
            simp only [cond_true] at h
            simp only [Bool.or_eq_true, decide_eq_true_eq] at h5
            cases h6 : decide (a.who.E = by_) with
            | false => rw [h6] at h; cases h
            | true => exact .inr (.inr (.inr ⟨h5, of_decide_eq_true h6⟩))
theorem apart_true (S : State) (by_ : Pt) (a : Action) : apartB S by_ a = true := by
  unfold apartB
  cases hl : largeB S a
  · simp only [cond_false]
    by_cases h0 : (stepS S by_ a).1 = 0
    · by_cases hw : 1 ≤ (placeOf S by_).1 ∧ (placeOf S by_).1 ≤ 3
      · simp [h0, hw]
      · obtain ⟨k1, k2, k3⟩ := place_apart hw
        have d := step_ok h0
        have hm := d.may; have hd := d.do_
        rw [role_no k1] at hm hd
        have fin : ∀ {link : UInt8} {x y : Bool}, a.kind = 9 ∨ a.kind = 10 → newcE S a link x y = 0 → ¬ link = 0 → a.who.E = by_ → cond (!decide ((stepS S by_ a).1 = 0) || (decide (1 ≤ (placeOf S by_).1) && decide ((placeOf S by_).1 ≤ 3))) (decide ((stepS S by_ a).1 = 0) || sameState (stepS S by_ a).2 State.zero)
            (decide ((placeOf S by_).1 = 0) && (decide (a.kind = 9) || decide (a.kind = 10)) && decide (0 < S.pass.length) && decide (a.pass = S.pass) && decide (a.who.E = by_)) = true := fun {link x y} hk hn hl he => by
          obtain ⟨n1, _, _, _, n5⟩ := newc_ok hn
          rw [he] at n1
          have hp := place_none k1 k2 k3 n1
          obtain ⟨n6, n7⟩ := n5 hl
          have hk' : (decide (a.kind = 9) || decide (a.kind = 10)) = true := by simpa using hk
          have hpl : decide (0 < S.pass.length) = true := decide_eq_true n6
          have hpp : decide (a.pass = S.pass) = true := decide_eq_true n7.symm
          simp only [h0, hp, hk', hpl, hpp, he]
          simp
        rcases may0 hm with hk | hk | hk | ⟨hk, he⟩
        · simp [doS, moreS, hk, k2] at hd
        · simp [doS, moreS, hk, k2] at hd
        · simp [doS, moreS, hk, k3] at hd
        · rcases hk with hk9 | hk10
          · refine fin (link := 1) (x := false) (y := false) (.inl hk9) ?_ (by decide) he
            simp only [doS, hk9] at hd
            apply Classical.byContradiction
            intro hc
            simp [hc] at hd
          · refine fin (link := 2) (x := true) (y := true) (.inr hk10) ?_ (by decide) he
            simp only [doS, hk10] at hd
            apply Classical.byContradiction
            intro hc
            simp [hc] at hd
    · rw [step_err h0]
      simp [h0, sameState_refl]
  · rfl
end Go.Proofs.YtekhaogjmmmniaaGreat
namespace Go.Proofs.YtekhaogjmmmniaaGreat
open Go Go.RowKit

set_option maxHeartbeats 4000000 in
theorem f6 {A : Nat → Prop} {w : World} {S : State} {q : Six} (hS : StV A w q S) {B : Nat → Prop} {a : Action} {qa : Two} (hA : AcV B w qa a) (by_ : Pt) : Ret 6 #[.agg (S.rep q).cells, .agg by_.cells, .agg (a.rep qa).cells] w (fun v w' => v = .bool (apartB S by_ a) ∧ Keeps [] w w') := by
  obtain ⟨hn1, hn2, hn3, hn4, hn5, hn6⟩ := hS.bd
  obtain ⟨hn7, hn8⟩ := hA.bd
  have hM0 := Mem.start w
  refine enter Tryz.func6 rfl rfl ?_
  refine c_seq ?_
  refine c_reg ?_
  refine l_box hM0 rfl rfl ?_
  intro b1 w2 hM3 hK4 hB5
  replace hM3 : Mem w [] [(b1, (SRep.cells ((SRep.mk S.ver S.key q.t S.acc q.p q.s q.i q.a q.b))), 37)] w2 := hM3
  refine l_box hM3 rfl rfl ?_
  intro b6 w7 hM8 hK9 hB10
  replace hM8 : Mem w [] [(b6, (Pt.cells by_), 24), (b1, (SRep.cells ((SRep.mk S.ver S.key q.t S.acc q.p q.s q.i q.a q.b))), 37)] w7 := hM8
  refine l_box hM8 rfl rfl ?_
  intro b11 w12 hM13 hK14 hB15
  replace hM13 : Mem w [] [(b11, (ARep.cells ((ARep.mk a.ver a.kind a.who a.E a.role qa.t a.acc qa.p))), 42), (b6, (Pt.cells by_), 24), (b1, (SRep.cells ((SRep.mk S.ver S.key q.t S.acc q.p q.s q.i q.a q.b))), 37)] w12 := hM13
  refine l_val (gn rfl) rfl rfl (r_assign rfl) ?_
  refine l_nil ?_
  refine c_seq ?_
  refine c_seq ?_
  refine c_reg ?_
  refine l_val (gn rfl) rfl rfl (r_loadA Tryz.isAgg37 Tryz.sizeOf37 (SRep.size _) rfl (hM13.base (i := 2) rfl)) ?_
  refine l_val (gn rfl) rfl rfl (r_loadA Tryz.isAgg42 Tryz.sizeOf42 (ARep.size _) rfl (hM13.base (i := 0) rfl)) ?_
  refine l_call (gn rfl) rfl rfl (r_call Tryz.call9 rfl) (f9 (hS.keep0 hM13.kp) (hA.keep0 hM13.kp)) ?_
  rintro v16 w17 ⟨rfl, hK18⟩
  have hM19 := hM13.keep hK18
  refine l_nil ?_
  refine ways (largeB S a) (fun h20 => ?_) (fun h20 => ?_)
  ·skip
   refine c_condT rfl h20 ?_
   refine c_seq ?_
   refine c_reg ?_
   refine l_call (gn rfl) rfl rfl (r_call Tryz.call10 rfl) (f10) ?_
   rintro v21 w22 ⟨rfl, hK23⟩
   have hM24 := hM19.keep hK23
   refine l_val (gn rfl) rfl rfl (r_assign rfl) ?_
   refine l_nil ?_
   refine c_ret ?_
   refine ret1 rfl rfl ?_
   exact ⟨by simp [apartB, *], hM24.kp⟩
  ·skip
   refine c_condF rfl h20 ?_
   refine c_skip ?_
   refine c_seq ?_
   refine c_reg ?_
   refine l_val (gn rfl) rfl rfl (r_loadA Tryz.isAgg37 Tryz.sizeOf37 (SRep.size _) rfl (hM19.base (i := 2) rfl)) ?_
   refine l_val (gn rfl) rfl rfl (r_loadA Tryz.isAgg24 Tryz.sizeOf24 (Pt.size _) rfl (hM19.base (i := 1) rfl)) ?_
   refine l_call (gn rfl) rfl rfl (r_call Tryz.call26 rfl) (f26 (hS.keep0 hM19.kp) by_) ?_
   rintro v25 w26 ⟨rfl, hK27⟩
   have hM28 := hM19.keep hK27
   refine l_val (gn rfl) rfl rfl (r_move rfl) ?_
   refine l_val (gn rfl) rfl rfl (r_extract rfl rfl) ?_
   refine l_val (gn rfl) rfl rfl (r_extract rfl rfl) ?_
   refine l_val (gn rfl) rfl rfl (r_extract rfl rfl) ?_
   refine l_alloc hM28 rfl zv_Pt ?_
   intro b29 w30 hM31 hK32 hB33
   replace hM31 : Mem w [] [(b29, (Pt.cells Pt.zero), 24), (b11, (ARep.cells ((ARep.mk a.ver a.kind a.who a.E a.role qa.t a.acc qa.p))), 42), (b6, (Pt.cells by_), 24), (b1, (SRep.cells ((SRep.mk S.ver S.key q.t S.acc q.p q.s q.i q.a q.b))), 37)] w30 := hM31
   refine l_val (gn rfl) rfl rfl (r_assign rfl) ?_
   refine l_val (gn rfl) rfl rfl (r_assign rfl) ?_
   refine l_store hM31 (i := 0) rfl Tryz.sizeOf24 rfl rfl (Pt.size _) (by rw [Pt.size]; decide) (Pt.one _) (put_whole _ _ ((Pt.size _).trans (Pt.size _).symm)) ?_
   intro w34 hM35 hK36
   replace hM35 : Mem w [] [(b29, (Pt.cells ((placeOf S by_).2.2)), 24), (b11, (ARep.cells ((ARep.mk a.ver a.kind a.who a.E a.role qa.t a.acc qa.p))), 42), (b6, (Pt.cells by_), 24), (b1, (SRep.cells ((SRep.mk S.ver S.key q.t S.acc q.p q.s q.i q.a q.b))), 37)] w34 := hM35
   refine l_nil ?_
   refine c_seq ?_
   refine c_reg ?_
   refine l_val (gn rfl) rfl rfl (r_loadA Tryz.isAgg37 Tryz.sizeOf37 (SRep.size _) rfl (hM35.base (i := 3) rfl)) ?_
   refine l_val (gn rfl) rfl rfl (r_loadA Tryz.isAgg24 Tryz.sizeOf24 (Pt.size _) rfl (hM35.base (i := 2) rfl)) ?_
   refine l_val (gn rfl) rfl rfl (r_loadA Tryz.isAgg42 Tryz.sizeOf42 (ARep.size _) rfl (hM35.base (i := 1) rfl)) ?_
   have hge1 : w.heap.size ≤ (w34).heap.size := hM35.kp.size
   refine l_call (gn rfl) rfl rfl (r_call Tryz.call13 rfl) (f13 (hS.keep0 hM35.kp) (hA.keep0 hM35.kp) by_) ?_
   rintro v39 w40 ⟨qo37, rfl, hO38, hK41⟩
   have hM42 := hM35.keep hK41
   refine l_val (gn rfl) rfl rfl (r_move rfl) ?_
   refine l_val (gn rfl) rfl rfl (r_extract rfl rfl) ?_
   refine l_val (gn rfl) rfl rfl (r_extract rfl rfl) ?_
   refine l_alloc hM42 rfl SRep.zv ?_
   intro b43 w44 hM45 hK46 hB47
   replace hM45 : Mem w [] [(b43, (SRep.cells SRep.zero), 37), (b29, (Pt.cells ((placeOf S by_).2.2)), 24), (b11, (ARep.cells ((ARep.mk a.ver a.kind a.who a.E a.role qa.t a.acc qa.p))), 42), (b6, (Pt.cells by_), 24), (b1, (SRep.cells ((SRep.mk S.ver S.key q.t S.acc q.p q.s q.i q.a q.b))), 37)] w44 := hM45
   have hBk48 := hM45.blk (i := 0) rfl
   refine l_store hM45 (i := 0) rfl Tryz.sizeOf37 rfl rfl (SRep.size _) (by rw [SRep.size]; decide) (SRep.one _) (put_whole _ _ ((SRep.size _).trans (SRep.size _).symm)) ?_
   intro w49 hM50 hK51
   replace hM50 : Mem w [] [(b43, (SRep.cells ((SRep.mk ((stepS S by_ a).2.ver) ((stepS S by_ a).2.key) qo37.t ((stepS S by_ a).2.acc) qo37.p qo37.s qo37.i qo37.a qo37.b))), 37), (b29, (Pt.cells ((placeOf S by_).2.2)), 24), (b11, (ARep.cells ((ARep.mk a.ver a.kind a.who a.E a.role qa.t a.acc qa.p))), 42), (b6, (Pt.cells by_), 24), (b1, (SRep.cells ((SRep.mk S.ver S.key q.t S.acc q.p q.s q.i q.a q.b))), 37)] w49 := hM50
   refine l_val (gn rfl) rfl rfl (r_assign rfl) ?_
   refine l_nil ?_
   refine c_seq ?_
   refine c_seq ?_
   refine c_reg ?_
   refine l_val (gn rfl) rfl rfl (r_move rfl) ?_
   refine l_val (gn rfl) rfl rfl (r_neq (b := (!(decide (((stepS S by_ a).1 : Nat) = 0)))) rfl rfl (congrArg Bool.not (neq' ((stepS S by_ a).1) 0))) ?_
   refine l_val (gn rfl) rfl rfl (r_move rfl) ?_
   refine ways (decide (((stepS S by_ a).1 : Nat) = 0)) (fun h52 => ?_) (fun h52 => ?_)
   ·skip
    have hp53 : ((stepS S by_ a).1 : Nat) = 0 := of_decide_eq_true h52
    refine l_val (gy rfl rfl rfl rfl (congrArg Bool.not h52)) rfl rfl (r_move rfl) ?_
    refine l_val (gy rfl rfl rfl rfl (congrArg Bool.not h52)) rfl rfl (r_geq (b := decide ((1 : Nat) ≤ (placeOf S by_).1)) rfl rfl (nle 1 ((placeOf S by_).1))) ?_
    refine l_val (gy rfl rfl rfl rfl (congrArg Bool.not h52)) rfl rfl (r_move rfl) ?_
    refine ways (decide ((1 : Nat) ≤ (placeOf S by_).1)) (fun h54 => ?_) (fun h54 => ?_)
    ·skip
     have hp55 : (1 : Nat) ≤ (placeOf S by_).1 := of_decide_eq_true h54
     refine l_val (gy rfl rfl rfl rfl h54) rfl rfl (r_move rfl) ?_
     refine l_val (gy rfl rfl rfl rfl h54) rfl rfl (r_leq (b := decide (((placeOf S by_).1 : Nat) ≤ 3)) rfl rfl (nle ((placeOf S by_).1) 3)) ?_
     refine l_val (gy rfl rfl rfl rfl (congrArg Bool.not h52)) rfl rfl (r_pickT rfl h54 rfl) ?_
     refine l_val (gn rfl) rfl rfl (r_pickF rfl (congrArg Bool.not h52) rfl) ?_
     refine l_nil ?_
     refine ways (decide (((placeOf S by_).1 : Nat) ≤ 3)) (fun h56 => ?_) (fun h56 => ?_)
     ·skip
      have hp57 : ((placeOf S by_).1 : Nat) ≤ 3 := of_decide_eq_true h56
      refine c_condT rfl h56 ?_
      refine c_seq ?_
      refine c_reg ?_
      refine l_val (gn rfl) rfl rfl (r_move rfl) ?_
      refine l_val (gn rfl) rfl rfl (r_eql (b := decide (((stepS S by_ a).1 : Nat) = 0)) rfl rfl (neq' ((stepS S by_ a).1) 0)) ?_
      refine l_val (gn rfl) rfl rfl (r_move rfl) ?_
      refine l_off (gno rfl rfl rfl rfl h52) rfl rfl ?_
      refine l_off (gno rfl rfl rfl rfl h52) rfl rfl ?_
      refine l_off (gno rfl rfl rfl rfl h52) rfl rfl ?_
      refine l_val (gn rfl) rfl rfl (r_pickT rfl h52 rfl) ?_
      refine l_val (gn rfl) rfl rfl (r_move rfl) ?_
      refine l_call (gy rfl rfl rfl rfl rfl) rfl rfl (r_call Tryz.call10 rfl) (f10) ?_
      rintro v58 w59 ⟨rfl, hK60⟩
      have hM61 := hM50.keep hK60
      refine l_val (gn rfl) rfl rfl (r_pickT rfl rfl rfl) ?_
      refine l_val (gn rfl) rfl rfl (r_assign rfl) ?_
      refine l_nil ?_
      refine c_ret ?_
      refine ret1 rfl rfl ?_
      exact ⟨by simp [apartB, *], hM61.kp⟩
     ·skip
      have hp62 : ¬ (((placeOf S by_).1 : Nat) ≤ 3) := of_decide_eq_false h56
      refine c_condF rfl h56 ?_
      refine c_skip ?_
      refine c_seq ?_
      refine c_reg ?_
      refine l_val (gn rfl) rfl rfl (r_move rfl) ?_
      refine l_val (gn rfl) rfl rfl (r_eql (b := decide (((placeOf S by_).1 : Nat) = 0)) rfl rfl (neq' ((placeOf S by_).1) 0)) ?_
      refine l_val (gn rfl) rfl rfl (r_move rfl) ?_
      refine ways (decide (((placeOf S by_).1 : Nat) = 0)) (fun h63 => ?_) (fun h63 => ?_)
      ·skip
       have hp64 : ((placeOf S by_).1 : Nat) = 0 := of_decide_eq_true h63
       refine l_val (gy rfl rfl rfl rfl h63) rfl rfl (r_fieldAddr ARep.fld_kind rfl) ?_
       refine l_val (gy rfl rfl rfl rfl h63) rfl rfl (r_load1 (v := vU8 a.kind) Tryz.isAgg38 rfl (Holds.sub (hM50.base (i := 2) rfl) (ARep.sub_kind _))) ?_
       refine l_val (gy rfl rfl rfl rfl h63) rfl rfl (r_eql (b := decide ((a.kind : UInt8) = 9)) rfl rfl (u8eq a.kind 9)) ?_
       refine l_val (gy rfl rfl rfl rfl h63) rfl rfl (r_move rfl) ?_
       refine ways (decide ((a.kind : UInt8) = 9)) (fun h65 => ?_) (fun h65 => ?_)
       ·skip
        have hp66 : (a.kind : UInt8) = 9 := of_decide_eq_true h65
        refine l_off (gno rfl rfl rfl rfl h65) rfl rfl ?_
        refine l_off (gno rfl rfl rfl rfl h65) rfl rfl ?_
        refine l_off (gno rfl rfl rfl rfl h65) rfl rfl ?_
        refine l_val (gy rfl rfl rfl rfl h63) rfl rfl (r_pickT rfl h65 rfl) ?_
        refine l_val (gn rfl) rfl rfl (r_pickT rfl h63 rfl) ?_
        refine l_val (gn rfl) rfl rfl (r_move rfl) ?_
        refine l_val (gy rfl rfl rfl rfl rfl) rfl rfl (r_fieldAddr SRep.fld_pass rfl) ?_
        refine l_val (gy rfl rfl rfl rfl rfl) rfl rfl (r_load1 (v := Sl.val q.p) Tryz.isAgg27 rfl (Holds.sub (hM50.base (i := 4) rfl) (SRep.sub_pass _))) ?_
        refine l_val (gy rfl rfl rfl rfl rfl) rfl rfl (r_lenR Tryz.underlying27 rfl (hS.pass.keep0 hM50.kp).len) ?_
        refine l_val (gy rfl rfl rfl rfl rfl) rfl rfl (r_gtr (b := decide ((0 : Nat) < S.pass.length)) rfl rfl (nlt 0 S.pass.length)) ?_
        refine l_val (gn rfl) rfl rfl (r_pickT rfl rfl rfl) ?_
        refine l_val (gn rfl) rfl rfl (r_move rfl) ?_
        refine ways (decide ((0 : Nat) < S.pass.length)) (fun h67 => ?_) (fun h67 => ?_)
        ·skip
         have hp68 : (0 : Nat) < S.pass.length := of_decide_eq_true h67
         refine l_val (gy rfl rfl rfl rfl h67) rfl rfl (r_fieldAddr ARep.fld_pass rfl) ?_
         refine l_val (gy rfl rfl rfl rfl h67) rfl rfl (r_load1 (v := Sl.val qa.p) Tryz.isAgg27 rfl (Holds.sub (hM50.base (i := 2) rfl) (ARep.sub_pass _))) ?_
         refine l_val (gy rfl rfl rfl rfl h67) rfl rfl (r_bstrR rfl (hA.pass.keep0 hM50.kp)) ?_
         refine l_val (gy rfl rfl rfl rfl h67) rfl rfl (r_fieldAddr SRep.fld_pass rfl) ?_
         refine l_val (gy rfl rfl rfl rfl h67) rfl rfl (r_load1 (v := Sl.val q.p) Tryz.isAgg27 rfl (Holds.sub (hM50.base (i := 4) rfl) (SRep.sub_pass _))) ?_
         refine l_val (gy rfl rfl rfl rfl h67) rfl rfl (r_bstrR rfl (hS.pass.keep0 hM50.kp)) ?_
         refine l_val (gy rfl rfl rfl rfl h67) rfl rfl (r_streq rfl rfl) ?_
         refine l_val (gn rfl) rfl rfl (r_pickT rfl h67 rfl) ?_
         refine l_val (gn rfl) rfl rfl (r_move rfl) ?_
         refine ways (decide (a.pass = S.pass)) (fun h69 => ?_) (fun h69 => ?_)
         ·skip
          have hp70 : a.pass = S.pass := of_decide_eq_true h69
          refine l_val (gy rfl rfl rfl rfl h69) rfl rfl (r_fieldAddr ARep.fld_who rfl) ?_
          refine l_val (gy rfl rfl rfl rfl h69) rfl rfl (r_fieldAddr Cipher.fld_E rfl) ?_
          refine l_val (gy rfl rfl rfl rfl h69) rfl rfl (r_loadA Tryz.isAgg24 Tryz.sizeOf24 (Pt.size _) rfl (Holds.sub (Holds.sub (hM50.base (i := 2) rfl) (ARep.sub_who _)) (Cipher.sub_E _))) ?_
          refine l_val (gy rfl rfl rfl rfl h69) rfl rfl (r_loadA Tryz.isAgg24 Tryz.sizeOf24 (Pt.size _) rfl (hM50.base (i := 3) rfl)) ?_
          refine l_val (gy rfl rfl rfl rfl h69) rfl rfl (r_eqPt Tryz.eqGuardType24 Tryz.underlying24 rfl rfl) ?_
          refine l_val (gn rfl) rfl rfl (r_pickT rfl h69 rfl) ?_
          refine l_val (gn rfl) rfl rfl (r_move rfl) ?_
          refine ways (decide (a.who.E = by_)) (fun h71 => ?_) (fun h71 => ?_)
          ·skip
           have hp72 : a.who.E = by_ := of_decide_eq_true h71
           refine l_call (gy rfl rfl rfl rfl h71) rfl rfl (r_call Tryz.call10 rfl) (f10) ?_
           rintro v73 w74 ⟨rfl, hK75⟩
           have hM76 := hM50.keep hK75
           refine l_val (gn rfl) rfl rfl (r_pickT rfl h71 rfl) ?_
           refine l_val (gn rfl) rfl rfl (r_assign rfl) ?_
           refine l_nil ?_
           refine c_ret ?_
           refine ret1 rfl rfl ?_
           exact ⟨by simp [apartB, *], hM76.kp⟩
          ·skip
           have hp77 : ¬ (a.who.E = by_) := of_decide_eq_false h71
           refine l_off (gno rfl rfl rfl rfl h71) rfl rfl ?_
           refine l_val (gn rfl) rfl rfl (r_pickF rfl h71 rfl) ?_
           refine l_val (gn rfl) rfl rfl (r_assign rfl) ?_
           refine l_nil ?_
           refine c_ret ?_
           refine ret1 rfl rfl ?_
           exact ⟨by simp [apartB, *], hM50.kp⟩
         ·skip
          have hp78 : ¬ (a.pass = S.pass) := of_decide_eq_false h69
          refine l_off (gno rfl rfl rfl rfl h69) rfl rfl ?_
          refine l_off (gno rfl rfl rfl rfl h69) rfl rfl ?_
          refine l_off (gno rfl rfl rfl rfl h69) rfl rfl ?_
          refine l_off (gno rfl rfl rfl rfl h69) rfl rfl ?_
          refine l_off (gno rfl rfl rfl rfl h69) rfl rfl ?_
          refine l_val (gn rfl) rfl rfl (r_pickF rfl h69 rfl) ?_
          refine l_val (gn rfl) rfl rfl (r_move rfl) ?_
          refine l_off (gno rfl rfl rfl rfl rfl) rfl rfl ?_
          refine l_val (gn rfl) rfl rfl (r_pickF rfl rfl rfl) ?_
          refine l_val (gn rfl) rfl rfl (r_assign rfl) ?_
          refine l_nil ?_
          refine c_ret ?_
          refine ret1 rfl rfl ?_
          exact ⟨by simp [apartB, *], hM50.kp⟩
        ·skip
         have hp79 : ¬ ((0 : Nat) < S.pass.length) := of_decide_eq_false h67
         refine l_off (gno rfl rfl rfl rfl h67) rfl rfl ?_
         refine l_off (gno rfl rfl rfl rfl h67) rfl rfl ?_
         refine l_off (gno rfl rfl rfl rfl h67) rfl rfl ?_
         refine l_off (gno rfl rfl rfl rfl h67) rfl rfl ?_
         refine l_off (gno rfl rfl rfl rfl h67) rfl rfl ?_
         refine l_off (gno rfl rfl rfl rfl h67) rfl rfl ?_
         refine l_off (gno rfl rfl rfl rfl h67) rfl rfl ?_
         refine l_val (gn rfl) rfl rfl (r_pickF rfl h67 rfl) ?_
         refine l_val (gn rfl) rfl rfl (r_move rfl) ?_
         refine l_off (gno rfl rfl rfl rfl rfl) rfl rfl ?_
         refine l_off (gno rfl rfl rfl rfl rfl) rfl rfl ?_
         refine l_off (gno rfl rfl rfl rfl rfl) rfl rfl ?_
         refine l_off (gno rfl rfl rfl rfl rfl) rfl rfl ?_
         refine l_off (gno rfl rfl rfl rfl rfl) rfl rfl ?_
         refine l_val (gn rfl) rfl rfl (r_pickF rfl rfl rfl) ?_
         refine l_val (gn rfl) rfl rfl (r_move rfl) ?_
         refine l_off (gno rfl rfl rfl rfl rfl) rfl rfl ?_
         refine l_val (gn rfl) rfl rfl (r_pickF rfl rfl rfl) ?_
         refine l_val (gn rfl) rfl rfl (r_assign rfl) ?_
         refine l_nil ?_
         refine c_ret ?_
         refine ret1 rfl rfl ?_
         exact ⟨by simp [apartB, *], hM50.kp⟩
       ·skip
        have hp80 : ¬ ((a.kind : UInt8) = 9) := of_decide_eq_false h65
        refine l_val (gy rfl rfl rfl rfl h65) rfl rfl (r_fieldAddr ARep.fld_kind rfl) ?_
        refine l_val (gy rfl rfl rfl rfl h65) rfl rfl (r_load1 (v := vU8 a.kind) Tryz.isAgg38 rfl (Holds.sub (hM50.base (i := 2) rfl) (ARep.sub_kind _))) ?_
        refine l_val (gy rfl rfl rfl rfl h65) rfl rfl (r_eql (b := decide ((a.kind : UInt8) = 10)) rfl rfl (u8eq a.kind 10)) ?_
        refine l_val (gy rfl rfl rfl rfl h63) rfl rfl (r_pickF rfl h65 rfl) ?_
        refine l_val (gn rfl) rfl rfl (r_pickT rfl h63 rfl) ?_
        refine l_val (gn rfl) rfl rfl (r_move rfl) ?_
        refine ways (decide ((a.kind : UInt8) = 10)) (fun h81 => ?_) (fun h81 => ?_)
        ·skip
         have hp82 : (a.kind : UInt8) = 10 := of_decide_eq_true h81
         refine l_val (gy rfl rfl rfl rfl h81) rfl rfl (r_fieldAddr SRep.fld_pass rfl) ?_
         refine l_val (gy rfl rfl rfl rfl h81) rfl rfl (r_load1 (v := Sl.val q.p) Tryz.isAgg27 rfl (Holds.sub (hM50.base (i := 4) rfl) (SRep.sub_pass _))) ?_
         refine l_val (gy rfl rfl rfl rfl h81) rfl rfl (r_lenR Tryz.underlying27 rfl (hS.pass.keep0 hM50.kp).len) ?_
         refine l_val (gy rfl rfl rfl rfl h81) rfl rfl (r_gtr (b := decide ((0 : Nat) < S.pass.length)) rfl rfl (nlt 0 S.pass.length)) ?_
         refine l_val (gn rfl) rfl rfl (r_pickT rfl h81 rfl) ?_
         refine l_val (gn rfl) rfl rfl (r_move rfl) ?_
         refine ways (decide ((0 : Nat) < S.pass.length)) (fun h83 => ?_) (fun h83 => ?_)
         ·skip
          have hp84 : (0 : Nat) < S.pass.length := of_decide_eq_true h83
          refine l_val (gy rfl rfl rfl rfl h83) rfl rfl (r_fieldAddr ARep.fld_pass rfl) ?_
          refine l_val (gy rfl rfl rfl rfl h83) rfl rfl (r_load1 (v := Sl.val qa.p) Tryz.isAgg27 rfl (Holds.sub (hM50.base (i := 2) rfl) (ARep.sub_pass _))) ?_
          refine l_val (gy rfl rfl rfl rfl h83) rfl rfl (r_bstrR rfl (hA.pass.keep0 hM50.kp)) ?_
          refine l_val (gy rfl rfl rfl rfl h83) rfl rfl (r_fieldAddr SRep.fld_pass rfl) ?_
          refine l_val (gy rfl rfl rfl rfl h83) rfl rfl (r_load1 (v := Sl.val q.p) Tryz.isAgg27 rfl (Holds.sub (hM50.base (i := 4) rfl) (SRep.sub_pass _))) ?_
          refine l_val (gy rfl rfl rfl rfl h83) rfl rfl (r_bstrR rfl (hS.pass.keep0 hM50.kp)) ?_
          refine l_val (gy rfl rfl rfl rfl h83) rfl rfl (r_streq rfl rfl) ?_
          refine l_val (gn rfl) rfl rfl (r_pickT rfl h83 rfl) ?_
          refine l_val (gn rfl) rfl rfl (r_move rfl) ?_
          refine ways (decide (a.pass = S.pass)) (fun h85 => ?_) (fun h85 => ?_)
          ·skip
           have hp86 : a.pass = S.pass := of_decide_eq_true h85
           refine l_val (gy rfl rfl rfl rfl h85) rfl rfl (r_fieldAddr ARep.fld_who rfl) ?_
           refine l_val (gy rfl rfl rfl rfl h85) rfl rfl (r_fieldAddr Cipher.fld_E rfl) ?_
           refine l_val (gy rfl rfl rfl rfl h85) rfl rfl (r_loadA Tryz.isAgg24 Tryz.sizeOf24 (Pt.size _) rfl (Holds.sub (Holds.sub (hM50.base (i := 2) rfl) (ARep.sub_who _)) (Cipher.sub_E _))) ?_
           refine l_val (gy rfl rfl rfl rfl h85) rfl rfl (r_loadA Tryz.isAgg24 Tryz.sizeOf24 (Pt.size _) rfl (hM50.base (i := 3) rfl)) ?_
           refine l_val (gy rfl rfl rfl rfl h85) rfl rfl (r_eqPt Tryz.eqGuardType24 Tryz.underlying24 rfl rfl) ?_
           refine l_val (gn rfl) rfl rfl (r_pickT rfl h85 rfl) ?_
           refine l_val (gn rfl) rfl rfl (r_move rfl) ?_
           refine ways (decide (a.who.E = by_)) (fun h87 => ?_) (fun h87 => ?_)
           ·skip
            have hp88 : a.who.E = by_ := of_decide_eq_true h87
            refine l_call (gy rfl rfl rfl rfl h87) rfl rfl (r_call Tryz.call10 rfl) (f10) ?_
            rintro v89 w90 ⟨rfl, hK91⟩
            have hM92 := hM50.keep hK91
            refine l_val (gn rfl) rfl rfl (r_pickT rfl h87 rfl) ?_
            refine l_val (gn rfl) rfl rfl (r_assign rfl) ?_
            refine l_nil ?_
            refine c_ret ?_
            refine ret1 rfl rfl ?_
            exact ⟨by simp [apartB, *], hM92.kp⟩
           ·skip
            have hp93 : ¬ (a.who.E = by_) := of_decide_eq_false h87
            refine l_off (gno rfl rfl rfl rfl h87) rfl rfl ?_
            refine l_val (gn rfl) rfl rfl (r_pickF rfl h87 rfl) ?_
            refine l_val (gn rfl) rfl rfl (r_assign rfl) ?_
            refine l_nil ?_
            refine c_ret ?_
            refine ret1 rfl rfl ?_
            exact ⟨by simp [apartB, *], hM50.kp⟩
          ·skip
           have hp94 : ¬ (a.pass = S.pass) := of_decide_eq_false h85
           refine l_off (gno rfl rfl rfl rfl h85) rfl rfl ?_
           refine l_off (gno rfl rfl rfl rfl h85) rfl rfl ?_
           refine l_off (gno rfl rfl rfl rfl h85) rfl rfl ?_
           refine l_off (gno rfl rfl rfl rfl h85) rfl rfl ?_
           refine l_off (gno rfl rfl rfl rfl h85) rfl rfl ?_
           refine l_val (gn rfl) rfl rfl (r_pickF rfl h85 rfl) ?_
           refine l_val (gn rfl) rfl rfl (r_move rfl) ?_
           refine l_off (gno rfl rfl rfl rfl rfl) rfl rfl ?_
           refine l_val (gn rfl) rfl rfl (r_pickF rfl rfl rfl) ?_
           refine l_val (gn rfl) rfl rfl (r_assign rfl) ?_
           refine l_nil ?_
           refine c_ret ?_
           refine ret1 rfl rfl ?_
           exact ⟨by simp [apartB, *], hM50.kp⟩
         ·skip
          have hp95 : ¬ ((0 : Nat) < S.pass.length) := of_decide_eq_false h83
          refine l_off (gno rfl rfl rfl rfl h83) rfl rfl ?_
          refine l_off (gno rfl rfl rfl rfl h83) rfl rfl ?_
          refine l_off (gno rfl rfl rfl rfl h83) rfl rfl ?_
          refine l_off (gno rfl rfl rfl rfl h83) rfl rfl ?_
          refine l_off (gno rfl rfl rfl rfl h83) rfl rfl ?_
          refine l_off (gno rfl rfl rfl rfl h83) rfl rfl ?_
          refine l_off (gno rfl rfl rfl rfl h83) rfl rfl ?_
          refine l_val (gn rfl) rfl rfl (r_pickF rfl h83 rfl) ?_
          refine l_val (gn rfl) rfl rfl (r_move rfl) ?_
          refine l_off (gno rfl rfl rfl rfl rfl) rfl rfl ?_
          refine l_off (gno rfl rfl rfl rfl rfl) rfl rfl ?_
          refine l_off (gno rfl rfl rfl rfl rfl) rfl rfl ?_
          refine l_off (gno rfl rfl rfl rfl rfl) rfl rfl ?_
          refine l_off (gno rfl rfl rfl rfl rfl) rfl rfl ?_
          refine l_val (gn rfl) rfl rfl (r_pickF rfl rfl rfl) ?_
          refine l_val (gn rfl) rfl rfl (r_move rfl) ?_
          refine l_off (gno rfl rfl rfl rfl rfl) rfl rfl ?_
          refine l_val (gn rfl) rfl rfl (r_pickF rfl rfl rfl) ?_
          refine l_val (gn rfl) rfl rfl (r_assign rfl) ?_
          refine l_nil ?_
          refine c_ret ?_
          refine ret1 rfl rfl ?_
          exact ⟨by simp [apartB, *], hM50.kp⟩
        ·skip
         have hp96 : ¬ ((a.kind : UInt8) = 10) := of_decide_eq_false h81
         refine l_off (gno rfl rfl rfl rfl h81) rfl rfl ?_
         refine l_off (gno rfl rfl rfl rfl h81) rfl rfl ?_
         refine l_off (gno rfl rfl rfl rfl h81) rfl rfl ?_
         refine l_off (gno rfl rfl rfl rfl h81) rfl rfl ?_
         refine l_val (gn rfl) rfl rfl (r_pickF rfl h81 rfl) ?_
         refine l_val (gn rfl) rfl rfl (r_move rfl) ?_
         refine l_off (gno rfl rfl rfl rfl rfl) rfl rfl ?_
         refine l_off (gno rfl rfl rfl rfl rfl) rfl rfl ?_
         refine l_off (gno rfl rfl rfl rfl rfl) rfl rfl ?_
         refine l_off (gno rfl rfl rfl rfl rfl) rfl rfl ?_
         refine l_off (gno rfl rfl rfl rfl rfl) rfl rfl ?_
         refine l_off (gno rfl rfl rfl rfl rfl) rfl rfl ?_
         refine l_off (gno rfl rfl rfl rfl rfl) rfl rfl ?_
         refine l_val (gn rfl) rfl rfl (r_pickF rfl rfl rfl) ?_
         refine l_val (gn rfl) rfl rfl (r_move rfl) ?_
         refine l_off (gno rfl rfl rfl rfl rfl) rfl rfl ?_
         refine l_off (gno rfl rfl rfl rfl rfl) rfl rfl ?_
         refine l_off (gno rfl rfl rfl rfl rfl) rfl rfl ?_
         refine l_off (gno rfl rfl rfl rfl rfl) rfl rfl ?_
         refine l_off (gno rfl rfl rfl rfl rfl) rfl rfl ?_
         refine l_val (gn rfl) rfl rfl (r_pickF rfl rfl rfl) ?_
         refine l_val (gn rfl) rfl rfl (r_move rfl) ?_
         refine l_off (gno rfl rfl rfl rfl rfl) rfl rfl ?_
         refine l_val (gn rfl) rfl rfl (r_pickF rfl rfl rfl) ?_
         refine l_val (gn rfl) rfl rfl (r_assign rfl) ?_
         refine l_nil ?_
         refine c_ret ?_
         refine ret1 rfl rfl ?_
         exact ⟨by simp [apartB, *], hM50.kp⟩
      ·skip
       have hp97 : ¬ (((placeOf S by_).1 : Nat) = 0) := of_decide_eq_false h63
       refine l_off (gno rfl rfl rfl rfl h63) rfl rfl ?_
       refine l_off (gno rfl rfl rfl rfl h63) rfl rfl ?_
       refine l_off (gno rfl rfl rfl rfl h63) rfl rfl ?_
       refine l_off (gno rfl rfl rfl rfl h63) rfl rfl ?_
       refine l_off (gnu rfl rfl rfl rfl) rfl rfl ?_
       refine l_off (gnu rfl rfl rfl rfl) rfl rfl ?_
       refine l_off (gnu rfl rfl rfl rfl) rfl rfl ?_
       refine l_off (gno rfl rfl rfl rfl h63) rfl rfl ?_
       refine l_val (gn rfl) rfl rfl (r_pickF rfl h63 rfl) ?_
       refine l_val (gn rfl) rfl rfl (r_move rfl) ?_
       refine l_off (gno rfl rfl rfl rfl rfl) rfl rfl ?_
       refine l_off (gno rfl rfl rfl rfl rfl) rfl rfl ?_
       refine l_off (gno rfl rfl rfl rfl rfl) rfl rfl ?_
       refine l_off (gno rfl rfl rfl rfl rfl) rfl rfl ?_
       refine l_val (gn rfl) rfl rfl (r_pickF rfl rfl rfl) ?_
       refine l_val (gn rfl) rfl rfl (r_move rfl) ?_
       refine l_off (gno rfl rfl rfl rfl rfl) rfl rfl ?_
       refine l_off (gno rfl rfl rfl rfl rfl) rfl rfl ?_
       refine l_off (gno rfl rfl rfl rfl rfl) rfl rfl ?_
       refine l_off (gno rfl rfl rfl rfl rfl) rfl rfl ?_
       refine l_off (gno rfl rfl rfl rfl rfl) rfl rfl ?_
       refine l_off (gno rfl rfl rfl rfl rfl) rfl rfl ?_
       refine l_off (gno rfl rfl rfl rfl rfl) rfl rfl ?_
       refine l_val (gn rfl) rfl rfl (r_pickF rfl rfl rfl) ?_
       refine l_val (gn rfl) rfl rfl (r_move rfl) ?_
       refine l_off (gno rfl rfl rfl rfl rfl) rfl rfl ?_
       refine l_off (gno rfl rfl rfl rfl rfl) rfl rfl ?_
       refine l_off (gno rfl rfl rfl rfl rfl) rfl rfl ?_
       refine l_off (gno rfl rfl rfl rfl rfl) rfl rfl ?_
       refine l_off (gno rfl rfl rfl rfl rfl) rfl rfl ?_
       refine l_val (gn rfl) rfl rfl (r_pickF rfl rfl rfl) ?_
       refine l_val (gn rfl) rfl rfl (r_move rfl) ?_
       refine l_off (gno rfl rfl rfl rfl rfl) rfl rfl ?_
       refine l_val (gn rfl) rfl rfl (r_pickF rfl rfl rfl) ?_
       refine l_val (gn rfl) rfl rfl (r_assign rfl) ?_
       refine l_nil ?_
       refine c_ret ?_
       refine ret1 rfl rfl ?_
       exact ⟨by simp [apartB, *], hM50.kp⟩
    ·skip
     have hp98 : ¬ ((1 : Nat) ≤ (placeOf S by_).1) := of_decide_eq_false h54
     refine l_off (gno rfl rfl rfl rfl h54) rfl rfl ?_
     refine l_off (gno rfl rfl rfl rfl h54) rfl rfl ?_
     refine l_val (gy rfl rfl rfl rfl (congrArg Bool.not h52)) rfl rfl (r_pickF rfl h54 rfl) ?_
     refine l_val (gn rfl) rfl rfl (r_pickF rfl (congrArg Bool.not h52) rfl) ?_
     refine l_nil ?_
     refine c_condF rfl rfl ?_
     refine c_skip ?_
     refine c_seq ?_
     refine c_reg ?_
     refine l_val (gn rfl) rfl rfl (r_move rfl) ?_
     refine l_val (gn rfl) rfl rfl (r_eql (b := decide (((placeOf S by_).1 : Nat) = 0)) rfl rfl (neq' ((placeOf S by_).1) 0)) ?_
     refine l_val (gn rfl) rfl rfl (r_move rfl) ?_
     refine ways (decide (((placeOf S by_).1 : Nat) = 0)) (fun h99 => ?_) (fun h99 => ?_)
     ·skip
      have hp100 : ((placeOf S by_).1 : Nat) = 0 := of_decide_eq_true h99
      refine l_val (gy rfl rfl rfl rfl h99) rfl rfl (r_fieldAddr ARep.fld_kind rfl) ?_
      refine l_val (gy rfl rfl rfl rfl h99) rfl rfl (r_load1 (v := vU8 a.kind) Tryz.isAgg38 rfl (Holds.sub (hM50.base (i := 2) rfl) (ARep.sub_kind _))) ?_
      refine l_val (gy rfl rfl rfl rfl h99) rfl rfl (r_eql (b := decide ((a.kind : UInt8) = 9)) rfl rfl (u8eq a.kind 9)) ?_
      refine l_val (gy rfl rfl rfl rfl h99) rfl rfl (r_move rfl) ?_
      refine ways (decide ((a.kind : UInt8) = 9)) (fun h101 => ?_) (fun h101 => ?_)
      ·skip
       have hp102 : (a.kind : UInt8) = 9 := of_decide_eq_true h101
       refine l_off (gno rfl rfl rfl rfl h101) rfl rfl ?_
       refine l_off (gno rfl rfl rfl rfl h101) rfl rfl ?_
       refine l_off (gno rfl rfl rfl rfl h101) rfl rfl ?_
       refine l_val (gy rfl rfl rfl rfl h99) rfl rfl (r_pickT rfl h101 rfl) ?_
       refine l_val (gn rfl) rfl rfl (r_pickT rfl h99 rfl) ?_
       refine l_val (gn rfl) rfl rfl (r_move rfl) ?_
       refine l_val (gy rfl rfl rfl rfl rfl) rfl rfl (r_fieldAddr SRep.fld_pass rfl) ?_
       refine l_val (gy rfl rfl rfl rfl rfl) rfl rfl (r_load1 (v := Sl.val q.p) Tryz.isAgg27 rfl (Holds.sub (hM50.base (i := 4) rfl) (SRep.sub_pass _))) ?_
       refine l_val (gy rfl rfl rfl rfl rfl) rfl rfl (r_lenR Tryz.underlying27 rfl (hS.pass.keep0 hM50.kp).len) ?_
       refine l_val (gy rfl rfl rfl rfl rfl) rfl rfl (r_gtr (b := decide ((0 : Nat) < S.pass.length)) rfl rfl (nlt 0 S.pass.length)) ?_
       refine l_val (gn rfl) rfl rfl (r_pickT rfl rfl rfl) ?_
       refine l_val (gn rfl) rfl rfl (r_move rfl) ?_
       refine ways (decide ((0 : Nat) < S.pass.length)) (fun h103 => ?_) (fun h103 => ?_)
       ·skip
        have hp104 : (0 : Nat) < S.pass.length := of_decide_eq_true h103
        refine l_val (gy rfl rfl rfl rfl h103) rfl rfl (r_fieldAddr ARep.fld_pass rfl) ?_
        refine l_val (gy rfl rfl rfl rfl h103) rfl rfl (r_load1 (v := Sl.val qa.p) Tryz.isAgg27 rfl (Holds.sub (hM50.base (i := 2) rfl) (ARep.sub_pass _))) ?_
        refine l_val (gy rfl rfl rfl rfl h103) rfl rfl (r_bstrR rfl (hA.pass.keep0 hM50.kp)) ?_
        refine l_val (gy rfl rfl rfl rfl h103) rfl rfl (r_fieldAddr SRep.fld_pass rfl) ?_
        refine l_val (gy rfl rfl rfl rfl h103) rfl rfl (r_load1 (v := Sl.val q.p) Tryz.isAgg27 rfl (Holds.sub (hM50.base (i := 4) rfl) (SRep.sub_pass _))) ?_
        refine l_val (gy rfl rfl rfl rfl h103) rfl rfl (r_bstrR rfl (hS.pass.keep0 hM50.kp)) ?_
        refine l_val (gy rfl rfl rfl rfl h103) rfl rfl (r_streq rfl rfl) ?_
        refine l_val (gn rfl) rfl rfl (r_pickT rfl h103 rfl) ?_
        refine l_val (gn rfl) rfl rfl (r_move rfl) ?_
        refine ways (decide (a.pass = S.pass)) (fun h105 => ?_) (fun h105 => ?_)
        ·skip
         have hp106 : a.pass = S.pass := of_decide_eq_true h105
         refine l_val (gy rfl rfl rfl rfl h105) rfl rfl (r_fieldAddr ARep.fld_who rfl) ?_
         refine l_val (gy rfl rfl rfl rfl h105) rfl rfl (r_fieldAddr Cipher.fld_E rfl) ?_
         refine l_val (gy rfl rfl rfl rfl h105) rfl rfl (r_loadA Tryz.isAgg24 Tryz.sizeOf24 (Pt.size _) rfl (Holds.sub (Holds.sub (hM50.base (i := 2) rfl) (ARep.sub_who _)) (Cipher.sub_E _))) ?_
         refine l_val (gy rfl rfl rfl rfl h105) rfl rfl (r_loadA Tryz.isAgg24 Tryz.sizeOf24 (Pt.size _) rfl (hM50.base (i := 3) rfl)) ?_
         refine l_val (gy rfl rfl rfl rfl h105) rfl rfl (r_eqPt Tryz.eqGuardType24 Tryz.underlying24 rfl rfl) ?_
         refine l_val (gn rfl) rfl rfl (r_pickT rfl h105 rfl) ?_
         refine l_val (gn rfl) rfl rfl (r_move rfl) ?_
         refine ways (decide (a.who.E = by_)) (fun h107 => ?_) (fun h107 => ?_)
         ·skip
          have hp108 : a.who.E = by_ := of_decide_eq_true h107
          refine l_call (gy rfl rfl rfl rfl h107) rfl rfl (r_call Tryz.call10 rfl) (f10) ?_
          rintro v109 w110 ⟨rfl, hK111⟩
          have hM112 := hM50.keep hK111
          refine l_val (gn rfl) rfl rfl (r_pickT rfl h107 rfl) ?_
          refine l_val (gn rfl) rfl rfl (r_assign rfl) ?_
          refine l_nil ?_
          refine c_ret ?_
          refine ret1 rfl rfl ?_
          exact ⟨by simp [apartB, *], hM112.kp⟩
         ·skip
          have hp113 : ¬ (a.who.E = by_) := of_decide_eq_false h107
          refine l_off (gno rfl rfl rfl rfl h107) rfl rfl ?_
          refine l_val (gn rfl) rfl rfl (r_pickF rfl h107 rfl) ?_
          refine l_val (gn rfl) rfl rfl (r_assign rfl) ?_
          refine l_nil ?_
          refine c_ret ?_
          refine ret1 rfl rfl ?_
          exact ⟨by simp [apartB, *], hM50.kp⟩
        ·skip
         have hp114 : ¬ (a.pass = S.pass) := of_decide_eq_false h105
         refine l_off (gno rfl rfl rfl rfl h105) rfl rfl ?_
         refine l_off (gno rfl rfl rfl rfl h105) rfl rfl ?_
         refine l_off (gno rfl rfl rfl rfl h105) rfl rfl ?_
         refine l_off (gno rfl rfl rfl rfl h105) rfl rfl ?_
         refine l_off (gno rfl rfl rfl rfl h105) rfl rfl ?_
         refine l_val (gn rfl) rfl rfl (r_pickF rfl h105 rfl) ?_
         refine l_val (gn rfl) rfl rfl (r_move rfl) ?_
         refine l_off (gno rfl rfl rfl rfl rfl) rfl rfl ?_
         refine l_val (gn rfl) rfl rfl (r_pickF rfl rfl rfl) ?_
         refine l_val (gn rfl) rfl rfl (r_assign rfl) ?_
         refine l_nil ?_
         refine c_ret ?_
         refine ret1 rfl rfl ?_
         exact ⟨by simp [apartB, *], hM50.kp⟩
       ·skip
        have hp115 : ¬ ((0 : Nat) < S.pass.length) := of_decide_eq_false h103
        refine l_off (gno rfl rfl rfl rfl h103) rfl rfl ?_
        refine l_off (gno rfl rfl rfl rfl h103) rfl rfl ?_
        refine l_off (gno rfl rfl rfl rfl h103) rfl rfl ?_
        refine l_off (gno rfl rfl rfl rfl h103) rfl rfl ?_
        refine l_off (gno rfl rfl rfl rfl h103) rfl rfl ?_
        refine l_off (gno rfl rfl rfl rfl h103) rfl rfl ?_
        refine l_off (gno rfl rfl rfl rfl h103) rfl rfl ?_
        refine l_val (gn rfl) rfl rfl (r_pickF rfl h103 rfl) ?_
        refine l_val (gn rfl) rfl rfl (r_move rfl) ?_
        refine l_off (gno rfl rfl rfl rfl rfl) rfl rfl ?_
        refine l_off (gno rfl rfl rfl rfl rfl) rfl rfl ?_
        refine l_off (gno rfl rfl rfl rfl rfl) rfl rfl ?_
        refine l_off (gno rfl rfl rfl rfl rfl) rfl rfl ?_
        refine l_off (gno rfl rfl rfl rfl rfl) rfl rfl ?_
        refine l_val (gn rfl) rfl rfl (r_pickF rfl rfl rfl) ?_
        refine l_val (gn rfl) rfl rfl (r_move rfl) ?_
        refine l_off (gno rfl rfl rfl rfl rfl) rfl rfl ?_
        refine l_val (gn rfl) rfl rfl (r_pickF rfl rfl rfl) ?_
        refine l_val (gn rfl) rfl rfl (r_assign rfl) ?_
        refine l_nil ?_
        refine c_ret ?_
        refine ret1 rfl rfl ?_
        exact ⟨by simp [apartB, *], hM50.kp⟩
      ·skip
       have hp116 : ¬ ((a.kind : UInt8) = 9) := of_decide_eq_false h101
       refine l_val (gy rfl rfl rfl rfl h101) rfl rfl (r_fieldAddr ARep.fld_kind rfl) ?_
       refine l_val (gy rfl rfl rfl rfl h101) rfl rfl (r_load1 (v := vU8 a.kind) Tryz.isAgg38 rfl (Holds.sub (hM50.base (i := 2) rfl) (ARep.sub_kind _))) ?_
       refine l_val (gy rfl rfl rfl rfl h101) rfl rfl (r_eql (b := decide ((a.kind : UInt8) = 10)) rfl rfl (u8eq a.kind 10)) ?_
       refine l_val (gy rfl rfl rfl rfl h99) rfl rfl (r_pickF rfl h101 rfl) ?_
       refine l_val (gn rfl) rfl rfl (r_pickT rfl h99 rfl) ?_
       refine l_val (gn rfl) rfl rfl (r_move rfl) ?_
       refine ways (decide ((a.kind : UInt8) = 10)) (fun h117 => ?_) (fun h117 => ?_)
       ·skip
        have hp118 : (a.kind : UInt8) = 10 := of_decide_eq_true h117
        refine l_val (gy rfl rfl rfl rfl h117) rfl rfl (r_fieldAddr SRep.fld_pass rfl) ?_
        refine l_val (gy rfl rfl rfl rfl h117) rfl rfl (r_load1 (v := Sl.val q.p) Tryz.isAgg27 rfl (Holds.sub (hM50.base (i := 4) rfl) (SRep.sub_pass _))) ?_
        refine l_val (gy rfl rfl rfl rfl h117) rfl rfl (r_lenR Tryz.underlying27 rfl (hS.pass.keep0 hM50.kp).len) ?_
        refine l_val (gy rfl rfl rfl rfl h117) rfl rfl (r_gtr (b := decide ((0 : Nat) < S.pass.length)) rfl rfl (nlt 0 S.pass.length)) ?_
        refine l_val (gn rfl) rfl rfl (r_pickT rfl h117 rfl) ?_
        refine l_val (gn rfl) rfl rfl (r_move rfl) ?_
        refine ways (decide ((0 : Nat) < S.pass.length)) (fun h119 => ?_) (fun h119 => ?_)
        ·skip
         have hp120 : (0 : Nat) < S.pass.length := of_decide_eq_true h119
         refine l_val (gy rfl rfl rfl rfl h119) rfl rfl (r_fieldAddr ARep.fld_pass rfl) ?_
         refine l_val (gy rfl rfl rfl rfl h119) rfl rfl (r_load1 (v := Sl.val qa.p) Tryz.isAgg27 rfl (Holds.sub (hM50.base (i := 2) rfl) (ARep.sub_pass _))) ?_
         refine l_val (gy rfl rfl rfl rfl h119) rfl rfl (r_bstrR rfl (hA.pass.keep0 hM50.kp)) ?_
         refine l_val (gy rfl rfl rfl rfl h119) rfl rfl (r_fieldAddr SRep.fld_pass rfl) ?_
         refine l_val (gy rfl rfl rfl rfl h119) rfl rfl (r_load1 (v := Sl.val q.p) Tryz.isAgg27 rfl (Holds.sub (hM50.base (i := 4) rfl) (SRep.sub_pass _))) ?_
         refine l_val (gy rfl rfl rfl rfl h119) rfl rfl (r_bstrR rfl (hS.pass.keep0 hM50.kp)) ?_
         refine l_val (gy rfl rfl rfl rfl h119) rfl rfl (r_streq rfl rfl) ?_
         refine l_val (gn rfl) rfl rfl (r_pickT rfl h119 rfl) ?_
         refine l_val (gn rfl) rfl rfl (r_move rfl) ?_
         refine ways (decide (a.pass = S.pass)) (fun h121 => ?_) (fun h121 => ?_)
         ·skip
          have hp122 : a.pass = S.pass := of_decide_eq_true h121
          refine l_val (gy rfl rfl rfl rfl h121) rfl rfl (r_fieldAddr ARep.fld_who rfl) ?_
          refine l_val (gy rfl rfl rfl rfl h121) rfl rfl (r_fieldAddr Cipher.fld_E rfl) ?_
          refine l_val (gy rfl rfl rfl rfl h121) rfl rfl (r_loadA Tryz.isAgg24 Tryz.sizeOf24 (Pt.size _) rfl (Holds.sub (Holds.sub (hM50.base (i := 2) rfl) (ARep.sub_who _)) (Cipher.sub_E _))) ?_
          refine l_val (gy rfl rfl rfl rfl h121) rfl rfl (r_loadA Tryz.isAgg24 Tryz.sizeOf24 (Pt.size _) rfl (hM50.base (i := 3) rfl)) ?_
          refine l_val (gy rfl rfl rfl rfl h121) rfl rfl (r_eqPt Tryz.eqGuardType24 Tryz.underlying24 rfl rfl) ?_
          refine l_val (gn rfl) rfl rfl (r_pickT rfl h121 rfl) ?_
          refine l_val (gn rfl) rfl rfl (r_move rfl) ?_
          refine ways (decide (a.who.E = by_)) (fun h123 => ?_) (fun h123 => ?_)
          ·skip
           have hp124 : a.who.E = by_ := of_decide_eq_true h123
           refine l_call (gy rfl rfl rfl rfl h123) rfl rfl (r_call Tryz.call10 rfl) (f10) ?_
           rintro v125 w126 ⟨rfl, hK127⟩
           have hM128 := hM50.keep hK127
           refine l_val (gn rfl) rfl rfl (r_pickT rfl h123 rfl) ?_
           refine l_val (gn rfl) rfl rfl (r_assign rfl) ?_
           refine l_nil ?_
           refine c_ret ?_
           refine ret1 rfl rfl ?_
           exact ⟨by simp [apartB, *], hM128.kp⟩
          ·skip
           have hp129 : ¬ (a.who.E = by_) := of_decide_eq_false h123
           refine l_off (gno rfl rfl rfl rfl h123) rfl rfl ?_
           refine l_val (gn rfl) rfl rfl (r_pickF rfl h123 rfl) ?_
           refine l_val (gn rfl) rfl rfl (r_assign rfl) ?_
           refine l_nil ?_
           refine c_ret ?_
           refine ret1 rfl rfl ?_
           exact ⟨by simp [apartB, *], hM50.kp⟩
         ·skip
          have hp130 : ¬ (a.pass = S.pass) := of_decide_eq_false h121
          refine l_off (gno rfl rfl rfl rfl h121) rfl rfl ?_
          refine l_off (gno rfl rfl rfl rfl h121) rfl rfl ?_
          refine l_off (gno rfl rfl rfl rfl h121) rfl rfl ?_
          refine l_off (gno rfl rfl rfl rfl h121) rfl rfl ?_
          refine l_off (gno rfl rfl rfl rfl h121) rfl rfl ?_
          refine l_val (gn rfl) rfl rfl (r_pickF rfl h121 rfl) ?_
          refine l_val (gn rfl) rfl rfl (r_move rfl) ?_
          refine l_off (gno rfl rfl rfl rfl rfl) rfl rfl ?_
          refine l_val (gn rfl) rfl rfl (r_pickF rfl rfl rfl) ?_
          refine l_val (gn rfl) rfl rfl (r_assign rfl) ?_
          refine l_nil ?_
          refine c_ret ?_
          refine ret1 rfl rfl ?_
          exact ⟨by simp [apartB, *], hM50.kp⟩
        ·skip
         have hp131 : ¬ ((0 : Nat) < S.pass.length) := of_decide_eq_false h119
         refine l_off (gno rfl rfl rfl rfl h119) rfl rfl ?_
         refine l_off (gno rfl rfl rfl rfl h119) rfl rfl ?_
         refine l_off (gno rfl rfl rfl rfl h119) rfl rfl ?_
         refine l_off (gno rfl rfl rfl rfl h119) rfl rfl ?_
         refine l_off (gno rfl rfl rfl rfl h119) rfl rfl ?_
         refine l_off (gno rfl rfl rfl rfl h119) rfl rfl ?_
         refine l_off (gno rfl rfl rfl rfl h119) rfl rfl ?_
         refine l_val (gn rfl) rfl rfl (r_pickF rfl h119 rfl) ?_
         refine l_val (gn rfl) rfl rfl (r_move rfl) ?_
         refine l_off (gno rfl rfl rfl rfl rfl) rfl rfl ?_
         refine l_off (gno rfl rfl rfl rfl rfl) rfl rfl ?_
         refine l_off (gno rfl rfl rfl rfl rfl) rfl rfl ?_
         refine l_off (gno rfl rfl rfl rfl rfl) rfl rfl ?_
         refine l_off (gno rfl rfl rfl rfl rfl) rfl rfl ?_
         refine l_val (gn rfl) rfl rfl (r_pickF rfl rfl rfl) ?_
         refine l_val (gn rfl) rfl rfl (r_move rfl) ?_
         refine l_off (gno rfl rfl rfl rfl rfl) rfl rfl ?_
         refine l_val (gn rfl) rfl rfl (r_pickF rfl rfl rfl) ?_
         refine l_val (gn rfl) rfl rfl (r_assign rfl) ?_
         refine l_nil ?_
         refine c_ret ?_
         refine ret1 rfl rfl ?_
         exact ⟨by simp [apartB, *], hM50.kp⟩
       ·skip
        have hp132 : ¬ ((a.kind : UInt8) = 10) := of_decide_eq_false h117
        refine l_off (gno rfl rfl rfl rfl h117) rfl rfl ?_
        refine l_off (gno rfl rfl rfl rfl h117) rfl rfl ?_
        refine l_off (gno rfl rfl rfl rfl h117) rfl rfl ?_
        refine l_off (gno rfl rfl rfl rfl h117) rfl rfl ?_
        refine l_val (gn rfl) rfl rfl (r_pickF rfl h117 rfl) ?_
        refine l_val (gn rfl) rfl rfl (r_move rfl) ?_
        refine l_off (gno rfl rfl rfl rfl rfl) rfl rfl ?_
        refine l_off (gno rfl rfl rfl rfl rfl) rfl rfl ?_
        refine l_off (gno rfl rfl rfl rfl rfl) rfl rfl ?_
        refine l_off (gno rfl rfl rfl rfl rfl) rfl rfl ?_
        refine l_off (gno rfl rfl rfl rfl rfl) rfl rfl ?_
        refine l_off (gno rfl rfl rfl rfl rfl) rfl rfl ?_
        refine l_off (gno rfl rfl rfl rfl rfl) rfl rfl ?_
        refine l_val (gn rfl) rfl rfl (r_pickF rfl rfl rfl) ?_
        refine l_val (gn rfl) rfl rfl (r_move rfl) ?_
        refine l_off (gno rfl rfl rfl rfl rfl) rfl rfl ?_
        refine l_off (gno rfl rfl rfl rfl rfl) rfl rfl ?_
        refine l_off (gno rfl rfl rfl rfl rfl) rfl rfl ?_
        refine l_off (gno rfl rfl rfl rfl rfl) rfl rfl ?_
        refine l_off (gno rfl rfl rfl rfl rfl) rfl rfl ?_
        refine l_val (gn rfl) rfl rfl (r_pickF rfl rfl rfl) ?_
        refine l_val (gn rfl) rfl rfl (r_move rfl) ?_
        refine l_off (gno rfl rfl rfl rfl rfl) rfl rfl ?_
        refine l_val (gn rfl) rfl rfl (r_pickF rfl rfl rfl) ?_
        refine l_val (gn rfl) rfl rfl (r_assign rfl) ?_
        refine l_nil ?_
        refine c_ret ?_
        refine ret1 rfl rfl ?_
        exact ⟨by simp [apartB, *], hM50.kp⟩
     ·skip
      have hp133 : ¬ (((placeOf S by_).1 : Nat) = 0) := of_decide_eq_false h99
      refine l_off (gno rfl rfl rfl rfl h99) rfl rfl ?_
      refine l_off (gno rfl rfl rfl rfl h99) rfl rfl ?_
      refine l_off (gno rfl rfl rfl rfl h99) rfl rfl ?_
      refine l_off (gno rfl rfl rfl rfl h99) rfl rfl ?_
      refine l_off (gnu rfl rfl rfl rfl) rfl rfl ?_
      refine l_off (gnu rfl rfl rfl rfl) rfl rfl ?_
      refine l_off (gnu rfl rfl rfl rfl) rfl rfl ?_
      refine l_off (gno rfl rfl rfl rfl h99) rfl rfl ?_
      refine l_val (gn rfl) rfl rfl (r_pickF rfl h99 rfl) ?_
      refine l_val (gn rfl) rfl rfl (r_move rfl) ?_
      refine l_off (gno rfl rfl rfl rfl rfl) rfl rfl ?_
      refine l_off (gno rfl rfl rfl rfl rfl) rfl rfl ?_
      refine l_off (gno rfl rfl rfl rfl rfl) rfl rfl ?_
      refine l_off (gno rfl rfl rfl rfl rfl) rfl rfl ?_
      refine l_val (gn rfl) rfl rfl (r_pickF rfl rfl rfl) ?_
      refine l_val (gn rfl) rfl rfl (r_move rfl) ?_
      refine l_off (gno rfl rfl rfl rfl rfl) rfl rfl ?_
      refine l_off (gno rfl rfl rfl rfl rfl) rfl rfl ?_
      refine l_off (gno rfl rfl rfl rfl rfl) rfl rfl ?_
      refine l_off (gno rfl rfl rfl rfl rfl) rfl rfl ?_
      refine l_off (gno rfl rfl rfl rfl rfl) rfl rfl ?_
      refine l_off (gno rfl rfl rfl rfl rfl) rfl rfl ?_
      refine l_off (gno rfl rfl rfl rfl rfl) rfl rfl ?_
      refine l_val (gn rfl) rfl rfl (r_pickF rfl rfl rfl) ?_
      refine l_val (gn rfl) rfl rfl (r_move rfl) ?_
      refine l_off (gno rfl rfl rfl rfl rfl) rfl rfl ?_
      refine l_off (gno rfl rfl rfl rfl rfl) rfl rfl ?_
      refine l_off (gno rfl rfl rfl rfl rfl) rfl rfl ?_
      refine l_off (gno rfl rfl rfl rfl rfl) rfl rfl ?_
      refine l_off (gno rfl rfl rfl rfl rfl) rfl rfl ?_
      refine l_val (gn rfl) rfl rfl (r_pickF rfl rfl rfl) ?_
      refine l_val (gn rfl) rfl rfl (r_move rfl) ?_
      refine l_off (gno rfl rfl rfl rfl rfl) rfl rfl ?_
      refine l_val (gn rfl) rfl rfl (r_pickF rfl rfl rfl) ?_
      refine l_val (gn rfl) rfl rfl (r_assign rfl) ?_
      refine l_nil ?_
      refine c_ret ?_
      refine ret1 rfl rfl ?_
      exact ⟨by simp [apartB, *], hM50.kp⟩
   ·skip
    have hp134 : ¬ (((stepS S by_ a).1 : Nat) = 0) := of_decide_eq_false h52
    refine l_off (gno rfl rfl rfl rfl (congrArg Bool.not h52)) rfl rfl ?_
    refine l_off (gno rfl rfl rfl rfl (congrArg Bool.not h52)) rfl rfl ?_
    refine l_off (gno rfl rfl rfl rfl (congrArg Bool.not h52)) rfl rfl ?_
    refine l_off (gnu rfl rfl rfl rfl) rfl rfl ?_
    refine l_off (gnu rfl rfl rfl rfl) rfl rfl ?_
    refine l_off (gno rfl rfl rfl rfl (congrArg Bool.not h52)) rfl rfl ?_
    refine l_val (gn rfl) rfl rfl (r_pickT rfl (congrArg Bool.not h52) rfl) ?_
    refine l_nil ?_
    refine c_condT rfl rfl ?_
    refine c_seq ?_
    refine c_reg ?_
    refine l_val (gn rfl) rfl rfl (r_move rfl) ?_
    refine l_val (gn rfl) rfl rfl (r_eql (b := decide (((stepS S by_ a).1 : Nat) = 0)) rfl rfl (neq' ((stepS S by_ a).1) 0)) ?_
    refine l_val (gn rfl) rfl rfl (r_move rfl) ?_
    refine l_val (gy rfl rfl rfl rfl h52) rfl rfl (r_loadA Tryz.isAgg37 Tryz.sizeOf37 (SRep.size _) rfl (hM50.base (i := 0) rfl)) ?_
    refine l_val (gy rfl rfl rfl rfl h52) rfl rfl (r_build rfl ((SRep.built _).trans (fill_nil))) ?_
    refine l_call (gy rfl rfl rfl rfl h52) rfl rfl (r_call Tryz.call15 rfl) (f15z ((hO38.keep0 hK46).keepX hK51 (fun y hy => by simp only [List.mem_cons, List.not_mem_nil, or_false] at hy; subst hy; exact (hO38.keep0 hK46).notin hBk48 (by decide))).stv) ?_
    rintro v135 w136 ⟨rfl, hK137⟩
    have hM138 := hM50.keep hK137
    refine l_val (gn rfl) rfl rfl (r_pickF rfl h52 rfl) ?_
    refine l_val (gn rfl) rfl rfl (r_move rfl) ?_
    refine ways (sameState ((stepS S by_ a).2) State.zero) (fun h139 => ?_) (fun h139 => ?_)
    ·skip
     refine l_call (gy rfl rfl rfl rfl h139) rfl rfl (r_call Tryz.call10 rfl) (f10) ?_
     rintro v140 w141 ⟨rfl, hK142⟩
     have hM143 := hM138.keep hK142
     refine l_val (gn rfl) rfl rfl (r_pickT rfl h139 rfl) ?_
     refine l_val (gn rfl) rfl rfl (r_assign rfl) ?_
     refine l_nil ?_
     refine c_ret ?_
     refine ret1 rfl rfl ?_
     exact ⟨by simp [apartB, *], hM143.kp⟩
    ·skip
     refine l_off (gno rfl rfl rfl rfl h139) rfl rfl ?_
     refine l_val (gn rfl) rfl rfl (r_pickF rfl h139 rfl) ?_
     refine l_val (gn rfl) rfl rfl (r_assign rfl) ?_
     refine l_nil ?_
     refine c_ret ?_
     refine ret1 rfl rfl ?_
     exact ⟨by simp [apartB, *], hM138.kp⟩
end Go.Proofs.YtekhaogjmmmniaaGreat
