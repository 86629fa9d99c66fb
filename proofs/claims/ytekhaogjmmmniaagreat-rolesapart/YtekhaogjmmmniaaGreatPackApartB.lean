/- Part 2 of the proof of RolesApartSaid: what the functions reached compute, in plain words and by walks through their code. No statement of the rows is proved here. -/
import Derived.Test.YtekhaogjmmmniaaGreatPackApartA
namespace Go.Proofs.YtekhaogjmmmniaaGreat
open Go Go.RowKit

theorem f9 {A : Nat → Prop} {w : World} {S : State} {q : Six} (hS : StV A w q S) {B : Nat → Prop} {a : Action} {qa : Two} (hA : AcV B w qa a) : Ret 9 #[.agg (S.rep q).cells, .agg (a.rep qa).cells] w (fun v w' => v = .bool (largeB S a) ∧ Keeps [] w w') := by
  obtain ⟨hn1, hn2, hn3, hn4, hn5, hn6⟩ := hS.bd
  obtain ⟨hn7, hn8⟩ := hA.bd
  have hM0 := Mem.start w
  refine enter Tryz.func9 rfl rfl ?_
  refine c_seq ?_
  refine c_reg ?_
  refine l_box hM0 rfl rfl ?_
  intro b1 w2 hM3 hK4 hB5
  replace hM3 : Mem w [] [(b1, (SRep.cells ((SRep.mk S.ver S.key q.t S.acc q.p q.s q.i q.a q.b))), 37)] w2 := hM3
  refine l_box hM3 rfl rfl ?_
  intro b6 w7 hM8 hK9 hB10
  replace hM8 : Mem w [] [(b6, (ARep.cells ((ARep.mk a.ver a.kind a.who a.E a.role qa.t a.acc qa.p))), 42), (b1, (SRep.cells ((SRep.mk S.ver S.key q.t S.acc q.p q.s q.i q.a q.b))), 37)] w7 := hM8
  refine l_val (gn rfl) rfl rfl (r_assign rfl) ?_
  refine l_nil ?_
  refine c_seq ?_
  refine c_reg ?_
  refine l_val (gn rfl) rfl rfl (r_fieldAddr SRep.fld_seats rfl) ?_
  refine l_val (gn rfl) rfl rfl (r_load1 (v := Sl.val q.s) Tryz.isAgg32 rfl (Holds.sub (hM8.base (i := 1) rfl) (SRep.sub_seats _))) ?_
  refine l_val (gn rfl) rfl rfl (r_lenR Tryz.underlying32 rfl (hS.seats.keep0 hM8.kp).len) ?_
  refine l_val (gn rfl) rfl rfl (r_fieldAddr SRep.fld_invites rfl) ?_
  refine l_val (gn rfl) rfl rfl (r_load1 (v := Sl.val q.i) Tryz.isAgg33 rfl (Holds.sub (hM8.base (i := 1) rfl) (SRep.sub_invites _))) ?_
  refine l_val (gn rfl) rfl rfl (r_lenR Tryz.underlying33 rfl (hS.invites.keep0 hM8.kp).len) ?_
  refine l_val (gn rfl) rfl rfl (r_add (r := ((S.seats.length + S.invites.length : Nat) : Int)) rfl rfl (nadd (i := S.seats.length) (k := S.invites.length) (m := S.seats.length + S.invites.length) (by omega) (by omega))) ?_
  refine l_val (gn rfl) rfl rfl (r_fieldAddr SRep.fld_asks rfl) ?_
  refine l_val (gn rfl) rfl rfl (r_load1 (v := Sl.val q.a) Tryz.isAgg34 rfl (Holds.sub (hM8.base (i := 1) rfl) (SRep.sub_asks _))) ?_
  refine l_val (gn rfl) rfl rfl (r_lenR Tryz.underlying34 rfl (hS.asks.keep0 hM8.kp).len) ?_
  refine l_val (gn rfl) rfl rfl (r_add (r := (((S.seats.length + S.invites.length) + S.asks.length : Nat) : Int)) rfl rfl (nadd (i := S.seats.length + S.invites.length) (k := S.asks.length) (m := (S.seats.length + S.invites.length) + S.asks.length) (by omega) (by omega))) ?_
  refine l_val (gn rfl) rfl rfl (r_fieldAddr SRep.fld_bans rfl) ?_
  refine l_val (gn rfl) rfl rfl (r_load1 (v := Sl.val q.b) Tryz.isAgg35 rfl (Holds.sub (hM8.base (i := 1) rfl) (SRep.sub_bans _))) ?_
  refine l_val (gn rfl) rfl rfl (r_lenR Tryz.underlying35 rfl (hS.bans.keep0 hM8.kp).len) ?_
  refine l_val (gn rfl) rfl rfl (r_add (r := ((((S.seats.length + S.invites.length) + S.asks.length) + S.bans.length : Nat) : Int)) rfl rfl (nadd (i := (S.seats.length + S.invites.length) + S.asks.length) (k := S.bans.length) (m := ((S.seats.length + S.invites.length) + S.asks.length) + S.bans.length) (by omega) (by omega))) ?_
  refine l_val (gn rfl) rfl rfl (r_assign rfl) ?_
  refine l_nil ?_
  refine c_seq ?_
  refine c_reg ?_
  refine l_val (gn rfl) rfl rfl (r_move rfl) ?_
  refine l_val (gn rfl) rfl rfl (r_gtr (b := decide ((400 : Nat) < ((S.seats.length + S.invites.length) + S.asks.length) + S.bans.length)) rfl rfl (nlt 400 (((S.seats.length + S.invites.length) + S.asks.length) + S.bans.length))) ?_
  refine l_val (gn rfl) rfl rfl (r_move rfl) ?_
  refine ways (decide ((400 : Nat) < ((S.seats.length + S.invites.length) + S.asks.length) + S.bans.length)) (fun h11 => ?_) (fun h11 => ?_)
  ·skip
   have hp12 : (400 : Nat) < ((S.seats.length + S.invites.length) + S.asks.length) + S.bans.length := of_decide_eq_true h11
   refine l_off (gno rfl rfl rfl rfl h11) rfl rfl ?_
   refine l_off (gno rfl rfl rfl rfl h11) rfl rfl ?_
   refine l_off (gno rfl rfl rfl rfl h11) rfl rfl ?_
   refine l_off (gno rfl rfl rfl rfl h11) rfl rfl ?_
   refine l_off (gno rfl rfl rfl rfl h11) rfl rfl ?_
   refine l_off (gno rfl rfl rfl rfl h11) rfl rfl ?_
   refine l_off (gno rfl rfl rfl rfl h11) rfl rfl ?_
   refine l_off (gno rfl rfl rfl rfl h11) rfl rfl ?_
   refine l_off (gno rfl rfl rfl rfl h11) rfl rfl ?_
   refine l_off (gno rfl rfl rfl rfl h11) rfl rfl ?_
   refine l_off (gno rfl rfl rfl rfl h11) rfl rfl ?_
   refine l_off (gno rfl rfl rfl rfl h11) rfl rfl ?_
   refine l_off (gno rfl rfl rfl rfl h11) rfl rfl ?_
   refine l_off (gno rfl rfl rfl rfl h11) rfl rfl ?_
   refine l_off (gno rfl rfl rfl rfl h11) rfl rfl ?_
   refine l_off (gno rfl rfl rfl rfl h11) rfl rfl ?_
   refine l_val (gn rfl) rfl rfl (r_pickT rfl h11 rfl) ?_
   refine l_val (gn rfl) rfl rfl (r_assign rfl) ?_
   refine l_nil ?_
   refine c_ret ?_
   refine ret1 rfl rfl ?_
   exact ⟨by simp [largeB, *], hM8.kp⟩
  ·skip
   have hp13 : ¬ ((400 : Nat) < ((S.seats.length + S.invites.length) + S.asks.length) + S.bans.length) := of_decide_eq_false h11
   refine l_val (gy rfl rfl rfl rfl h11) rfl rfl (r_fieldAddr SRep.fld_title rfl) ?_
   refine l_val (gy rfl rfl rfl rfl h11) rfl rfl (r_load1 (v := Sl.val q.t) Tryz.isAgg27 rfl (Holds.sub (hM8.base (i := 1) rfl) (SRep.sub_title _))) ?_
   refine l_val (gy rfl rfl rfl rfl h11) rfl rfl (r_lenR Tryz.underlying27 rfl (hS.title.keep0 hM8.kp).len) ?_
   refine l_val (gy rfl rfl rfl rfl h11) rfl rfl (r_fieldAddr SRep.fld_pass rfl) ?_
   refine l_val (gy rfl rfl rfl rfl h11) rfl rfl (r_load1 (v := Sl.val q.p) Tryz.isAgg27 rfl (Holds.sub (hM8.base (i := 1) rfl) (SRep.sub_pass _))) ?_
   refine l_val (gy rfl rfl rfl rfl h11) rfl rfl (r_lenR Tryz.underlying27 rfl (hS.pass.keep0 hM8.kp).len) ?_
   refine l_val (gy rfl rfl rfl rfl h11) rfl rfl (r_add (r := ((S.title.length + S.pass.length : Nat) : Int)) rfl rfl (nadd (i := S.title.length) (k := S.pass.length) (m := S.title.length + S.pass.length) (by omega) (by omega))) ?_
   refine l_val (gy rfl rfl rfl rfl h11) rfl rfl (r_fieldAddr ARep.fld_title rfl) ?_
   refine l_val (gy rfl rfl rfl rfl h11) rfl rfl (r_load1 (v := Sl.val qa.t) Tryz.isAgg27 rfl (Holds.sub (hM8.base (i := 0) rfl) (ARep.sub_title _))) ?_
   refine l_val (gy rfl rfl rfl rfl h11) rfl rfl (r_lenR Tryz.underlying27 rfl (hA.title.keep0 hM8.kp).len) ?_
   refine l_val (gy rfl rfl rfl rfl h11) rfl rfl (r_add (r := (((S.title.length + S.pass.length) + a.title.length : Nat) : Int)) rfl rfl (nadd (i := S.title.length + S.pass.length) (k := a.title.length) (m := (S.title.length + S.pass.length) + a.title.length) (by omega) (by omega))) ?_
   refine l_val (gy rfl rfl rfl rfl h11) rfl rfl (r_fieldAddr ARep.fld_pass rfl) ?_
   refine l_val (gy rfl rfl rfl rfl h11) rfl rfl (r_load1 (v := Sl.val qa.p) Tryz.isAgg27 rfl (Holds.sub (hM8.base (i := 0) rfl) (ARep.sub_pass _))) ?_
   refine l_val (gy rfl rfl rfl rfl h11) rfl rfl (r_lenR Tryz.underlying27 rfl (hA.pass.keep0 hM8.kp).len) ?_
   refine l_val (gy rfl rfl rfl rfl h11) rfl rfl (r_add (r := ((((S.title.length + S.pass.length) + a.title.length) + a.pass.length : Nat) : Int)) rfl rfl (nadd (i := (S.title.length + S.pass.length) + a.title.length) (k := a.pass.length) (m := ((S.title.length + S.pass.length) + a.title.length) + a.pass.length) (by omega) (by omega))) ?_
   refine l_val (gy rfl rfl rfl rfl h11) rfl rfl (r_gtr (b := decide ((20000 : Nat) < ((S.title.length + S.pass.length) + a.title.length) + a.pass.length)) rfl rfl (nlt 20000 (((S.title.length + S.pass.length) + a.title.length) + a.pass.length))) ?_
   refine l_val (gn rfl) rfl rfl (r_pickF rfl h11 rfl) ?_
   refine l_val (gn rfl) rfl rfl (r_assign rfl) ?_
   refine l_nil ?_
   refine c_ret ?_
   refine ret1 rfl rfl ?_
   exact ⟨by simp [largeB, *], hM8.kp⟩
theorem f98 {A B : Nat → Prop} {w : World} {s1 s2 : Sl} {l1 l2 : List UInt8} (h1 : Row A w s1 1 encB l1) (h2 : Row B w s2 1 encB l2) :
    Ret 98 #[s1.val, s2.val] w (fun v w' => v = .bool (decide (l1 = l2)) ∧ Keeps [] w w') := by
  have hM0 := Mem.start w
  refine enter Tryz.func98 rfl rfl ?_
  refine c_seq ?_
  refine c_reg ?_
  refine l_val (gn rfl) rfl rfl (r_assign rfl) ?_
  refine l_nil ?_
  refine c_seq ?_
  refine c_reg ?_
  refine l_val (gn rfl) rfl rfl (r_move rfl) ?_
  refine l_val (gn rfl) rfl rfl (r_bstrR rfl h1) ?_
  refine l_val (gn rfl) rfl rfl (r_move rfl) ?_
  refine l_val (gn rfl) rfl rfl (r_bstrR rfl h2) ?_
  refine l_val (gn rfl) rfl rfl (r_streq rfl rfl) ?_
  refine l_val (gn rfl) rfl rfl (r_assign rfl) ?_
  refine l_nil ?_
  refine c_ret ?_
  refine ret1 rfl rfl ?_
  exact ⟨rfl, hM0.kp⟩
theorem f88 {w : World} {a b : Pt} {b1 o1 b2 o2 : Nat} (h1 : Holds w b1 o1 a.cells) (h2 : Holds w b2 o2 b.cells) :
    Ret 88 #[.slice (some ⟨b1, o1, none⟩) 32 32, .slice (some ⟨b2, o2, none⟩) 32 32] w (fun v w' => v = .int .i64 (ptCmp a b) ∧ Keeps [] w w') := by
  have hM0 := Mem.start w
  refine enter Tryz.func88 rfl rfl ?_
  refine c_seq ?_
  refine c_reg ?_
  refine l_val (gn rfl) rfl rfl (r_assign rfl) ?_
  refine l_nil ?_
  refine c_seq ?_
  refine c_reg ?_
  refine l_val (gn rfl) rfl rfl (r_move rfl) ?_
  refine l_val (gn rfl) rfl rfl (r_move rfl) ?_
  refine l_val (gn rfl) rfl rfl (r_cmp rfl rfl (h1.keep hM0.kp (by simp)) (h2.keep hM0.kp (by simp))) ?_
  refine l_val (gn rfl) rfl rfl (r_assign rfl) ?_
  refine l_nil ?_
  refine c_ret ?_
  refine ret1 rfl rfl ?_
  exact ⟨rfl, hM0.kp⟩
theorem f26 {A : Nat → Prop} {w : World} {S : State} {q : Six} (hS : StV A w q S) (e : Pt) : Ret 26 #[.agg (S.rep q).cells, .agg e.cells] w
    (fun v w' => v = .tuple #[.int .i64 (((placeOf S e).1 : Nat) : Int), .int .u64 (((placeOf S e).2.1 : Nat) : Int), .agg (placeOf S e).2.2.cells] ∧ Keeps [] w w') := by
  have hM0 := Mem.start w
  refine enter Tryz.func26 rfl rfl ?_
  refine c_seq ?_
  refine c_reg ?_
  refine l_box hM0 rfl rfl ?_
  intro b1 w2 hM3 hK4 hB5
  replace hM3 : Mem w [] [(b1, (SRep.cells ((SRep.mk S.ver S.key q.t S.acc q.p q.s q.i q.a q.b))), 37)] w2 := hM3
  refine l_box hM3 rfl rfl ?_
  intro b6 w7 hM8 hK9 hB10
  replace hM8 : Mem w [] [(b6, (Pt.cells e), 24), (b1, (SRep.cells ((SRep.mk S.ver S.key q.t S.acc q.p q.s q.i q.a q.b))), 37)] w7 := hM8
  refine l_val (gn rfl) rfl rfl (r_assign rfl) ?_
  refine l_val (gn rfl) rfl rfl (r_assign rfl) ?_
  refine l_alloc hM8 rfl zv_Pt ?_
  intro b11 w12 hM13 hK14 hB15
  replace hM13 : Mem w [] [(b11, (Pt.cells Pt.zero), 24), (b6, (Pt.cells e), 24), (b1, (SRep.cells ((SRep.mk S.ver S.key q.t S.acc q.p q.s q.i q.a q.b))), 37)] w12 := hM13
  refine l_nil ?_
  refine c_seq ?_
  refine c_reg ?_
  refine l_val (gn rfl) rfl rfl (r_loadA Tryz.isAgg37 Tryz.sizeOf37 (SRep.size _) rfl (hM13.base (i := 2) rfl)) ?_
  refine l_val (gn rfl) rfl rfl (r_loadA Tryz.isAgg24 Tryz.sizeOf24 (Pt.size _) rfl (hM13.base (i := 1) rfl)) ?_
  refine l_call (gn rfl) rfl rfl (r_call Tryz.call36 rfl) (f36 (hS.keep0 hM13.kp) e) ?_
  rintro v16 w17 ⟨rfl, hK18⟩
  have hM19 := hM13.keep hK18
  rcases idxOf_cases (seatIs e) S.seats with ⟨hi20, hf20⟩ | ⟨k20, x20, hi20, hx20, hp20, hf20⟩
  ·skip
   rw [hi20]
   refine l_val (gn rfl) rfl rfl (r_assign rfl) ?_
   refine l_nil ?_
   refine c_seq ?_
   refine c_seq ?_
   refine c_reg ?_
   refine l_val (gn rfl) rfl rfl (r_move rfl) ?_
   refine l_val (gn rfl) rfl rfl (r_geq (b := false) rfl rfl (by decide)) ?_
   refine l_nil ?_
   refine c_condF rfl rfl ?_
   refine c_skip ?_
   refine c_seq ?_
   refine c_reg ?_
   refine l_val (gn rfl) rfl rfl (r_loadA Tryz.isAgg37 Tryz.sizeOf37 (SRep.size _) rfl (hM19.base (i := 2) rfl)) ?_
   refine l_val (gn rfl) rfl rfl (r_loadA Tryz.isAgg24 Tryz.sizeOf24 (Pt.size _) rfl (hM19.base (i := 1) rfl)) ?_
   refine l_call (gn rfl) rfl rfl (r_call Tryz.call41 rfl) (f41 (hS.keep0 hM19.kp) e) ?_
   rintro v21 w22 ⟨rfl, hK23⟩
   have hM24 := hM19.keep hK23
   rcases idxOf_cases (inviteIs e) S.invites with ⟨hi25, hf25⟩ | ⟨k25, x25, hi25, hx25, hp25, hf25⟩
   ·skip
    rw [hi25]
    refine l_val (gn rfl) rfl rfl (r_assign rfl) ?_
    refine l_nil ?_
    refine c_seq ?_
    refine c_seq ?_
    refine c_reg ?_
    refine l_val (gn rfl) rfl rfl (r_move rfl) ?_
    refine l_val (gn rfl) rfl rfl (r_geq (b := false) rfl rfl (by decide)) ?_
    refine l_nil ?_
    refine c_condF rfl rfl ?_
    refine c_skip ?_
    refine c_seq ?_
    refine c_reg ?_
    refine l_val (gn rfl) rfl rfl (r_loadA Tryz.isAgg37 Tryz.sizeOf37 (SRep.size _) rfl (hM24.base (i := 2) rfl)) ?_
    refine l_val (gn rfl) rfl rfl (r_loadA Tryz.isAgg24 Tryz.sizeOf24 (Pt.size _) rfl (hM24.base (i := 1) rfl)) ?_
    refine l_call (gn rfl) rfl rfl (r_call Tryz.call42 rfl) (f42 (hS.keep0 hM24.kp) e) ?_
    rintro v26 w27 ⟨rfl, hK28⟩
    have hM29 := hM24.keep hK28
    rcases idxOf_cases (askIs e) S.asks with ⟨hi30, hf30⟩ | ⟨k30, x30, hi30, hx30, hp30, hf30⟩
    ·skip
     rw [hi30]
     refine l_val (gn rfl) rfl rfl (r_assign rfl) ?_
     refine l_nil ?_
     refine c_seq ?_
     refine c_seq ?_
     refine c_reg ?_
     refine l_val (gn rfl) rfl rfl (r_move rfl) ?_
     refine l_val (gn rfl) rfl rfl (r_geq (b := false) rfl rfl (by decide)) ?_
     refine l_nil ?_
     refine c_condF rfl rfl ?_
     refine c_skip ?_
     refine c_seq ?_
     refine c_reg ?_
     refine l_val (gn rfl) rfl rfl (r_loadA Tryz.isAgg37 Tryz.sizeOf37 (SRep.size _) rfl (hM29.base (i := 2) rfl)) ?_
     refine l_val (gn rfl) rfl rfl (r_loadA Tryz.isAgg24 Tryz.sizeOf24 (Pt.size _) rfl (hM29.base (i := 1) rfl)) ?_
     refine l_call (gn rfl) rfl rfl (r_call Tryz.call43 rfl) (f43 (hS.keep0 hM29.kp) e) ?_
     rintro v31 w32 ⟨rfl, hK33⟩
     have hM34 := hM29.keep hK33
     rcases idxOf_cases (banIs e) S.bans with ⟨hi35, hf35⟩ | ⟨k35, x35, hi35, hx35, hp35, hf35⟩
     ·skip
      rw [hi35]
      refine l_val (gn rfl) rfl rfl (r_assign rfl) ?_
      refine l_nil ?_
      refine c_seq ?_
      refine c_seq ?_
      refine c_reg ?_
      refine l_val (gn rfl) rfl rfl (r_move rfl) ?_
      refine l_val (gn rfl) rfl rfl (r_geq (b := false) rfl rfl (by decide)) ?_
      refine l_nil ?_
      refine c_condF rfl rfl ?_
      refine c_skip ?_
      refine c_seq ?_
      refine c_reg ?_
      refine l_val (gn rfl) rfl rfl (r_build rfl Pt.built) ?_
      refine l_val (gn rfl) rfl rfl (r_assign rfl) ?_
      refine l_val (gn rfl) rfl rfl (r_assign rfl) ?_
      refine l_store hM34 (i := 0) rfl Tryz.sizeOf24 rfl rfl (Pt.size _) (by rw [Pt.size]; decide) (Pt.one _) (put_whole _ _ ((Pt.size _).trans (Pt.size _).symm)) ?_
      intro w36 hM37 hK38
      replace hM37 : Mem w [] [(b11, (Pt.cells Pt.zero), 24), (b6, (Pt.cells e), 24), (b1, (SRep.cells ((SRep.mk S.ver S.key q.t S.acc q.p q.s q.i q.a q.b))), 37)] w36 := hM37
      refine l_nil ?_
      refine c_ret ?_
      refine retTTC rfl Tryz.isAgg24 Tryz.sizeOf24 (Pt.size _) rfl rfl rfl (hM37.base (i := 0) rfl) ?_
      exact ⟨by simp [placeOf, *], hM37.kp⟩
     ·skip
      rw [hi35]
      refine l_val (gn rfl) rfl rfl (r_assign rfl) ?_
      refine l_nil ?_
      refine c_seq ?_
      refine c_seq ?_
      refine c_reg ?_
      refine l_val (gn rfl) rfl rfl (r_move rfl) ?_
      refine l_val (gn rfl) rfl rfl (r_geq (b := true) rfl rfl (by simp)) ?_
      refine l_nil ?_
      refine c_condT rfl rfl ?_
      refine c_seq ?_
      refine c_regD (Mem w [] [(b11, (Pt.cells Pt.zero), 24), (b6, (Pt.cells e), 24), (b1, (SRep.cells ((SRep.mk S.ver S.key q.t S.acc q.p q.s q.i q.a q.b))), 37)]) [9] [(0, true), (1, true), (2, true), (3, true), (4, true), (5, true), (6, true), (7, true), (8, true), (9, false)] (by kernel_rfl) ?_
      have hM39 := hM34.drew
      refine s_take hM39 rfl (gn rfl) rfl rfl (fun w h => r_fieldAddr SRep.fld_bans rfl) ?_
      refine s_take hM39 rfl (gn rfl) rfl rfl (fun w h => r_load1 (v := Sl.val q.b) Tryz.isAgg35 rfl (Holds.sub (h.base (i := 2) rfl) (SRep.sub_bans _))) ?_
      refine s_take hM39 rfl (gn rfl) rfl rfl (fun w h => r_move rfl) ?_
      have hlt41 : k35 < S.bans.length := (List.getElem?_eq_some_iff.1 hx35).1
      obtain ⟨p41, o41, ha41, hA41, -⟩ := (hS.bans.keep0 hM39.kp).at_ _ _ hx35
      refine s_take hM39 rfl (gn rfl) rfl rfl (fun w h => r_indexR Tryz.underlying35 Tryz.sizeOf86 ⟨_, (hS.bans.keep0 h.kp)⟩ rfl ha41 rfl hlt41) ?_
      refine s_take hM39 rfl (gn rfl) rfl rfl (fun w h => r_fieldAddr Ban.fld_by_ rfl) ?_
      refine s_take hM39 rfl (gn rfl) rfl rfl (fun w h => r_fieldAddr Cipher.fld_E rfl) ?_
      refine s_take hM39 rfl (gn rfl) rfl rfl (fun w h => r_loadA Tryz.isAgg24 Tryz.sizeOf24 (Pt.size _) rfl (Holds.sub (Holds.sub ((hS.bans.keep0 h.kp).ix hx35 ha41) (Ban.sub_by_ _)) (Cipher.sub_E _))) ?_
      refine s_take hM39 rfl (gn rfl) rfl rfl (fun w h => r_assign rfl) ?_
      refine s_take hM39 rfl (gn rfl) rfl rfl (fun w h => r_assign rfl) ?_
      refine s_store hM39 (j := 0) rfl rfl Tryz.sizeOf24 rfl rfl (Pt.size _) (by rw [Pt.size]; decide) (Pt.one _) (put_whole _ _ ((Pt.size _).trans (Pt.size _).symm)) ?_
      intro w42 hM43 hK44
      replace hM43 : Mem w [] [(b11, (Pt.cells x35.by_.E), 24), (b6, (Pt.cells e), 24), (b1, (SRep.cells ((SRep.mk S.ver S.key q.t S.acc q.p q.s q.i q.a q.b))), 37)] w42 := hM43
      refine ⟨.inl rfl, ?_⟩
      refine s_nil ?_
      refine c_ret ?_
      refine retTTC rfl Tryz.isAgg24 Tryz.sizeOf24 (Pt.size _) rfl rfl rfl (hM43.base (i := 0) rfl) ?_
      exact ⟨by simp [placeOf, *], hM43.kp⟩
    ·skip
     rw [hi30]
     refine l_val (gn rfl) rfl rfl (r_assign rfl) ?_
     refine l_nil ?_
     refine c_seq ?_
     refine c_seq ?_
     refine c_reg ?_
     refine l_val (gn rfl) rfl rfl (r_move rfl) ?_
     refine l_val (gn rfl) rfl rfl (r_geq (b := true) rfl rfl (by simp)) ?_
     refine l_nil ?_
     refine c_condT rfl rfl ?_
     refine c_seq ?_
     refine c_regD (Mem w [] [(b11, (Pt.cells Pt.zero), 24), (b6, (Pt.cells e), 24), (b1, (SRep.cells ((SRep.mk S.ver S.key q.t S.acc q.p q.s q.i q.a q.b))), 37)]) [10] [(0, true), (1, true), (2, true), (3, true), (4, true), (5, true), (6, true), (7, true), (8, true), (9, true), (10, false)] (by kernel_rfl) ?_
     have hM45 := hM29.drew
     refine s_take hM45 rfl (gn rfl) rfl rfl (fun w h => r_fieldAddr SRep.fld_asks rfl) ?_
     refine s_take hM45 rfl (gn rfl) rfl rfl (fun w h => r_load1 (v := Sl.val q.a) Tryz.isAgg34 rfl (Holds.sub (h.base (i := 2) rfl) (SRep.sub_asks _))) ?_
     refine s_take hM45 rfl (gn rfl) rfl rfl (fun w h => r_move rfl) ?_
     have hlt47 : k30 < S.asks.length := (List.getElem?_eq_some_iff.1 hx30).1
     obtain ⟨p47, o47, ha47, hA47, -⟩ := (hS.asks.keep0 hM45.kp).at_ _ _ hx30
     refine s_take hM45 rfl (gn rfl) rfl rfl (fun w h => r_indexR Tryz.underlying34 Tryz.sizeOf84 ⟨_, (hS.asks.keep0 h.kp)⟩ rfl ha47 rfl hlt47) ?_
     refine s_take hM45 rfl (gn rfl) rfl rfl (fun w h => r_fieldAddr Ask.fld_at_ rfl) ?_
     refine s_take hM45 rfl (gn rfl) rfl rfl (fun w h => r_load1 (v := vU32 x30.at_) Tryz.isAgg22 rfl (Holds.sub ((hS.asks.keep0 h.kp).ix hx30 ha47) (Ask.sub_at_ _))) ?_
     refine s_take hM45 rfl (gn rfl) rfl rfl (fun w h => r_convI (r := ((x30.at_.toNat : Nat) : Int)) Tryz.underlying22 Tryz.underlying65 rfl (wu64_32 _)) ?_
     refine s_take hM45 rfl (gn rfl) rfl rfl (fun w h => r_build rfl Pt.built) ?_
     refine s_take hM45 rfl (gn rfl) rfl rfl (fun w h => r_assign rfl) ?_
     refine s_take hM45 rfl (gn rfl) rfl rfl (fun w h => r_assign rfl) ?_
     refine s_store hM45 (j := 0) rfl rfl Tryz.sizeOf24 rfl rfl (Pt.size _) (by rw [Pt.size]; decide) (Pt.one _) (put_whole _ _ ((Pt.size _).trans (Pt.size _).symm)) ?_
     intro w48 hM49 hK50
     replace hM49 : Mem w [] [(b11, (Pt.cells Pt.zero), 24), (b6, (Pt.cells e), 24), (b1, (SRep.cells ((SRep.mk S.ver S.key q.t S.acc q.p q.s q.i q.a q.b))), 37)] w48 := hM49
     refine ⟨.inl rfl, ?_⟩
     refine s_nil ?_
     refine c_ret ?_
     refine retTTC rfl Tryz.isAgg24 Tryz.sizeOf24 (Pt.size _) rfl rfl rfl (hM49.base (i := 0) rfl) ?_
     exact ⟨by simp [placeOf, *], hM49.kp⟩
   ·skip
    rw [hi25]
    refine l_val (gn rfl) rfl rfl (r_assign rfl) ?_
    refine l_nil ?_
    refine c_seq ?_
    refine c_seq ?_
    refine c_reg ?_
    refine l_val (gn rfl) rfl rfl (r_move rfl) ?_
    refine l_val (gn rfl) rfl rfl (r_geq (b := true) rfl rfl (by simp)) ?_
    refine l_nil ?_
    refine c_condT rfl rfl ?_
    refine c_seq ?_
    refine c_regD (Mem w [] [(b11, (Pt.cells Pt.zero), 24), (b6, (Pt.cells e), 24), (b1, (SRep.cells ((SRep.mk S.ver S.key q.t S.acc q.p q.s q.i q.a q.b))), 37)]) [16] [(0, true), (1, true), (2, true), (3, true), (4, true), (5, true), (6, true), (7, true), (8, true), (9, true), (10, true), (11, true), (12, true), (13, true), (14, true), (15, true), (16, false)] (by kernel_rfl) ?_
    have hM51 := hM24.drew
    refine s_take hM51 rfl (gn rfl) rfl rfl (fun w h => r_fieldAddr SRep.fld_invites rfl) ?_
    refine s_take hM51 rfl (gn rfl) rfl rfl (fun w h => r_load1 (v := Sl.val q.i) Tryz.isAgg33 rfl (Holds.sub (h.base (i := 2) rfl) (SRep.sub_invites _))) ?_
    refine s_take hM51 rfl (gn rfl) rfl rfl (fun w h => r_move rfl) ?_
    have hlt53 : k25 < S.invites.length := (List.getElem?_eq_some_iff.1 hx25).1
    obtain ⟨p53, o53, ha53, hA53, -⟩ := (hS.invites.keep0 hM51.kp).at_ _ _ hx25
    refine s_take hM51 rfl (gn rfl) rfl rfl (fun w h => r_indexR Tryz.underlying33 Tryz.sizeOf82 ⟨_, (hS.invites.keep0 h.kp)⟩ rfl ha53 rfl hlt53) ?_
    refine s_take hM51 rfl (gn rfl) rfl rfl (fun w h => r_fieldAddr Invite.fld_role rfl) ?_
    refine s_take hM51 rfl (gn rfl) rfl rfl (fun w h => r_load1 (v := vU8 x25.role) Tryz.isAgg28 rfl (Holds.sub ((hS.invites.keep0 h.kp).ix hx25 ha53) (Invite.sub_role _))) ?_
    refine s_take hM51 rfl (gn rfl) rfl rfl (fun w h => r_convI (r := ((x25.role.toNat : Nat) : Int)) Tryz.underlying28 Tryz.underlying65 rfl (wu64_8 _)) ?_
    refine s_take hM51 rfl (gn rfl) rfl rfl (fun w h => r_fieldAddr SRep.fld_invites rfl) ?_
    refine s_take hM51 rfl (gn rfl) rfl rfl (fun w h => r_load1 (v := Sl.val q.i) Tryz.isAgg33 rfl (Holds.sub (h.base (i := 2) rfl) (SRep.sub_invites _))) ?_
    refine s_take hM51 rfl (gn rfl) rfl rfl (fun w h => r_move rfl) ?_
    refine s_take hM51 rfl (gn rfl) rfl rfl (fun w h => r_indexR Tryz.underlying33 Tryz.sizeOf82 ⟨_, (hS.invites.keep0 h.kp)⟩ rfl ha53 rfl hlt53) ?_
    refine s_take hM51 rfl (gn rfl) rfl rfl (fun w h => r_fieldAddr Invite.fld_by_ rfl) ?_
    refine s_take hM51 rfl (gn rfl) rfl rfl (fun w h => r_fieldAddr Cipher.fld_E rfl) ?_
    refine s_take hM51 rfl (gn rfl) rfl rfl (fun w h => r_loadA Tryz.isAgg24 Tryz.sizeOf24 (Pt.size _) rfl (Holds.sub (Holds.sub ((hS.invites.keep0 h.kp).ix hx25 ha53) (Invite.sub_by_ _)) (Cipher.sub_E _))) ?_
    refine s_take hM51 rfl (gn rfl) rfl rfl (fun w h => r_assign rfl) ?_
    refine s_take hM51 rfl (gn rfl) rfl rfl (fun w h => r_assign rfl) ?_
    refine s_store hM51 (j := 0) rfl rfl Tryz.sizeOf24 rfl rfl (Pt.size _) (by rw [Pt.size]; decide) (Pt.one _) (put_whole _ _ ((Pt.size _).trans (Pt.size _).symm)) ?_
    intro w54 hM55 hK56
    replace hM55 : Mem w [] [(b11, (Pt.cells x25.by_.E), 24), (b6, (Pt.cells e), 24), (b1, (SRep.cells ((SRep.mk S.ver S.key q.t S.acc q.p q.s q.i q.a q.b))), 37)] w54 := hM55
    refine ⟨.inl rfl, ?_⟩
    refine s_nil ?_
    refine c_ret ?_
    refine retTTC rfl Tryz.isAgg24 Tryz.sizeOf24 (Pt.size _) rfl rfl rfl (hM55.base (i := 0) rfl) ?_
    exact ⟨by simp [placeOf, *], hM55.kp⟩
  ·skip
   rw [hi20]
   refine l_val (gn rfl) rfl rfl (r_assign rfl) ?_
   refine l_nil ?_
   refine c_seq ?_
   refine c_seq ?_
   refine c_reg ?_
   refine l_val (gn rfl) rfl rfl (r_move rfl) ?_
   refine l_val (gn rfl) rfl rfl (r_geq (b := true) rfl rfl (by simp)) ?_
   refine l_nil ?_
   refine c_condT rfl rfl ?_
   refine c_seq ?_
   refine c_regD (Mem w [] [(b11, (Pt.cells Pt.zero), 24), (b6, (Pt.cells e), 24), (b1, (SRep.cells ((SRep.mk S.ver S.key q.t S.acc q.p q.s q.i q.a q.b))), 37)]) [19] [(0, true), (1, true), (2, true), (3, true), (4, true), (5, true), (6, true), (7, true), (8, true), (9, true), (10, true), (11, true), (12, true), (13, true), (14, true), (15, true), (16, true), (17, true), (18, true), (19, false)] (by kernel_rfl) ?_
   have hM57 := hM19.drew
   refine s_take hM57 rfl (gn rfl) rfl rfl (fun w h => r_fieldAddr SRep.fld_seats rfl) ?_
   refine s_take hM57 rfl (gn rfl) rfl rfl (fun w h => r_load1 (v := Sl.val q.s) Tryz.isAgg32 rfl (Holds.sub (h.base (i := 2) rfl) (SRep.sub_seats _))) ?_
   refine s_take hM57 rfl (gn rfl) rfl rfl (fun w h => r_move rfl) ?_
   have hlt59 : k20 < S.seats.length := (List.getElem?_eq_some_iff.1 hx20).1
   obtain ⟨p59, o59, ha59, hA59, -⟩ := (hS.seats.keep0 hM57.kp).at_ _ _ hx20
   refine s_take hM57 rfl (gn rfl) rfl rfl (fun w h => r_indexR Tryz.underlying32 Tryz.sizeOf73 ⟨_, (hS.seats.keep0 h.kp)⟩ rfl ha59 rfl hlt59) ?_
   refine s_take hM57 rfl (gn rfl) rfl rfl (fun w h => r_fieldAddr Seat.fld_role rfl) ?_
   refine s_take hM57 rfl (gn rfl) rfl rfl (fun w h => r_load1 (v := vU8 x20.role) Tryz.isAgg28 rfl (Holds.sub ((hS.seats.keep0 h.kp).ix hx20 ha59) (Seat.sub_role _))) ?_
   refine s_take hM57 rfl (gn rfl) rfl rfl (fun w h => r_convI (r := ((x20.role.toNat : Nat) : Int)) Tryz.underlying28 Tryz.underlying65 rfl (wu64_8 _)) ?_
   refine s_take hM57 rfl (gn rfl) rfl rfl (fun w h => r_shl (r := ((x20.role.toNat * 4294967296 : Nat) : Int)) rfl rfl (by decide) (u64shl x20.role.toNat (by have := UInt8.toNat_lt x20.role; omega))) ?_
   refine s_take hM57 rfl (gn rfl) rfl rfl (fun w h => r_fieldAddr SRep.fld_seats rfl) ?_
   refine s_take hM57 rfl (gn rfl) rfl rfl (fun w h => r_load1 (v := Sl.val q.s) Tryz.isAgg32 rfl (Holds.sub (h.base (i := 2) rfl) (SRep.sub_seats _))) ?_
   refine s_take hM57 rfl (gn rfl) rfl rfl (fun w h => r_move rfl) ?_
   refine s_take hM57 rfl (gn rfl) rfl rfl (fun w h => r_indexR Tryz.underlying32 Tryz.sizeOf73 ⟨_, (hS.seats.keep0 h.kp)⟩ rfl ha59 rfl hlt59) ?_
   refine s_take hM57 rfl (gn rfl) rfl rfl (fun w h => r_fieldAddr Seat.fld_joined rfl) ?_
   refine s_take hM57 rfl (gn rfl) rfl rfl (fun w h => r_load1 (v := vU32 x20.joined) Tryz.isAgg22 rfl (Holds.sub ((hS.seats.keep0 h.kp).ix hx20 ha59) (Seat.sub_joined _))) ?_
   refine s_take hM57 rfl (gn rfl) rfl rfl (fun w h => r_convI (r := ((x20.joined.toNat : Nat) : Int)) Tryz.underlying22 Tryz.underlying65 rfl (wu64_32 _)) ?_
   refine s_take hM57 rfl (gn rfl) rfl rfl (fun w h => r_add (r := (((x20.role.toNat * 4294967296) + x20.joined.toNat : Nat) : Int)) rfl rfl (u64add (x20.role.toNat * 4294967296) x20.joined.toNat (by have := UInt8.toNat_lt x20.role; have := UInt32.toNat_lt x20.joined; omega))) ?_
   refine s_take hM57 rfl (gn rfl) rfl rfl (fun w h => r_build rfl Pt.built) ?_
   refine s_take hM57 rfl (gn rfl) rfl rfl (fun w h => r_assign rfl) ?_
   refine s_take hM57 rfl (gn rfl) rfl rfl (fun w h => r_assign rfl) ?_
   refine s_store hM57 (j := 0) rfl rfl Tryz.sizeOf24 rfl rfl (Pt.size _) (by rw [Pt.size]; decide) (Pt.one _) (put_whole _ _ ((Pt.size _).trans (Pt.size _).symm)) ?_
   intro w60 hM61 hK62
   replace hM61 : Mem w [] [(b11, (Pt.cells Pt.zero), 24), (b6, (Pt.cells e), 24), (b1, (SRep.cells ((SRep.mk S.ver S.key q.t S.acc q.p q.s q.i q.a q.b))), 37)] w60 := hM61
   refine ⟨.inl rfl, ?_⟩
   refine s_nil ?_
   refine c_ret ?_
   refine retTTC rfl Tryz.isAgg24 Tryz.sizeOf24 (Pt.size _) rfl rfl rfl (hM61.base (i := 0) rfl) ?_
   exact ⟨by simp [placeOf, *], hM61.kp⟩
end Go.Proofs.YtekhaogjmmmniaaGreat
namespace Go.Proofs.YtekhaogjmmmniaaGreat
open Go Go.RowKit

theorem f58 {w : World} (k : UInt8) : Ret 58 #[vU8 k] w (fun v w' => v = .agg (hsOf k).cells ∧ Keeps [] w w') := by
  have hM0 := Mem.start w
  refine enter Tryz.func58 rfl rfl ?_
  refine c_seq ?_
  refine c_reg ?_
  refine l_alloc hM0 rfl Hs.zv ?_
  intro b1 w2 hM3 hK4 hB5
  replace hM3 : Mem w [] [(b1, (Hs.cells Hs.zero), 106)] w2 := hM3
  refine l_nil ?_
  refine c_seq ?_
  refine c_seq ?_
  refine c_reg ?_
  refine l_val (gn rfl) rfl rfl (r_move rfl) ?_
  refine l_nil ?_
  refine c_block ?_
  refine c_seq ?_
  refine c_block ?_
  refine c_seq ?_
  refine c_block ?_
  refine c_seq ?_
  refine c_block ?_
  refine c_seq ?_
  refine c_block ?_
  refine c_seq ?_
  refine c_block ?_
  refine c_seq ?_
  refine c_block ?_
  refine c_seq ?_
  refine c_block ?_
  refine c_seq ?_
  refine c_seq ?_
  refine c_seq ?_
  refine c_seq ?_
  refine c_reg ?_
  refine l_val (gn rfl) rfl rfl (r_eql (b := decide ((k : UInt8) = 1)) rfl rfl (u8eq k 1)) ?_
  refine l_val (gn rfl) rfl rfl (r_assign rfl) ?_
  refine l_nil ?_
  refine ways (decide ((k : UInt8) = 1)) (fun h6 => ?_) (fun h6 => ?_)
  ·skip
   have hp7 : (k : UInt8) = 1 := of_decide_eq_true h6
   refine c_condT rfl h6 ?_
   refine c_skip ?_
   refine c_condT rfl h6 ?_
   refine c_exit rfl ?_
   refine c_seq ?_
   refine c_reg ?_
   refine l_val (gn rfl) rfl rfl (r_fieldAddr Hs.fld_who rfl) ?_
   refine l_store hM3 (i := 0) rfl Tryz.sizeOf4 rfl rfl rfl (by rw [Hs.size]; decide) (one_one rfl) (Hs.put_who _ _) ?_
   intro w8 hM9 hK10
   replace hM9 : Mem w [] [(b1, (Hs.cells ((Hs.mk true Hs.zero.e Hs.zero.role Hs.zero.title Hs.zero.access Hs.zero.password))), 106)] w8 := hM9
   refine l_val (gn rfl) rfl rfl (r_fieldAddr Hs.fld_role rfl) ?_
   refine l_store hM9 (i := 0) rfl Tryz.sizeOf4 rfl rfl rfl (by rw [Hs.size]; decide) (one_one rfl) (Hs.put_role _ _) ?_
   intro w11 hM12 hK13
   replace hM12 : Mem w [] [(b1, (Hs.cells ((Hs.mk true Hs.zero.e true Hs.zero.title Hs.zero.access Hs.zero.password))), 106)] w11 := hM12
   refine l_nil ?_
   refine c_exit rfl ?_
   refine c_seq ?_
   refine c_reg ?_
   refine l_val (gn rfl) rfl rfl (r_loadA Tryz.isAgg106 Tryz.sizeOf106 (Hs.size _) rfl (hM12.base (i := 0) rfl)) ?_
   refine l_store hM12 (i := 0) rfl Tryz.sizeOf106 rfl rfl (Hs.size _) (by rw [Hs.size]; decide) (Hs.one _) (put_whole _ _ ((Hs.size _).trans (Hs.size _).symm)) ?_
   intro w14 hM15 hK16
   replace hM15 : Mem w [] [(b1, (Hs.cells ((Hs.mk true Hs.zero.e true Hs.zero.title Hs.zero.access Hs.zero.password))), 106)] w14 := hM15
   refine l_nil ?_
   refine c_ret ?_
   refine retC rfl Tryz.isAgg106 Tryz.sizeOf106 (Hs.size _) rfl (hM15.base (i := 0) rfl) ?_
   exact ⟨congrArg (fun h => Value.agg (Hs.cells h)) (show (Hs.mk true Hs.zero.e true Hs.zero.title Hs.zero.access Hs.zero.password) = hsOf k from by simp [hsOf, Hs.zero, *]), hM15.kp⟩
  ·skip
   have hp17 : ¬ ((k : UInt8) = 1) := of_decide_eq_false h6
   refine c_condF rfl h6 ?_
   refine c_reg ?_
   refine l_val (gn rfl) rfl rfl (r_eql (b := decide ((k : UInt8) = 5)) rfl rfl (u8eq k 5)) ?_
   refine l_val (gn rfl) rfl rfl (r_assign rfl) ?_
   refine l_nil ?_
   refine ways (decide ((k : UInt8) = 5)) (fun h18 => ?_) (fun h18 => ?_)
   ·skip
    have hp19 : (k : UInt8) = 5 := of_decide_eq_true h18
    refine c_condT rfl h18 ?_
    refine c_exit rfl ?_
    refine c_seq ?_
    refine c_reg ?_
    refine l_val (gn rfl) rfl rfl (r_fieldAddr Hs.fld_who rfl) ?_
    refine l_store hM3 (i := 0) rfl Tryz.sizeOf4 rfl rfl rfl (by rw [Hs.size]; decide) (one_one rfl) (Hs.put_who _ _) ?_
    intro w20 hM21 hK22
    replace hM21 : Mem w [] [(b1, (Hs.cells ((Hs.mk true Hs.zero.e Hs.zero.role Hs.zero.title Hs.zero.access Hs.zero.password))), 106)] w20 := hM21
    refine l_val (gn rfl) rfl rfl (r_fieldAddr Hs.fld_role rfl) ?_
    refine l_store hM21 (i := 0) rfl Tryz.sizeOf4 rfl rfl rfl (by rw [Hs.size]; decide) (one_one rfl) (Hs.put_role _ _) ?_
    intro w23 hM24 hK25
    replace hM24 : Mem w [] [(b1, (Hs.cells ((Hs.mk true Hs.zero.e true Hs.zero.title Hs.zero.access Hs.zero.password))), 106)] w23 := hM24
    refine l_nil ?_
    refine c_exit rfl ?_
    refine c_seq ?_
    refine c_reg ?_
    refine l_val (gn rfl) rfl rfl (r_loadA Tryz.isAgg106 Tryz.sizeOf106 (Hs.size _) rfl (hM24.base (i := 0) rfl)) ?_
    refine l_store hM24 (i := 0) rfl Tryz.sizeOf106 rfl rfl (Hs.size _) (by rw [Hs.size]; decide) (Hs.one _) (put_whole _ _ ((Hs.size _).trans (Hs.size _).symm)) ?_
    intro w26 hM27 hK28
    replace hM27 : Mem w [] [(b1, (Hs.cells ((Hs.mk true Hs.zero.e true Hs.zero.title Hs.zero.access Hs.zero.password))), 106)] w26 := hM27
    refine l_nil ?_
    refine c_ret ?_
    refine retC rfl Tryz.isAgg106 Tryz.sizeOf106 (Hs.size _) rfl (hM27.base (i := 0) rfl) ?_
    exact ⟨congrArg (fun h => Value.agg (Hs.cells h)) (show (Hs.mk true Hs.zero.e true Hs.zero.title Hs.zero.access Hs.zero.password) = hsOf k from by simp [hsOf, Hs.zero, *]), hM27.kp⟩
   ·skip
    have hp29 : ¬ ((k : UInt8) = 5) := of_decide_eq_false h18
    refine c_condF rfl h18 ?_
    refine c_skip ?_
    refine c_seq ?_
    refine c_seq ?_
    refine c_seq ?_
    refine c_reg ?_
    refine l_val (gn rfl) rfl rfl (r_eql (b := decide ((k : UInt8) = 9)) rfl rfl (u8eq k 9)) ?_
    refine l_val (gn rfl) rfl rfl (r_assign rfl) ?_
    refine l_nil ?_
    refine ways (decide ((k : UInt8) = 9)) (fun h30 => ?_) (fun h30 => ?_)
    ·skip
     have hp31 : (k : UInt8) = 9 := of_decide_eq_true h30
     refine c_condT rfl h30 ?_
     refine c_skip ?_
     refine c_condT rfl h30 ?_
     refine c_exit rfl ?_
     refine c_reg ?_
     refine l_val (gn rfl) rfl rfl (r_fieldAddr Hs.fld_who rfl) ?_
     refine l_store hM3 (i := 0) rfl Tryz.sizeOf4 rfl rfl rfl (by rw [Hs.size]; decide) (one_one rfl) (Hs.put_who _ _) ?_
     intro w32 hM33 hK34
     replace hM33 : Mem w [] [(b1, (Hs.cells ((Hs.mk true Hs.zero.e Hs.zero.role Hs.zero.title Hs.zero.access Hs.zero.password))), 106)] w32 := hM33
     refine l_nil ?_
     refine c_seq ?_
     refine c_reg ?_
     refine l_val (gn rfl) rfl rfl (r_fieldAddr Hs.fld_password rfl) ?_
     refine l_store hM33 (i := 0) rfl Tryz.sizeOf4 rfl rfl rfl (by rw [Hs.size]; decide) (one_one rfl) (Hs.put_password _ _) ?_
     intro w35 hM36 hK37
     replace hM36 : Mem w [] [(b1, (Hs.cells ((Hs.mk true Hs.zero.e Hs.zero.role Hs.zero.title Hs.zero.access true))), 106)] w35 := hM36
     refine l_nil ?_
     refine c_exit rfl ?_
     refine c_seq ?_
     refine c_reg ?_
     refine l_val (gn rfl) rfl rfl (r_loadA Tryz.isAgg106 Tryz.sizeOf106 (Hs.size _) rfl (hM36.base (i := 0) rfl)) ?_
     refine l_store hM36 (i := 0) rfl Tryz.sizeOf106 rfl rfl (Hs.size _) (by rw [Hs.size]; decide) (Hs.one _) (put_whole _ _ ((Hs.size _).trans (Hs.size _).symm)) ?_
     intro w38 hM39 hK40
     replace hM39 : Mem w [] [(b1, (Hs.cells ((Hs.mk true Hs.zero.e Hs.zero.role Hs.zero.title Hs.zero.access true))), 106)] w38 := hM39
     refine l_nil ?_
     refine c_ret ?_
     refine retC rfl Tryz.isAgg106 Tryz.sizeOf106 (Hs.size _) rfl (hM39.base (i := 0) rfl) ?_
     exact ⟨congrArg (fun h => Value.agg (Hs.cells h)) (show (Hs.mk true Hs.zero.e Hs.zero.role Hs.zero.title Hs.zero.access true) = hsOf k from by simp [hsOf, Hs.zero, *]), hM39.kp⟩
    ·skip
     have hp41 : ¬ ((k : UInt8) = 9) := of_decide_eq_false h30
     refine c_condF rfl h30 ?_
     refine c_reg ?_
     refine l_val (gn rfl) rfl rfl (r_eql (b := decide ((k : UInt8) = 10)) rfl rfl (u8eq k 10)) ?_
     refine l_val (gn rfl) rfl rfl (r_assign rfl) ?_
     refine l_nil ?_
     refine ways (decide ((k : UInt8) = 10)) (fun h42 => ?_) (fun h42 => ?_)
     ·skip
      have hp43 : (k : UInt8) = 10 := of_decide_eq_true h42
      refine c_condT rfl h42 ?_
      refine c_exit rfl ?_
      refine c_reg ?_
      refine l_val (gn rfl) rfl rfl (r_fieldAddr Hs.fld_who rfl) ?_
      refine l_store hM3 (i := 0) rfl Tryz.sizeOf4 rfl rfl rfl (by rw [Hs.size]; decide) (one_one rfl) (Hs.put_who _ _) ?_
      intro w44 hM45 hK46
      replace hM45 : Mem w [] [(b1, (Hs.cells ((Hs.mk true Hs.zero.e Hs.zero.role Hs.zero.title Hs.zero.access Hs.zero.password))), 106)] w44 := hM45
      refine l_nil ?_
      refine c_seq ?_
      refine c_reg ?_
      refine l_val (gn rfl) rfl rfl (r_fieldAddr Hs.fld_password rfl) ?_
      refine l_store hM45 (i := 0) rfl Tryz.sizeOf4 rfl rfl rfl (by rw [Hs.size]; decide) (one_one rfl) (Hs.put_password _ _) ?_
      intro w47 hM48 hK49
      replace hM48 : Mem w [] [(b1, (Hs.cells ((Hs.mk true Hs.zero.e Hs.zero.role Hs.zero.title Hs.zero.access true))), 106)] w47 := hM48
      refine l_nil ?_
      refine c_exit rfl ?_
      refine c_seq ?_
      refine c_reg ?_
      refine l_val (gn rfl) rfl rfl (r_loadA Tryz.isAgg106 Tryz.sizeOf106 (Hs.size _) rfl (hM48.base (i := 0) rfl)) ?_
      refine l_store hM48 (i := 0) rfl Tryz.sizeOf106 rfl rfl (Hs.size _) (by rw [Hs.size]; decide) (Hs.one _) (put_whole _ _ ((Hs.size _).trans (Hs.size _).symm)) ?_
      intro w50 hM51 hK52
      replace hM51 : Mem w [] [(b1, (Hs.cells ((Hs.mk true Hs.zero.e Hs.zero.role Hs.zero.title Hs.zero.access true))), 106)] w50 := hM51
      refine l_nil ?_
      refine c_ret ?_
      refine retC rfl Tryz.isAgg106 Tryz.sizeOf106 (Hs.size _) rfl (hM51.base (i := 0) rfl) ?_
      exact ⟨congrArg (fun h => Value.agg (Hs.cells h)) (show (Hs.mk true Hs.zero.e Hs.zero.role Hs.zero.title Hs.zero.access true) = hsOf k from by simp [hsOf, Hs.zero, *]), hM51.kp⟩
     ·skip
      have hp53 : ¬ ((k : UInt8) = 10) := of_decide_eq_false h42
      refine c_condF rfl h42 ?_
      refine c_skip ?_
      refine c_seq ?_
      refine c_seq ?_
      refine c_reg ?_
      refine l_val (gn rfl) rfl rfl (r_eql (b := decide ((k : UInt8) = 18)) rfl rfl (u8eq k 18)) ?_
      refine l_val (gn rfl) rfl rfl (r_assign rfl) ?_
      refine l_nil ?_
      refine ways (decide ((k : UInt8) = 18)) (fun h54 => ?_) (fun h54 => ?_)
      ·skip
       have hp55 : (k : UInt8) = 18 := of_decide_eq_true h54
       refine c_condT rfl h54 ?_
       refine c_exit rfl ?_
       refine c_seq ?_
       refine c_reg ?_
       refine l_val (gn rfl) rfl rfl (r_fieldAddr Hs.fld_password rfl) ?_
       refine l_store hM3 (i := 0) rfl Tryz.sizeOf4 rfl rfl rfl (by rw [Hs.size]; decide) (one_one rfl) (Hs.put_password _ _) ?_
       intro w56 hM57 hK58
       replace hM57 : Mem w [] [(b1, (Hs.cells ((Hs.mk Hs.zero.who Hs.zero.e Hs.zero.role Hs.zero.title Hs.zero.access true))), 106)] w56 := hM57
       refine l_nil ?_
       refine c_exit rfl ?_
       refine c_seq ?_
       refine c_reg ?_
       refine l_val (gn rfl) rfl rfl (r_loadA Tryz.isAgg106 Tryz.sizeOf106 (Hs.size _) rfl (hM57.base (i := 0) rfl)) ?_
       refine l_store hM57 (i := 0) rfl Tryz.sizeOf106 rfl rfl (Hs.size _) (by rw [Hs.size]; decide) (Hs.one _) (put_whole _ _ ((Hs.size _).trans (Hs.size _).symm)) ?_
       intro w59 hM60 hK61
       replace hM60 : Mem w [] [(b1, (Hs.cells ((Hs.mk Hs.zero.who Hs.zero.e Hs.zero.role Hs.zero.title Hs.zero.access true))), 106)] w59 := hM60
       refine l_nil ?_
       refine c_ret ?_
       refine retC rfl Tryz.isAgg106 Tryz.sizeOf106 (Hs.size _) rfl (hM60.base (i := 0) rfl) ?_
       exact ⟨congrArg (fun h => Value.agg (Hs.cells h)) (show (Hs.mk Hs.zero.who Hs.zero.e Hs.zero.role Hs.zero.title Hs.zero.access true) = hsOf k from by simp [hsOf, Hs.zero, *]), hM60.kp⟩
      ·skip
       have hp62 : ¬ ((k : UInt8) = 18) := of_decide_eq_false h54
       refine c_condF rfl h54 ?_
       refine c_skip ?_
       refine c_seq ?_
       refine c_seq ?_
       refine c_seq ?_
       refine c_reg ?_
       refine l_val (gn rfl) rfl rfl (r_eql (b := decide ((k : UInt8) = 3)) rfl rfl (u8eq k 3)) ?_
       refine l_val (gn rfl) rfl rfl (r_assign rfl) ?_
       refine l_nil ?_
       refine ways (decide ((k : UInt8) = 3)) (fun h63 => ?_) (fun h63 => ?_)
       ·skip
        have hp64 : (k : UInt8) = 3 := of_decide_eq_true h63
        refine c_condT rfl h63 ?_
        refine c_skip ?_
        refine c_condT rfl h63 ?_
        refine c_exit rfl ?_
        refine c_reg ?_
        refine l_val (gn rfl) rfl rfl (r_fieldAddr Hs.fld_role rfl) ?_
        refine l_store hM3 (i := 0) rfl Tryz.sizeOf4 rfl rfl rfl (by rw [Hs.size]; decide) (one_one rfl) (Hs.put_role _ _) ?_
        intro w65 hM66 hK67
        replace hM66 : Mem w [] [(b1, (Hs.cells ((Hs.mk Hs.zero.who Hs.zero.e true Hs.zero.title Hs.zero.access Hs.zero.password))), 106)] w65 := hM66
        refine l_nil ?_
        refine c_seq ?_
        refine c_reg ?_
        refine l_val (gn rfl) rfl rfl (r_fieldAddr Hs.fld_e rfl) ?_
        refine l_store hM66 (i := 0) rfl Tryz.sizeOf4 rfl rfl rfl (by rw [Hs.size]; decide) (one_one rfl) (Hs.put_e _ _) ?_
        intro w68 hM69 hK70
        replace hM69 : Mem w [] [(b1, (Hs.cells ((Hs.mk Hs.zero.who true true Hs.zero.title Hs.zero.access Hs.zero.password))), 106)] w68 := hM69
        refine l_nil ?_
        refine c_exit rfl ?_
        refine c_seq ?_
        refine c_reg ?_
        refine l_val (gn rfl) rfl rfl (r_loadA Tryz.isAgg106 Tryz.sizeOf106 (Hs.size _) rfl (hM69.base (i := 0) rfl)) ?_
        refine l_store hM69 (i := 0) rfl Tryz.sizeOf106 rfl rfl (Hs.size _) (by rw [Hs.size]; decide) (Hs.one _) (put_whole _ _ ((Hs.size _).trans (Hs.size _).symm)) ?_
        intro w71 hM72 hK73
        replace hM72 : Mem w [] [(b1, (Hs.cells ((Hs.mk Hs.zero.who true true Hs.zero.title Hs.zero.access Hs.zero.password))), 106)] w71 := hM72
        refine l_nil ?_
        refine c_ret ?_
        refine retC rfl Tryz.isAgg106 Tryz.sizeOf106 (Hs.size _) rfl (hM72.base (i := 0) rfl) ?_
        exact ⟨congrArg (fun h => Value.agg (Hs.cells h)) (show (Hs.mk Hs.zero.who true true Hs.zero.title Hs.zero.access Hs.zero.password) = hsOf k from by simp [hsOf, Hs.zero, *]), hM72.kp⟩
       ·skip
        have hp74 : ¬ ((k : UInt8) = 3) := of_decide_eq_false h63
        refine c_condF rfl h63 ?_
        refine c_reg ?_
        refine l_val (gn rfl) rfl rfl (r_eql (b := decide ((k : UInt8) = 12)) rfl rfl (u8eq k 12)) ?_
        refine l_val (gn rfl) rfl rfl (r_assign rfl) ?_
        refine l_nil ?_
        refine ways (decide ((k : UInt8) = 12)) (fun h75 => ?_) (fun h75 => ?_)
        ·skip
         have hp76 : (k : UInt8) = 12 := of_decide_eq_true h75
         refine c_condT rfl h75 ?_
         refine c_exit rfl ?_
         refine c_reg ?_
         refine l_val (gn rfl) rfl rfl (r_fieldAddr Hs.fld_role rfl) ?_
         refine l_store hM3 (i := 0) rfl Tryz.sizeOf4 rfl rfl rfl (by rw [Hs.size]; decide) (one_one rfl) (Hs.put_role _ _) ?_
         intro w77 hM78 hK79
         replace hM78 : Mem w [] [(b1, (Hs.cells ((Hs.mk Hs.zero.who Hs.zero.e true Hs.zero.title Hs.zero.access Hs.zero.password))), 106)] w77 := hM78
         refine l_nil ?_
         refine c_seq ?_
         refine c_reg ?_
         refine l_val (gn rfl) rfl rfl (r_fieldAddr Hs.fld_e rfl) ?_
         refine l_store hM78 (i := 0) rfl Tryz.sizeOf4 rfl rfl rfl (by rw [Hs.size]; decide) (one_one rfl) (Hs.put_e _ _) ?_
         intro w80 hM81 hK82
         replace hM81 : Mem w [] [(b1, (Hs.cells ((Hs.mk Hs.zero.who true true Hs.zero.title Hs.zero.access Hs.zero.password))), 106)] w80 := hM81
         refine l_nil ?_
         refine c_exit rfl ?_
         refine c_seq ?_
         refine c_reg ?_
         refine l_val (gn rfl) rfl rfl (r_loadA Tryz.isAgg106 Tryz.sizeOf106 (Hs.size _) rfl (hM81.base (i := 0) rfl)) ?_
         refine l_store hM81 (i := 0) rfl Tryz.sizeOf106 rfl rfl (Hs.size _) (by rw [Hs.size]; decide) (Hs.one _) (put_whole _ _ ((Hs.size _).trans (Hs.size _).symm)) ?_
         intro w83 hM84 hK85
         replace hM84 : Mem w [] [(b1, (Hs.cells ((Hs.mk Hs.zero.who true true Hs.zero.title Hs.zero.access Hs.zero.password))), 106)] w83 := hM84
         refine l_nil ?_
         refine c_ret ?_
         refine retC rfl Tryz.isAgg106 Tryz.sizeOf106 (Hs.size _) rfl (hM84.base (i := 0) rfl) ?_
         exact ⟨congrArg (fun h => Value.agg (Hs.cells h)) (show (Hs.mk Hs.zero.who true true Hs.zero.title Hs.zero.access Hs.zero.password) = hsOf k from by simp [hsOf, Hs.zero, *]), hM84.kp⟩
        ·skip
         have hp86 : ¬ ((k : UInt8) = 12) := of_decide_eq_false h75
         refine c_condF rfl h75 ?_
         refine c_skip ?_
         refine c_seq ?_
         refine c_seq ?_
         refine c_seq ?_
         refine c_reg ?_
         refine l_val (gn rfl) rfl rfl (r_eql (b := decide ((k : UInt8) = 2)) rfl rfl (u8eq k 2)) ?_
         refine l_val (gn rfl) rfl rfl (r_assign rfl) ?_
         refine l_nil ?_
         refine ways (decide ((k : UInt8) = 2)) (fun h87 => ?_) (fun h87 => ?_)
         ·skip
          have hp88 : (k : UInt8) = 2 := of_decide_eq_true h87
          refine c_condT rfl h87 ?_
          refine c_skip ?_
          refine c_condT rfl h87 ?_
          refine c_exit rfl ?_
          refine c_seq ?_
          refine c_reg ?_
          refine l_val (gn rfl) rfl rfl (r_fieldAddr Hs.fld_e rfl) ?_
          refine l_store hM3 (i := 0) rfl Tryz.sizeOf4 rfl rfl rfl (by rw [Hs.size]; decide) (one_one rfl) (Hs.put_e _ _) ?_
          intro w89 hM90 hK91
          replace hM90 : Mem w [] [(b1, (Hs.cells ((Hs.mk Hs.zero.who true Hs.zero.role Hs.zero.title Hs.zero.access Hs.zero.password))), 106)] w89 := hM90
          refine l_nil ?_
          refine c_exit rfl ?_
          refine c_seq ?_
          refine c_reg ?_
          refine l_val (gn rfl) rfl rfl (r_loadA Tryz.isAgg106 Tryz.sizeOf106 (Hs.size _) rfl (hM90.base (i := 0) rfl)) ?_
          refine l_store hM90 (i := 0) rfl Tryz.sizeOf106 rfl rfl (Hs.size _) (by rw [Hs.size]; decide) (Hs.one _) (put_whole _ _ ((Hs.size _).trans (Hs.size _).symm)) ?_
          intro w92 hM93 hK94
          replace hM93 : Mem w [] [(b1, (Hs.cells ((Hs.mk Hs.zero.who true Hs.zero.role Hs.zero.title Hs.zero.access Hs.zero.password))), 106)] w92 := hM93
          refine l_nil ?_
          refine c_ret ?_
          refine retC rfl Tryz.isAgg106 Tryz.sizeOf106 (Hs.size _) rfl (hM93.base (i := 0) rfl) ?_
          exact ⟨congrArg (fun h => Value.agg (Hs.cells h)) (show (Hs.mk Hs.zero.who true Hs.zero.role Hs.zero.title Hs.zero.access Hs.zero.password) = hsOf k from by simp [hsOf, Hs.zero, *]), hM93.kp⟩
         ·skip
          have hp95 : ¬ ((k : UInt8) = 2) := of_decide_eq_false h87
          refine c_condF rfl h87 ?_
          refine c_seq ?_
          refine c_reg ?_
          refine l_val (gn rfl) rfl rfl (r_eql (b := decide ((k : UInt8) = 6)) rfl rfl (u8eq k 6)) ?_
          refine l_val (gn rfl) rfl rfl (r_assign rfl) ?_
          refine l_nil ?_
          refine ways (decide ((k : UInt8) = 6)) (fun h96 => ?_) (fun h96 => ?_)
          ·skip
           have hp97 : (k : UInt8) = 6 := of_decide_eq_true h96
           refine c_condT rfl h96 ?_
           refine c_skip ?_
           refine c_condT rfl h96 ?_
           refine c_exit rfl ?_
           refine c_seq ?_
           refine c_reg ?_
           refine l_val (gn rfl) rfl rfl (r_fieldAddr Hs.fld_e rfl) ?_
           refine l_store hM3 (i := 0) rfl Tryz.sizeOf4 rfl rfl rfl (by rw [Hs.size]; decide) (one_one rfl) (Hs.put_e _ _) ?_
           intro w98 hM99 hK100
           replace hM99 : Mem w [] [(b1, (Hs.cells ((Hs.mk Hs.zero.who true Hs.zero.role Hs.zero.title Hs.zero.access Hs.zero.password))), 106)] w98 := hM99
           refine l_nil ?_
           refine c_exit rfl ?_
           refine c_seq ?_
           refine c_reg ?_
           refine l_val (gn rfl) rfl rfl (r_loadA Tryz.isAgg106 Tryz.sizeOf106 (Hs.size _) rfl (hM99.base (i := 0) rfl)) ?_
           refine l_store hM99 (i := 0) rfl Tryz.sizeOf106 rfl rfl (Hs.size _) (by rw [Hs.size]; decide) (Hs.one _) (put_whole _ _ ((Hs.size _).trans (Hs.size _).symm)) ?_
           intro w101 hM102 hK103
           replace hM102 : Mem w [] [(b1, (Hs.cells ((Hs.mk Hs.zero.who true Hs.zero.role Hs.zero.title Hs.zero.access Hs.zero.password))), 106)] w101 := hM102
           refine l_nil ?_
           refine c_ret ?_
           refine retC rfl Tryz.isAgg106 Tryz.sizeOf106 (Hs.size _) rfl (hM102.base (i := 0) rfl) ?_
           exact ⟨congrArg (fun h => Value.agg (Hs.cells h)) (show (Hs.mk Hs.zero.who true Hs.zero.role Hs.zero.title Hs.zero.access Hs.zero.password) = hsOf k from by simp [hsOf, Hs.zero, *]), hM102.kp⟩
          ·skip
           have hp104 : ¬ ((k : UInt8) = 6) := of_decide_eq_false h96
           refine c_condF rfl h96 ?_
           refine c_seq ?_
           refine c_reg ?_
           refine l_val (gn rfl) rfl rfl (r_eql (b := decide ((k : UInt8) = 13)) rfl rfl (u8eq k 13)) ?_
           refine l_val (gn rfl) rfl rfl (r_assign rfl) ?_
           refine l_nil ?_
           refine ways (decide ((k : UInt8) = 13)) (fun h105 => ?_) (fun h105 => ?_)
           ·skip
            have hp106 : (k : UInt8) = 13 := of_decide_eq_true h105
            refine c_condT rfl h105 ?_
            refine c_skip ?_
            refine c_condT rfl h105 ?_
            refine c_exit rfl ?_
            refine c_seq ?_
            refine c_reg ?_
            refine l_val (gn rfl) rfl rfl (r_fieldAddr Hs.fld_e rfl) ?_
            refine l_store hM3 (i := 0) rfl Tryz.sizeOf4 rfl rfl rfl (by rw [Hs.size]; decide) (one_one rfl) (Hs.put_e _ _) ?_
            intro w107 hM108 hK109
            replace hM108 : Mem w [] [(b1, (Hs.cells ((Hs.mk Hs.zero.who true Hs.zero.role Hs.zero.title Hs.zero.access Hs.zero.password))), 106)] w107 := hM108
            refine l_nil ?_
            refine c_exit rfl ?_
            refine c_seq ?_
            refine c_reg ?_
            refine l_val (gn rfl) rfl rfl (r_loadA Tryz.isAgg106 Tryz.sizeOf106 (Hs.size _) rfl (hM108.base (i := 0) rfl)) ?_
            refine l_store hM108 (i := 0) rfl Tryz.sizeOf106 rfl rfl (Hs.size _) (by rw [Hs.size]; decide) (Hs.one _) (put_whole _ _ ((Hs.size _).trans (Hs.size _).symm)) ?_
            intro w110 hM111 hK112
            replace hM111 : Mem w [] [(b1, (Hs.cells ((Hs.mk Hs.zero.who true Hs.zero.role Hs.zero.title Hs.zero.access Hs.zero.password))), 106)] w110 := hM111
            refine l_nil ?_
            refine c_ret ?_
            refine retC rfl Tryz.isAgg106 Tryz.sizeOf106 (Hs.size _) rfl (hM111.base (i := 0) rfl) ?_
            exact ⟨congrArg (fun h => Value.agg (Hs.cells h)) (show (Hs.mk Hs.zero.who true Hs.zero.role Hs.zero.title Hs.zero.access Hs.zero.password) = hsOf k from by simp [hsOf, Hs.zero, *]), hM111.kp⟩
           ·skip
            have hp113 : ¬ ((k : UInt8) = 13) := of_decide_eq_false h105
            refine c_condF rfl h105 ?_
            refine c_seq ?_
            refine c_reg ?_
            refine l_val (gn rfl) rfl rfl (r_eql (b := decide ((k : UInt8) = 14)) rfl rfl (u8eq k 14)) ?_
            refine l_val (gn rfl) rfl rfl (r_assign rfl) ?_
            refine l_nil ?_
            refine ways (decide ((k : UInt8) = 14)) (fun h114 => ?_) (fun h114 => ?_)
            ·skip
             have hp115 : (k : UInt8) = 14 := of_decide_eq_true h114
             refine c_condT rfl h114 ?_
             refine c_skip ?_
             refine c_condT rfl h114 ?_
             refine c_exit rfl ?_
             refine c_seq ?_
             refine c_reg ?_
             refine l_val (gn rfl) rfl rfl (r_fieldAddr Hs.fld_e rfl) ?_
             refine l_store hM3 (i := 0) rfl Tryz.sizeOf4 rfl rfl rfl (by rw [Hs.size]; decide) (one_one rfl) (Hs.put_e _ _) ?_
             intro w116 hM117 hK118
             replace hM117 : Mem w [] [(b1, (Hs.cells ((Hs.mk Hs.zero.who true Hs.zero.role Hs.zero.title Hs.zero.access Hs.zero.password))), 106)] w116 := hM117
             refine l_nil ?_
             refine c_exit rfl ?_
             refine c_seq ?_
             refine c_reg ?_
             refine l_val (gn rfl) rfl rfl (r_loadA Tryz.isAgg106 Tryz.sizeOf106 (Hs.size _) rfl (hM117.base (i := 0) rfl)) ?_
             refine l_store hM117 (i := 0) rfl Tryz.sizeOf106 rfl rfl (Hs.size _) (by rw [Hs.size]; decide) (Hs.one _) (put_whole _ _ ((Hs.size _).trans (Hs.size _).symm)) ?_
             intro w119 hM120 hK121
             replace hM120 : Mem w [] [(b1, (Hs.cells ((Hs.mk Hs.zero.who true Hs.zero.role Hs.zero.title Hs.zero.access Hs.zero.password))), 106)] w119 := hM120
             refine l_nil ?_
             refine c_ret ?_
             refine retC rfl Tryz.isAgg106 Tryz.sizeOf106 (Hs.size _) rfl (hM120.base (i := 0) rfl) ?_
             exact ⟨congrArg (fun h => Value.agg (Hs.cells h)) (show (Hs.mk Hs.zero.who true Hs.zero.role Hs.zero.title Hs.zero.access Hs.zero.password) = hsOf k from by simp [hsOf, Hs.zero, *]), hM120.kp⟩
            ·skip
             have hp122 : ¬ ((k : UInt8) = 14) := of_decide_eq_false h114
             refine c_condF rfl h114 ?_
             refine c_reg ?_
             refine l_val (gn rfl) rfl rfl (r_eql (b := decide ((k : UInt8) = 15)) rfl rfl (u8eq k 15)) ?_
             refine l_val (gn rfl) rfl rfl (r_assign rfl) ?_
             refine l_nil ?_
             refine ways (decide ((k : UInt8) = 15)) (fun h123 => ?_) (fun h123 => ?_)
             ·skip
              have hp124 : (k : UInt8) = 15 := of_decide_eq_true h123
              refine c_condT rfl h123 ?_
              refine c_exit rfl ?_
              refine c_seq ?_
              refine c_reg ?_
              refine l_val (gn rfl) rfl rfl (r_fieldAddr Hs.fld_e rfl) ?_
              refine l_store hM3 (i := 0) rfl Tryz.sizeOf4 rfl rfl rfl (by rw [Hs.size]; decide) (one_one rfl) (Hs.put_e _ _) ?_
              intro w125 hM126 hK127
              replace hM126 : Mem w [] [(b1, (Hs.cells ((Hs.mk Hs.zero.who true Hs.zero.role Hs.zero.title Hs.zero.access Hs.zero.password))), 106)] w125 := hM126
              refine l_nil ?_
              refine c_exit rfl ?_
              refine c_seq ?_
              refine c_reg ?_
              refine l_val (gn rfl) rfl rfl (r_loadA Tryz.isAgg106 Tryz.sizeOf106 (Hs.size _) rfl (hM126.base (i := 0) rfl)) ?_
              refine l_store hM126 (i := 0) rfl Tryz.sizeOf106 rfl rfl (Hs.size _) (by rw [Hs.size]; decide) (Hs.one _) (put_whole _ _ ((Hs.size _).trans (Hs.size _).symm)) ?_
              intro w128 hM129 hK130
              replace hM129 : Mem w [] [(b1, (Hs.cells ((Hs.mk Hs.zero.who true Hs.zero.role Hs.zero.title Hs.zero.access Hs.zero.password))), 106)] w128 := hM129
              refine l_nil ?_
              refine c_ret ?_
              refine retC rfl Tryz.isAgg106 Tryz.sizeOf106 (Hs.size _) rfl (hM129.base (i := 0) rfl) ?_
              exact ⟨congrArg (fun h => Value.agg (Hs.cells h)) (show (Hs.mk Hs.zero.who true Hs.zero.role Hs.zero.title Hs.zero.access Hs.zero.password) = hsOf k from by simp [hsOf, Hs.zero, *]), hM129.kp⟩
             ·skip
              have hp131 : ¬ ((k : UInt8) = 15) := of_decide_eq_false h123
              refine c_condF rfl h123 ?_
              refine c_skip ?_
              refine c_seq ?_
              refine c_seq ?_
              refine c_reg ?_
              refine l_val (gn rfl) rfl rfl (r_eql (b := decide ((k : UInt8) = 16)) rfl rfl (u8eq k 16)) ?_
              refine l_val (gn rfl) rfl rfl (r_assign rfl) ?_
              refine l_nil ?_
              refine ways (decide ((k : UInt8) = 16)) (fun h132 => ?_) (fun h132 => ?_)
              ·skip
               have hp133 : (k : UInt8) = 16 := of_decide_eq_true h132
               refine c_condT rfl h132 ?_
               refine c_exit rfl ?_
               refine c_seq ?_
               refine c_reg ?_
               refine l_val (gn rfl) rfl rfl (r_fieldAddr Hs.fld_title rfl) ?_
               refine l_store hM3 (i := 0) rfl Tryz.sizeOf4 rfl rfl rfl (by rw [Hs.size]; decide) (one_one rfl) (Hs.put_title _ _) ?_
               intro w134 hM135 hK136
               replace hM135 : Mem w [] [(b1, (Hs.cells ((Hs.mk Hs.zero.who Hs.zero.e Hs.zero.role true Hs.zero.access Hs.zero.password))), 106)] w134 := hM135
               refine l_nil ?_
               refine c_exit rfl ?_
               refine c_seq ?_
               refine c_reg ?_
               refine l_val (gn rfl) rfl rfl (r_loadA Tryz.isAgg106 Tryz.sizeOf106 (Hs.size _) rfl (hM135.base (i := 0) rfl)) ?_
               refine l_store hM135 (i := 0) rfl Tryz.sizeOf106 rfl rfl (Hs.size _) (by rw [Hs.size]; decide) (Hs.one _) (put_whole _ _ ((Hs.size _).trans (Hs.size _).symm)) ?_
               intro w137 hM138 hK139
               replace hM138 : Mem w [] [(b1, (Hs.cells ((Hs.mk Hs.zero.who Hs.zero.e Hs.zero.role true Hs.zero.access Hs.zero.password))), 106)] w137 := hM138
               refine l_nil ?_
               refine c_ret ?_
               refine retC rfl Tryz.isAgg106 Tryz.sizeOf106 (Hs.size _) rfl (hM138.base (i := 0) rfl) ?_
               exact ⟨congrArg (fun h => Value.agg (Hs.cells h)) (show (Hs.mk Hs.zero.who Hs.zero.e Hs.zero.role true Hs.zero.access Hs.zero.password) = hsOf k from by simp [hsOf, Hs.zero, *]), hM138.kp⟩
              ·skip
               have hp140 : ¬ ((k : UInt8) = 16) := of_decide_eq_false h132
               refine c_condF rfl h132 ?_
               refine c_skip ?_
               refine c_seq ?_
               refine c_reg ?_
               refine l_val (gn rfl) rfl rfl (r_eql (b := decide ((k : UInt8) = 17)) rfl rfl (u8eq k 17)) ?_
               refine l_val (gn rfl) rfl rfl (r_assign rfl) ?_
               refine l_nil ?_
               refine ways (decide ((k : UInt8) = 17)) (fun h141 => ?_) (fun h141 => ?_)
               ·skip
                have hp142 : (k : UInt8) = 17 := of_decide_eq_true h141
                refine c_condT rfl h141 ?_
                refine c_exit rfl ?_
                refine c_seq ?_
                refine c_reg ?_
                refine l_val (gn rfl) rfl rfl (r_fieldAddr Hs.fld_access rfl) ?_
                refine l_store hM3 (i := 0) rfl Tryz.sizeOf4 rfl rfl rfl (by rw [Hs.size]; decide) (one_one rfl) (Hs.put_access _ _) ?_
                intro w143 hM144 hK145
                replace hM144 : Mem w [] [(b1, (Hs.cells ((Hs.mk Hs.zero.who Hs.zero.e Hs.zero.role Hs.zero.title true Hs.zero.password))), 106)] w143 := hM144
                refine l_nil ?_
                refine c_exit rfl ?_
                refine c_seq ?_
                refine c_reg ?_
                refine l_val (gn rfl) rfl rfl (r_loadA Tryz.isAgg106 Tryz.sizeOf106 (Hs.size _) rfl (hM144.base (i := 0) rfl)) ?_
                refine l_store hM144 (i := 0) rfl Tryz.sizeOf106 rfl rfl (Hs.size _) (by rw [Hs.size]; decide) (Hs.one _) (put_whole _ _ ((Hs.size _).trans (Hs.size _).symm)) ?_
                intro w146 hM147 hK148
                replace hM147 : Mem w [] [(b1, (Hs.cells ((Hs.mk Hs.zero.who Hs.zero.e Hs.zero.role Hs.zero.title true Hs.zero.password))), 106)] w146 := hM147
                refine l_nil ?_
                refine c_ret ?_
                refine retC rfl Tryz.isAgg106 Tryz.sizeOf106 (Hs.size _) rfl (hM147.base (i := 0) rfl) ?_
                exact ⟨congrArg (fun h => Value.agg (Hs.cells h)) (show (Hs.mk Hs.zero.who Hs.zero.e Hs.zero.role Hs.zero.title true Hs.zero.password) = hsOf k from by simp [hsOf, Hs.zero, *]), hM147.kp⟩
               ·skip
                have hp149 : ¬ ((k : UInt8) = 17) := of_decide_eq_false h141
                refine c_condF rfl h141 ?_
                refine c_skip ?_
                refine c_exit rfl ?_
                refine c_seq ?_
                refine c_reg ?_
                refine l_val (gn rfl) rfl rfl (r_loadA Tryz.isAgg106 Tryz.sizeOf106 (Hs.size _) rfl (hM3.base (i := 0) rfl)) ?_
                refine l_store hM3 (i := 0) rfl Tryz.sizeOf106 rfl rfl (Hs.size _) (by rw [Hs.size]; decide) (Hs.one _) (put_whole _ _ ((Hs.size _).trans (Hs.size _).symm)) ?_
                intro w150 hM151 hK152
                replace hM151 : Mem w [] [(b1, (Hs.cells Hs.zero), 106)] w150 := hM151
                refine l_nil ?_
                refine c_ret ?_
                refine retC rfl Tryz.isAgg106 Tryz.sizeOf106 (Hs.size _) rfl (hM151.base (i := 0) rfl) ?_
                exact ⟨congrArg (fun h => Value.agg (Hs.cells h)) (show Hs.zero = hsOf k from by simp [hsOf, Hs.zero, *]), hM151.kp⟩
theorem f29 {B : Nat → Prop} {a : Action} {qa : Two} {w : World} (hA : AcV B w qa a) : Ret 29 #[.agg (a.rep qa).cells] w (fun v w' => v = .bool (okAct a) ∧ Keeps [] w w') := by
  have hM0 := Mem.start w
  refine enter Tryz.func29 rfl rfl ?_
  refine c_seq ?_
  refine c_reg ?_
  refine l_box hM0 rfl rfl ?_
  intro b1 w2 hM3 hK4 hB5
  replace hM3 : Mem w [] [(b1, (ARep.cells ((ARep.mk a.ver a.kind a.who a.E a.role qa.t a.acc qa.p))), 42)] w2 := hM3
  refine l_val (gn rfl) rfl rfl (r_assign rfl) ?_
  refine l_nil ?_
  refine c_seq ?_
  refine c_reg ?_
  refine l_val (gn rfl) rfl rfl (r_fieldAddr ARep.fld_kind rfl) ?_
  refine l_val (gn rfl) rfl rfl (r_load1 (v := vU8 a.kind) Tryz.isAgg38 rfl (Holds.sub (hM3.base (i := 0) rfl) (ARep.sub_kind _))) ?_
  refine l_call (gn rfl) rfl rfl (r_call Tryz.call58 rfl) (f58 a.kind) ?_
  rintro v6 w7 ⟨rfl, hK8⟩
  have hM9 := hM3.keep hK8
  refine l_alloc hM9 rfl Hs.zv ?_
  intro b10 w11 hM12 hK13 hB14
  replace hM12 : Mem w [] [(b10, (Hs.cells Hs.zero), 106), (b1, (ARep.cells ((ARep.mk a.ver a.kind a.who a.E a.role qa.t a.acc qa.p))), 42)] w11 := hM12
  refine l_store hM12 (i := 0) rfl Tryz.sizeOf106 rfl rfl (Hs.size _) (by rw [Hs.size]; decide) (Hs.one _) (put_whole _ _ ((Hs.size _).trans (Hs.size _).symm)) ?_
  intro w15 hM16 hK17
  replace hM16 : Mem w [] [(b10, (Hs.cells ((hsOf a.kind))), 106), (b1, (ARep.cells ((ARep.mk a.ver a.kind a.who a.E a.role qa.t a.acc qa.p))), 42)] w15 := hM16
  refine l_nil ?_
  refine c_seq ?_
  refine c_block ?_
  refine c_seq ?_
  refine c_reg ?_
  refine l_val (gn rfl) rfl rfl (r_fieldAddr ARep.fld_kind rfl) ?_
  refine l_val (gn rfl) rfl rfl (r_load1 (v := vU8 a.kind) Tryz.isAgg38 rfl (Holds.sub (hM16.base (i := 1) rfl) (ARep.sub_kind _))) ?_
  refine l_val (gn rfl) rfl rfl (r_lss (b := decide ((a.kind : UInt8) < 1)) rfl rfl (u8lt a.kind 1)) ?_
  refine l_val (gn rfl) rfl rfl (r_move rfl) ?_
  refine ways (decide ((a.kind : UInt8) < 1)) (fun h18 => ?_) (fun h18 => ?_)
  ·skip
   have hp19 : (a.kind : UInt8) < 1 := of_decide_eq_true h18
   refine l_off (gno rfl rfl rfl rfl h18) rfl rfl ?_
   refine l_off (gno rfl rfl rfl rfl h18) rfl rfl ?_
   refine l_off (gno rfl rfl rfl rfl h18) rfl rfl ?_
   refine l_val (gn rfl) rfl rfl (r_pickT rfl h18 rfl) ?_
   refine l_val (gn rfl) rfl rfl (r_move rfl) ?_
   refine l_off (gno rfl rfl rfl rfl rfl) rfl rfl ?_
   refine l_off (gno rfl rfl rfl rfl rfl) rfl rfl ?_
   refine l_off (gno rfl rfl rfl rfl rfl) rfl rfl ?_
   refine l_off (gno rfl rfl rfl rfl rfl) rfl rfl ?_
   refine l_val (gn rfl) rfl rfl (r_pickT rfl rfl rfl) ?_
   refine l_val (gn rfl) rfl rfl (r_assign rfl) ?_
   refine l_nil ?_
   refine c_condT rfl rfl ?_
   refine c_seq ?_
   refine c_reg ?_
   refine l_val (gn rfl) rfl rfl (r_assign rfl) ?_
   refine l_nil ?_
   refine c_ret ?_
   refine ret1 rfl rfl ?_
   exact ⟨by rw [okAct29]; (try simp only [h18]); (try simp only []); simp, hM16.kp⟩
  ·skip
   have hp20 : ¬ ((a.kind : UInt8) < 1) := of_decide_eq_false h18
   refine l_val (gy rfl rfl rfl rfl h18) rfl rfl (r_fieldAddr ARep.fld_kind rfl) ?_
   refine l_val (gy rfl rfl rfl rfl h18) rfl rfl (r_load1 (v := vU8 a.kind) Tryz.isAgg38 rfl (Holds.sub (hM16.base (i := 1) rfl) (ARep.sub_kind _))) ?_
   refine l_val (gy rfl rfl rfl rfl h18) rfl rfl (r_gtr (b := decide ((18 : UInt8) < a.kind)) rfl rfl (u8lt 18 a.kind)) ?_
   refine l_val (gn rfl) rfl rfl (r_pickF rfl h18 rfl) ?_
   refine l_val (gn rfl) rfl rfl (r_move rfl) ?_
   refine ways (decide ((18 : UInt8) < a.kind)) (fun h21 => ?_) (fun h21 => ?_)
   ·skip
    have hp22 : (18 : UInt8) < a.kind := of_decide_eq_true h21
    refine l_off (gno rfl rfl rfl rfl h21) rfl rfl ?_
    refine l_off (gno rfl rfl rfl rfl h21) rfl rfl ?_
    refine l_off (gno rfl rfl rfl rfl h21) rfl rfl ?_
    refine l_off (gno rfl rfl rfl rfl h21) rfl rfl ?_
    refine l_val (gn rfl) rfl rfl (r_pickT rfl h21 rfl) ?_
    refine l_val (gn rfl) rfl rfl (r_assign rfl) ?_
    refine l_nil ?_
    refine c_condT rfl rfl ?_
    refine c_seq ?_
    refine c_reg ?_
    refine l_val (gn rfl) rfl rfl (r_assign rfl) ?_
    refine l_nil ?_
    refine c_ret ?_
    refine ret1 rfl rfl ?_
    exact ⟨by rw [okAct29]; (try simp only [h18, h21]); (try simp only []); simp, hM16.kp⟩
   ·skip
    have hp23 : ¬ ((18 : UInt8) < a.kind) := of_decide_eq_false h21
    refine l_val (gy rfl rfl rfl rfl h21) rfl rfl (r_fieldAddr ARep.fld_title rfl) ?_
    refine l_val (gy rfl rfl rfl rfl h21) rfl rfl (r_load1 (v := Sl.val qa.t) Tryz.isAgg27 rfl (Holds.sub (hM16.base (i := 1) rfl) (ARep.sub_title _))) ?_
    refine l_val (gy rfl rfl rfl rfl h21) rfl rfl (r_lenR Tryz.underlying27 rfl (hA.title.keep0 hM16.kp).len) ?_
    refine l_val (gy rfl rfl rfl rfl h21) rfl rfl (r_gtr (b := decide ((200 : Nat) < a.title.length)) rfl rfl (nlt 200 a.title.length)) ?_
    refine l_val (gn rfl) rfl rfl (r_pickF rfl h21 rfl) ?_
    refine l_val (gn rfl) rfl rfl (r_assign rfl) ?_
    refine l_nil ?_
    refine ways (decide ((200 : Nat) < a.title.length)) (fun h24 => ?_) (fun h24 => ?_)
    ·skip
     have hp25 : (200 : Nat) < a.title.length := of_decide_eq_true h24
     refine c_condT rfl h24 ?_
     refine c_seq ?_
     refine c_reg ?_
     refine l_val (gn rfl) rfl rfl (r_assign rfl) ?_
     refine l_nil ?_
     refine c_ret ?_
     refine ret1 rfl rfl ?_
     exact ⟨by rw [okAct29]; (try simp only [h18, h21, h24]); (try simp only []); simp, hM16.kp⟩
    ·skip
     have hp26 : ¬ ((200 : Nat) < a.title.length) := of_decide_eq_false h24
     refine c_condF rfl h24 ?_
     refine c_seq ?_
     refine c_join (ι := Unit) (fun _ w_ => Mem w [] [(b10, (Hs.cells ((hsOf a.kind))), 106), (b1, (ARep.cells ((ARep.mk a.ver a.kind a.who a.E a.role qa.t a.acc qa.p))), 42)] w_) (fun _ => [(0, Value.agg (ARep.cells ((ARep.mk a.ver a.kind a.who a.E a.role qa.t a.acc qa.p)))), (1, Value.pointer (some ⟨b1, 0, none⟩)), (2, Value.bool false), (3, Value.pointer (some ⟨b10, 0, none⟩)), (8, Value.bool (decide ((200 : Nat) < a.title.length))), (23, Value.bool (((!(hsOf a.kind).who && !decide (a.who = Cipher.zero)) || (!(hsOf a.kind).e && !decide (a.E = Pt.zero)) || (!decide ((hsOf a.kind).role = isRole a.role)) || (!(hsOf a.kind).role && !decide (a.role = 0)))))]) ?_ ?_
     ·skip
      refine c_regD (Mem w [] [(b10, (Hs.cells ((hsOf a.kind))), 106), (b1, (ARep.cells ((ARep.mk a.ver a.kind a.who a.E a.role qa.t a.acc qa.p))), 42)]) [] [(0, true), (1, true), (2, true), (3, true), (4, true), (5, true), (6, true), (7, true), (8, true), (9, true), (10, true), (11, true), (12, true), (13, true), (14, true), (15, true), (16, true), (17, true), (18, true), (19, true), (20, true), (21, true), (22, true), (23, true), (24, true), (25, false), (26, true), (27, true), (28, true), (29, true), (30, true), (31, true), (32, true), (33, true), (34, true), (35, true), (36, true), (37, true), (38, true)] (by kernel_rfl) ?_
      have hM27 := hM16.drew
      refine s_take hM27 rfl (gn rfl) rfl rfl (fun w h => r_fieldAddr Hs.fld_who rfl) ?_
      refine s_take hM27 rfl (gn rfl) rfl rfl (fun w h => r_load1 (v := Value.bool ((hsOf a.kind).who)) Tryz.isAgg4 rfl (Holds.sub (h.base (i := 0) rfl) (Hs.sub_who _))) ?_
      refine s_take hM27 rfl (gn rfl) rfl rfl (fun w h => r_not rfl) ?_
      refine s_take hM27 rfl (gn rfl) rfl rfl (fun w h => r_move rfl) ?_
      refine ways ((hsOf a.kind).who) (fun h29 => ?_) (fun h29 => ?_)
      ·skip
       refine s_off hM27 rfl (gno rfl rfl rfl rfl (congrArg Bool.not h29)) rfl rfl ?_
       refine s_off hM27 rfl (gno rfl rfl rfl rfl (congrArg Bool.not h29)) rfl rfl ?_
       refine s_off hM27 rfl (gno rfl rfl rfl rfl (congrArg Bool.not h29)) rfl rfl ?_
       refine s_off hM27 rfl (gno rfl rfl rfl rfl (congrArg Bool.not h29)) rfl rfl ?_
       refine s_take hM27 rfl (gn rfl) rfl rfl (fun w h => r_pickF rfl (congrArg Bool.not h29) rfl) ?_
       refine s_take hM27 rfl (gn rfl) rfl rfl (fun w h => r_move rfl) ?_
       refine s_take hM27 rfl (gy rfl rfl rfl rfl rfl) rfl rfl (fun w h => r_fieldAddr Hs.fld_e rfl) ?_
       refine s_take hM27 rfl (gy rfl rfl rfl rfl rfl) rfl rfl (fun w h => r_load1 (v := Value.bool ((hsOf a.kind).e)) Tryz.isAgg4 rfl (Holds.sub (h.base (i := 0) rfl) (Hs.sub_e _))) ?_
       refine s_take hM27 rfl (gy rfl rfl rfl rfl rfl) rfl rfl (fun w h => r_not rfl) ?_
       refine s_take hM27 rfl (gy rfl rfl rfl rfl rfl) rfl rfl (fun w h => r_move rfl) ?_
       refine ways ((hsOf a.kind).e) (fun h30 => ?_) (fun h30 => ?_)
       ·skip
        refine s_off hM27 rfl (gno rfl rfl rfl rfl (congrArg Bool.not h30)) rfl rfl ?_
        refine s_off hM27 rfl (gno rfl rfl rfl rfl (congrArg Bool.not h30)) rfl rfl ?_
        refine s_off hM27 rfl (gno rfl rfl rfl rfl (congrArg Bool.not h30)) rfl rfl ?_
        refine s_off hM27 rfl (gno rfl rfl rfl rfl (congrArg Bool.not h30)) rfl rfl ?_
        refine s_take hM27 rfl (gy rfl rfl rfl rfl rfl) rfl rfl (fun w h => r_pickF rfl (congrArg Bool.not h30) rfl) ?_
        refine s_take hM27 rfl (gn rfl) rfl rfl (fun w h => r_pickF rfl rfl rfl) ?_
        refine s_take hM27 rfl (gn rfl) rfl rfl (fun w h => r_move rfl) ?_
        refine s_take hM27 rfl (gy rfl rfl rfl rfl rfl) rfl rfl (fun w h => r_fieldAddr Hs.fld_role rfl) ?_
        refine s_take hM27 rfl (gy rfl rfl rfl rfl rfl) rfl rfl (fun w h => r_load1 (v := Value.bool ((hsOf a.kind).role)) Tryz.isAgg4 rfl (Holds.sub (h.base (i := 0) rfl) (Hs.sub_role _))) ?_
        refine s_take hM27 rfl (gy rfl rfl rfl rfl rfl) rfl rfl (fun w h => r_fieldAddr ARep.fld_role rfl) ?_
        refine s_take hM27 rfl (gy rfl rfl rfl rfl rfl) rfl rfl (fun w h => r_load1 (v := vU8 a.role) Tryz.isAgg28 rfl (Holds.sub (h.base (i := 1) rfl) (ARep.sub_role _))) ?_
        refine s_call rfl (gy rfl rfl rfl rfl rfl) rfl rfl (r_call Tryz.call55 rfl) (f55 a.role) ?_
        rintro v31 w32 ⟨rfl, hK33⟩
        have hM34 := hM27.keep hK33
        refine ⟨.inr hM34, ?_⟩
        refine s_take hM34 rfl (gy rfl rfl rfl rfl rfl) rfl rfl (fun w h => r_neBool rfl rfl) ?_
        refine s_take hM34 rfl (gn rfl) rfl rfl (fun w h => r_pickF rfl rfl rfl) ?_
        refine s_take hM34 rfl (gn rfl) rfl rfl (fun w h => r_move rfl) ?_
        refine ways (decide (((hsOf a.kind).role) = (isRole a.role))) (fun h35 => ?_) (fun h35 => ?_)
        ·skip
         refine s_take hM34 rfl (gy rfl rfl rfl rfl (congrArg Bool.not h35)) rfl rfl (fun w h => r_fieldAddr Hs.fld_role rfl) ?_
         refine s_take hM34 rfl (gy rfl rfl rfl rfl (congrArg Bool.not h35)) rfl rfl (fun w h => r_load1 (v := Value.bool ((hsOf a.kind).role)) Tryz.isAgg4 rfl (Holds.sub (h.base (i := 0) rfl) (Hs.sub_role _))) ?_
         refine s_take hM34 rfl (gy rfl rfl rfl rfl (congrArg Bool.not h35)) rfl rfl (fun w h => r_not rfl) ?_
         refine s_take hM34 rfl (gy rfl rfl rfl rfl (congrArg Bool.not h35)) rfl rfl (fun w h => r_move rfl) ?_
         refine ways ((hsOf a.kind).role) (fun h36 => ?_) (fun h36 => ?_)
         ·skip
          refine s_off hM34 rfl (gno rfl rfl rfl rfl (congrArg Bool.not h36)) rfl rfl ?_
          refine s_off hM34 rfl (gno rfl rfl rfl rfl (congrArg Bool.not h36)) rfl rfl ?_
          refine s_off hM34 rfl (gno rfl rfl rfl rfl (congrArg Bool.not h36)) rfl rfl ?_
          refine s_take hM34 rfl (gy rfl rfl rfl rfl (congrArg Bool.not h35)) rfl rfl (fun w h => r_pickF rfl (congrArg Bool.not h36) rfl) ?_
          refine s_take hM34 rfl (gn rfl) rfl rfl (fun w h => r_pickF rfl (congrArg Bool.not h35) rfl) ?_
          refine s_take hM34 rfl (gn rfl) rfl rfl (fun w h => r_assign rfl) ?_
          refine s_nil ?_
          exact jn () hM34 ⟨rfl, rfl, rfl, rfl, rfl, okB (by (try simp only [h35]); (try simp only [h29, h30, h36]); simp), trivial⟩
         ·skip
          refine s_take hM34 rfl (gy rfl rfl rfl rfl (congrArg Bool.not h36)) rfl rfl (fun w h => r_fieldAddr ARep.fld_role rfl) ?_
          refine s_take hM34 rfl (gy rfl rfl rfl rfl (congrArg Bool.not h36)) rfl rfl (fun w h => r_load1 (v := vU8 a.role) Tryz.isAgg28 rfl (Holds.sub (h.base (i := 1) rfl) (ARep.sub_role _))) ?_
          refine s_take hM34 rfl (gy rfl rfl rfl rfl (congrArg Bool.not h36)) rfl rfl (fun w h => r_neq (b := (!(decide ((a.role : UInt8) = 0)))) rfl rfl (congrArg Bool.not (u8eq a.role 0))) ?_
          refine s_take hM34 rfl (gy rfl rfl rfl rfl (congrArg Bool.not h35)) rfl rfl (fun w h => r_pickT rfl (congrArg Bool.not h36) rfl) ?_
          refine s_take hM34 rfl (gn rfl) rfl rfl (fun w h => r_pickF rfl (congrArg Bool.not h35) rfl) ?_
          refine s_take hM34 rfl (gn rfl) rfl rfl (fun w h => r_assign rfl) ?_
          refine s_nil ?_
          exact jn () hM34 ⟨rfl, rfl, rfl, rfl, rfl, okB (by (try simp only [h35]); (try simp only [h29, h30, h36]); simp), trivial⟩
        ·skip
         refine s_off hM34 rfl (gno rfl rfl rfl rfl (congrArg Bool.not h35)) rfl rfl ?_
         refine s_off hM34 rfl (gno rfl rfl rfl rfl (congrArg Bool.not h35)) rfl rfl ?_
         refine s_off hM34 rfl (gno rfl rfl rfl rfl (congrArg Bool.not h35)) rfl rfl ?_
         refine s_off hM34 rfl (gno rfl rfl rfl rfl (congrArg Bool.not h35)) rfl rfl ?_
         refine s_off hM34 rfl (gnu rfl rfl rfl rfl) rfl rfl ?_
         refine s_off hM34 rfl (gnu rfl rfl rfl rfl) rfl rfl ?_
         refine s_off hM34 rfl (gnu rfl rfl rfl rfl) rfl rfl ?_
         refine s_off hM34 rfl (gno rfl rfl rfl rfl (congrArg Bool.not h35)) rfl rfl ?_
         refine s_take hM34 rfl (gn rfl) rfl rfl (fun w h => r_pickT rfl (congrArg Bool.not h35) rfl) ?_
         refine s_take hM34 rfl (gn rfl) rfl rfl (fun w h => r_assign rfl) ?_
         refine s_nil ?_
         exact jn () hM34 ⟨rfl, rfl, rfl, rfl, rfl, okB (by (try simp only [h35]); (try simp only [h29, h30]); simp), trivial⟩
       ·skip
        refine s_take hM27 rfl (gy rfl rfl rfl rfl (congrArg Bool.not h30)) rfl rfl (fun w h => r_fieldAddr ARep.fld_E rfl) ?_
        refine s_take hM27 rfl (gy rfl rfl rfl rfl (congrArg Bool.not h30)) rfl rfl (fun w h => r_loadA Tryz.isAgg24 Tryz.sizeOf24 (Pt.size _) rfl (Holds.sub (h.base (i := 1) rfl) (ARep.sub_E _))) ?_
        refine s_take hM27 rfl (gy rfl rfl rfl rfl (congrArg Bool.not h30)) rfl rfl (fun w h => r_build rfl Pt.built) ?_
        refine s_take hM27 rfl (gy rfl rfl rfl rfl (congrArg Bool.not h30)) rfl rfl (fun w h => r_nePt Tryz.eqGuardType24 Tryz.underlying24 rfl rfl) ?_
        refine s_take hM27 rfl (gy rfl rfl rfl rfl rfl) rfl rfl (fun w h => r_pickT rfl (congrArg Bool.not h30) rfl) ?_
        refine s_take hM27 rfl (gn rfl) rfl rfl (fun w h => r_pickF rfl rfl rfl) ?_
        refine s_take hM27 rfl (gn rfl) rfl rfl (fun w h => r_move rfl) ?_
        refine ways (decide (a.E = Pt.zero)) (fun h37 => ?_) (fun h37 => ?_)
        ·skip
         have hp38 : a.E = Pt.zero := of_decide_eq_true h37
         refine s_take hM27 rfl (gy rfl rfl rfl rfl (congrArg Bool.not h37)) rfl rfl (fun w h => r_fieldAddr Hs.fld_role rfl) ?_
         refine s_take hM27 rfl (gy rfl rfl rfl rfl (congrArg Bool.not h37)) rfl rfl (fun w h => r_load1 (v := Value.bool ((hsOf a.kind).role)) Tryz.isAgg4 rfl (Holds.sub (h.base (i := 0) rfl) (Hs.sub_role _))) ?_
         refine s_take hM27 rfl (gy rfl rfl rfl rfl (congrArg Bool.not h37)) rfl rfl (fun w h => r_fieldAddr ARep.fld_role rfl) ?_
         refine s_take hM27 rfl (gy rfl rfl rfl rfl (congrArg Bool.not h37)) rfl rfl (fun w h => r_load1 (v := vU8 a.role) Tryz.isAgg28 rfl (Holds.sub (h.base (i := 1) rfl) (ARep.sub_role _))) ?_
         refine s_call rfl (gy rfl rfl rfl rfl (congrArg Bool.not h37)) rfl rfl (r_call Tryz.call55 rfl) (f55 a.role) ?_
         rintro v39 w40 ⟨rfl, hK41⟩
         have hM42 := hM27.keep hK41
         refine ⟨.inr hM42, ?_⟩
         refine s_take hM42 rfl (gy rfl rfl rfl rfl (congrArg Bool.not h37)) rfl rfl (fun w h => r_neBool rfl rfl) ?_
         refine s_take hM42 rfl (gn rfl) rfl rfl (fun w h => r_pickF rfl (congrArg Bool.not h37) rfl) ?_
         refine s_take hM42 rfl (gn rfl) rfl rfl (fun w h => r_move rfl) ?_
         refine ways (decide (((hsOf a.kind).role) = (isRole a.role))) (fun h43 => ?_) (fun h43 => ?_)
         ·skip
          refine s_take hM42 rfl (gy rfl rfl rfl rfl (congrArg Bool.not h43)) rfl rfl (fun w h => r_fieldAddr Hs.fld_role rfl) ?_
          refine s_take hM42 rfl (gy rfl rfl rfl rfl (congrArg Bool.not h43)) rfl rfl (fun w h => r_load1 (v := Value.bool ((hsOf a.kind).role)) Tryz.isAgg4 rfl (Holds.sub (h.base (i := 0) rfl) (Hs.sub_role _))) ?_
          refine s_take hM42 rfl (gy rfl rfl rfl rfl (congrArg Bool.not h43)) rfl rfl (fun w h => r_not rfl) ?_
          refine s_take hM42 rfl (gy rfl rfl rfl rfl (congrArg Bool.not h43)) rfl rfl (fun w h => r_move rfl) ?_
          refine ways ((hsOf a.kind).role) (fun h44 => ?_) (fun h44 => ?_)
          ·skip
           refine s_off hM42 rfl (gno rfl rfl rfl rfl (congrArg Bool.not h44)) rfl rfl ?_
           refine s_off hM42 rfl (gno rfl rfl rfl rfl (congrArg Bool.not h44)) rfl rfl ?_
           refine s_off hM42 rfl (gno rfl rfl rfl rfl (congrArg Bool.not h44)) rfl rfl ?_
           refine s_take hM42 rfl (gy rfl rfl rfl rfl (congrArg Bool.not h43)) rfl rfl (fun w h => r_pickF rfl (congrArg Bool.not h44) rfl) ?_
           refine s_take hM42 rfl (gn rfl) rfl rfl (fun w h => r_pickF rfl (congrArg Bool.not h43) rfl) ?_
           refine s_take hM42 rfl (gn rfl) rfl rfl (fun w h => r_assign rfl) ?_
           refine s_nil ?_
           exact jn () hM42 ⟨rfl, rfl, rfl, rfl, rfl, okB (by (try simp only [h37, h43]); (try simp only [h29, h30, h44]); simp), trivial⟩
          ·skip
           refine s_take hM42 rfl (gy rfl rfl rfl rfl (congrArg Bool.not h44)) rfl rfl (fun w h => r_fieldAddr ARep.fld_role rfl) ?_
           refine s_take hM42 rfl (gy rfl rfl rfl rfl (congrArg Bool.not h44)) rfl rfl (fun w h => r_load1 (v := vU8 a.role) Tryz.isAgg28 rfl (Holds.sub (h.base (i := 1) rfl) (ARep.sub_role _))) ?_
           refine s_take hM42 rfl (gy rfl rfl rfl rfl (congrArg Bool.not h44)) rfl rfl (fun w h => r_neq (b := (!(decide ((a.role : UInt8) = 0)))) rfl rfl (congrArg Bool.not (u8eq a.role 0))) ?_
           refine s_take hM42 rfl (gy rfl rfl rfl rfl (congrArg Bool.not h43)) rfl rfl (fun w h => r_pickT rfl (congrArg Bool.not h44) rfl) ?_
           refine s_take hM42 rfl (gn rfl) rfl rfl (fun w h => r_pickF rfl (congrArg Bool.not h43) rfl) ?_
           refine s_take hM42 rfl (gn rfl) rfl rfl (fun w h => r_assign rfl) ?_
           refine s_nil ?_
           exact jn () hM42 ⟨rfl, rfl, rfl, rfl, rfl, okB (by (try simp only [h37, h43]); (try simp only [h29, h30, h44]); simp), trivial⟩
         ·skip
          refine s_off hM42 rfl (gno rfl rfl rfl rfl (congrArg Bool.not h43)) rfl rfl ?_
          refine s_off hM42 rfl (gno rfl rfl rfl rfl (congrArg Bool.not h43)) rfl rfl ?_
          refine s_off hM42 rfl (gno rfl rfl rfl rfl (congrArg Bool.not h43)) rfl rfl ?_
          refine s_off hM42 rfl (gno rfl rfl rfl rfl (congrArg Bool.not h43)) rfl rfl ?_
          refine s_off hM42 rfl (gnu rfl rfl rfl rfl) rfl rfl ?_
          refine s_off hM42 rfl (gnu rfl rfl rfl rfl) rfl rfl ?_
          refine s_off hM42 rfl (gnu rfl rfl rfl rfl) rfl rfl ?_
          refine s_off hM42 rfl (gno rfl rfl rfl rfl (congrArg Bool.not h43)) rfl rfl ?_
          refine s_take hM42 rfl (gn rfl) rfl rfl (fun w h => r_pickT rfl (congrArg Bool.not h43) rfl) ?_
          refine s_take hM42 rfl (gn rfl) rfl rfl (fun w h => r_assign rfl) ?_
          refine s_nil ?_
          exact jn () hM42 ⟨rfl, rfl, rfl, rfl, rfl, okB (by (try simp only [h37, h43]); (try simp only [h29, h30]); simp), trivial⟩
        ·skip
         have hp45 : ¬ (a.E = Pt.zero) := of_decide_eq_false h37
         refine s_off hM27 rfl (gno rfl rfl rfl rfl (congrArg Bool.not h37)) rfl rfl ?_
         refine s_off hM27 rfl (gno rfl rfl rfl rfl (congrArg Bool.not h37)) rfl rfl ?_
         refine s_off hM27 rfl (gno rfl rfl rfl rfl (congrArg Bool.not h37)) rfl rfl ?_
         refine s_off hM27 rfl (gno rfl rfl rfl rfl (congrArg Bool.not h37)) rfl rfl ?_
         refine s_offx (.inr hM27) rfl (gno rfl rfl rfl rfl (congrArg Bool.not h37)) rfl rfl ?_
         refine s_off hM27 rfl (gno rfl rfl rfl rfl (congrArg Bool.not h37)) rfl rfl ?_
         refine s_take hM27 rfl (gn rfl) rfl rfl (fun w h => r_pickT rfl (congrArg Bool.not h37) rfl) ?_
         refine s_take hM27 rfl (gn rfl) rfl rfl (fun w h => r_move rfl) ?_
         refine s_off hM27 rfl (gno rfl rfl rfl rfl rfl) rfl rfl ?_
         refine s_off hM27 rfl (gno rfl rfl rfl rfl rfl) rfl rfl ?_
         refine s_off hM27 rfl (gno rfl rfl rfl rfl rfl) rfl rfl ?_
         refine s_off hM27 rfl (gno rfl rfl rfl rfl rfl) rfl rfl ?_
         refine s_off hM27 rfl (gnu rfl rfl rfl rfl) rfl rfl ?_
         refine s_off hM27 rfl (gnu rfl rfl rfl rfl) rfl rfl ?_
         refine s_off hM27 rfl (gnu rfl rfl rfl rfl) rfl rfl ?_
         refine s_off hM27 rfl (gno rfl rfl rfl rfl rfl) rfl rfl ?_
         refine s_take hM27 rfl (gn rfl) rfl rfl (fun w h => r_pickT rfl rfl rfl) ?_
         refine s_take hM27 rfl (gn rfl) rfl rfl (fun w h => r_assign rfl) ?_
         refine s_nil ?_
         exact jn () hM27 ⟨rfl, rfl, rfl, rfl, rfl, okB (by (try simp only [h37]); (try simp only [h29, h30]); simp), trivial⟩
      ·skip
       refine s_take hM27 rfl (gy rfl rfl rfl rfl (congrArg Bool.not h29)) rfl rfl (fun w h => r_fieldAddr ARep.fld_who rfl) ?_
       refine s_take hM27 rfl (gy rfl rfl rfl rfl (congrArg Bool.not h29)) rfl rfl (fun w h => r_loadA Tryz.isAgg40 Tryz.sizeOf40 (Cipher.size _) rfl (Holds.sub (h.base (i := 1) rfl) (ARep.sub_who _))) ?_
       refine s_take hM27 rfl (gy rfl rfl rfl rfl (congrArg Bool.not h29)) rfl rfl (fun w h => r_build rfl ((Cipher.built _).trans (fill_nil))) ?_
       refine s_take hM27 rfl (gy rfl rfl rfl rfl (congrArg Bool.not h29)) rfl rfl (fun w h => r_neCipher rfl rfl) ?_
       refine s_take hM27 rfl (gn rfl) rfl rfl (fun w h => r_pickT rfl (congrArg Bool.not h29) rfl) ?_
       refine s_take hM27 rfl (gn rfl) rfl rfl (fun w h => r_move rfl) ?_
       refine ways (decide (a.who = Cipher.zero)) (fun h46 => ?_) (fun h46 => ?_)
       ·skip
        have hp47 : a.who = Cipher.zero := of_decide_eq_true h46
        refine s_take hM27 rfl (gy rfl rfl rfl rfl (congrArg Bool.not h46)) rfl rfl (fun w h => r_fieldAddr Hs.fld_e rfl) ?_
        refine s_take hM27 rfl (gy rfl rfl rfl rfl (congrArg Bool.not h46)) rfl rfl (fun w h => r_load1 (v := Value.bool ((hsOf a.kind).e)) Tryz.isAgg4 rfl (Holds.sub (h.base (i := 0) rfl) (Hs.sub_e _))) ?_
        refine s_take hM27 rfl (gy rfl rfl rfl rfl (congrArg Bool.not h46)) rfl rfl (fun w h => r_not rfl) ?_
        refine s_take hM27 rfl (gy rfl rfl rfl rfl (congrArg Bool.not h46)) rfl rfl (fun w h => r_move rfl) ?_
        refine ways ((hsOf a.kind).e) (fun h48 => ?_) (fun h48 => ?_)
        ·skip
         refine s_off hM27 rfl (gno rfl rfl rfl rfl (congrArg Bool.not h48)) rfl rfl ?_
         refine s_off hM27 rfl (gno rfl rfl rfl rfl (congrArg Bool.not h48)) rfl rfl ?_
         refine s_off hM27 rfl (gno rfl rfl rfl rfl (congrArg Bool.not h48)) rfl rfl ?_
         refine s_off hM27 rfl (gno rfl rfl rfl rfl (congrArg Bool.not h48)) rfl rfl ?_
         refine s_take hM27 rfl (gy rfl rfl rfl rfl (congrArg Bool.not h46)) rfl rfl (fun w h => r_pickF rfl (congrArg Bool.not h48) rfl) ?_
         refine s_take hM27 rfl (gn rfl) rfl rfl (fun w h => r_pickF rfl (congrArg Bool.not h46) rfl) ?_
         refine s_take hM27 rfl (gn rfl) rfl rfl (fun w h => r_move rfl) ?_
         refine s_take hM27 rfl (gy rfl rfl rfl rfl rfl) rfl rfl (fun w h => r_fieldAddr Hs.fld_role rfl) ?_
         refine s_take hM27 rfl (gy rfl rfl rfl rfl rfl) rfl rfl (fun w h => r_load1 (v := Value.bool ((hsOf a.kind).role)) Tryz.isAgg4 rfl (Holds.sub (h.base (i := 0) rfl) (Hs.sub_role _))) ?_
         refine s_take hM27 rfl (gy rfl rfl rfl rfl rfl) rfl rfl (fun w h => r_fieldAddr ARep.fld_role rfl) ?_
         refine s_take hM27 rfl (gy rfl rfl rfl rfl rfl) rfl rfl (fun w h => r_load1 (v := vU8 a.role) Tryz.isAgg28 rfl (Holds.sub (h.base (i := 1) rfl) (ARep.sub_role _))) ?_
         refine s_call rfl (gy rfl rfl rfl rfl rfl) rfl rfl (r_call Tryz.call55 rfl) (f55 a.role) ?_
         rintro v49 w50 ⟨rfl, hK51⟩
         have hM52 := hM27.keep hK51
         refine ⟨.inr hM52, ?_⟩
         refine s_take hM52 rfl (gy rfl rfl rfl rfl rfl) rfl rfl (fun w h => r_neBool rfl rfl) ?_
         refine s_take hM52 rfl (gn rfl) rfl rfl (fun w h => r_pickF rfl rfl rfl) ?_
         refine s_take hM52 rfl (gn rfl) rfl rfl (fun w h => r_move rfl) ?_
         refine ways (decide (((hsOf a.kind).role) = (isRole a.role))) (fun h53 => ?_) (fun h53 => ?_)
         ·skip
          refine s_take hM52 rfl (gy rfl rfl rfl rfl (congrArg Bool.not h53)) rfl rfl (fun w h => r_fieldAddr Hs.fld_role rfl) ?_
          refine s_take hM52 rfl (gy rfl rfl rfl rfl (congrArg Bool.not h53)) rfl rfl (fun w h => r_load1 (v := Value.bool ((hsOf a.kind).role)) Tryz.isAgg4 rfl (Holds.sub (h.base (i := 0) rfl) (Hs.sub_role _))) ?_
          refine s_take hM52 rfl (gy rfl rfl rfl rfl (congrArg Bool.not h53)) rfl rfl (fun w h => r_not rfl) ?_
          refine s_take hM52 rfl (gy rfl rfl rfl rfl (congrArg Bool.not h53)) rfl rfl (fun w h => r_move rfl) ?_
          refine ways ((hsOf a.kind).role) (fun h54 => ?_) (fun h54 => ?_)
          ·skip
           refine s_off hM52 rfl (gno rfl rfl rfl rfl (congrArg Bool.not h54)) rfl rfl ?_
           refine s_off hM52 rfl (gno rfl rfl rfl rfl (congrArg Bool.not h54)) rfl rfl ?_
           refine s_off hM52 rfl (gno rfl rfl rfl rfl (congrArg Bool.not h54)) rfl rfl ?_
           refine s_take hM52 rfl (gy rfl rfl rfl rfl (congrArg Bool.not h53)) rfl rfl (fun w h => r_pickF rfl (congrArg Bool.not h54) rfl) ?_
           refine s_take hM52 rfl (gn rfl) rfl rfl (fun w h => r_pickF rfl (congrArg Bool.not h53) rfl) ?_
           refine s_take hM52 rfl (gn rfl) rfl rfl (fun w h => r_assign rfl) ?_
           refine s_nil ?_
           exact jn () hM52 ⟨rfl, rfl, rfl, rfl, rfl, okB (by (try simp only [h46, h53]); (try simp only [h29, h48, h54]); simp), trivial⟩
          ·skip
           refine s_take hM52 rfl (gy rfl rfl rfl rfl (congrArg Bool.not h54)) rfl rfl (fun w h => r_fieldAddr ARep.fld_role rfl) ?_
           refine s_take hM52 rfl (gy rfl rfl rfl rfl (congrArg Bool.not h54)) rfl rfl (fun w h => r_load1 (v := vU8 a.role) Tryz.isAgg28 rfl (Holds.sub (h.base (i := 1) rfl) (ARep.sub_role _))) ?_
           refine s_take hM52 rfl (gy rfl rfl rfl rfl (congrArg Bool.not h54)) rfl rfl (fun w h => r_neq (b := (!(decide ((a.role : UInt8) = 0)))) rfl rfl (congrArg Bool.not (u8eq a.role 0))) ?_
           refine s_take hM52 rfl (gy rfl rfl rfl rfl (congrArg Bool.not h53)) rfl rfl (fun w h => r_pickT rfl (congrArg Bool.not h54) rfl) ?_
           refine s_take hM52 rfl (gn rfl) rfl rfl (fun w h => r_pickF rfl (congrArg Bool.not h53) rfl) ?_
           refine s_take hM52 rfl (gn rfl) rfl rfl (fun w h => r_assign rfl) ?_
           refine s_nil ?_
           exact jn () hM52 ⟨rfl, rfl, rfl, rfl, rfl, okB (by (try simp only [h46, h53]); (try simp only [h29, h48, h54]); simp), trivial⟩
         ·skip
          refine s_off hM52 rfl (gno rfl rfl rfl rfl (congrArg Bool.not h53)) rfl rfl ?_
          refine s_off hM52 rfl (gno rfl rfl rfl rfl (congrArg Bool.not h53)) rfl rfl ?_
          refine s_off hM52 rfl (gno rfl rfl rfl rfl (congrArg Bool.not h53)) rfl rfl ?_
          refine s_off hM52 rfl (gno rfl rfl rfl rfl (congrArg Bool.not h53)) rfl rfl ?_
          refine s_off hM52 rfl (gnu rfl rfl rfl rfl) rfl rfl ?_
          refine s_off hM52 rfl (gnu rfl rfl rfl rfl) rfl rfl ?_
          refine s_off hM52 rfl (gnu rfl rfl rfl rfl) rfl rfl ?_
          refine s_off hM52 rfl (gno rfl rfl rfl rfl (congrArg Bool.not h53)) rfl rfl ?_
          refine s_take hM52 rfl (gn rfl) rfl rfl (fun w h => r_pickT rfl (congrArg Bool.not h53) rfl) ?_
          refine s_take hM52 rfl (gn rfl) rfl rfl (fun w h => r_assign rfl) ?_
          refine s_nil ?_
          exact jn () hM52 ⟨rfl, rfl, rfl, rfl, rfl, okB (by (try simp only [h46, h53]); (try simp only [h29, h48]); simp), trivial⟩
        ·skip
         refine s_take hM27 rfl (gy rfl rfl rfl rfl (congrArg Bool.not h48)) rfl rfl (fun w h => r_fieldAddr ARep.fld_E rfl) ?_
         refine s_take hM27 rfl (gy rfl rfl rfl rfl (congrArg Bool.not h48)) rfl rfl (fun w h => r_loadA Tryz.isAgg24 Tryz.sizeOf24 (Pt.size _) rfl (Holds.sub (h.base (i := 1) rfl) (ARep.sub_E _))) ?_
         refine s_take hM27 rfl (gy rfl rfl rfl rfl (congrArg Bool.not h48)) rfl rfl (fun w h => r_build rfl Pt.built) ?_
         refine s_take hM27 rfl (gy rfl rfl rfl rfl (congrArg Bool.not h48)) rfl rfl (fun w h => r_nePt Tryz.eqGuardType24 Tryz.underlying24 rfl rfl) ?_
         refine s_take hM27 rfl (gy rfl rfl rfl rfl (congrArg Bool.not h46)) rfl rfl (fun w h => r_pickT rfl (congrArg Bool.not h48) rfl) ?_
         refine s_take hM27 rfl (gn rfl) rfl rfl (fun w h => r_pickF rfl (congrArg Bool.not h46) rfl) ?_
         refine s_take hM27 rfl (gn rfl) rfl rfl (fun w h => r_move rfl) ?_
         refine ways (decide (a.E = Pt.zero)) (fun h55 => ?_) (fun h55 => ?_)
         ·skip
          have hp56 : a.E = Pt.zero := of_decide_eq_true h55
          refine s_take hM27 rfl (gy rfl rfl rfl rfl (congrArg Bool.not h55)) rfl rfl (fun w h => r_fieldAddr Hs.fld_role rfl) ?_
          refine s_take hM27 rfl (gy rfl rfl rfl rfl (congrArg Bool.not h55)) rfl rfl (fun w h => r_load1 (v := Value.bool ((hsOf a.kind).role)) Tryz.isAgg4 rfl (Holds.sub (h.base (i := 0) rfl) (Hs.sub_role _))) ?_
          refine s_take hM27 rfl (gy rfl rfl rfl rfl (congrArg Bool.not h55)) rfl rfl (fun w h => r_fieldAddr ARep.fld_role rfl) ?_
          refine s_take hM27 rfl (gy rfl rfl rfl rfl (congrArg Bool.not h55)) rfl rfl (fun w h => r_load1 (v := vU8 a.role) Tryz.isAgg28 rfl (Holds.sub (h.base (i := 1) rfl) (ARep.sub_role _))) ?_
          refine s_call rfl (gy rfl rfl rfl rfl (congrArg Bool.not h55)) rfl rfl (r_call Tryz.call55 rfl) (f55 a.role) ?_
          rintro v57 w58 ⟨rfl, hK59⟩
          have hM60 := hM27.keep hK59
          refine ⟨.inr hM60, ?_⟩
          refine s_take hM60 rfl (gy rfl rfl rfl rfl (congrArg Bool.not h55)) rfl rfl (fun w h => r_neBool rfl rfl) ?_
          refine s_take hM60 rfl (gn rfl) rfl rfl (fun w h => r_pickF rfl (congrArg Bool.not h55) rfl) ?_
          refine s_take hM60 rfl (gn rfl) rfl rfl (fun w h => r_move rfl) ?_
          refine ways (decide (((hsOf a.kind).role) = (isRole a.role))) (fun h61 => ?_) (fun h61 => ?_)
          ·skip
           refine s_take hM60 rfl (gy rfl rfl rfl rfl (congrArg Bool.not h61)) rfl rfl (fun w h => r_fieldAddr Hs.fld_role rfl) ?_
           refine s_take hM60 rfl (gy rfl rfl rfl rfl (congrArg Bool.not h61)) rfl rfl (fun w h => r_load1 (v := Value.bool ((hsOf a.kind).role)) Tryz.isAgg4 rfl (Holds.sub (h.base (i := 0) rfl) (Hs.sub_role _))) ?_
           refine s_take hM60 rfl (gy rfl rfl rfl rfl (congrArg Bool.not h61)) rfl rfl (fun w h => r_not rfl) ?_
           refine s_take hM60 rfl (gy rfl rfl rfl rfl (congrArg Bool.not h61)) rfl rfl (fun w h => r_move rfl) ?_
           refine ways ((hsOf a.kind).role) (fun h62 => ?_) (fun h62 => ?_)
           ·skip
            refine s_off hM60 rfl (gno rfl rfl rfl rfl (congrArg Bool.not h62)) rfl rfl ?_
            refine s_off hM60 rfl (gno rfl rfl rfl rfl (congrArg Bool.not h62)) rfl rfl ?_
            refine s_off hM60 rfl (gno rfl rfl rfl rfl (congrArg Bool.not h62)) rfl rfl ?_
            refine s_take hM60 rfl (gy rfl rfl rfl rfl (congrArg Bool.not h61)) rfl rfl (fun w h => r_pickF rfl (congrArg Bool.not h62) rfl) ?_
            refine s_take hM60 rfl (gn rfl) rfl rfl (fun w h => r_pickF rfl (congrArg Bool.not h61) rfl) ?_
            refine s_take hM60 rfl (gn rfl) rfl rfl (fun w h => r_assign rfl) ?_
            refine s_nil ?_
            exact jn () hM60 ⟨rfl, rfl, rfl, rfl, rfl, okB (by (try simp only [h46, h55, h61]); (try simp only [h29, h48, h62]); simp), trivial⟩
           ·skip
            refine s_take hM60 rfl (gy rfl rfl rfl rfl (congrArg Bool.not h62)) rfl rfl (fun w h => r_fieldAddr ARep.fld_role rfl) ?_
            refine s_take hM60 rfl (gy rfl rfl rfl rfl (congrArg Bool.not h62)) rfl rfl (fun w h => r_load1 (v := vU8 a.role) Tryz.isAgg28 rfl (Holds.sub (h.base (i := 1) rfl) (ARep.sub_role _))) ?_
            refine s_take hM60 rfl (gy rfl rfl rfl rfl (congrArg Bool.not h62)) rfl rfl (fun w h => r_neq (b := (!(decide ((a.role : UInt8) = 0)))) rfl rfl (congrArg Bool.not (u8eq a.role 0))) ?_
            refine s_take hM60 rfl (gy rfl rfl rfl rfl (congrArg Bool.not h61)) rfl rfl (fun w h => r_pickT rfl (congrArg Bool.not h62) rfl) ?_
            refine s_take hM60 rfl (gn rfl) rfl rfl (fun w h => r_pickF rfl (congrArg Bool.not h61) rfl) ?_
            refine s_take hM60 rfl (gn rfl) rfl rfl (fun w h => r_assign rfl) ?_
            refine s_nil ?_
            exact jn () hM60 ⟨rfl, rfl, rfl, rfl, rfl, okB (by (try simp only [h46, h55, h61]); (try simp only [h29, h48, h62]); simp), trivial⟩
          ·skip
           refine s_off hM60 rfl (gno rfl rfl rfl rfl (congrArg Bool.not h61)) rfl rfl ?_
           refine s_off hM60 rfl (gno rfl rfl rfl rfl (congrArg Bool.not h61)) rfl rfl ?_
           refine s_off hM60 rfl (gno rfl rfl rfl rfl (congrArg Bool.not h61)) rfl rfl ?_
           refine s_off hM60 rfl (gno rfl rfl rfl rfl (congrArg Bool.not h61)) rfl rfl ?_
           refine s_off hM60 rfl (gnu rfl rfl rfl rfl) rfl rfl ?_
           refine s_off hM60 rfl (gnu rfl rfl rfl rfl) rfl rfl ?_
           refine s_off hM60 rfl (gnu rfl rfl rfl rfl) rfl rfl ?_
           refine s_off hM60 rfl (gno rfl rfl rfl rfl (congrArg Bool.not h61)) rfl rfl ?_
           refine s_take hM60 rfl (gn rfl) rfl rfl (fun w h => r_pickT rfl (congrArg Bool.not h61) rfl) ?_
           refine s_take hM60 rfl (gn rfl) rfl rfl (fun w h => r_assign rfl) ?_
           refine s_nil ?_
           exact jn () hM60 ⟨rfl, rfl, rfl, rfl, rfl, okB (by (try simp only [h46, h55, h61]); (try simp only [h29, h48]); simp), trivial⟩
         ·skip
          have hp63 : ¬ (a.E = Pt.zero) := of_decide_eq_false h55
          refine s_off hM27 rfl (gno rfl rfl rfl rfl (congrArg Bool.not h55)) rfl rfl ?_
          refine s_off hM27 rfl (gno rfl rfl rfl rfl (congrArg Bool.not h55)) rfl rfl ?_
          refine s_off hM27 rfl (gno rfl rfl rfl rfl (congrArg Bool.not h55)) rfl rfl ?_
          refine s_off hM27 rfl (gno rfl rfl rfl rfl (congrArg Bool.not h55)) rfl rfl ?_
          refine s_offx (.inr hM27) rfl (gno rfl rfl rfl rfl (congrArg Bool.not h55)) rfl rfl ?_
          refine s_off hM27 rfl (gno rfl rfl rfl rfl (congrArg Bool.not h55)) rfl rfl ?_
          refine s_take hM27 rfl (gn rfl) rfl rfl (fun w h => r_pickT rfl (congrArg Bool.not h55) rfl) ?_
          refine s_take hM27 rfl (gn rfl) rfl rfl (fun w h => r_move rfl) ?_
          refine s_off hM27 rfl (gno rfl rfl rfl rfl rfl) rfl rfl ?_
          refine s_off hM27 rfl (gno rfl rfl rfl rfl rfl) rfl rfl ?_
          refine s_off hM27 rfl (gno rfl rfl rfl rfl rfl) rfl rfl ?_
          refine s_off hM27 rfl (gno rfl rfl rfl rfl rfl) rfl rfl ?_
          refine s_off hM27 rfl (gnu rfl rfl rfl rfl) rfl rfl ?_
          refine s_off hM27 rfl (gnu rfl rfl rfl rfl) rfl rfl ?_
          refine s_off hM27 rfl (gnu rfl rfl rfl rfl) rfl rfl ?_
          refine s_off hM27 rfl (gno rfl rfl rfl rfl rfl) rfl rfl ?_
          refine s_take hM27 rfl (gn rfl) rfl rfl (fun w h => r_pickT rfl rfl rfl) ?_
          refine s_take hM27 rfl (gn rfl) rfl rfl (fun w h => r_assign rfl) ?_
          refine s_nil ?_
          exact jn () hM27 ⟨rfl, rfl, rfl, rfl, rfl, okB (by (try simp only [h46, h55]); (try simp only [h29, h48]); simp), trivial⟩
       ·skip
        have hp64 : ¬ (a.who = Cipher.zero) := of_decide_eq_false h46
        refine s_off hM27 rfl (gno rfl rfl rfl rfl (congrArg Bool.not h46)) rfl rfl ?_
        refine s_off hM27 rfl (gno rfl rfl rfl rfl (congrArg Bool.not h46)) rfl rfl ?_
        refine s_off hM27 rfl (gno rfl rfl rfl rfl (congrArg Bool.not h46)) rfl rfl ?_
        refine s_off hM27 rfl (gno rfl rfl rfl rfl (congrArg Bool.not h46)) rfl rfl ?_
        refine s_off hM27 rfl (gnu rfl rfl rfl rfl) rfl rfl ?_
        refine s_off hM27 rfl (gnu rfl rfl rfl rfl) rfl rfl ?_
        refine s_off hM27 rfl (gnu rfl rfl rfl rfl) rfl rfl ?_
        refine s_off hM27 rfl (gnu rfl rfl rfl rfl) rfl rfl ?_
        refine s_off hM27 rfl (gno rfl rfl rfl rfl (congrArg Bool.not h46)) rfl rfl ?_
        refine s_take hM27 rfl (gn rfl) rfl rfl (fun w h => r_pickT rfl (congrArg Bool.not h46) rfl) ?_
        refine s_take hM27 rfl (gn rfl) rfl rfl (fun w h => r_move rfl) ?_
        refine s_off hM27 rfl (gno rfl rfl rfl rfl rfl) rfl rfl ?_
        refine s_off hM27 rfl (gno rfl rfl rfl rfl rfl) rfl rfl ?_
        refine s_off hM27 rfl (gno rfl rfl rfl rfl rfl) rfl rfl ?_
        refine s_off hM27 rfl (gno rfl rfl rfl rfl rfl) rfl rfl ?_
        refine s_offx (.inr hM27) rfl (gno rfl rfl rfl rfl rfl) rfl rfl ?_
        refine s_off hM27 rfl (gno rfl rfl rfl rfl rfl) rfl rfl ?_
        refine s_take hM27 rfl (gn rfl) rfl rfl (fun w h => r_pickT rfl rfl rfl) ?_
        refine s_take hM27 rfl (gn rfl) rfl rfl (fun w h => r_move rfl) ?_
        refine s_off hM27 rfl (gno rfl rfl rfl rfl rfl) rfl rfl ?_
        refine s_off hM27 rfl (gno rfl rfl rfl rfl rfl) rfl rfl ?_
        refine s_off hM27 rfl (gno rfl rfl rfl rfl rfl) rfl rfl ?_
        refine s_off hM27 rfl (gno rfl rfl rfl rfl rfl) rfl rfl ?_
        refine s_off hM27 rfl (gnu rfl rfl rfl rfl) rfl rfl ?_
        refine s_off hM27 rfl (gnu rfl rfl rfl rfl) rfl rfl ?_
        refine s_off hM27 rfl (gnu rfl rfl rfl rfl) rfl rfl ?_
        refine s_off hM27 rfl (gno rfl rfl rfl rfl rfl) rfl rfl ?_
        refine s_take hM27 rfl (gn rfl) rfl rfl (fun w h => r_pickT rfl rfl rfl) ?_
        refine s_take hM27 rfl (gn rfl) rfl rfl (fun w h => r_assign rfl) ?_
        refine s_nil ?_
        exact jn () hM27 ⟨rfl, rfl, rfl, rfl, rfl, okB (by (try simp only [h46]); (try simp only [h29]); simp), trivial⟩
     ·skip
      rintro - w65 hM66
      refine ways (((!(hsOf a.kind).who && !decide (a.who = Cipher.zero)) || (!(hsOf a.kind).e && !decide (a.E = Pt.zero)) || (!decide ((hsOf a.kind).role = isRole a.role)) || (!(hsOf a.kind).role && !decide (a.role = 0)))) (fun h67 => ?_) (fun h67 => ?_)
      ·skip
       refine c_condT rfl h67 ?_
       refine c_seq ?_
       refine c_reg ?_
       refine l_val (gn rfl) rfl rfl (r_assign rfl) ?_
       refine l_nil ?_
       refine c_ret ?_
       refine ret1 rfl rfl ?_
       exact ⟨by rw [okAct29]; (try simp only [h18, h21, h24]); (try simp only [h67]); simp, hM66.kp⟩
      ·skip
       refine c_condF rfl h67 ?_
       refine c_seq ?_
       refine c_join (ι := Unit) (fun _ w_ => Mem w [] [(b10, (Hs.cells ((hsOf a.kind))), 106), (b1, (ARep.cells ((ARep.mk a.ver a.kind a.who a.E a.role qa.t a.acc qa.p))), 42)] w_) (fun _ => [(0, Value.agg (ARep.cells ((ARep.mk a.ver a.kind a.who a.E a.role qa.t a.acc qa.p)))), (1, Value.pointer (some ⟨b1, 0, none⟩)), (2, Value.bool false), (3, Value.pointer (some ⟨b10, 0, none⟩)), (8, Value.bool (decide ((200 : Nat) < a.title.length))), (23, Value.bool (((!(hsOf a.kind).who && !decide (a.who = Cipher.zero)) || (!(hsOf a.kind).e && !decide (a.E = Pt.zero)) || (!decide ((hsOf a.kind).role = isRole a.role)) || (!(hsOf a.kind).role && !decide (a.role = 0))))), (62, Value.bool (((!(hsOf a.kind).title && decide (0 < a.title.length)) || ((hsOf a.kind).access && !okAccess a.acc) || (!(hsOf a.kind).access && !decide (a.acc = Access.zero)))))]) ?_ ?_
       ·skip
        refine c_reg ?_
        refine l_val (gn rfl) rfl rfl (r_fieldAddr Hs.fld_title rfl) ?_
        refine l_val (gn rfl) rfl rfl (r_load1 (v := Value.bool ((hsOf a.kind).title)) Tryz.isAgg4 rfl (Holds.sub (hM66.base (i := 0) rfl) (Hs.sub_title _))) ?_
        refine l_val (gn rfl) rfl rfl (r_not rfl) ?_
        refine l_val (gn rfl) rfl rfl (r_move rfl) ?_
        refine ways ((hsOf a.kind).title) (fun h68 => ?_) (fun h68 => ?_)
        ·skip
         refine l_off (gno rfl rfl rfl rfl (congrArg Bool.not h68)) rfl rfl ?_
         refine l_off (gno rfl rfl rfl rfl (congrArg Bool.not h68)) rfl rfl ?_
         refine l_off (gno rfl rfl rfl rfl (congrArg Bool.not h68)) rfl rfl ?_
         refine l_off (gno rfl rfl rfl rfl (congrArg Bool.not h68)) rfl rfl ?_
         refine l_val (gn rfl) rfl rfl (r_pickF rfl (congrArg Bool.not h68) rfl) ?_
         refine l_val (gn rfl) rfl rfl (r_move rfl) ?_
         refine l_val (gy rfl rfl rfl rfl rfl) rfl rfl (r_fieldAddr Hs.fld_access rfl) ?_
         refine l_val (gy rfl rfl rfl rfl rfl) rfl rfl (r_load1 (v := Value.bool ((hsOf a.kind).access)) Tryz.isAgg4 rfl (Holds.sub (hM66.base (i := 0) rfl) (Hs.sub_access _))) ?_
         refine l_val (gy rfl rfl rfl rfl rfl) rfl rfl (r_move rfl) ?_
         refine ways ((hsOf a.kind).access) (fun h69 => ?_) (fun h69 => ?_)
         ·skip
          refine l_val (gy rfl rfl rfl rfl h69) rfl rfl (r_fieldAddr ARep.fld_acc rfl) ?_
          refine l_val (gy rfl rfl rfl rfl h69) rfl rfl (r_loadA Tryz.isAgg31 Tryz.sizeOf31 (Access.size _) rfl (Holds.sub (hM66.base (i := 1) rfl) (ARep.sub_acc _))) ?_
          refine l_call (gy rfl rfl rfl rfl h69) rfl rfl (r_call Tryz.call44 rfl) (f44 a.acc) ?_
          rintro v70 w71 ⟨rfl, hK72⟩
          have hM73 := hM66.keep hK72
          refine l_val (gy rfl rfl rfl rfl h69) rfl rfl (r_not rfl) ?_
          refine l_val (gy rfl rfl rfl rfl rfl) rfl rfl (r_pickT rfl h69 rfl) ?_
          refine l_val (gn rfl) rfl rfl (r_pickF rfl rfl rfl) ?_
          refine l_val (gn rfl) rfl rfl (r_move rfl) ?_
          refine ways (okAccess a.acc) (fun h74 => ?_) (fun h74 => ?_)
          ·skip
           refine l_val (gy rfl rfl rfl rfl (congrArg Bool.not h74)) rfl rfl (r_fieldAddr Hs.fld_access rfl) ?_
           refine l_val (gy rfl rfl rfl rfl (congrArg Bool.not h74)) rfl rfl (r_load1 (v := Value.bool ((hsOf a.kind).access)) Tryz.isAgg4 rfl (Holds.sub (hM73.base (i := 0) rfl) (Hs.sub_access _))) ?_
           refine l_val (gy rfl rfl rfl rfl (congrArg Bool.not h74)) rfl rfl (r_not rfl) ?_
           refine l_val (gy rfl rfl rfl rfl (congrArg Bool.not h74)) rfl rfl (r_move rfl) ?_
           refine l_off (gno rfl rfl rfl rfl (congrArg Bool.not h69)) rfl rfl ?_
           refine l_off (gno rfl rfl rfl rfl (congrArg Bool.not h69)) rfl rfl ?_
           refine l_off (gno rfl rfl rfl rfl (congrArg Bool.not h69)) rfl rfl ?_
           refine l_off (gno rfl rfl rfl rfl (congrArg Bool.not h69)) rfl rfl ?_
           refine l_val (gy rfl rfl rfl rfl (congrArg Bool.not h74)) rfl rfl (r_pickF rfl (congrArg Bool.not h69) rfl) ?_
           refine l_val (gn rfl) rfl rfl (r_pickF rfl (congrArg Bool.not h74) rfl) ?_
           refine l_val (gn rfl) rfl rfl (r_assign rfl) ?_
           refine l_nil ?_
           exact jn () hM73 ⟨rfl, rfl, rfl, rfl, rfl, rfl, okB (by (try simp only [h18, h21, h24]); (try simp only [h68, h69, h74]); simp), trivial⟩
          ·skip
           refine l_off (gno rfl rfl rfl rfl (congrArg Bool.not h74)) rfl rfl ?_
           refine l_off (gno rfl rfl rfl rfl (congrArg Bool.not h74)) rfl rfl ?_
           refine l_off (gno rfl rfl rfl rfl (congrArg Bool.not h74)) rfl rfl ?_
           refine l_off (gno rfl rfl rfl rfl (congrArg Bool.not h74)) rfl rfl ?_
           refine l_off (gnu rfl rfl rfl rfl) rfl rfl ?_
           refine l_off (gnu rfl rfl rfl rfl) rfl rfl ?_
           refine l_off (gnu rfl rfl rfl rfl) rfl rfl ?_
           refine l_off (gnu rfl rfl rfl rfl) rfl rfl ?_
           refine l_off (gno rfl rfl rfl rfl (congrArg Bool.not h74)) rfl rfl ?_
           refine l_val (gn rfl) rfl rfl (r_pickT rfl (congrArg Bool.not h74) rfl) ?_
           refine l_val (gn rfl) rfl rfl (r_assign rfl) ?_
           refine l_nil ?_
           exact jn () hM73 ⟨rfl, rfl, rfl, rfl, rfl, rfl, okB (by (try simp only [h18, h21, h24]); (try simp only [h68, h69, h74]); simp), trivial⟩
         ·skip
          refine l_off (gno rfl rfl rfl rfl h69) rfl rfl ?_
          refine l_off (gno rfl rfl rfl rfl h69) rfl rfl ?_
          refine l_off (gno rfl rfl rfl rfl h69) rfl rfl ?_
          refine l_off (gno rfl rfl rfl rfl h69) rfl rfl ?_
          refine l_val (gy rfl rfl rfl rfl rfl) rfl rfl (r_pickF rfl h69 rfl) ?_
          refine l_val (gn rfl) rfl rfl (r_pickF rfl rfl rfl) ?_
          refine l_val (gn rfl) rfl rfl (r_move rfl) ?_
          refine l_val (gy rfl rfl rfl rfl rfl) rfl rfl (r_fieldAddr Hs.fld_access rfl) ?_
          refine l_val (gy rfl rfl rfl rfl rfl) rfl rfl (r_load1 (v := Value.bool ((hsOf a.kind).access)) Tryz.isAgg4 rfl (Holds.sub (hM66.base (i := 0) rfl) (Hs.sub_access _))) ?_
          refine l_val (gy rfl rfl rfl rfl rfl) rfl rfl (r_not rfl) ?_
          refine l_val (gy rfl rfl rfl rfl rfl) rfl rfl (r_move rfl) ?_
          refine l_val (gy rfl rfl rfl rfl (congrArg Bool.not h69)) rfl rfl (r_fieldAddr ARep.fld_acc rfl) ?_
          refine l_val (gy rfl rfl rfl rfl (congrArg Bool.not h69)) rfl rfl (r_loadA Tryz.isAgg31 Tryz.sizeOf31 (Access.size _) rfl (Holds.sub (hM66.base (i := 1) rfl) (ARep.sub_acc _))) ?_
          refine l_val (gy rfl rfl rfl rfl (congrArg Bool.not h69)) rfl rfl (r_build rfl ((Access.built _).trans (fill_nil))) ?_
          refine l_val (gy rfl rfl rfl rfl (congrArg Bool.not h69)) rfl rfl (r_neAccess rfl rfl) ?_
          refine l_val (gy rfl rfl rfl rfl rfl) rfl rfl (r_pickT rfl (congrArg Bool.not h69) rfl) ?_
          refine l_val (gn rfl) rfl rfl (r_pickF rfl rfl rfl) ?_
          refine l_val (gn rfl) rfl rfl (r_assign rfl) ?_
          refine l_nil ?_
          exact jn () hM66 ⟨rfl, rfl, rfl, rfl, rfl, rfl, okB (by (try simp only []); (try simp only [h68, h69]); simp), trivial⟩
        ·skip
         refine l_val (gy rfl rfl rfl rfl (congrArg Bool.not h68)) rfl rfl (r_fieldAddr ARep.fld_title rfl) ?_
         refine l_val (gy rfl rfl rfl rfl (congrArg Bool.not h68)) rfl rfl (r_load1 (v := Sl.val qa.t) Tryz.isAgg27 rfl (Holds.sub (hM66.base (i := 1) rfl) (ARep.sub_title _))) ?_
         refine l_val (gy rfl rfl rfl rfl (congrArg Bool.not h68)) rfl rfl (r_lenR Tryz.underlying27 rfl (hA.title.keep0 hM66.kp).len) ?_
         refine l_val (gy rfl rfl rfl rfl (congrArg Bool.not h68)) rfl rfl (r_gtr (b := decide ((0 : Nat) < a.title.length)) rfl rfl (nlt 0 a.title.length)) ?_
         refine l_val (gn rfl) rfl rfl (r_pickT rfl (congrArg Bool.not h68) rfl) ?_
         refine l_val (gn rfl) rfl rfl (r_move rfl) ?_
         refine ways (decide ((0 : Nat) < a.title.length)) (fun h75 => ?_) (fun h75 => ?_)
         ·skip
          have hp76 : (0 : Nat) < a.title.length := of_decide_eq_true h75
          refine l_off (gno rfl rfl rfl rfl h75) rfl rfl ?_
          refine l_off (gno rfl rfl rfl rfl h75) rfl rfl ?_
          refine l_off (gno rfl rfl rfl rfl h75) rfl rfl ?_
          refine l_off (gnu rfl rfl rfl rfl) rfl rfl ?_
          refine l_off (gnu rfl rfl rfl rfl) rfl rfl ?_
          refine l_off (gnu rfl rfl rfl rfl) rfl rfl ?_
          refine l_off (gnu rfl rfl rfl rfl) rfl rfl ?_
          refine l_off (gno rfl rfl rfl rfl h75) rfl rfl ?_
          refine l_val (gn rfl) rfl rfl (r_pickT rfl h75 rfl) ?_
          refine l_val (gn rfl) rfl rfl (r_move rfl) ?_
          refine l_off (gno rfl rfl rfl rfl rfl) rfl rfl ?_
          refine l_off (gno rfl rfl rfl rfl rfl) rfl rfl ?_
          refine l_off (gno rfl rfl rfl rfl rfl) rfl rfl ?_
          refine l_off (gno rfl rfl rfl rfl rfl) rfl rfl ?_
          refine l_off (gnu rfl rfl rfl rfl) rfl rfl ?_
          refine l_off (gnu rfl rfl rfl rfl) rfl rfl ?_
          refine l_off (gnu rfl rfl rfl rfl) rfl rfl ?_
          refine l_off (gnu rfl rfl rfl rfl) rfl rfl ?_
          refine l_off (gno rfl rfl rfl rfl rfl) rfl rfl ?_
          refine l_val (gn rfl) rfl rfl (r_pickT rfl rfl rfl) ?_
          refine l_val (gn rfl) rfl rfl (r_assign rfl) ?_
          refine l_nil ?_
          exact jn () hM66 ⟨rfl, rfl, rfl, rfl, rfl, rfl, okB (by (try simp only [h75]); (try simp only [h68]); simp), trivial⟩
         ·skip
          have hp77 : ¬ ((0 : Nat) < a.title.length) := of_decide_eq_false h75
          refine l_val (gy rfl rfl rfl rfl h75) rfl rfl (r_fieldAddr Hs.fld_access rfl) ?_
          refine l_val (gy rfl rfl rfl rfl h75) rfl rfl (r_load1 (v := Value.bool ((hsOf a.kind).access)) Tryz.isAgg4 rfl (Holds.sub (hM66.base (i := 0) rfl) (Hs.sub_access _))) ?_
          refine l_val (gy rfl rfl rfl rfl h75) rfl rfl (r_move rfl) ?_
          refine ways ((hsOf a.kind).access) (fun h78 => ?_) (fun h78 => ?_)
          ·skip
           refine l_val (gy rfl rfl rfl rfl h78) rfl rfl (r_fieldAddr ARep.fld_acc rfl) ?_
           refine l_val (gy rfl rfl rfl rfl h78) rfl rfl (r_loadA Tryz.isAgg31 Tryz.sizeOf31 (Access.size _) rfl (Holds.sub (hM66.base (i := 1) rfl) (ARep.sub_acc _))) ?_
           refine l_call (gy rfl rfl rfl rfl h78) rfl rfl (r_call Tryz.call44 rfl) (f44 a.acc) ?_
           rintro v79 w80 ⟨rfl, hK81⟩
           have hM82 := hM66.keep hK81
           refine l_val (gy rfl rfl rfl rfl h78) rfl rfl (r_not rfl) ?_
           refine l_val (gy rfl rfl rfl rfl h75) rfl rfl (r_pickT rfl h78 rfl) ?_
           refine l_val (gn rfl) rfl rfl (r_pickF rfl h75 rfl) ?_
           refine l_val (gn rfl) rfl rfl (r_move rfl) ?_
           refine ways (okAccess a.acc) (fun h83 => ?_) (fun h83 => ?_)
           ·skip
            refine l_val (gy rfl rfl rfl rfl (congrArg Bool.not h83)) rfl rfl (r_fieldAddr Hs.fld_access rfl) ?_
            refine l_val (gy rfl rfl rfl rfl (congrArg Bool.not h83)) rfl rfl (r_load1 (v := Value.bool ((hsOf a.kind).access)) Tryz.isAgg4 rfl (Holds.sub (hM82.base (i := 0) rfl) (Hs.sub_access _))) ?_
            refine l_val (gy rfl rfl rfl rfl (congrArg Bool.not h83)) rfl rfl (r_not rfl) ?_
            refine l_val (gy rfl rfl rfl rfl (congrArg Bool.not h83)) rfl rfl (r_move rfl) ?_
            refine l_off (gno rfl rfl rfl rfl (congrArg Bool.not h78)) rfl rfl ?_
            refine l_off (gno rfl rfl rfl rfl (congrArg Bool.not h78)) rfl rfl ?_
            refine l_off (gno rfl rfl rfl rfl (congrArg Bool.not h78)) rfl rfl ?_
            refine l_off (gno rfl rfl rfl rfl (congrArg Bool.not h78)) rfl rfl ?_
            refine l_val (gy rfl rfl rfl rfl (congrArg Bool.not h83)) rfl rfl (r_pickF rfl (congrArg Bool.not h78) rfl) ?_
            refine l_val (gn rfl) rfl rfl (r_pickF rfl (congrArg Bool.not h83) rfl) ?_
            refine l_val (gn rfl) rfl rfl (r_assign rfl) ?_
            refine l_nil ?_
            exact jn () hM82 ⟨rfl, rfl, rfl, rfl, rfl, rfl, okB (by (try simp only [h75]); (try simp only [h68, h78, h83]); simp), trivial⟩
           ·skip
            refine l_off (gno rfl rfl rfl rfl (congrArg Bool.not h83)) rfl rfl ?_
            refine l_off (gno rfl rfl rfl rfl (congrArg Bool.not h83)) rfl rfl ?_
            refine l_off (gno rfl rfl rfl rfl (congrArg Bool.not h83)) rfl rfl ?_
            refine l_off (gno rfl rfl rfl rfl (congrArg Bool.not h83)) rfl rfl ?_
            refine l_off (gnu rfl rfl rfl rfl) rfl rfl ?_
            refine l_off (gnu rfl rfl rfl rfl) rfl rfl ?_
            refine l_off (gnu rfl rfl rfl rfl) rfl rfl ?_
            refine l_off (gnu rfl rfl rfl rfl) rfl rfl ?_
            refine l_off (gno rfl rfl rfl rfl (congrArg Bool.not h83)) rfl rfl ?_
            refine l_val (gn rfl) rfl rfl (r_pickT rfl (congrArg Bool.not h83) rfl) ?_
            refine l_val (gn rfl) rfl rfl (r_assign rfl) ?_
            refine l_nil ?_
            exact jn () hM82 ⟨rfl, rfl, rfl, rfl, rfl, rfl, okB (by (try simp only [h75]); (try simp only [h68, h78, h83]); simp), trivial⟩
          ·skip
           refine l_off (gno rfl rfl rfl rfl h78) rfl rfl ?_
           refine l_off (gno rfl rfl rfl rfl h78) rfl rfl ?_
           refine l_off (gno rfl rfl rfl rfl h78) rfl rfl ?_
           refine l_off (gno rfl rfl rfl rfl h78) rfl rfl ?_
           refine l_val (gy rfl rfl rfl rfl h75) rfl rfl (r_pickF rfl h78 rfl) ?_
           refine l_val (gn rfl) rfl rfl (r_pickF rfl h75 rfl) ?_
           refine l_val (gn rfl) rfl rfl (r_move rfl) ?_
           refine l_val (gy rfl rfl rfl rfl rfl) rfl rfl (r_fieldAddr Hs.fld_access rfl) ?_
           refine l_val (gy rfl rfl rfl rfl rfl) rfl rfl (r_load1 (v := Value.bool ((hsOf a.kind).access)) Tryz.isAgg4 rfl (Holds.sub (hM66.base (i := 0) rfl) (Hs.sub_access _))) ?_
           refine l_val (gy rfl rfl rfl rfl rfl) rfl rfl (r_not rfl) ?_
           refine l_val (gy rfl rfl rfl rfl rfl) rfl rfl (r_move rfl) ?_
           refine l_val (gy rfl rfl rfl rfl (congrArg Bool.not h78)) rfl rfl (r_fieldAddr ARep.fld_acc rfl) ?_
           refine l_val (gy rfl rfl rfl rfl (congrArg Bool.not h78)) rfl rfl (r_loadA Tryz.isAgg31 Tryz.sizeOf31 (Access.size _) rfl (Holds.sub (hM66.base (i := 1) rfl) (ARep.sub_acc _))) ?_
           refine l_val (gy rfl rfl rfl rfl (congrArg Bool.not h78)) rfl rfl (r_build rfl ((Access.built _).trans (fill_nil))) ?_
           refine l_val (gy rfl rfl rfl rfl (congrArg Bool.not h78)) rfl rfl (r_neAccess rfl rfl) ?_
           refine l_val (gy rfl rfl rfl rfl rfl) rfl rfl (r_pickT rfl (congrArg Bool.not h78) rfl) ?_
           refine l_val (gn rfl) rfl rfl (r_pickF rfl rfl rfl) ?_
           refine l_val (gn rfl) rfl rfl (r_assign rfl) ?_
           refine l_nil ?_
           exact jn () hM66 ⟨rfl, rfl, rfl, rfl, rfl, rfl, okB (by (try simp only [h75]); (try simp only [h68, h78]); simp), trivial⟩
       ·skip
        rintro - w84 hM85
        refine ways (((!(hsOf a.kind).title && decide (0 < a.title.length)) || ((hsOf a.kind).access && !okAccess a.acc) || (!(hsOf a.kind).access && !decide (a.acc = Access.zero)))) (fun h86 => ?_) (fun h86 => ?_)
        ·skip
         refine c_condT rfl h86 ?_
         refine c_seq ?_
         refine c_reg ?_
         refine l_val (gn rfl) rfl rfl (r_assign rfl) ?_
         refine l_nil ?_
         refine c_ret ?_
         refine ret1 rfl rfl ?_
         exact ⟨by rw [okAct29]; (try simp only [h18, h21, h24]); (try simp only [h67, h86]); simp, hM85.kp⟩
        ·skip
         refine c_condF rfl h86 ?_
         refine c_skip ?_
         refine c_seq ?_
         refine c_reg ?_
         refine l_val (gn rfl) rfl rfl (r_fieldAddr ARep.fld_pass rfl) ?_
         refine l_val (gn rfl) rfl rfl (r_load1 (v := Sl.val qa.p) Tryz.isAgg27 rfl (Holds.sub (hM85.base (i := 1) rfl) (ARep.sub_pass _))) ?_
         refine l_val (gn rfl) rfl rfl (r_lenR Tryz.underlying27 rfl (hA.pass.keep0 hM85.kp).len) ?_
         refine l_val (gn rfl) rfl rfl (r_assign rfl) ?_
         refine l_nil ?_
         refine c_seq ?_
         refine c_reg ?_
         refine l_val (gn rfl) rfl rfl (r_move rfl) ?_
         refine l_val (gn rfl) rfl rfl (r_eql (b := decide ((a.pass.length : Nat) = 0)) rfl rfl (neq' a.pass.length 0)) ?_
         refine l_val (gn rfl) rfl rfl (r_move rfl) ?_
         refine ways (decide ((a.pass.length : Nat) = 0)) (fun h87 => ?_) (fun h87 => ?_)
         ·skip
          have hp88 : (a.pass.length : Nat) = 0 := of_decide_eq_true h87
          refine l_val (gy rfl rfl rfl rfl h87) rfl rfl (r_fieldAddr Hs.fld_password rfl) ?_
          refine l_val (gy rfl rfl rfl rfl h87) rfl rfl (r_load1 (v := Value.bool ((hsOf a.kind).password)) Tryz.isAgg4 rfl (Holds.sub (hM85.base (i := 0) rfl) (Hs.sub_password _))) ?_
          refine l_val (gy rfl rfl rfl rfl h87) rfl rfl (r_not rfl) ?_
          refine l_val (gy rfl rfl rfl rfl h87) rfl rfl (r_move rfl) ?_
          refine ways ((hsOf a.kind).password) (fun h89 => ?_) (fun h89 => ?_)
          ·skip
           refine l_val (gy rfl rfl rfl rfl (congrArg Bool.not h89)) rfl rfl (r_fieldAddr ARep.fld_kind rfl) ?_
           refine l_val (gy rfl rfl rfl rfl (congrArg Bool.not h89)) rfl rfl (r_load1 (v := vU8 a.kind) Tryz.isAgg38 rfl (Holds.sub (hM85.base (i := 1) rfl) (ARep.sub_kind _))) ?_
           refine l_val (gy rfl rfl rfl rfl (congrArg Bool.not h89)) rfl rfl (r_eql (b := decide ((a.kind : UInt8) = 18)) rfl rfl (u8eq a.kind 18)) ?_
           refine l_val (gy rfl rfl rfl rfl h87) rfl rfl (r_pickF rfl (congrArg Bool.not h89) rfl) ?_
           refine l_val (gn rfl) rfl rfl (r_pickT rfl h87 rfl) ?_
           refine l_val (gn rfl) rfl rfl (r_move rfl) ?_
           refine ways (decide ((a.kind : UInt8) = 18)) (fun h90 => ?_) (fun h90 => ?_)
           ·skip
            have hp91 : (a.kind : UInt8) = 18 := of_decide_eq_true h90
            refine l_off (gno rfl rfl rfl rfl h90) rfl rfl ?_
            refine l_off (gno rfl rfl rfl rfl h90) rfl rfl ?_
            refine l_off (gno rfl rfl rfl rfl h90) rfl rfl ?_
            refine l_off (gnu rfl rfl rfl rfl) rfl rfl ?_
            refine l_off (gnu rfl rfl rfl rfl) rfl rfl ?_
            refine l_off (gno rfl rfl rfl rfl h90) rfl rfl ?_
            refine l_val (gn rfl) rfl rfl (r_pickT rfl h90 rfl) ?_
            refine l_val (gn rfl) rfl rfl (r_assign rfl) ?_
            refine l_nil ?_
            refine c_ret ?_
            refine ret1 rfl rfl ?_
            exact ⟨by rw [okAct29]; (try simp only [h18, h21, h24, h87, h90]); (try simp only [h67, h86, h89]); simp, hM85.kp⟩
           ·skip
            have hp92 : ¬ ((a.kind : UInt8) = 18) := of_decide_eq_false h90
            refine l_val (gy rfl rfl rfl rfl h90) rfl rfl (r_move rfl) ?_
            refine l_val (gy rfl rfl rfl rfl h90) rfl rfl (r_eql (b := decide ((a.pass.length : Nat) = 16)) rfl rfl (neq' a.pass.length 16)) ?_
            refine l_val (gy rfl rfl rfl rfl h90) rfl rfl (r_move rfl) ?_
            refine ways (decide ((a.pass.length : Nat) = 16)) (fun h93 => ?_) (fun h93 => ?_)
            ·skip
             have hp94 : (a.pass.length : Nat) = 16 := of_decide_eq_true h93
             refine l_val (gy rfl rfl rfl rfl h93) rfl rfl (r_fieldAddr Hs.fld_password rfl) ?_
             refine l_val (gy rfl rfl rfl rfl h93) rfl rfl (r_load1 (v := Value.bool ((hsOf a.kind).password)) Tryz.isAgg4 rfl (Holds.sub (hM85.base (i := 0) rfl) (Hs.sub_password _))) ?_
             refine l_val (gy rfl rfl rfl rfl h90) rfl rfl (r_pickT rfl h93 rfl) ?_
             refine l_val (gn rfl) rfl rfl (r_pickF rfl h90 rfl) ?_
             refine l_val (gn rfl) rfl rfl (r_assign rfl) ?_
             refine l_nil ?_
             refine c_ret ?_
             refine ret1 rfl rfl ?_
             exact ⟨by rw [okAct29]; (try simp only [h18, h21, h24, h87, h90, h93]); (try simp only [h67, h86, h89]); simp, hM85.kp⟩
            ·skip
             have hp95 : ¬ ((a.pass.length : Nat) = 16) := of_decide_eq_false h93
             refine l_off (gno rfl rfl rfl rfl h93) rfl rfl ?_
             refine l_off (gno rfl rfl rfl rfl h93) rfl rfl ?_
             refine l_val (gy rfl rfl rfl rfl h90) rfl rfl (r_pickF rfl h93 rfl) ?_
             refine l_val (gn rfl) rfl rfl (r_pickF rfl h90 rfl) ?_
             refine l_val (gn rfl) rfl rfl (r_assign rfl) ?_
             refine l_nil ?_
             refine c_ret ?_
             refine ret1 rfl rfl ?_
             exact ⟨by rw [okAct29]; (try simp only [h18, h21, h24, h87, h90, h93]); (try simp only [h67, h86, h89]); simp, hM85.kp⟩
          ·skip
           refine l_off (gno rfl rfl rfl rfl (congrArg Bool.not h89)) rfl rfl ?_
           refine l_off (gno rfl rfl rfl rfl (congrArg Bool.not h89)) rfl rfl ?_
           refine l_off (gno rfl rfl rfl rfl (congrArg Bool.not h89)) rfl rfl ?_
           refine l_val (gy rfl rfl rfl rfl h87) rfl rfl (r_pickT rfl (congrArg Bool.not h89) rfl) ?_
           refine l_val (gn rfl) rfl rfl (r_pickT rfl h87 rfl) ?_
           refine l_val (gn rfl) rfl rfl (r_move rfl) ?_
           refine l_off (gno rfl rfl rfl rfl rfl) rfl rfl ?_
           refine l_off (gno rfl rfl rfl rfl rfl) rfl rfl ?_
           refine l_off (gno rfl rfl rfl rfl rfl) rfl rfl ?_
           refine l_off (gnu rfl rfl rfl rfl) rfl rfl ?_
           refine l_off (gnu rfl rfl rfl rfl) rfl rfl ?_
           refine l_off (gno rfl rfl rfl rfl rfl) rfl rfl ?_
           refine l_val (gn rfl) rfl rfl (r_pickT rfl rfl rfl) ?_
           refine l_val (gn rfl) rfl rfl (r_assign rfl) ?_
           refine l_nil ?_
           refine c_ret ?_
           refine ret1 rfl rfl ?_
           exact ⟨by rw [okAct29]; (try simp only [h18, h21, h24, h87]); (try simp only [h67, h86, h89]); simp, hM85.kp⟩
         ·skip
          have hp96 : ¬ ((a.pass.length : Nat) = 0) := of_decide_eq_false h87
          refine l_off (gno rfl rfl rfl rfl h87) rfl rfl ?_
          refine l_off (gno rfl rfl rfl rfl h87) rfl rfl ?_
          refine l_off (gno rfl rfl rfl rfl h87) rfl rfl ?_
          refine l_off (gno rfl rfl rfl rfl h87) rfl rfl ?_
          refine l_off (gnu rfl rfl rfl rfl) rfl rfl ?_
          refine l_off (gnu rfl rfl rfl rfl) rfl rfl ?_
          refine l_off (gnu rfl rfl rfl rfl) rfl rfl ?_
          refine l_off (gno rfl rfl rfl rfl h87) rfl rfl ?_
          refine l_val (gn rfl) rfl rfl (r_pickF rfl h87 rfl) ?_
          refine l_val (gn rfl) rfl rfl (r_move rfl) ?_
          refine l_val (gy rfl rfl rfl rfl rfl) rfl rfl (r_move rfl) ?_
          refine l_val (gy rfl rfl rfl rfl rfl) rfl rfl (r_eql (b := decide ((a.pass.length : Nat) = 16)) rfl rfl (neq' a.pass.length 16)) ?_
          refine l_val (gy rfl rfl rfl rfl rfl) rfl rfl (r_move rfl) ?_
          refine ways (decide ((a.pass.length : Nat) = 16)) (fun h97 => ?_) (fun h97 => ?_)
          ·skip
           have hp98 : (a.pass.length : Nat) = 16 := of_decide_eq_true h97
           refine l_val (gy rfl rfl rfl rfl h97) rfl rfl (r_fieldAddr Hs.fld_password rfl) ?_
           refine l_val (gy rfl rfl rfl rfl h97) rfl rfl (r_load1 (v := Value.bool ((hsOf a.kind).password)) Tryz.isAgg4 rfl (Holds.sub (hM85.base (i := 0) rfl) (Hs.sub_password _))) ?_
           refine l_val (gy rfl rfl rfl rfl rfl) rfl rfl (r_pickT rfl h97 rfl) ?_
           refine l_val (gn rfl) rfl rfl (r_pickF rfl rfl rfl) ?_
           refine l_val (gn rfl) rfl rfl (r_assign rfl) ?_
           refine l_nil ?_
           refine c_ret ?_
           refine ret1 rfl rfl ?_
           exact ⟨by rw [okAct29]; (try simp only [h18, h21, h24, h87, h97]); (try simp only [h67, h86]); simp, hM85.kp⟩
          ·skip
           have hp99 : ¬ ((a.pass.length : Nat) = 16) := of_decide_eq_false h97
           refine l_off (gno rfl rfl rfl rfl h97) rfl rfl ?_
           refine l_off (gno rfl rfl rfl rfl h97) rfl rfl ?_
           refine l_val (gy rfl rfl rfl rfl rfl) rfl rfl (r_pickF rfl h97 rfl) ?_
           refine l_val (gn rfl) rfl rfl (r_pickF rfl rfl rfl) ?_
           refine l_val (gn rfl) rfl rfl (r_assign rfl) ?_
           refine l_nil ?_
           refine c_ret ?_
           refine ret1 rfl rfl ?_
           exact ⟨by rw [okAct29]; (try simp only [h18, h21, h24, h87, h97]); (try simp only [h67, h86]); simp, hM85.kp⟩
end Go.Proofs.YtekhaogjmmmniaaGreat
namespace Go.Proofs.YtekhaogjmmmniaaGreat
open Go Go.RowKit

theorem f15 {A B : Nat → Prop} {w : World} {S T : State} {q q2 : Six} (hS : StV A w q S) (hT : StV B w q2 T) :
    Ret 15 #[.agg (S.rep q).cells, .agg (T.rep q2).cells] w (fun v w' => v = .bool (sameState S T) ∧ Keeps [] w w') := by
  obtain ⟨hn1, hn2, hn3, hn4, hn5, hn6⟩ := hS.bd
  have hM0 := Mem.start w
  refine enter Tryz.func15 rfl rfl ?_
  refine c_seq ?_
  refine c_reg ?_
  refine l_box hM0 rfl rfl ?_
  intro b1 w2 hM3 hK4 hB5
  replace hM3 : Mem w [] [(b1, (SRep.cells ((SRep.mk S.ver S.key q.t S.acc q.p q.s q.i q.a q.b))), 37)] w2 := hM3
  refine l_box hM3 rfl rfl ?_
  intro b6 w7 hM8 hK9 hB10
  replace hM8 : Mem w [] [(b6, (SRep.cells ((SRep.mk T.ver T.key q2.t T.acc q2.p q2.s q2.i q2.a q2.b))), 37), (b1, (SRep.cells ((SRep.mk S.ver S.key q.t S.acc q.p q.s q.i q.a q.b))), 37)] w7 := hM8
  refine l_val (gn rfl) rfl rfl (r_assign rfl) ?_
  refine l_nil ?_
  refine c_seq ?_
  refine c_seq ?_
  refine c_reg ?_
  refine l_val (gn rfl) rfl rfl (r_fieldAddr SRep.fld_ver rfl) ?_
  refine l_val (gn rfl) rfl rfl (r_load1 (v := vU32 S.ver) Tryz.isAgg22 rfl (Holds.sub (hM8.base (i := 1) rfl) (SRep.sub_ver _))) ?_
  refine l_val (gn rfl) rfl rfl (r_fieldAddr SRep.fld_ver rfl) ?_
  refine l_val (gn rfl) rfl rfl (r_load1 (v := vU32 T.ver) Tryz.isAgg22 rfl (Holds.sub (hM8.base (i := 0) rfl) (SRep.sub_ver _))) ?_
  refine l_val (gn rfl) rfl rfl (r_neq (b := (!(decide ((S.ver : UInt32) = T.ver)))) rfl rfl (congrArg Bool.not (u32eq S.ver T.ver))) ?_
  refine l_val (gn rfl) rfl rfl (r_move rfl) ?_
  refine ways (decide ((S.ver : UInt32) = T.ver)) (fun h11 => ?_) (fun h11 => ?_)
  ·skip
   have hp12 : (S.ver : UInt32) = T.ver := of_decide_eq_true h11
   refine l_val (gy rfl rfl rfl rfl (congrArg Bool.not h11)) rfl rfl (r_fieldAddr SRep.fld_key rfl) ?_
   refine l_val (gy rfl rfl rfl rfl (congrArg Bool.not h11)) rfl rfl (r_loadA Tryz.isAgg26 Tryz.sizeOf26 (Pub.size _) rfl (Holds.sub (hM8.base (i := 1) rfl) (SRep.sub_key _))) ?_
   refine l_val (gy rfl rfl rfl rfl (congrArg Bool.not h11)) rfl rfl (r_fieldAddr SRep.fld_key rfl) ?_
   refine l_val (gy rfl rfl rfl rfl (congrArg Bool.not h11)) rfl rfl (r_loadA Tryz.isAgg26 Tryz.sizeOf26 (Pub.size _) rfl (Holds.sub (hM8.base (i := 0) rfl) (SRep.sub_key _))) ?_
   refine l_val (gy rfl rfl rfl rfl (congrArg Bool.not h11)) rfl rfl (r_nePub rfl rfl) ?_
   refine l_val (gn rfl) rfl rfl (r_pickF rfl (congrArg Bool.not h11) rfl) ?_
   refine l_val (gn rfl) rfl rfl (r_move rfl) ?_
   refine ways (decide (S.key = T.key)) (fun h13 => ?_) (fun h13 => ?_)
   ·skip
    have hp14 : S.key = T.key := of_decide_eq_true h13
    refine l_val (gy rfl rfl rfl rfl (congrArg Bool.not h13)) rfl rfl (r_fieldAddr SRep.fld_title rfl) ?_
    refine l_val (gy rfl rfl rfl rfl (congrArg Bool.not h13)) rfl rfl (r_load1 (v := Sl.val q.t) Tryz.isAgg27 rfl (Holds.sub (hM8.base (i := 1) rfl) (SRep.sub_title _))) ?_
    refine l_val (gy rfl rfl rfl rfl (congrArg Bool.not h13)) rfl rfl (r_bstrR rfl (hS.title.keep0 hM8.kp)) ?_
    refine l_val (gy rfl rfl rfl rfl (congrArg Bool.not h13)) rfl rfl (r_fieldAddr SRep.fld_title rfl) ?_
    refine l_val (gy rfl rfl rfl rfl (congrArg Bool.not h13)) rfl rfl (r_load1 (v := Sl.val q2.t) Tryz.isAgg27 rfl (Holds.sub (hM8.base (i := 0) rfl) (SRep.sub_title _))) ?_
    refine l_val (gy rfl rfl rfl rfl (congrArg Bool.not h13)) rfl rfl (r_bstrR rfl (hT.title.keep0 hM8.kp)) ?_
    refine l_val (gy rfl rfl rfl rfl (congrArg Bool.not h13)) rfl rfl (r_strne rfl rfl) ?_
    refine l_val (gn rfl) rfl rfl (r_pickF rfl (congrArg Bool.not h13) rfl) ?_
    refine l_val (gn rfl) rfl rfl (r_move rfl) ?_
    refine ways (decide (S.title = T.title)) (fun h15 => ?_) (fun h15 => ?_)
    ·skip
     have hp16 : S.title = T.title := of_decide_eq_true h15
     refine l_val (gy rfl rfl rfl rfl (congrArg Bool.not h15)) rfl rfl (r_fieldAddr SRep.fld_acc rfl) ?_
     refine l_val (gy rfl rfl rfl rfl (congrArg Bool.not h15)) rfl rfl (r_loadA Tryz.isAgg31 Tryz.sizeOf31 (Access.size _) rfl (Holds.sub (hM8.base (i := 1) rfl) (SRep.sub_acc _))) ?_
     refine l_val (gy rfl rfl rfl rfl (congrArg Bool.not h15)) rfl rfl (r_fieldAddr SRep.fld_acc rfl) ?_
     refine l_val (gy rfl rfl rfl rfl (congrArg Bool.not h15)) rfl rfl (r_loadA Tryz.isAgg31 Tryz.sizeOf31 (Access.size _) rfl (Holds.sub (hM8.base (i := 0) rfl) (SRep.sub_acc _))) ?_
     refine l_val (gy rfl rfl rfl rfl (congrArg Bool.not h15)) rfl rfl (r_neAccess rfl rfl) ?_
     refine l_val (gn rfl) rfl rfl (r_pickF rfl (congrArg Bool.not h15) rfl) ?_
     refine l_val (gn rfl) rfl rfl (r_move rfl) ?_
     refine ways (decide (S.acc = T.acc)) (fun h17 => ?_) (fun h17 => ?_)
     ·skip
      have hp18 : S.acc = T.acc := of_decide_eq_true h17
      refine l_val (gy rfl rfl rfl rfl (congrArg Bool.not h17)) rfl rfl (r_fieldAddr SRep.fld_pass rfl) ?_
      refine l_val (gy rfl rfl rfl rfl (congrArg Bool.not h17)) rfl rfl (r_load1 (v := Sl.val q.p) Tryz.isAgg27 rfl (Holds.sub (hM8.base (i := 1) rfl) (SRep.sub_pass _))) ?_
      refine l_val (gy rfl rfl rfl rfl (congrArg Bool.not h17)) rfl rfl (r_bstrR rfl (hS.pass.keep0 hM8.kp)) ?_
      refine l_val (gy rfl rfl rfl rfl (congrArg Bool.not h17)) rfl rfl (r_fieldAddr SRep.fld_pass rfl) ?_
      refine l_val (gy rfl rfl rfl rfl (congrArg Bool.not h17)) rfl rfl (r_load1 (v := Sl.val q2.p) Tryz.isAgg27 rfl (Holds.sub (hM8.base (i := 0) rfl) (SRep.sub_pass _))) ?_
      refine l_val (gy rfl rfl rfl rfl (congrArg Bool.not h17)) rfl rfl (r_bstrR rfl (hT.pass.keep0 hM8.kp)) ?_
      refine l_val (gy rfl rfl rfl rfl (congrArg Bool.not h17)) rfl rfl (r_strne rfl rfl) ?_
      refine l_val (gn rfl) rfl rfl (r_pickF rfl (congrArg Bool.not h17) rfl) ?_
      refine l_val (gn rfl) rfl rfl (r_move rfl) ?_
      refine ways (decide (S.pass = T.pass)) (fun h19 => ?_) (fun h19 => ?_)
      ·skip
       have hp20 : S.pass = T.pass := of_decide_eq_true h19
       refine l_val (gy rfl rfl rfl rfl (congrArg Bool.not h19)) rfl rfl (r_fieldAddr SRep.fld_seats rfl) ?_
       refine l_val (gy rfl rfl rfl rfl (congrArg Bool.not h19)) rfl rfl (r_load1 (v := Sl.val q.s) Tryz.isAgg32 rfl (Holds.sub (hM8.base (i := 1) rfl) (SRep.sub_seats _))) ?_
       refine l_val (gy rfl rfl rfl rfl (congrArg Bool.not h19)) rfl rfl (r_lenR Tryz.underlying32 rfl (hS.seats.keep0 hM8.kp).len) ?_
       refine l_val (gy rfl rfl rfl rfl (congrArg Bool.not h19)) rfl rfl (r_fieldAddr SRep.fld_seats rfl) ?_
       refine l_val (gy rfl rfl rfl rfl (congrArg Bool.not h19)) rfl rfl (r_load1 (v := Sl.val q2.s) Tryz.isAgg32 rfl (Holds.sub (hM8.base (i := 0) rfl) (SRep.sub_seats _))) ?_
       refine l_val (gy rfl rfl rfl rfl (congrArg Bool.not h19)) rfl rfl (r_lenR Tryz.underlying32 rfl (hT.seats.keep0 hM8.kp).len) ?_
       refine l_val (gy rfl rfl rfl rfl (congrArg Bool.not h19)) rfl rfl (r_neq (b := (!(decide ((S.seats.length : Nat) = T.seats.length)))) rfl rfl (congrArg Bool.not (neq' S.seats.length T.seats.length))) ?_
       refine l_val (gn rfl) rfl rfl (r_pickF rfl (congrArg Bool.not h19) rfl) ?_
       refine l_val (gn rfl) rfl rfl (r_move rfl) ?_
       refine ways (decide ((S.seats.length : Nat) = T.seats.length)) (fun h21 => ?_) (fun h21 => ?_)
       ·skip
        have hp22 : (S.seats.length : Nat) = T.seats.length := of_decide_eq_true h21
        refine l_val (gy rfl rfl rfl rfl (congrArg Bool.not h21)) rfl rfl (r_fieldAddr SRep.fld_invites rfl) ?_
        refine l_val (gy rfl rfl rfl rfl (congrArg Bool.not h21)) rfl rfl (r_load1 (v := Sl.val q.i) Tryz.isAgg33 rfl (Holds.sub (hM8.base (i := 1) rfl) (SRep.sub_invites _))) ?_
        refine l_val (gy rfl rfl rfl rfl (congrArg Bool.not h21)) rfl rfl (r_lenR Tryz.underlying33 rfl (hS.invites.keep0 hM8.kp).len) ?_
        refine l_val (gy rfl rfl rfl rfl (congrArg Bool.not h21)) rfl rfl (r_fieldAddr SRep.fld_invites rfl) ?_
        refine l_val (gy rfl rfl rfl rfl (congrArg Bool.not h21)) rfl rfl (r_load1 (v := Sl.val q2.i) Tryz.isAgg33 rfl (Holds.sub (hM8.base (i := 0) rfl) (SRep.sub_invites _))) ?_
        refine l_val (gy rfl rfl rfl rfl (congrArg Bool.not h21)) rfl rfl (r_lenR Tryz.underlying33 rfl (hT.invites.keep0 hM8.kp).len) ?_
        refine l_val (gy rfl rfl rfl rfl (congrArg Bool.not h21)) rfl rfl (r_neq (b := (!(decide ((S.invites.length : Nat) = T.invites.length)))) rfl rfl (congrArg Bool.not (neq' S.invites.length T.invites.length))) ?_
        refine l_val (gn rfl) rfl rfl (r_pickF rfl (congrArg Bool.not h21) rfl) ?_
        refine l_val (gn rfl) rfl rfl (r_move rfl) ?_
        refine ways (decide ((S.invites.length : Nat) = T.invites.length)) (fun h23 => ?_) (fun h23 => ?_)
        ·skip
         have hp24 : (S.invites.length : Nat) = T.invites.length := of_decide_eq_true h23
         refine l_val (gy rfl rfl rfl rfl (congrArg Bool.not h23)) rfl rfl (r_fieldAddr SRep.fld_asks rfl) ?_
         refine l_val (gy rfl rfl rfl rfl (congrArg Bool.not h23)) rfl rfl (r_load1 (v := Sl.val q.a) Tryz.isAgg34 rfl (Holds.sub (hM8.base (i := 1) rfl) (SRep.sub_asks _))) ?_
         refine l_val (gy rfl rfl rfl rfl (congrArg Bool.not h23)) rfl rfl (r_lenR Tryz.underlying34 rfl (hS.asks.keep0 hM8.kp).len) ?_
         refine l_val (gy rfl rfl rfl rfl (congrArg Bool.not h23)) rfl rfl (r_fieldAddr SRep.fld_asks rfl) ?_
         refine l_val (gy rfl rfl rfl rfl (congrArg Bool.not h23)) rfl rfl (r_load1 (v := Sl.val q2.a) Tryz.isAgg34 rfl (Holds.sub (hM8.base (i := 0) rfl) (SRep.sub_asks _))) ?_
         refine l_val (gy rfl rfl rfl rfl (congrArg Bool.not h23)) rfl rfl (r_lenR Tryz.underlying34 rfl (hT.asks.keep0 hM8.kp).len) ?_
         refine l_val (gy rfl rfl rfl rfl (congrArg Bool.not h23)) rfl rfl (r_neq (b := (!(decide ((S.asks.length : Nat) = T.asks.length)))) rfl rfl (congrArg Bool.not (neq' S.asks.length T.asks.length))) ?_
         refine l_val (gn rfl) rfl rfl (r_pickF rfl (congrArg Bool.not h23) rfl) ?_
         refine l_val (gn rfl) rfl rfl (r_move rfl) ?_
         refine ways (decide ((S.asks.length : Nat) = T.asks.length)) (fun h25 => ?_) (fun h25 => ?_)
         ·skip
          have hp26 : (S.asks.length : Nat) = T.asks.length := of_decide_eq_true h25
          refine l_val (gy rfl rfl rfl rfl (congrArg Bool.not h25)) rfl rfl (r_fieldAddr SRep.fld_bans rfl) ?_
          refine l_val (gy rfl rfl rfl rfl (congrArg Bool.not h25)) rfl rfl (r_load1 (v := Sl.val q.b) Tryz.isAgg35 rfl (Holds.sub (hM8.base (i := 1) rfl) (SRep.sub_bans _))) ?_
          refine l_val (gy rfl rfl rfl rfl (congrArg Bool.not h25)) rfl rfl (r_lenR Tryz.underlying35 rfl (hS.bans.keep0 hM8.kp).len) ?_
          refine l_val (gy rfl rfl rfl rfl (congrArg Bool.not h25)) rfl rfl (r_fieldAddr SRep.fld_bans rfl) ?_
          refine l_val (gy rfl rfl rfl rfl (congrArg Bool.not h25)) rfl rfl (r_load1 (v := Sl.val q2.b) Tryz.isAgg35 rfl (Holds.sub (hM8.base (i := 0) rfl) (SRep.sub_bans _))) ?_
          refine l_val (gy rfl rfl rfl rfl (congrArg Bool.not h25)) rfl rfl (r_lenR Tryz.underlying35 rfl (hT.bans.keep0 hM8.kp).len) ?_
          refine l_val (gy rfl rfl rfl rfl (congrArg Bool.not h25)) rfl rfl (r_neq (b := (!(decide ((S.bans.length : Nat) = T.bans.length)))) rfl rfl (congrArg Bool.not (neq' S.bans.length T.bans.length))) ?_
          refine l_val (gn rfl) rfl rfl (r_pickF rfl (congrArg Bool.not h25) rfl) ?_
          refine l_nil ?_
          refine ways (decide ((S.bans.length : Nat) = T.bans.length)) (fun h27 => ?_) (fun h27 => ?_)
          ·skip
           have hp28 : (S.bans.length : Nat) = T.bans.length := of_decide_eq_true h27
           refine c_condF rfl (congrArg Bool.not h27) ?_
           refine c_skip ?_
           refine c_seq ?_
           refine c_seq ?_
           refine c_reg ?_
           refine l_val (gn rfl) rfl rfl (r_assign rfl) ?_
           refine l_nil ?_
           refine c_block ?_
           refine c_loop (ι := Nat) (fun k0 w_ => Mem w [] [(b6, (SRep.cells ((SRep.mk T.ver T.key q2.t T.acc q2.p q2.s q2.i q2.a q2.b))), 37), (b1, (SRep.cells ((SRep.mk S.ver S.key q.t S.acc q.p q.s q.i q.a q.b))), 37)] w_ ∧ (k0 ≤ S.seats.length ∧ S.seats.take k0 = T.seats.take k0)) (fun k0 => [(0, Value.agg (SRep.cells ((SRep.mk S.ver S.key q.t S.acc q.p q.s q.i q.a q.b)))), (1, Value.agg (SRep.cells ((SRep.mk T.ver T.key q2.t T.acc q2.p q2.s q2.i q2.a q2.b)))), (2, Value.pointer (some ⟨b1, 0, none⟩)), (3, Value.pointer (some ⟨b6, 0, none⟩)), (85, Value.bool ((!(decide ((S.bans.length : Nat) = T.bans.length))))), (5, Value.int .i64 ((k0 : Nat) : Int))]) (fun k0 => S.seats.length - k0) 0 ⟨hM8, Nat.zero_le _, rfl⟩ ⟨rfl, rfl, rfl, rfl, rfl, rfl, trivial⟩ ?_
           rintro k0 w29 ⟨hM30, hk0, he0⟩
           refine c_seq ?_
           refine c_seq ?_
           refine c_reg ?_
           refine l_val (gn rfl) rfl rfl (r_move rfl) ?_
           refine l_val (gn rfl) rfl rfl (r_fieldAddr SRep.fld_seats rfl) ?_
           refine l_val (gn rfl) rfl rfl (r_load1 (v := Sl.val q.s) Tryz.isAgg32 rfl (Holds.sub (hM30.base (i := 1) rfl) (SRep.sub_seats _))) ?_
           refine l_val (gn rfl) rfl rfl (r_lenR Tryz.underlying32 rfl (hS.seats.keep0 hM30.kp).len) ?_
           refine l_val (gn rfl) rfl rfl (r_lss (b := decide ((k0 : Nat) < S.seats.length)) rfl rfl (nlt k0 S.seats.length)) ?_
           refine l_nil ?_
           refine ways (decide ((k0 : Nat) < S.seats.length)) (fun h31 => ?_) (fun h31 => ?_)
           ·skip
            have hp32 : (k0 : Nat) < S.seats.length := of_decide_eq_true h31
            refine c_condT rfl h31 ?_
            refine c_skip ?_
            refine c_seq ?_
            refine c_block ?_
            refine c_seq ?_
            have hM33 := hM30.drew
            refine c_regA (Mem w [] [(b6, (SRep.cells ((SRep.mk T.ver T.key q2.t T.acc q2.p q2.s q2.i q2.a q2.b))), 37), (b1, (SRep.cells ((SRep.mk S.ver S.key q.t S.acc q.p q.s q.i q.a q.b))), 37)]) [] [⟨10, 6, (Seat.cells Seat.zero), 73⟩, ⟨11, 7, (Seat.cells Seat.zero), 73⟩] [] [(0, true), (1, true), (2, true), (3, true), (4, true), (5, true), (6, true), (7, true), (8, true), (9, true)] [(12, false), (13, false)] (by kernel_rfl) ⟨⟨_, _, _, rfl, _, Seat.zv, rfl⟩, ⟨_, _, _, rfl, _, Seat.zv, rfl⟩, trivial⟩ (by simp) (fun _ _ k h => h.keep k) hM33 ?_
            refine a_take hM33 rfl rfl (gn rfl) rfl rfl (fun w h => r_fieldAddr SRep.fld_seats rfl) ?_
            refine a_take hM33 rfl rfl (gn rfl) rfl rfl (fun w h => r_load1 (v := Sl.val q.s) Tryz.isAgg32 rfl (Holds.sub (h.base (i := 1) rfl) (SRep.sub_seats _))) ?_
            refine a_take hM33 rfl rfl (gn rfl) rfl rfl (fun w h => r_move rfl) ?_
            have hlt34 : k0 < S.seats.length := by first | assumption | omega
            obtain ⟨x34, hx34⟩ : ∃ x, S.seats[k0]? = some x := ⟨_, List.getElem?_eq_getElem hlt34⟩
            obtain ⟨p34, o34, ha34, hA34, -⟩ := (hS.seats.keep0 hM33.kp).at_ _ _ hx34
            refine a_take hM33 rfl rfl (gn rfl) rfl rfl (fun w h => r_indexR Tryz.underlying32 Tryz.sizeOf73 ⟨_, (hS.seats.keep0 h.kp)⟩ rfl ha34 rfl hlt34) ?_
            refine a_take hM33 rfl rfl (gn rfl) rfl rfl (fun w h => r_loadA Tryz.isAgg73 Tryz.sizeOf73 (Seat.size _) rfl ((hS.seats.keep0 h.kp).ix hx34 ha34)) ?_
            refine a_take hM33 rfl rfl (gn rfl) rfl rfl (fun w h => r_fieldAddr SRep.fld_seats rfl) ?_
            refine a_take hM33 rfl rfl (gn rfl) rfl rfl (fun w h => r_load1 (v := Sl.val q2.s) Tryz.isAgg32 rfl (Holds.sub (h.base (i := 0) rfl) (SRep.sub_seats _))) ?_
            refine a_take hM33 rfl rfl (gn rfl) rfl rfl (fun w h => r_move rfl) ?_
            have hlt35 : k0 < T.seats.length := by first | assumption | omega
            obtain ⟨x35, hx35⟩ : ∃ x, T.seats[k0]? = some x := ⟨_, List.getElem?_eq_getElem hlt35⟩
            obtain ⟨p35, o35, ha35, hA35, -⟩ := (hT.seats.keep0 hM33.kp).at_ _ _ hx35
            refine a_take hM33 rfl rfl (gn rfl) rfl rfl (fun w h => r_indexR Tryz.underlying32 Tryz.sizeOf73 ⟨_, (hT.seats.keep0 h.kp)⟩ rfl ha35 rfl hlt35) ?_
            refine a_take hM33 rfl rfl (gn rfl) rfl rfl (fun w h => r_loadA Tryz.isAgg73 Tryz.sizeOf73 (Seat.size _) rfl ((hT.seats.keep0 h.kp).ix hx35 ha35)) ?_
            refine a_nil hM33 hM33.kp.size hM33.lt rfl rfl ?_
            intro w36 g37 hK38 hM39 hg40
            change AT _ (_ :: _ :: _) _ _
            replace hM39 : Mem w [] [(g37 10, (Seat.cells Seat.zero), 73), (g37 11, (Seat.cells Seat.zero), 73), (b6, (SRep.cells ((SRep.mk T.ver T.key q2.t T.acc q2.p q2.s q2.i q2.a q2.b))), 37), (b1, (SRep.cells ((SRep.mk S.ver S.key q.t S.acc q.p q.s q.i q.a q.b))), 37)] w36 := hM39
            refine s_store hM39 (j := 0) rfl rfl Tryz.sizeOf73 rfl rfl (Seat.size _) (by rw [Seat.size]; decide) (Seat.one _) (put_whole _ _ ((Seat.size _).trans (Seat.size _).symm)) ?_
            intro w41 hM42 hK43
            replace hM42 : Mem w [] [(g37 10, (Seat.cells x34), 73), (g37 11, (Seat.cells Seat.zero), 73), (b6, (SRep.cells ((SRep.mk T.ver T.key q2.t T.acc q2.p q2.s q2.i q2.a q2.b))), 37), (b1, (SRep.cells ((SRep.mk S.ver S.key q.t S.acc q.p q.s q.i q.a q.b))), 37)] w41 := hM42
            refine ⟨.inr (hM42.forget (.cons _ (.cons _ (.refl _)))), ?_⟩
            refine s_store hM42 (j := 1) rfl rfl Tryz.sizeOf73 rfl rfl (Seat.size _) (by rw [Seat.size]; decide) (Seat.one _) (put_whole _ _ ((Seat.size _).trans (Seat.size _).symm)) ?_
            intro w44 hM45 hK46
            replace hM45 : Mem w [] [(g37 10, (Seat.cells x34), 73), (g37 11, (Seat.cells x35), 73), (b6, (SRep.cells ((SRep.mk T.ver T.key q2.t T.acc q2.p q2.s q2.i q2.a q2.b))), 37), (b1, (SRep.cells ((SRep.mk S.ver S.key q.t S.acc q.p q.s q.i q.a q.b))), 37)] w44 := hM45
            refine ⟨.inr (hM45.forget (.cons _ (.cons _ (.refl _)))), ?_⟩
            refine s_nil ?_
            refine c_seq ?_
            refine c_reg ?_
            refine l_val (gn rfl) rfl rfl (r_loadA Tryz.isAgg73 Tryz.sizeOf73 (Seat.size _) rfl (hM45.base (i := 0) rfl)) ?_
            refine l_val (gn rfl) rfl rfl (r_loadA Tryz.isAgg73 Tryz.sizeOf73 (Seat.size _) rfl (hM45.base (i := 1) rfl)) ?_
            refine l_val (gn rfl) rfl rfl (r_neSeat rfl rfl) ?_
            refine l_nil ?_
            refine ways (decide (x34 = x35)) (fun h47 => ?_) (fun h47 => ?_)
            ·skip
             have hp48 : x34 = x35 := of_decide_eq_true h47
             refine c_condF rfl (congrArg Bool.not h47) ?_
             refine c_skip ?_
             refine c_reg ?_
             refine l_val (gn rfl) rfl rfl (r_move rfl) ?_
             refine l_val (gn rfl) rfl rfl (r_add (r := ((k0 + 1 : Nat) : Int)) rfl rfl (nadd (i := k0) (k := 1) (m := k0 + 1) (by omega) (by omega))) ?_
             refine l_val (gn rfl) rfl rfl (r_assign rfl) ?_
             refine l_nil ?_
             intro a_ ha_
             refine ⟨k0 + 1, ⟨(hM45.forget (.cons _ (.cons _ (.refl _)))), ?_⟩, by omega, ha_.sub ⟨rfl, rfl, rfl, rfl, rfl, rfl, trivial⟩⟩
             exact ⟨by omega, same_step he0 hx34 hx35 (by assumption)⟩
            ·skip
             have hp49 : ¬ (x34 = x35) := of_decide_eq_false h47
             refine c_condT rfl (congrArg Bool.not h47) ?_
             refine c_seq ?_
             refine c_reg ?_
             refine l_val (gn rfl) rfl rfl (r_assign rfl) ?_
             refine l_nil ?_
             refine c_ret ?_
             refine ret1 rfl rfl ?_
             have hz := same_no hx34 hx35 (by assumption)
             exact ⟨by simp only [sameState, hz]; simp, hM45.kp⟩
           ·skip
            have hp50 : ¬ ((k0 : Nat) < S.seats.length) := of_decide_eq_false h31
            refine c_condF rfl h31 ?_
            refine c_exit rfl ?_
            refine c_seq ?_
            refine c_seq ?_
            refine c_reg ?_
            refine l_val (gn rfl) rfl rfl (r_assign rfl) ?_
            refine l_nil ?_
            refine c_block ?_
            refine c_loop (ι := Nat) (fun k1 w_ => Mem w [] [(b6, (SRep.cells ((SRep.mk T.ver T.key q2.t T.acc q2.p q2.s q2.i q2.a q2.b))), 37), (b1, (SRep.cells ((SRep.mk S.ver S.key q.t S.acc q.p q.s q.i q.a q.b))), 37)] w_ ∧ (k1 ≤ S.invites.length ∧ S.invites.take k1 = T.invites.take k1)) (fun k1 => [(0, Value.agg (SRep.cells ((SRep.mk S.ver S.key q.t S.acc q.p q.s q.i q.a q.b)))), (1, Value.agg (SRep.cells ((SRep.mk T.ver T.key q2.t T.acc q2.p q2.s q2.i q2.a q2.b)))), (2, Value.pointer (some ⟨b1, 0, none⟩)), (3, Value.pointer (some ⟨b6, 0, none⟩)), (85, Value.bool ((!(decide ((S.bans.length : Nat) = T.bans.length))))), (5, Value.int .i64 ((k0 : Nat) : Int)), (90, Value.bool (decide ((k0 : Nat) < S.seats.length))), (8, Value.int .i64 ((k1 : Nat) : Int))]) (fun k1 => S.invites.length - k1) 0 ⟨hM30, Nat.zero_le _, rfl⟩ ⟨rfl, rfl, rfl, rfl, rfl, rfl, rfl, rfl, trivial⟩ ?_
            rintro k1 w51 ⟨hM52, hk1, he1⟩
            refine c_seq ?_
            refine c_seq ?_
            refine c_reg ?_
            refine l_val (gn rfl) rfl rfl (r_move rfl) ?_
            refine l_val (gn rfl) rfl rfl (r_fieldAddr SRep.fld_invites rfl) ?_
            refine l_val (gn rfl) rfl rfl (r_load1 (v := Sl.val q.i) Tryz.isAgg33 rfl (Holds.sub (hM52.base (i := 1) rfl) (SRep.sub_invites _))) ?_
            refine l_val (gn rfl) rfl rfl (r_lenR Tryz.underlying33 rfl (hS.invites.keep0 hM52.kp).len) ?_
            refine l_val (gn rfl) rfl rfl (r_lss (b := decide ((k1 : Nat) < S.invites.length)) rfl rfl (nlt k1 S.invites.length)) ?_
            refine l_nil ?_
            refine ways (decide ((k1 : Nat) < S.invites.length)) (fun h53 => ?_) (fun h53 => ?_)
            ·skip
             have hp54 : (k1 : Nat) < S.invites.length := of_decide_eq_true h53
             refine c_condT rfl h53 ?_
             refine c_skip ?_
             refine c_seq ?_
             refine c_block ?_
             refine c_seq ?_
             have hM55 := hM52.drew
             refine c_regA (Mem w [] [(b6, (SRep.cells ((SRep.mk T.ver T.key q2.t T.acc q2.p q2.s q2.i q2.a q2.b))), 37), (b1, (SRep.cells ((SRep.mk S.ver S.key q.t S.acc q.p q.s q.i q.a q.b))), 37)]) [] [⟨10, 9, (Invite.cells Invite.zero), 82⟩, ⟨11, 10, (Invite.cells Invite.zero), 82⟩] [] [(0, true), (1, true), (2, true), (3, true), (4, true), (5, true), (6, true), (7, true), (8, true), (9, true)] [(12, false), (13, false)] (by kernel_rfl) ⟨⟨_, _, _, rfl, _, Invite.zv, rfl⟩, ⟨_, _, _, rfl, _, Invite.zv, rfl⟩, trivial⟩ (by simp) (fun _ _ k h => h.keep k) hM55 ?_
             refine a_take hM55 rfl rfl (gn rfl) rfl rfl (fun w h => r_fieldAddr SRep.fld_invites rfl) ?_
             refine a_take hM55 rfl rfl (gn rfl) rfl rfl (fun w h => r_load1 (v := Sl.val q.i) Tryz.isAgg33 rfl (Holds.sub (h.base (i := 1) rfl) (SRep.sub_invites _))) ?_
             refine a_take hM55 rfl rfl (gn rfl) rfl rfl (fun w h => r_move rfl) ?_
             have hlt56 : k1 < S.invites.length := by first | assumption | omega
             obtain ⟨x56, hx56⟩ : ∃ x, S.invites[k1]? = some x := ⟨_, List.getElem?_eq_getElem hlt56⟩
             obtain ⟨p56, o56, ha56, hA56, -⟩ := (hS.invites.keep0 hM55.kp).at_ _ _ hx56
             refine a_take hM55 rfl rfl (gn rfl) rfl rfl (fun w h => r_indexR Tryz.underlying33 Tryz.sizeOf82 ⟨_, (hS.invites.keep0 h.kp)⟩ rfl ha56 rfl hlt56) ?_
             refine a_take hM55 rfl rfl (gn rfl) rfl rfl (fun w h => r_loadA Tryz.isAgg82 Tryz.sizeOf82 (Invite.size _) rfl ((hS.invites.keep0 h.kp).ix hx56 ha56)) ?_
             refine a_take hM55 rfl rfl (gn rfl) rfl rfl (fun w h => r_fieldAddr SRep.fld_invites rfl) ?_
             refine a_take hM55 rfl rfl (gn rfl) rfl rfl (fun w h => r_load1 (v := Sl.val q2.i) Tryz.isAgg33 rfl (Holds.sub (h.base (i := 0) rfl) (SRep.sub_invites _))) ?_
             refine a_take hM55 rfl rfl (gn rfl) rfl rfl (fun w h => r_move rfl) ?_
             have hlt57 : k1 < T.invites.length := by first | assumption | omega
             obtain ⟨x57, hx57⟩ : ∃ x, T.invites[k1]? = some x := ⟨_, List.getElem?_eq_getElem hlt57⟩
             obtain ⟨p57, o57, ha57, hA57, -⟩ := (hT.invites.keep0 hM55.kp).at_ _ _ hx57
             refine a_take hM55 rfl rfl (gn rfl) rfl rfl (fun w h => r_indexR Tryz.underlying33 Tryz.sizeOf82 ⟨_, (hT.invites.keep0 h.kp)⟩ rfl ha57 rfl hlt57) ?_
             refine a_take hM55 rfl rfl (gn rfl) rfl rfl (fun w h => r_loadA Tryz.isAgg82 Tryz.sizeOf82 (Invite.size _) rfl ((hT.invites.keep0 h.kp).ix hx57 ha57)) ?_
             refine a_nil hM55 hM55.kp.size hM55.lt rfl rfl ?_
             intro w58 g59 hK60 hM61 hg62
             change AT _ (_ :: _ :: _) _ _
             replace hM61 : Mem w [] [(g59 10, (Invite.cells Invite.zero), 82), (g59 11, (Invite.cells Invite.zero), 82), (b6, (SRep.cells ((SRep.mk T.ver T.key q2.t T.acc q2.p q2.s q2.i q2.a q2.b))), 37), (b1, (SRep.cells ((SRep.mk S.ver S.key q.t S.acc q.p q.s q.i q.a q.b))), 37)] w58 := hM61
             refine s_store hM61 (j := 0) rfl rfl Tryz.sizeOf82 rfl rfl (Invite.size _) (by rw [Invite.size]; decide) (Invite.one _) (put_whole _ _ ((Invite.size _).trans (Invite.size _).symm)) ?_
             intro w63 hM64 hK65
             replace hM64 : Mem w [] [(g59 10, (Invite.cells x56), 82), (g59 11, (Invite.cells Invite.zero), 82), (b6, (SRep.cells ((SRep.mk T.ver T.key q2.t T.acc q2.p q2.s q2.i q2.a q2.b))), 37), (b1, (SRep.cells ((SRep.mk S.ver S.key q.t S.acc q.p q.s q.i q.a q.b))), 37)] w63 := hM64
             refine ⟨.inr (hM64.forget (.cons _ (.cons _ (.refl _)))), ?_⟩
             refine s_store hM64 (j := 1) rfl rfl Tryz.sizeOf82 rfl rfl (Invite.size _) (by rw [Invite.size]; decide) (Invite.one _) (put_whole _ _ ((Invite.size _).trans (Invite.size _).symm)) ?_
             intro w66 hM67 hK68
             replace hM67 : Mem w [] [(g59 10, (Invite.cells x56), 82), (g59 11, (Invite.cells x57), 82), (b6, (SRep.cells ((SRep.mk T.ver T.key q2.t T.acc q2.p q2.s q2.i q2.a q2.b))), 37), (b1, (SRep.cells ((SRep.mk S.ver S.key q.t S.acc q.p q.s q.i q.a q.b))), 37)] w66 := hM67
             refine ⟨.inr (hM67.forget (.cons _ (.cons _ (.refl _)))), ?_⟩
             refine s_nil ?_
             refine c_seq ?_
             refine c_reg ?_
             refine l_val (gn rfl) rfl rfl (r_loadA Tryz.isAgg82 Tryz.sizeOf82 (Invite.size _) rfl (hM67.base (i := 0) rfl)) ?_
             refine l_val (gn rfl) rfl rfl (r_loadA Tryz.isAgg82 Tryz.sizeOf82 (Invite.size _) rfl (hM67.base (i := 1) rfl)) ?_
             refine l_val (gn rfl) rfl rfl (r_neInvite rfl rfl) ?_
             refine l_nil ?_
             refine ways (decide (x56 = x57)) (fun h69 => ?_) (fun h69 => ?_)
             ·skip
              have hp70 : x56 = x57 := of_decide_eq_true h69
              refine c_condF rfl (congrArg Bool.not h69) ?_
              refine c_skip ?_
              refine c_reg ?_
              refine l_val (gn rfl) rfl rfl (r_move rfl) ?_
              refine l_val (gn rfl) rfl rfl (r_add (r := ((k1 + 1 : Nat) : Int)) rfl rfl (nadd (i := k1) (k := 1) (m := k1 + 1) (by omega) (by omega))) ?_
              refine l_val (gn rfl) rfl rfl (r_assign rfl) ?_
              refine l_nil ?_
              intro a_ ha_
              refine ⟨k1 + 1, ⟨(hM67.forget (.cons _ (.cons _ (.refl _)))), ?_⟩, by omega, ha_.sub ⟨rfl, rfl, rfl, rfl, rfl, rfl, rfl, rfl, trivial⟩⟩
              exact ⟨by omega, same_step he1 hx56 hx57 (by assumption)⟩
             ·skip
              have hp71 : ¬ (x56 = x57) := of_decide_eq_false h69
              refine c_condT rfl (congrArg Bool.not h69) ?_
              refine c_seq ?_
              refine c_reg ?_
              refine l_val (gn rfl) rfl rfl (r_assign rfl) ?_
              refine l_nil ?_
              refine c_ret ?_
              refine ret1 rfl rfl ?_
              have hz := same_no hx56 hx57 (by assumption)
              exact ⟨by simp only [sameState, hz]; simp, hM67.kp⟩
            ·skip
             have hp72 : ¬ ((k1 : Nat) < S.invites.length) := of_decide_eq_false h53
             refine c_condF rfl h53 ?_
             refine c_exit rfl ?_
             refine c_seq ?_
             refine c_seq ?_
             refine c_reg ?_
             refine l_val (gn rfl) rfl rfl (r_assign rfl) ?_
             refine l_nil ?_
             refine c_block ?_
             refine c_loop (ι := Nat) (fun k2 w_ => Mem w [] [(b6, (SRep.cells ((SRep.mk T.ver T.key q2.t T.acc q2.p q2.s q2.i q2.a q2.b))), 37), (b1, (SRep.cells ((SRep.mk S.ver S.key q.t S.acc q.p q.s q.i q.a q.b))), 37)] w_ ∧ (k2 ≤ S.asks.length ∧ S.asks.take k2 = T.asks.take k2)) (fun k2 => [(0, Value.agg (SRep.cells ((SRep.mk S.ver S.key q.t S.acc q.p q.s q.i q.a q.b)))), (1, Value.agg (SRep.cells ((SRep.mk T.ver T.key q2.t T.acc q2.p q2.s q2.i q2.a q2.b)))), (2, Value.pointer (some ⟨b1, 0, none⟩)), (3, Value.pointer (some ⟨b6, 0, none⟩)), (85, Value.bool ((!(decide ((S.bans.length : Nat) = T.bans.length))))), (5, Value.int .i64 ((k0 : Nat) : Int)), (90, Value.bool (decide ((k0 : Nat) < S.seats.length))), (8, Value.int .i64 ((k1 : Nat) : Int)), (110, Value.bool (decide ((k1 : Nat) < S.invites.length))), (11, Value.int .i64 ((k2 : Nat) : Int))]) (fun k2 => S.asks.length - k2) 0 ⟨hM52, Nat.zero_le _, rfl⟩ ⟨rfl, rfl, rfl, rfl, rfl, rfl, rfl, rfl, rfl, rfl, trivial⟩ ?_
             rintro k2 w73 ⟨hM74, hk2, he2⟩
             refine c_seq ?_
             refine c_seq ?_
             refine c_reg ?_
             refine l_val (gn rfl) rfl rfl (r_move rfl) ?_
             refine l_val (gn rfl) rfl rfl (r_fieldAddr SRep.fld_asks rfl) ?_
             refine l_val (gn rfl) rfl rfl (r_load1 (v := Sl.val q.a) Tryz.isAgg34 rfl (Holds.sub (hM74.base (i := 1) rfl) (SRep.sub_asks _))) ?_
             refine l_val (gn rfl) rfl rfl (r_lenR Tryz.underlying34 rfl (hS.asks.keep0 hM74.kp).len) ?_
             refine l_val (gn rfl) rfl rfl (r_lss (b := decide ((k2 : Nat) < S.asks.length)) rfl rfl (nlt k2 S.asks.length)) ?_
             refine l_nil ?_
             refine ways (decide ((k2 : Nat) < S.asks.length)) (fun h75 => ?_) (fun h75 => ?_)
             ·skip
              have hp76 : (k2 : Nat) < S.asks.length := of_decide_eq_true h75
              refine c_condT rfl h75 ?_
              refine c_skip ?_
              refine c_seq ?_
              refine c_block ?_
              refine c_seq ?_
              refine c_regD (Mem w [] [(b6, (SRep.cells ((SRep.mk T.ver T.key q2.t T.acc q2.p q2.s q2.i q2.a q2.b))), 37), (b1, (SRep.cells ((SRep.mk S.ver S.key q.t S.acc q.p q.s q.i q.a q.b))), 37)]) [] [(0, true), (1, true), (2, true), (3, true), (4, true), (5, true), (6, true), (7, true), (8, true), (9, true), (10, true)] (by kernel_rfl) ?_
              have hM77 := hM74.drew
              refine s_take hM77 rfl (gn rfl) rfl rfl (fun w h => r_fieldAddr SRep.fld_asks rfl) ?_
              refine s_take hM77 rfl (gn rfl) rfl rfl (fun w h => r_load1 (v := Sl.val q.a) Tryz.isAgg34 rfl (Holds.sub (h.base (i := 1) rfl) (SRep.sub_asks _))) ?_
              refine s_take hM77 rfl (gn rfl) rfl rfl (fun w h => r_move rfl) ?_
              have hlt79 : k2 < S.asks.length := by first | assumption | omega
              obtain ⟨x79, hx79⟩ : ∃ x, S.asks[k2]? = some x := ⟨_, List.getElem?_eq_getElem hlt79⟩
              obtain ⟨p79, o79, ha79, hA79, -⟩ := (hS.asks.keep0 hM77.kp).at_ _ _ hx79
              refine s_take hM77 rfl (gn rfl) rfl rfl (fun w h => r_indexR Tryz.underlying34 Tryz.sizeOf84 ⟨_, (hS.asks.keep0 h.kp)⟩ rfl ha79 rfl hlt79) ?_
              refine s_take hM77 rfl (gn rfl) rfl rfl (fun w h => r_loadA Tryz.isAgg84 Tryz.sizeOf84 (Ask.size _) rfl ((hS.asks.keep0 h.kp).ix hx79 ha79)) ?_
              refine s_take hM77 rfl (gn rfl) rfl rfl (fun w h => r_fieldAddr SRep.fld_asks rfl) ?_
              refine s_take hM77 rfl (gn rfl) rfl rfl (fun w h => r_load1 (v := Sl.val q2.a) Tryz.isAgg34 rfl (Holds.sub (h.base (i := 0) rfl) (SRep.sub_asks _))) ?_
              refine s_take hM77 rfl (gn rfl) rfl rfl (fun w h => r_move rfl) ?_
              have hlt80 : k2 < T.asks.length := by first | assumption | omega
              obtain ⟨x80, hx80⟩ : ∃ x, T.asks[k2]? = some x := ⟨_, List.getElem?_eq_getElem hlt80⟩
              obtain ⟨p80, o80, ha80, hA80, -⟩ := (hT.asks.keep0 hM77.kp).at_ _ _ hx80
              refine s_take hM77 rfl (gn rfl) rfl rfl (fun w h => r_indexR Tryz.underlying34 Tryz.sizeOf84 ⟨_, (hT.asks.keep0 h.kp)⟩ rfl ha80 rfl hlt80) ?_
              refine s_take hM77 rfl (gn rfl) rfl rfl (fun w h => r_loadA Tryz.isAgg84 Tryz.sizeOf84 (Ask.size _) rfl ((hT.asks.keep0 h.kp).ix hx80 ha80)) ?_
              refine s_take hM77 rfl (gn rfl) rfl rfl (fun w h => r_neAsk rfl rfl) ?_
              refine s_nil ?_
              refine ways (decide (x79 = x80)) (fun h81 => ?_) (fun h81 => ?_)
              ·skip
               have hp82 : x79 = x80 := of_decide_eq_true h81
               refine c_condF rfl (congrArg Bool.not h81) ?_
               refine c_skip ?_
               refine c_reg ?_
               refine l_val (gn rfl) rfl rfl (r_move rfl) ?_
               refine l_val (gn rfl) rfl rfl (r_add (r := ((k2 + 1 : Nat) : Int)) rfl rfl (nadd (i := k2) (k := 1) (m := k2 + 1) (by omega) (by omega))) ?_
               refine l_val (gn rfl) rfl rfl (r_assign rfl) ?_
               refine l_nil ?_
               intro a_ ha_
               refine ⟨k2 + 1, ⟨hM77, ?_⟩, by omega, ha_.sub ⟨rfl, rfl, rfl, rfl, rfl, rfl, rfl, rfl, rfl, rfl, trivial⟩⟩
               exact ⟨by omega, same_step he2 hx79 hx80 (by assumption)⟩
              ·skip
               have hp83 : ¬ (x79 = x80) := of_decide_eq_false h81
               refine c_condT rfl (congrArg Bool.not h81) ?_
               refine c_seq ?_
               refine c_reg ?_
               refine l_val (gn rfl) rfl rfl (r_assign rfl) ?_
               refine l_nil ?_
               refine c_ret ?_
               refine ret1 rfl rfl ?_
               have hz := same_no hx79 hx80 (by assumption)
               exact ⟨by simp only [sameState, hz]; simp, hM77.kp⟩
             ·skip
              have hp84 : ¬ ((k2 : Nat) < S.asks.length) := of_decide_eq_false h75
              refine c_condF rfl h75 ?_
              refine c_exit rfl ?_
              refine c_seq ?_
              refine c_seq ?_
              refine c_reg ?_
              refine l_val (gn rfl) rfl rfl (r_assign rfl) ?_
              refine l_nil ?_
              refine c_block ?_
              refine c_loop (ι := Nat) (fun k3 w_ => Mem w [] [(b6, (SRep.cells ((SRep.mk T.ver T.key q2.t T.acc q2.p q2.s q2.i q2.a q2.b))), 37), (b1, (SRep.cells ((SRep.mk S.ver S.key q.t S.acc q.p q.s q.i q.a q.b))), 37)] w_ ∧ (k3 ≤ S.bans.length ∧ S.bans.take k3 = T.bans.take k3)) (fun k3 => [(0, Value.agg (SRep.cells ((SRep.mk S.ver S.key q.t S.acc q.p q.s q.i q.a q.b)))), (1, Value.agg (SRep.cells ((SRep.mk T.ver T.key q2.t T.acc q2.p q2.s q2.i q2.a q2.b)))), (2, Value.pointer (some ⟨b1, 0, none⟩)), (3, Value.pointer (some ⟨b6, 0, none⟩)), (85, Value.bool ((!(decide ((S.bans.length : Nat) = T.bans.length))))), (5, Value.int .i64 ((k0 : Nat) : Int)), (90, Value.bool (decide ((k0 : Nat) < S.seats.length))), (8, Value.int .i64 ((k1 : Nat) : Int)), (110, Value.bool (decide ((k1 : Nat) < S.invites.length))), (11, Value.int .i64 ((k2 : Nat) : Int)), (130, Value.bool (decide ((k2 : Nat) < S.asks.length))), (12, Value.int .i64 ((k3 : Nat) : Int))]) (fun k3 => S.bans.length - k3) 0 ⟨hM74, Nat.zero_le _, rfl⟩ ⟨rfl, rfl, rfl, rfl, rfl, rfl, rfl, rfl, rfl, rfl, rfl, rfl, trivial⟩ ?_
              rintro k3 w85 ⟨hM86, hk3, he3⟩
              refine c_seq ?_
              refine c_seq ?_
              refine c_reg ?_
              refine l_val (gn rfl) rfl rfl (r_move rfl) ?_
              refine l_val (gn rfl) rfl rfl (r_fieldAddr SRep.fld_bans rfl) ?_
              refine l_val (gn rfl) rfl rfl (r_load1 (v := Sl.val q.b) Tryz.isAgg35 rfl (Holds.sub (hM86.base (i := 1) rfl) (SRep.sub_bans _))) ?_
              refine l_val (gn rfl) rfl rfl (r_lenR Tryz.underlying35 rfl (hS.bans.keep0 hM86.kp).len) ?_
              refine l_val (gn rfl) rfl rfl (r_lss (b := decide ((k3 : Nat) < S.bans.length)) rfl rfl (nlt k3 S.bans.length)) ?_
              refine l_nil ?_
              refine ways (decide ((k3 : Nat) < S.bans.length)) (fun h87 => ?_) (fun h87 => ?_)
              ·skip
               have hp88 : (k3 : Nat) < S.bans.length := of_decide_eq_true h87
               refine c_condT rfl h87 ?_
               refine c_skip ?_
               refine c_seq ?_
               refine c_block ?_
               refine c_seq ?_
               refine c_regD (Mem w [] [(b6, (SRep.cells ((SRep.mk T.ver T.key q2.t T.acc q2.p q2.s q2.i q2.a q2.b))), 37), (b1, (SRep.cells ((SRep.mk S.ver S.key q.t S.acc q.p q.s q.i q.a q.b))), 37)]) [] [(0, true), (1, true), (2, true), (3, true), (4, true), (5, true), (6, true), (7, true), (8, true), (9, true), (10, true)] (by kernel_rfl) ?_
               have hM89 := hM86.drew
               refine s_take hM89 rfl (gn rfl) rfl rfl (fun w h => r_fieldAddr SRep.fld_bans rfl) ?_
               refine s_take hM89 rfl (gn rfl) rfl rfl (fun w h => r_load1 (v := Sl.val q.b) Tryz.isAgg35 rfl (Holds.sub (h.base (i := 1) rfl) (SRep.sub_bans _))) ?_
               refine s_take hM89 rfl (gn rfl) rfl rfl (fun w h => r_move rfl) ?_
               have hlt91 : k3 < S.bans.length := by first | assumption | omega
               obtain ⟨x91, hx91⟩ : ∃ x, S.bans[k3]? = some x := ⟨_, List.getElem?_eq_getElem hlt91⟩
               obtain ⟨p91, o91, ha91, hA91, -⟩ := (hS.bans.keep0 hM89.kp).at_ _ _ hx91
               refine s_take hM89 rfl (gn rfl) rfl rfl (fun w h => r_indexR Tryz.underlying35 Tryz.sizeOf86 ⟨_, (hS.bans.keep0 h.kp)⟩ rfl ha91 rfl hlt91) ?_
               refine s_take hM89 rfl (gn rfl) rfl rfl (fun w h => r_loadA Tryz.isAgg86 Tryz.sizeOf86 (Ban.size _) rfl ((hS.bans.keep0 h.kp).ix hx91 ha91)) ?_
               refine s_take hM89 rfl (gn rfl) rfl rfl (fun w h => r_fieldAddr SRep.fld_bans rfl) ?_
               refine s_take hM89 rfl (gn rfl) rfl rfl (fun w h => r_load1 (v := Sl.val q2.b) Tryz.isAgg35 rfl (Holds.sub (h.base (i := 0) rfl) (SRep.sub_bans _))) ?_
               refine s_take hM89 rfl (gn rfl) rfl rfl (fun w h => r_move rfl) ?_
               have hlt92 : k3 < T.bans.length := by first | assumption | omega
               obtain ⟨x92, hx92⟩ : ∃ x, T.bans[k3]? = some x := ⟨_, List.getElem?_eq_getElem hlt92⟩
               obtain ⟨p92, o92, ha92, hA92, -⟩ := (hT.bans.keep0 hM89.kp).at_ _ _ hx92
               refine s_take hM89 rfl (gn rfl) rfl rfl (fun w h => r_indexR Tryz.underlying35 Tryz.sizeOf86 ⟨_, (hT.bans.keep0 h.kp)⟩ rfl ha92 rfl hlt92) ?_
               refine s_take hM89 rfl (gn rfl) rfl rfl (fun w h => r_loadA Tryz.isAgg86 Tryz.sizeOf86 (Ban.size _) rfl ((hT.bans.keep0 h.kp).ix hx92 ha92)) ?_
               refine s_take hM89 rfl (gn rfl) rfl rfl (fun w h => r_neBan rfl rfl) ?_
               refine s_nil ?_
               refine ways (decide (x91 = x92)) (fun h93 => ?_) (fun h93 => ?_)
               ·skip
                have hp94 : x91 = x92 := of_decide_eq_true h93
                refine c_condF rfl (congrArg Bool.not h93) ?_
                refine c_skip ?_
                refine c_reg ?_
                refine l_val (gn rfl) rfl rfl (r_move rfl) ?_
                refine l_val (gn rfl) rfl rfl (r_add (r := ((k3 + 1 : Nat) : Int)) rfl rfl (nadd (i := k3) (k := 1) (m := k3 + 1) (by omega) (by omega))) ?_
                refine l_val (gn rfl) rfl rfl (r_assign rfl) ?_
                refine l_nil ?_
                intro a_ ha_
                refine ⟨k3 + 1, ⟨hM89, ?_⟩, by omega, ha_.sub ⟨rfl, rfl, rfl, rfl, rfl, rfl, rfl, rfl, rfl, rfl, rfl, rfl, trivial⟩⟩
                exact ⟨by omega, same_step he3 hx91 hx92 (by assumption)⟩
               ·skip
                have hp95 : ¬ (x91 = x92) := of_decide_eq_false h93
                refine c_condT rfl (congrArg Bool.not h93) ?_
                refine c_seq ?_
                refine c_reg ?_
                refine l_val (gn rfl) rfl rfl (r_assign rfl) ?_
                refine l_nil ?_
                refine c_ret ?_
                refine ret1 rfl rfl ?_
                have hz := same_no hx91 hx92 (by assumption)
                exact ⟨by simp only [sameState, hz]; simp, hM89.kp⟩
              ·skip
               have hp96 : ¬ ((k3 : Nat) < S.bans.length) := of_decide_eq_false h87
               refine c_condF rfl h87 ?_
               refine c_exit rfl ?_
               refine c_seq ?_
               refine c_reg ?_
               refine l_val (gn rfl) rfl rfl (r_assign rfl) ?_
               refine l_nil ?_
               refine c_ret ?_
               refine ret1 rfl rfl ?_
               have e0 := same_end (by assumption) he0 (by assumption)
               have e1 := same_end (by assumption) he1 (by assumption)
               have e2 := same_end (by assumption) he2 (by assumption)
               have e3 := same_end (by assumption) he3 (by assumption)
               exact ⟨by (try simp only [sameState, h11, h13, h15, h17, h19]); simp only [e0, e1, e2, e3]; simp, hM86.kp⟩
          ·skip
           have hp97 : ¬ ((S.bans.length : Nat) = T.bans.length) := of_decide_eq_false h27
           refine c_condT rfl (congrArg Bool.not h27) ?_
           refine c_seq ?_
           refine c_reg ?_
           refine l_val (gn rfl) rfl rfl (r_assign rfl) ?_
           refine l_nil ?_
           refine c_ret ?_
           refine ret1 rfl rfl ?_
           have hz := len_ne h27
           exact ⟨by simp only [sameState, hz]; simp, hM8.kp⟩
         ·skip
          have hp98 : ¬ ((S.asks.length : Nat) = T.asks.length) := of_decide_eq_false h25
          refine l_off (gno rfl rfl rfl rfl (congrArg Bool.not h25)) rfl rfl ?_
          refine l_off (gno rfl rfl rfl rfl (congrArg Bool.not h25)) rfl rfl ?_
          refine l_off (gno rfl rfl rfl rfl (congrArg Bool.not h25)) rfl rfl ?_
          refine l_off (gno rfl rfl rfl rfl (congrArg Bool.not h25)) rfl rfl ?_
          refine l_off (gno rfl rfl rfl rfl (congrArg Bool.not h25)) rfl rfl ?_
          refine l_off (gno rfl rfl rfl rfl (congrArg Bool.not h25)) rfl rfl ?_
          refine l_off (gno rfl rfl rfl rfl (congrArg Bool.not h25)) rfl rfl ?_
          refine l_val (gn rfl) rfl rfl (r_pickT rfl (congrArg Bool.not h25) rfl) ?_
          refine l_nil ?_
          refine c_condT rfl rfl ?_
          refine c_seq ?_
          refine c_reg ?_
          refine l_val (gn rfl) rfl rfl (r_assign rfl) ?_
          refine l_nil ?_
          refine c_ret ?_
          refine ret1 rfl rfl ?_
          have hz := len_ne h25
          exact ⟨by simp only [sameState, hz]; simp, hM8.kp⟩
        ·skip
         have hp99 : ¬ ((S.invites.length : Nat) = T.invites.length) := of_decide_eq_false h23
         refine l_off (gno rfl rfl rfl rfl (congrArg Bool.not h23)) rfl rfl ?_
         refine l_off (gno rfl rfl rfl rfl (congrArg Bool.not h23)) rfl rfl ?_
         refine l_off (gno rfl rfl rfl rfl (congrArg Bool.not h23)) rfl rfl ?_
         refine l_off (gno rfl rfl rfl rfl (congrArg Bool.not h23)) rfl rfl ?_
         refine l_off (gno rfl rfl rfl rfl (congrArg Bool.not h23)) rfl rfl ?_
         refine l_off (gno rfl rfl rfl rfl (congrArg Bool.not h23)) rfl rfl ?_
         refine l_off (gno rfl rfl rfl rfl (congrArg Bool.not h23)) rfl rfl ?_
         refine l_val (gn rfl) rfl rfl (r_pickT rfl (congrArg Bool.not h23) rfl) ?_
         refine l_val (gn rfl) rfl rfl (r_move rfl) ?_
         refine l_off (gno rfl rfl rfl rfl rfl) rfl rfl ?_
         refine l_off (gno rfl rfl rfl rfl rfl) rfl rfl ?_
         refine l_off (gno rfl rfl rfl rfl rfl) rfl rfl ?_
         refine l_off (gno rfl rfl rfl rfl rfl) rfl rfl ?_
         refine l_off (gno rfl rfl rfl rfl rfl) rfl rfl ?_
         refine l_off (gno rfl rfl rfl rfl rfl) rfl rfl ?_
         refine l_off (gno rfl rfl rfl rfl rfl) rfl rfl ?_
         refine l_val (gn rfl) rfl rfl (r_pickT rfl rfl rfl) ?_
         refine l_nil ?_
         refine c_condT rfl rfl ?_
         refine c_seq ?_
         refine c_reg ?_
         refine l_val (gn rfl) rfl rfl (r_assign rfl) ?_
         refine l_nil ?_
         refine c_ret ?_
         refine ret1 rfl rfl ?_
         have hz := len_ne h23
         exact ⟨by simp only [sameState, hz]; simp, hM8.kp⟩
       ·skip
        have hp100 : ¬ ((S.seats.length : Nat) = T.seats.length) := of_decide_eq_false h21
        refine l_off (gno rfl rfl rfl rfl (congrArg Bool.not h21)) rfl rfl ?_
        refine l_off (gno rfl rfl rfl rfl (congrArg Bool.not h21)) rfl rfl ?_
        refine l_off (gno rfl rfl rfl rfl (congrArg Bool.not h21)) rfl rfl ?_
        refine l_off (gno rfl rfl rfl rfl (congrArg Bool.not h21)) rfl rfl ?_
        refine l_off (gno rfl rfl rfl rfl (congrArg Bool.not h21)) rfl rfl ?_
        refine l_off (gno rfl rfl rfl rfl (congrArg Bool.not h21)) rfl rfl ?_
        refine l_off (gno rfl rfl rfl rfl (congrArg Bool.not h21)) rfl rfl ?_
        refine l_val (gn rfl) rfl rfl (r_pickT rfl (congrArg Bool.not h21) rfl) ?_
        refine l_val (gn rfl) rfl rfl (r_move rfl) ?_
        refine l_off (gno rfl rfl rfl rfl rfl) rfl rfl ?_
        refine l_off (gno rfl rfl rfl rfl rfl) rfl rfl ?_
        refine l_off (gno rfl rfl rfl rfl rfl) rfl rfl ?_
        refine l_off (gno rfl rfl rfl rfl rfl) rfl rfl ?_
        refine l_off (gno rfl rfl rfl rfl rfl) rfl rfl ?_
        refine l_off (gno rfl rfl rfl rfl rfl) rfl rfl ?_
        refine l_off (gno rfl rfl rfl rfl rfl) rfl rfl ?_
        refine l_val (gn rfl) rfl rfl (r_pickT rfl rfl rfl) ?_
        refine l_val (gn rfl) rfl rfl (r_move rfl) ?_
        refine l_off (gno rfl rfl rfl rfl rfl) rfl rfl ?_
        refine l_off (gno rfl rfl rfl rfl rfl) rfl rfl ?_
        refine l_off (gno rfl rfl rfl rfl rfl) rfl rfl ?_
        refine l_off (gno rfl rfl rfl rfl rfl) rfl rfl ?_
        refine l_off (gno rfl rfl rfl rfl rfl) rfl rfl ?_
        refine l_off (gno rfl rfl rfl rfl rfl) rfl rfl ?_
        refine l_off (gno rfl rfl rfl rfl rfl) rfl rfl ?_
        refine l_val (gn rfl) rfl rfl (r_pickT rfl rfl rfl) ?_
        refine l_nil ?_
        refine c_condT rfl rfl ?_
        refine c_seq ?_
        refine c_reg ?_
        refine l_val (gn rfl) rfl rfl (r_assign rfl) ?_
        refine l_nil ?_
        refine c_ret ?_
        refine ret1 rfl rfl ?_
        have hz := len_ne h21
        exact ⟨by simp only [sameState, hz]; simp, hM8.kp⟩
      ·skip
       have hp101 : ¬ (S.pass = T.pass) := of_decide_eq_false h19
       refine l_off (gno rfl rfl rfl rfl (congrArg Bool.not h19)) rfl rfl ?_
       refine l_off (gno rfl rfl rfl rfl (congrArg Bool.not h19)) rfl rfl ?_
       refine l_off (gno rfl rfl rfl rfl (congrArg Bool.not h19)) rfl rfl ?_
       refine l_off (gno rfl rfl rfl rfl (congrArg Bool.not h19)) rfl rfl ?_
       refine l_off (gno rfl rfl rfl rfl (congrArg Bool.not h19)) rfl rfl ?_
       refine l_off (gno rfl rfl rfl rfl (congrArg Bool.not h19)) rfl rfl ?_
       refine l_off (gno rfl rfl rfl rfl (congrArg Bool.not h19)) rfl rfl ?_
       refine l_val (gn rfl) rfl rfl (r_pickT rfl (congrArg Bool.not h19) rfl) ?_
       refine l_val (gn rfl) rfl rfl (r_move rfl) ?_
       refine l_off (gno rfl rfl rfl rfl rfl) rfl rfl ?_
       refine l_off (gno rfl rfl rfl rfl rfl) rfl rfl ?_
       refine l_off (gno rfl rfl rfl rfl rfl) rfl rfl ?_
       refine l_off (gno rfl rfl rfl rfl rfl) rfl rfl ?_
       refine l_off (gno rfl rfl rfl rfl rfl) rfl rfl ?_
       refine l_off (gno rfl rfl rfl rfl rfl) rfl rfl ?_
       refine l_off (gno rfl rfl rfl rfl rfl) rfl rfl ?_
       refine l_val (gn rfl) rfl rfl (r_pickT rfl rfl rfl) ?_
       refine l_val (gn rfl) rfl rfl (r_move rfl) ?_
       refine l_off (gno rfl rfl rfl rfl rfl) rfl rfl ?_
       refine l_off (gno rfl rfl rfl rfl rfl) rfl rfl ?_
       refine l_off (gno rfl rfl rfl rfl rfl) rfl rfl ?_
       refine l_off (gno rfl rfl rfl rfl rfl) rfl rfl ?_
       refine l_off (gno rfl rfl rfl rfl rfl) rfl rfl ?_
       refine l_off (gno rfl rfl rfl rfl rfl) rfl rfl ?_
       refine l_off (gno rfl rfl rfl rfl rfl) rfl rfl ?_
       refine l_val (gn rfl) rfl rfl (r_pickT rfl rfl rfl) ?_
       refine l_val (gn rfl) rfl rfl (r_move rfl) ?_
       refine l_off (gno rfl rfl rfl rfl rfl) rfl rfl ?_
       refine l_off (gno rfl rfl rfl rfl rfl) rfl rfl ?_
       refine l_off (gno rfl rfl rfl rfl rfl) rfl rfl ?_
       refine l_off (gno rfl rfl rfl rfl rfl) rfl rfl ?_
       refine l_off (gno rfl rfl rfl rfl rfl) rfl rfl ?_
       refine l_off (gno rfl rfl rfl rfl rfl) rfl rfl ?_
       refine l_off (gno rfl rfl rfl rfl rfl) rfl rfl ?_
       refine l_val (gn rfl) rfl rfl (r_pickT rfl rfl rfl) ?_
       refine l_nil ?_
       refine c_condT rfl rfl ?_
       refine c_seq ?_
       refine c_reg ?_
       refine l_val (gn rfl) rfl rfl (r_assign rfl) ?_
       refine l_nil ?_
       refine c_ret ?_
       refine ret1 rfl rfl ?_
       exact ⟨by simp only [sameState, h19]; simp, hM8.kp⟩
     ·skip
      have hp102 : ¬ (S.acc = T.acc) := of_decide_eq_false h17
      refine l_off (gno rfl rfl rfl rfl (congrArg Bool.not h17)) rfl rfl ?_
      refine l_off (gno rfl rfl rfl rfl (congrArg Bool.not h17)) rfl rfl ?_
      refine l_off (gno rfl rfl rfl rfl (congrArg Bool.not h17)) rfl rfl ?_
      refine l_off (gno rfl rfl rfl rfl (congrArg Bool.not h17)) rfl rfl ?_
      refine l_off (gno rfl rfl rfl rfl (congrArg Bool.not h17)) rfl rfl ?_
      refine l_off (gno rfl rfl rfl rfl (congrArg Bool.not h17)) rfl rfl ?_
      refine l_off (gno rfl rfl rfl rfl (congrArg Bool.not h17)) rfl rfl ?_
      refine l_val (gn rfl) rfl rfl (r_pickT rfl (congrArg Bool.not h17) rfl) ?_
      refine l_val (gn rfl) rfl rfl (r_move rfl) ?_
      refine l_off (gno rfl rfl rfl rfl rfl) rfl rfl ?_
      refine l_off (gno rfl rfl rfl rfl rfl) rfl rfl ?_
      refine l_off (gno rfl rfl rfl rfl rfl) rfl rfl ?_
      refine l_off (gno rfl rfl rfl rfl rfl) rfl rfl ?_
      refine l_off (gno rfl rfl rfl rfl rfl) rfl rfl ?_
      refine l_off (gno rfl rfl rfl rfl rfl) rfl rfl ?_
      refine l_off (gno rfl rfl rfl rfl rfl) rfl rfl ?_
      refine l_val (gn rfl) rfl rfl (r_pickT rfl rfl rfl) ?_
      refine l_val (gn rfl) rfl rfl (r_move rfl) ?_
      refine l_off (gno rfl rfl rfl rfl rfl) rfl rfl ?_
      refine l_off (gno rfl rfl rfl rfl rfl) rfl rfl ?_
      refine l_off (gno rfl rfl rfl rfl rfl) rfl rfl ?_
      refine l_off (gno rfl rfl rfl rfl rfl) rfl rfl ?_
      refine l_off (gno rfl rfl rfl rfl rfl) rfl rfl ?_
      refine l_off (gno rfl rfl rfl rfl rfl) rfl rfl ?_
      refine l_off (gno rfl rfl rfl rfl rfl) rfl rfl ?_
      refine l_val (gn rfl) rfl rfl (r_pickT rfl rfl rfl) ?_
      refine l_val (gn rfl) rfl rfl (r_move rfl) ?_
      refine l_off (gno rfl rfl rfl rfl rfl) rfl rfl ?_
      refine l_off (gno rfl rfl rfl rfl rfl) rfl rfl ?_
      refine l_off (gno rfl rfl rfl rfl rfl) rfl rfl ?_
      refine l_off (gno rfl rfl rfl rfl rfl) rfl rfl ?_
      refine l_off (gno rfl rfl rfl rfl rfl) rfl rfl ?_
      refine l_off (gno rfl rfl rfl rfl rfl) rfl rfl ?_
      refine l_off (gno rfl rfl rfl rfl rfl) rfl rfl ?_
      refine l_val (gn rfl) rfl rfl (r_pickT rfl rfl rfl) ?_
      refine l_val (gn rfl) rfl rfl (r_move rfl) ?_
      refine l_off (gno rfl rfl rfl rfl rfl) rfl rfl ?_
      refine l_off (gno rfl rfl rfl rfl rfl) rfl rfl ?_
      refine l_off (gno rfl rfl rfl rfl rfl) rfl rfl ?_
      refine l_off (gno rfl rfl rfl rfl rfl) rfl rfl ?_
      refine l_off (gno rfl rfl rfl rfl rfl) rfl rfl ?_
      refine l_off (gno rfl rfl rfl rfl rfl) rfl rfl ?_
      refine l_off (gno rfl rfl rfl rfl rfl) rfl rfl ?_
      refine l_val (gn rfl) rfl rfl (r_pickT rfl rfl rfl) ?_
      refine l_nil ?_
      refine c_condT rfl rfl ?_
      refine c_seq ?_
      refine c_reg ?_
      refine l_val (gn rfl) rfl rfl (r_assign rfl) ?_
      refine l_nil ?_
      refine c_ret ?_
      refine ret1 rfl rfl ?_
      exact ⟨by simp only [sameState, h17]; simp, hM8.kp⟩
    ·skip
     have hp103 : ¬ (S.title = T.title) := of_decide_eq_false h15
     refine l_off (gno rfl rfl rfl rfl (congrArg Bool.not h15)) rfl rfl ?_
     refine l_off (gno rfl rfl rfl rfl (congrArg Bool.not h15)) rfl rfl ?_
     refine l_off (gno rfl rfl rfl rfl (congrArg Bool.not h15)) rfl rfl ?_
     refine l_off (gno rfl rfl rfl rfl (congrArg Bool.not h15)) rfl rfl ?_
     refine l_off (gno rfl rfl rfl rfl (congrArg Bool.not h15)) rfl rfl ?_
     refine l_val (gn rfl) rfl rfl (r_pickT rfl (congrArg Bool.not h15) rfl) ?_
     refine l_val (gn rfl) rfl rfl (r_move rfl) ?_
     refine l_off (gno rfl rfl rfl rfl rfl) rfl rfl ?_
     refine l_off (gno rfl rfl rfl rfl rfl) rfl rfl ?_
     refine l_off (gno rfl rfl rfl rfl rfl) rfl rfl ?_
     refine l_off (gno rfl rfl rfl rfl rfl) rfl rfl ?_
     refine l_off (gno rfl rfl rfl rfl rfl) rfl rfl ?_
     refine l_off (gno rfl rfl rfl rfl rfl) rfl rfl ?_
     refine l_off (gno rfl rfl rfl rfl rfl) rfl rfl ?_
     refine l_val (gn rfl) rfl rfl (r_pickT rfl rfl rfl) ?_
     refine l_val (gn rfl) rfl rfl (r_move rfl) ?_
     refine l_off (gno rfl rfl rfl rfl rfl) rfl rfl ?_
     refine l_off (gno rfl rfl rfl rfl rfl) rfl rfl ?_
     refine l_off (gno rfl rfl rfl rfl rfl) rfl rfl ?_
     refine l_off (gno rfl rfl rfl rfl rfl) rfl rfl ?_
     refine l_off (gno rfl rfl rfl rfl rfl) rfl rfl ?_
     refine l_off (gno rfl rfl rfl rfl rfl) rfl rfl ?_
     refine l_off (gno rfl rfl rfl rfl rfl) rfl rfl ?_
     refine l_val (gn rfl) rfl rfl (r_pickT rfl rfl rfl) ?_
     refine l_val (gn rfl) rfl rfl (r_move rfl) ?_
     refine l_off (gno rfl rfl rfl rfl rfl) rfl rfl ?_
     refine l_off (gno rfl rfl rfl rfl rfl) rfl rfl ?_
     refine l_off (gno rfl rfl rfl rfl rfl) rfl rfl ?_
     refine l_off (gno rfl rfl rfl rfl rfl) rfl rfl ?_
     refine l_off (gno rfl rfl rfl rfl rfl) rfl rfl ?_
     refine l_off (gno rfl rfl rfl rfl rfl) rfl rfl ?_
     refine l_off (gno rfl rfl rfl rfl rfl) rfl rfl ?_
     refine l_val (gn rfl) rfl rfl (r_pickT rfl rfl rfl) ?_
     refine l_val (gn rfl) rfl rfl (r_move rfl) ?_
     refine l_off (gno rfl rfl rfl rfl rfl) rfl rfl ?_
     refine l_off (gno rfl rfl rfl rfl rfl) rfl rfl ?_
     refine l_off (gno rfl rfl rfl rfl rfl) rfl rfl ?_
     refine l_off (gno rfl rfl rfl rfl rfl) rfl rfl ?_
     refine l_off (gno rfl rfl rfl rfl rfl) rfl rfl ?_
     refine l_off (gno rfl rfl rfl rfl rfl) rfl rfl ?_
     refine l_off (gno rfl rfl rfl rfl rfl) rfl rfl ?_
     refine l_val (gn rfl) rfl rfl (r_pickT rfl rfl rfl) ?_
     refine l_val (gn rfl) rfl rfl (r_move rfl) ?_
     refine l_off (gno rfl rfl rfl rfl rfl) rfl rfl ?_
     refine l_off (gno rfl rfl rfl rfl rfl) rfl rfl ?_
     refine l_off (gno rfl rfl rfl rfl rfl) rfl rfl ?_
     refine l_off (gno rfl rfl rfl rfl rfl) rfl rfl ?_
     refine l_off (gno rfl rfl rfl rfl rfl) rfl rfl ?_
     refine l_off (gno rfl rfl rfl rfl rfl) rfl rfl ?_
     refine l_off (gno rfl rfl rfl rfl rfl) rfl rfl ?_
     refine l_val (gn rfl) rfl rfl (r_pickT rfl rfl rfl) ?_
     refine l_nil ?_
     refine c_condT rfl rfl ?_
     refine c_seq ?_
     refine c_reg ?_
     refine l_val (gn rfl) rfl rfl (r_assign rfl) ?_
     refine l_nil ?_
     refine c_ret ?_
     refine ret1 rfl rfl ?_
     exact ⟨by simp only [sameState, h15]; simp, hM8.kp⟩
   ·skip
    have hp104 : ¬ (S.key = T.key) := of_decide_eq_false h13
    refine l_off (gno rfl rfl rfl rfl (congrArg Bool.not h13)) rfl rfl ?_
    refine l_off (gno rfl rfl rfl rfl (congrArg Bool.not h13)) rfl rfl ?_
    refine l_off (gno rfl rfl rfl rfl (congrArg Bool.not h13)) rfl rfl ?_
    refine l_off (gno rfl rfl rfl rfl (congrArg Bool.not h13)) rfl rfl ?_
    refine l_off (gno rfl rfl rfl rfl (congrArg Bool.not h13)) rfl rfl ?_
    refine l_off (gno rfl rfl rfl rfl (congrArg Bool.not h13)) rfl rfl ?_
    refine l_off (gno rfl rfl rfl rfl (congrArg Bool.not h13)) rfl rfl ?_
    refine l_val (gn rfl) rfl rfl (r_pickT rfl (congrArg Bool.not h13) rfl) ?_
    refine l_val (gn rfl) rfl rfl (r_move rfl) ?_
    refine l_off (gno rfl rfl rfl rfl rfl) rfl rfl ?_
    refine l_off (gno rfl rfl rfl rfl rfl) rfl rfl ?_
    refine l_off (gno rfl rfl rfl rfl rfl) rfl rfl ?_
    refine l_off (gno rfl rfl rfl rfl rfl) rfl rfl ?_
    refine l_off (gno rfl rfl rfl rfl rfl) rfl rfl ?_
    refine l_val (gn rfl) rfl rfl (r_pickT rfl rfl rfl) ?_
    refine l_val (gn rfl) rfl rfl (r_move rfl) ?_
    refine l_off (gno rfl rfl rfl rfl rfl) rfl rfl ?_
    refine l_off (gno rfl rfl rfl rfl rfl) rfl rfl ?_
    refine l_off (gno rfl rfl rfl rfl rfl) rfl rfl ?_
    refine l_off (gno rfl rfl rfl rfl rfl) rfl rfl ?_
    refine l_off (gno rfl rfl rfl rfl rfl) rfl rfl ?_
    refine l_off (gno rfl rfl rfl rfl rfl) rfl rfl ?_
    refine l_off (gno rfl rfl rfl rfl rfl) rfl rfl ?_
    refine l_val (gn rfl) rfl rfl (r_pickT rfl rfl rfl) ?_
    refine l_val (gn rfl) rfl rfl (r_move rfl) ?_
    refine l_off (gno rfl rfl rfl rfl rfl) rfl rfl ?_
    refine l_off (gno rfl rfl rfl rfl rfl) rfl rfl ?_
    refine l_off (gno rfl rfl rfl rfl rfl) rfl rfl ?_
    refine l_off (gno rfl rfl rfl rfl rfl) rfl rfl ?_
    refine l_off (gno rfl rfl rfl rfl rfl) rfl rfl ?_
    refine l_off (gno rfl rfl rfl rfl rfl) rfl rfl ?_
    refine l_off (gno rfl rfl rfl rfl rfl) rfl rfl ?_
    refine l_val (gn rfl) rfl rfl (r_pickT rfl rfl rfl) ?_
    refine l_val (gn rfl) rfl rfl (r_move rfl) ?_
    refine l_off (gno rfl rfl rfl rfl rfl) rfl rfl ?_
    refine l_off (gno rfl rfl rfl rfl rfl) rfl rfl ?_
    refine l_off (gno rfl rfl rfl rfl rfl) rfl rfl ?_
    refine l_off (gno rfl rfl rfl rfl rfl) rfl rfl ?_
    refine l_off (gno rfl rfl rfl rfl rfl) rfl rfl ?_
    refine l_off (gno rfl rfl rfl rfl rfl) rfl rfl ?_
    refine l_off (gno rfl rfl rfl rfl rfl) rfl rfl ?_
    refine l_val (gn rfl) rfl rfl (r_pickT rfl rfl rfl) ?_
    refine l_val (gn rfl) rfl rfl (r_move rfl) ?_
    refine l_off (gno rfl rfl rfl rfl rfl) rfl rfl ?_
    refine l_off (gno rfl rfl rfl rfl rfl) rfl rfl ?_
    refine l_off (gno rfl rfl rfl rfl rfl) rfl rfl ?_
    refine l_off (gno rfl rfl rfl rfl rfl) rfl rfl ?_
    refine l_off (gno rfl rfl rfl rfl rfl) rfl rfl ?_
    refine l_off (gno rfl rfl rfl rfl rfl) rfl rfl ?_
    refine l_off (gno rfl rfl rfl rfl rfl) rfl rfl ?_
    refine l_val (gn rfl) rfl rfl (r_pickT rfl rfl rfl) ?_
    refine l_val (gn rfl) rfl rfl (r_move rfl) ?_
    refine l_off (gno rfl rfl rfl rfl rfl) rfl rfl ?_
    refine l_off (gno rfl rfl rfl rfl rfl) rfl rfl ?_
    refine l_off (gno rfl rfl rfl rfl rfl) rfl rfl ?_
    refine l_off (gno rfl rfl rfl rfl rfl) rfl rfl ?_
    refine l_off (gno rfl rfl rfl rfl rfl) rfl rfl ?_
    refine l_off (gno rfl rfl rfl rfl rfl) rfl rfl ?_
    refine l_off (gno rfl rfl rfl rfl rfl) rfl rfl ?_
    refine l_val (gn rfl) rfl rfl (r_pickT rfl rfl rfl) ?_
    refine l_nil ?_
    refine c_condT rfl rfl ?_
    refine c_seq ?_
    refine c_reg ?_
    refine l_val (gn rfl) rfl rfl (r_assign rfl) ?_
    refine l_nil ?_
    refine c_ret ?_
    refine ret1 rfl rfl ?_
    exact ⟨by simp only [sameState, h13]; simp, hM8.kp⟩
  ·skip
   have hp105 : ¬ ((S.ver : UInt32) = T.ver) := of_decide_eq_false h11
   refine l_off (gno rfl rfl rfl rfl (congrArg Bool.not h11)) rfl rfl ?_
   refine l_off (gno rfl rfl rfl rfl (congrArg Bool.not h11)) rfl rfl ?_
   refine l_off (gno rfl rfl rfl rfl (congrArg Bool.not h11)) rfl rfl ?_
   refine l_off (gno rfl rfl rfl rfl (congrArg Bool.not h11)) rfl rfl ?_
   refine l_off (gno rfl rfl rfl rfl (congrArg Bool.not h11)) rfl rfl ?_
   refine l_val (gn rfl) rfl rfl (r_pickT rfl (congrArg Bool.not h11) rfl) ?_
   refine l_val (gn rfl) rfl rfl (r_move rfl) ?_
   refine l_off (gno rfl rfl rfl rfl rfl) rfl rfl ?_
   refine l_off (gno rfl rfl rfl rfl rfl) rfl rfl ?_
   refine l_off (gno rfl rfl rfl rfl rfl) rfl rfl ?_
   refine l_off (gno rfl rfl rfl rfl rfl) rfl rfl ?_
   refine l_off (gno rfl rfl rfl rfl rfl) rfl rfl ?_
   refine l_off (gno rfl rfl rfl rfl rfl) rfl rfl ?_
   refine l_off (gno rfl rfl rfl rfl rfl) rfl rfl ?_
   refine l_val (gn rfl) rfl rfl (r_pickT rfl rfl rfl) ?_
   refine l_val (gn rfl) rfl rfl (r_move rfl) ?_
   refine l_off (gno rfl rfl rfl rfl rfl) rfl rfl ?_
   refine l_off (gno rfl rfl rfl rfl rfl) rfl rfl ?_
   refine l_off (gno rfl rfl rfl rfl rfl) rfl rfl ?_
   refine l_off (gno rfl rfl rfl rfl rfl) rfl rfl ?_
   refine l_off (gno rfl rfl rfl rfl rfl) rfl rfl ?_
   refine l_val (gn rfl) rfl rfl (r_pickT rfl rfl rfl) ?_
   refine l_val (gn rfl) rfl rfl (r_move rfl) ?_
   refine l_off (gno rfl rfl rfl rfl rfl) rfl rfl ?_
   refine l_off (gno rfl rfl rfl rfl rfl) rfl rfl ?_
   refine l_off (gno rfl rfl rfl rfl rfl) rfl rfl ?_
   refine l_off (gno rfl rfl rfl rfl rfl) rfl rfl ?_
   refine l_off (gno rfl rfl rfl rfl rfl) rfl rfl ?_
   refine l_off (gno rfl rfl rfl rfl rfl) rfl rfl ?_
   refine l_off (gno rfl rfl rfl rfl rfl) rfl rfl ?_
   refine l_val (gn rfl) rfl rfl (r_pickT rfl rfl rfl) ?_
   refine l_val (gn rfl) rfl rfl (r_move rfl) ?_
   refine l_off (gno rfl rfl rfl rfl rfl) rfl rfl ?_
   refine l_off (gno rfl rfl rfl rfl rfl) rfl rfl ?_
   refine l_off (gno rfl rfl rfl rfl rfl) rfl rfl ?_
   refine l_off (gno rfl rfl rfl rfl rfl) rfl rfl ?_
   refine l_off (gno rfl rfl rfl rfl rfl) rfl rfl ?_
   refine l_off (gno rfl rfl rfl rfl rfl) rfl rfl ?_
   refine l_off (gno rfl rfl rfl rfl rfl) rfl rfl ?_
   refine l_val (gn rfl) rfl rfl (r_pickT rfl rfl rfl) ?_
   refine l_val (gn rfl) rfl rfl (r_move rfl) ?_
   refine l_off (gno rfl rfl rfl rfl rfl) rfl rfl ?_
   refine l_off (gno rfl rfl rfl rfl rfl) rfl rfl ?_
   refine l_off (gno rfl rfl rfl rfl rfl) rfl rfl ?_
   refine l_off (gno rfl rfl rfl rfl rfl) rfl rfl ?_
   refine l_off (gno rfl rfl rfl rfl rfl) rfl rfl ?_
   refine l_off (gno rfl rfl rfl rfl rfl) rfl rfl ?_
   refine l_off (gno rfl rfl rfl rfl rfl) rfl rfl ?_
   refine l_val (gn rfl) rfl rfl (r_pickT rfl rfl rfl) ?_
   refine l_val (gn rfl) rfl rfl (r_move rfl) ?_
   refine l_off (gno rfl rfl rfl rfl rfl) rfl rfl ?_
   refine l_off (gno rfl rfl rfl rfl rfl) rfl rfl ?_
   refine l_off (gno rfl rfl rfl rfl rfl) rfl rfl ?_
   refine l_off (gno rfl rfl rfl rfl rfl) rfl rfl ?_
   refine l_off (gno rfl rfl rfl rfl rfl) rfl rfl ?_
   refine l_off (gno rfl rfl rfl rfl rfl) rfl rfl ?_
   refine l_off (gno rfl rfl rfl rfl rfl) rfl rfl ?_
   refine l_val (gn rfl) rfl rfl (r_pickT rfl rfl rfl) ?_
   refine l_val (gn rfl) rfl rfl (r_move rfl) ?_
   refine l_off (gno rfl rfl rfl rfl rfl) rfl rfl ?_
   refine l_off (gno rfl rfl rfl rfl rfl) rfl rfl ?_
   refine l_off (gno rfl rfl rfl rfl rfl) rfl rfl ?_
   refine l_off (gno rfl rfl rfl rfl rfl) rfl rfl ?_
   refine l_off (gno rfl rfl rfl rfl rfl) rfl rfl ?_
   refine l_off (gno rfl rfl rfl rfl rfl) rfl rfl ?_
   refine l_off (gno rfl rfl rfl rfl rfl) rfl rfl ?_
   refine l_val (gn rfl) rfl rfl (r_pickT rfl rfl rfl) ?_
   refine l_nil ?_
   refine c_condT rfl rfl ?_
   refine c_seq ?_
   refine c_reg ?_
   refine l_val (gn rfl) rfl rfl (r_assign rfl) ?_
   refine l_nil ?_
   refine c_ret ?_
   refine ret1 rfl rfl ?_
   exact ⟨by simp only [sameState, h11]; simp, hM8.kp⟩
end Go.Proofs.YtekhaogjmmmniaaGreat
namespace Go.Proofs.YtekhaogjmmmniaaGreat
open Go Go.RowKit

theorem f46 {w : World} (x : Seat) : Ret 46 #[.agg x.cells] w (fun v w' => v = .agg x.who.cells ∧ Keeps [] w w') := by
  have hM0 := Mem.start w
  refine enter Tryz.func46 rfl rfl ?_
  refine c_seq ?_
  refine c_reg ?_
  refine l_box hM0 rfl rfl ?_
  intro b1 w2 hM3 hK4 hB5
  replace hM3 : Mem w [] [(b1, (Seat.cells x), 73)] w2 := hM3
  refine l_alloc hM3 rfl Cipher.zv ?_
  intro b6 w7 hM8 hK9 hB10
  replace hM8 : Mem w [] [(b6, (Cipher.cells Cipher.zero), 40), (b1, (Seat.cells x), 73)] w7 := hM8
  refine l_nil ?_
  refine c_seq ?_
  refine c_reg ?_
  refine l_val (gn rfl) rfl rfl (r_fieldAddr Seat.fld_who rfl) ?_
  refine l_val (gn rfl) rfl rfl (r_loadA Tryz.isAgg40 Tryz.sizeOf40 (Cipher.size _) rfl (Holds.sub (hM8.base (i := 1) rfl) (Seat.sub_who _))) ?_
  refine l_store hM8 (i := 0) rfl Tryz.sizeOf40 rfl rfl (Cipher.size _) (by rw [Cipher.size]; decide) (Cipher.one _) (put_whole _ _ ((Cipher.size _).trans (Cipher.size _).symm)) ?_
  intro w11 hM12 hK13
  replace hM12 : Mem w [] [(b6, (Cipher.cells x.who), 40), (b1, (Seat.cells x), 73)] w11 := hM12
  refine l_nil ?_
  refine c_ret ?_
  refine retC rfl Tryz.isAgg40 Tryz.sizeOf40 (Cipher.size _) rfl (hM12.base (i := 0) rfl) ?_
  exact ⟨rfl, hM12.kp⟩
theorem f45 {A : Nat → Prop} {w : World} {s : Sl} {l : List Seat} {b : Nat} {ks : List Pt} (hR : Row A w s 66 Seat.cells l) (hA : ¬ A b) (hm : MapB w b ks) :
    Ret 45 #[s.val, .func (.func 46) #[] #[], .map (some b)] w (fun v w' => ∃ r : Bool, v = .bool r ∧ (r = true ↔ OkRoll ks (l.map Seat.who)) ∧ (r = true → MapB w' b (ks ++ (l.map Seat.who).map Cipher.E)) ∧ Keeps [b] w w') := by
  have hn := hR.bd
  have hX : ∀ x ∈ [b], ¬ A x := by simpa using hA
  have hM0 : Mem w [b] [] w := ⟨Keeps.refl _ _, by simp, by simp, by simp⟩
  have hbl := hm.lt
  refine enter Tryz.func45 rfl rfl ?_
  refine c_seq ?_
  refine c_reg ?_
  refine l_val (gn rfl) rfl rfl (r_assign rfl) ?_
  refine l_nil ?_
  refine c_seq ?_
  refine c_seq ?_
  refine c_reg ?_
  refine l_val (gn rfl) rfl rfl (r_move rfl) ?_
  refine l_val (gn rfl) rfl rfl (r_lenR Tryz.underlying32 rfl hR.len) ?_
  refine l_val (gn rfl) rfl rfl (r_gtr (b := decide ((40 : Nat) < l.length)) rfl rfl (nlt 40 l.length)) ?_
  refine l_nil ?_
  refine ways (decide ((40 : Nat) < l.length)) (fun h1 => ?_) (fun h1 => ?_)
  ·skip
   have hp2 : (40 : Nat) < l.length := of_decide_eq_true h1
   refine c_condT rfl h1 ?_
   refine c_seq ?_
   refine c_reg ?_
   refine l_val (gn rfl) rfl rfl (r_assign rfl) ?_
   refine l_nil ?_
   refine c_ret ?_
   refine ret1 rfl rfl ?_
   refine ⟨false, rfl, ⟨fun e => (by cases e), fun hok => ?_⟩, fun e => (by cases e), hM0.kp⟩
   have := hok.1; simp at this; omega
  ·skip
   have hp3 : ¬ ((40 : Nat) < l.length) := of_decide_eq_false h1
   refine c_condF rfl h1 ?_
   refine c_skip ?_
   refine c_seq ?_
   refine c_reg ?_
   refine l_alloc hM0 rfl zv_Pt ?_
   intro b4 w5 hM6 hK7 hB8
   replace hM6 : Mem w [b] [(b4, (Pt.cells Pt.zero), 24)] w5 := hM6
   have hNb4 : w.heap.size ≤ b4 := Nat.le_trans hM0.kp.size hB8
   refine l_nil ?_
   refine c_seq ?_
   refine c_seq ?_
   refine c_reg ?_
   refine l_val (gn rfl) rfl rfl (r_move rfl) ?_
   refine l_val (gn rfl) rfl rfl (r_lenR Tryz.underlying32 rfl (hR.keep hM6.kp hX).len) ?_
   refine l_val (gn rfl) rfl rfl (r_move rfl) ?_
   refine l_nil ?_
   refine c_block ?_
   refine c_loop (ι := Nat × Pt) (fun p_ w_ => Mem w [b] [(b4, (Pt.cells p_.2), 24)] w_ ∧ (p_.1 ≤ l.length ∧ RollTo ks (l.map Seat.who) p_.1 p_.2 ∧ MapB w_ b (ks ++ ((l.map Seat.who).take p_.1).map Cipher.E))) (fun p_ => [(0, Sl.val s), (1, Value.func (Fn.func 46) #[] #[]), (2, Value.map (some b)), (13, Value.bool (decide ((40 : Nat) < l.length))), (7, Value.pointer (some ⟨b4, 0, none⟩)), (14, Sl.val s), (15, Value.int .i64 ((l.length : Nat) : Int)), (16, Value.int .i64 ((p_.1 : Nat) : Int))]) (fun p_ => l.length - p_.1) (0, Pt.zero) ⟨hM6, Nat.zero_le _, RollTo.start _ _ _, by simpa using (hm.keep0 hK7)⟩ ⟨rfl, rfl, rfl, rfl, rfl, rfl, rfl, rfl, trivial⟩ ?_
   rintro ⟨i, t⟩ w9 ⟨hM10, hk, hro, hmp⟩
   change AT _ [(0, Sl.val s), (1, Value.func (Fn.func 46) #[] #[]), (2, Value.map (some b)), (13, Value.bool (decide ((40 : Nat) < l.length))), (7, Value.pointer (some ⟨b4, 0, none⟩)), (14, Sl.val s), (15, Value.int .i64 ((l.length : Nat) : Int)), (16, Value.int .i64 ((i : Nat) : Int))] _ _
   replace hM10 : Mem w [b] [(b4, (Pt.cells t), 24)] w9 := hM10
   refine c_seq ?_
   refine c_reg ?_
   refine l_val (gn rfl) rfl rfl (r_lss (b := decide ((i : Nat) < l.length)) rfl rfl (nlt i l.length)) ?_
   refine l_nil ?_
   refine c_seq ?_
   refine ways (decide ((i : Nat) < l.length)) (fun h11 => ?_) (fun h11 => ?_)
   ·skip
    have hp12 : (i : Nat) < l.length := of_decide_eq_true h11
    refine c_condT rfl h11 ?_
    refine c_skip ?_
    refine c_seq ?_
    refine c_block ?_
    refine c_seq ?_
    refine c_reg ?_
    refine l_val (gn rfl) rfl rfl (r_move rfl) ?_
    have hlt13 : i < l.length := by first | assumption | omega
    obtain ⟨x13, hx13⟩ : ∃ x, l[i]? = some x := ⟨_, List.getElem?_eq_getElem hlt13⟩
    obtain ⟨p13, o13, ha13, hA13, -⟩ := (hR.keep hM10.kp hX).at_ _ _ hx13
    refine l_val (gn rfl) rfl rfl (r_indexR Tryz.underlying32 Tryz.sizeOf73 ⟨_, (hR.keep hM10.kp hX)⟩ rfl ha13 rfl hlt13) ?_
    refine l_val (gn rfl) rfl rfl (r_loadA Tryz.isAgg73 Tryz.sizeOf73 (Seat.size _) rfl ((hR.keep hM10.kp hX).ix hx13 ha13)) ?_
    refine l_alloc hM10 rfl Seat.zv ?_
    intro b14 w15 hM16 hK17 hB18
    replace hM16 : Mem w [b] [(b14, (Seat.cells Seat.zero), 73), (b4, (Pt.cells t), 24)] w15 := hM16
    have hNb14 : w.heap.size ≤ b14 := Nat.le_trans hM10.kp.size hB18
    refine l_val (gn rfl) rfl rfl (r_assign rfl) ?_
    refine l_store hM16 (i := 0) rfl Tryz.sizeOf73 rfl rfl (Seat.size _) (by rw [Seat.size]; decide) (Seat.one _) (put_whole _ _ ((Seat.size _).trans (Seat.size _).symm)) ?_
    intro w19 hM20 hK21
    replace hM20 : Mem w [b] [(b14, (Seat.cells x13), 73), (b4, (Pt.cells t), 24)] w19 := hM20
    refine l_nil ?_
    refine c_seq ?_
    refine c_reg ?_
    refine l_val (gn rfl) rfl rfl (r_move rfl) ?_
    refine l_val (gn rfl) rfl rfl (r_loadA Tryz.isAgg73 Tryz.sizeOf73 (Seat.size _) rfl (hM20.base (i := 0) rfl)) ?_
    refine l_call (gn rfl) rfl rfl (r_callv (cap := []) rfl Tryz.call46 rfl) (f46 x13) ?_
    rintro v22 w23 ⟨rfl, hK24⟩
    have hM25 := hM20.keep hK24
    refine l_alloc hM25 rfl Cipher.zv ?_
    intro b26 w27 hM28 hK29 hB30
    replace hM28 : Mem w [b] [(b26, (Cipher.cells Cipher.zero), 40), (b14, (Seat.cells x13), 73), (b4, (Pt.cells t), 24)] w27 := hM28
    have hNb26 : w.heap.size ≤ b26 := Nat.le_trans hM25.kp.size hB30
    refine l_store hM28 (i := 0) rfl Tryz.sizeOf40 rfl rfl (Cipher.size _) (by rw [Cipher.size]; decide) (Cipher.one _) (put_whole _ _ ((Cipher.size _).trans (Cipher.size _).symm)) ?_
    intro w31 hM32 hK33
    replace hM32 : Mem w [b] [(b26, (Cipher.cells x13.who), 40), (b14, (Seat.cells x13), 73), (b4, (Pt.cells t), 24)] w31 := hM32
    refine l_nil ?_
    refine c_seq ?_
    refine c_seq ?_
    refine c_regD (fun w_ => Mem w [b] [(b26, (Cipher.cells x13.who), 40), (b14, (Seat.cells x13), 73), (b4, (Pt.cells t), 24)] w_ ∧ MapB w_ b (ks ++ ((l.map Seat.who).take i).map Cipher.E)) [] [(0, true), (1, true), (2, true), (3, true), (4, true), (5, true), (6, true), (7, true), (8, true), (9, true), (10, true), (11, true), (12, false), (13, true), (14, true), (15, true)] (by kernel_rfl) ?_
    have hM34 := hM32.drew
    refine s_take ⟨hM34, ((((((hmp.keep0 hK17).keep hK21 (by simp; omega)).keep0 hK24).keep0 hK29).keep hK33 (by simp; omega)).keep0 (Keeps.drew _))⟩ rfl (gn rfl) rfl rfl (fun w h => r_move rfl) ?_
    refine s_take ⟨hM34, ((((((hmp.keep0 hK17).keep hK21 (by simp; omega)).keep0 hK24).keep0 hK29).keep hK33 (by simp; omega)).keep0 (Keeps.drew _))⟩ rfl (gn rfl) rfl rfl (fun w h => r_fieldAddr Cipher.fld_E rfl) ?_
    refine s_take ⟨hM34, ((((((hmp.keep0 hK17).keep hK21 (by simp; omega)).keep0 hK24).keep0 hK29).keep hK33 (by simp; omega)).keep0 (Keeps.drew _))⟩ rfl (gn rfl) rfl rfl (fun w h => r_loadA Tryz.isAgg24 Tryz.sizeOf24 (Pt.size _) rfl (Holds.sub (h.1.base (i := 0) rfl) (Cipher.sub_E _))) ?_
    refine s_take ⟨hM34, ((((((hmp.keep0 hK17).keep hK21 (by simp; omega)).keep0 hK24).keep0 hK29).keep hK33 (by simp; omega)).keep0 (Keeps.drew _))⟩ rfl (gn rfl) rfl rfl (fun w h => r_lookup h.2 rfl rfl) ?_
    refine s_take ⟨hM34, ((((((hmp.keep0 hK17).keep hK21 (by simp; omega)).keep0 hK24).keep0 hK29).keep hK33 (by simp; omega)).keep0 (Keeps.drew _))⟩ rfl (gn rfl) rfl rfl (fun w h => r_gtr (b := decide ((0 : Nat) < seen ((ks ++ ((l.map Seat.who).take i).map Cipher.E)) x13.who.E)) rfl rfl (nlt 0 (seen ((ks ++ ((l.map Seat.who).take i).map Cipher.E)) x13.who.E))) ?_
    refine s_take ⟨hM34, ((((((hmp.keep0 hK17).keep hK21 (by simp; omega)).keep0 hK24).keep0 hK29).keep hK33 (by simp; omega)).keep0 (Keeps.drew _))⟩ rfl (gn rfl) rfl rfl (fun w h => r_move rfl) ?_
    refine ways (decide ((0 : Nat) < seen ((ks ++ ((l.map Seat.who).take i).map Cipher.E)) x13.who.E)) (fun h36 => ?_) (fun h36 => ?_)
    ·skip
     have hp37 : (0 : Nat) < seen ((ks ++ ((l.map Seat.who).take i).map Cipher.E)) x13.who.E := of_decide_eq_true h36
     refine s_off ⟨hM34, ((((((hmp.keep0 hK17).keep hK21 (by simp; omega)).keep0 hK24).keep0 hK29).keep hK33 (by simp; omega)).keep0 (Keeps.drew _))⟩ rfl (gno rfl rfl rfl rfl h36) rfl rfl ?_
     refine s_off ⟨hM34, ((((((hmp.keep0 hK17).keep hK21 (by simp; omega)).keep0 hK24).keep0 hK29).keep hK33 (by simp; omega)).keep0 (Keeps.drew _))⟩ rfl (gno rfl rfl rfl rfl h36) rfl rfl ?_
     refine s_off ⟨hM34, ((((((hmp.keep0 hK17).keep hK21 (by simp; omega)).keep0 hK24).keep0 hK29).keep hK33 (by simp; omega)).keep0 (Keeps.drew _))⟩ rfl (gno rfl rfl rfl rfl h36) rfl rfl ?_
     refine s_off ⟨hM34, ((((((hmp.keep0 hK17).keep hK21 (by simp; omega)).keep0 hK24).keep0 hK29).keep hK33 (by simp; omega)).keep0 (Keeps.drew _))⟩ rfl (gnu rfl rfl rfl rfl) rfl rfl ?_
     refine s_off ⟨hM34, ((((((hmp.keep0 hK17).keep hK21 (by simp; omega)).keep0 hK24).keep0 hK29).keep hK33 (by simp; omega)).keep0 (Keeps.drew _))⟩ rfl (gnu rfl rfl rfl rfl) rfl rfl ?_
     refine s_off ⟨hM34, ((((((hmp.keep0 hK17).keep hK21 (by simp; omega)).keep0 hK24).keep0 hK29).keep hK33 (by simp; omega)).keep0 (Keeps.drew _))⟩ rfl (gnu rfl rfl rfl rfl) rfl rfl ?_
     refine s_offx (.inr ⟨hM34, ((((((hmp.keep0 hK17).keep hK21 (by simp; omega)).keep0 hK24).keep0 hK29).keep hK33 (by simp; omega)).keep0 (Keeps.drew _))⟩) rfl (gnu rfl rfl rfl rfl) rfl rfl ?_
     refine s_off ⟨hM34, ((((((hmp.keep0 hK17).keep hK21 (by simp; omega)).keep0 hK24).keep0 hK29).keep hK33 (by simp; omega)).keep0 (Keeps.drew _))⟩ rfl (gnu rfl rfl rfl rfl) rfl rfl ?_
     refine s_off ⟨hM34, ((((((hmp.keep0 hK17).keep hK21 (by simp; omega)).keep0 hK24).keep0 hK29).keep hK33 (by simp; omega)).keep0 (Keeps.drew _))⟩ rfl (gno rfl rfl rfl rfl h36) rfl rfl ?_
     refine s_take ⟨hM34, ((((((hmp.keep0 hK17).keep hK21 (by simp; omega)).keep0 hK24).keep0 hK29).keep hK33 (by simp; omega)).keep0 (Keeps.drew _))⟩ rfl (gn rfl) rfl rfl (fun w h => r_pickT rfl h36 rfl) ?_
     refine s_nil ?_
     refine c_condT rfl rfl ?_
     refine c_seq ?_
     refine c_reg ?_
     refine l_val (gn rfl) rfl rfl (r_assign rfl) ?_
     refine l_nil ?_
     refine c_ret ?_
     refine ret1 rfl rfl ?_
     refine ⟨false, rfl, ⟨fun e => (by cases e), fun hok => ?_⟩, fun e => (by cases e), hM34.kp⟩
     exact (RollTo.seen (by rw [List.getElem?_map, hx13]; rfl) (seen_yes (by assumption)) hok).elim
    ·skip
     have hp38 : ¬ ((0 : Nat) < seen ((ks ++ ((l.map Seat.who).take i).map Cipher.E)) x13.who.E) := of_decide_eq_false h36
     refine s_take ⟨hM34, ((((((hmp.keep0 hK17).keep hK21 (by simp; omega)).keep0 hK24).keep0 hK29).keep hK33 (by simp; omega)).keep0 (Keeps.drew _))⟩ rfl (gy rfl rfl rfl rfl h36) rfl rfl (fun w h => r_move rfl) ?_
     refine s_take ⟨hM34, ((((((hmp.keep0 hK17).keep hK21 (by simp; omega)).keep0 hK24).keep0 hK29).keep hK33 (by simp; omega)).keep0 (Keeps.drew _))⟩ rfl (gy rfl rfl rfl rfl h36) rfl rfl (fun w h => r_gtr (b := decide ((0 : Nat) < i)) rfl rfl (nlt 0 i)) ?_
     refine s_take ⟨hM34, ((((((hmp.keep0 hK17).keep hK21 (by simp; omega)).keep0 hK24).keep0 hK29).keep hK33 (by simp; omega)).keep0 (Keeps.drew _))⟩ rfl (gy rfl rfl rfl rfl h36) rfl rfl (fun w h => r_move rfl) ?_
     refine ways (decide ((0 : Nat) < i)) (fun h39 => ?_) (fun h39 => ?_)
     ·skip
      have hp40 : (0 : Nat) < i := of_decide_eq_true h39
      refine s_take ⟨hM34, ((((((hmp.keep0 hK17).keep hK21 (by simp; omega)).keep0 hK24).keep0 hK29).keep hK33 (by simp; omega)).keep0 (Keeps.drew _))⟩ rfl (gy rfl rfl rfl rfl h39) rfl rfl (fun w h => r_sliceArr Tryz.underlying24 Tryz.sizeOf5 rfl) ?_
      refine s_take ⟨hM34, ((((((hmp.keep0 hK17).keep hK21 (by simp; omega)).keep0 hK24).keep0 hK29).keep hK33 (by simp; omega)).keep0 (Keeps.drew _))⟩ rfl (gy rfl rfl rfl rfl h39) rfl rfl (fun w h => r_fieldAddr Cipher.fld_E rfl) ?_
      refine s_take ⟨hM34, ((((((hmp.keep0 hK17).keep hK21 (by simp; omega)).keep0 hK24).keep0 hK29).keep hK33 (by simp; omega)).keep0 (Keeps.drew _))⟩ rfl (gy rfl rfl rfl rfl h39) rfl rfl (fun w h => r_sliceArr Tryz.underlying24 Tryz.sizeOf5 rfl) ?_
      refine s_call rfl (gy rfl rfl rfl rfl h39) rfl rfl (r_call Tryz.call88 rfl) (f88 (hM34.base (i := 2) rfl) (Holds.sub (hM34.base (i := 0) rfl) (Cipher.sub_E _))) ?_
      rintro v41 w42 ⟨rfl, hK43⟩
      have hM44 := hM34.keep hK43
      refine ⟨.inr ⟨hM44, (((((((hmp.keep0 hK17).keep hK21 (by simp; omega)).keep0 hK24).keep0 hK29).keep hK33 (by simp; omega)).keep0 (Keeps.drew _)).keep0 hK43)⟩, ?_⟩
      refine s_take ⟨hM44, (((((((hmp.keep0 hK17).keep hK21 (by simp; omega)).keep0 hK24).keep0 hK29).keep hK33 (by simp; omega)).keep0 (Keeps.drew _)).keep0 hK43)⟩ rfl (gy rfl rfl rfl rfl h39) rfl rfl (fun w h => r_geq (b := decide ((((0 : Nat) : Int) : Int) ≤ (ptCmp t x13.who.E : Int))) rfl rfl rfl) ?_
      refine s_take ⟨hM44, (((((((hmp.keep0 hK17).keep hK21 (by simp; omega)).keep0 hK24).keep0 hK29).keep hK33 (by simp; omega)).keep0 (Keeps.drew _)).keep0 hK43)⟩ rfl (gy rfl rfl rfl rfl h36) rfl rfl (fun w h => r_pickT rfl h39 rfl) ?_
      refine s_take ⟨hM44, (((((((hmp.keep0 hK17).keep hK21 (by simp; omega)).keep0 hK24).keep0 hK29).keep hK33 (by simp; omega)).keep0 (Keeps.drew _)).keep0 hK43)⟩ rfl (gn rfl) rfl rfl (fun w h => r_pickF rfl h36 rfl) ?_
      refine s_nil ?_
      refine ways (decide ((((0 : Nat) : Int) : Int) ≤ (ptCmp t x13.who.E : Int))) (fun h45 => ?_) (fun h45 => ?_)
      ·skip
       have hp46 : (((0 : Nat) : Int) : Int) ≤ (ptCmp t x13.who.E : Int) := of_decide_eq_true h45
       refine c_condT rfl h45 ?_
       refine c_seq ?_
       refine c_reg ?_
       refine l_val (gn rfl) rfl rfl (r_assign rfl) ?_
       refine l_nil ?_
       refine c_ret ?_
       refine ret1 rfl rfl ?_
       refine ⟨false, rfl, ⟨fun e => (by cases e), fun hok => ?_⟩, fun e => (by cases e), hM44.kp⟩
       exact (hro.down (by rw [List.getElem?_map, hx13]; rfl) (by assumption) (cmp_yes (by assumption)) hok).elim
      ·skip
       have hp47 : ¬ ((((0 : Nat) : Int) : Int) ≤ (ptCmp t x13.who.E : Int)) := of_decide_eq_false h45
       refine c_condF rfl h45 ?_
       refine c_skip ?_
       refine c_seq ?_
       refine c_reg ?_
       refine l_val (gn rfl) rfl rfl (r_move rfl) ?_
       refine l_val (gn rfl) rfl rfl (r_fieldAddr Cipher.fld_E rfl) ?_
       refine l_val (gn rfl) rfl rfl (r_loadA Tryz.isAgg24 Tryz.sizeOf24 (Pt.size _) rfl (Holds.sub (hM44.base (i := 0) rfl) (Cipher.sub_E _))) ?_
       refine l_mapUpdate hM44 (((((((hmp.keep0 hK17).keep hK21 (by simp; omega)).keep0 hK24).keep0 hK29).keep hK33 (by simp; omega)).keep0 (Keeps.drew _)).keep0 hK43) (seen_no (by assumption)) rfl rfl rfl (by simp) (by simp; omega) ?_
       intro w48 hM49 hK50 hm51
       refine l_nil ?_
       refine c_reg ?_
       refine l_val (gn rfl) rfl rfl (r_fieldAddr Cipher.fld_E rfl) ?_
       refine l_val (gn rfl) rfl rfl (r_loadA Tryz.isAgg24 Tryz.sizeOf24 (Pt.size _) rfl (Holds.sub (hM49.base (i := 0) rfl) (Cipher.sub_E _))) ?_
       refine l_store hM49 (i := 2) rfl Tryz.sizeOf24 rfl rfl (Pt.size _) (by rw [Pt.size]; decide) (Pt.one _) (put_whole _ _ ((Pt.size _).trans (Pt.size _).symm)) ?_
       intro w52 hM53 hK54
       replace hM53 : Mem w [b] [(b26, (Cipher.cells x13.who), 40), (b14, (Seat.cells x13), 73), (b4, (Pt.cells x13.who.E), 24)] w52 := hM53
       refine l_nil ?_
       refine c_reg ?_
       refine l_val (gn rfl) rfl rfl (r_add (r := ((i + 1 : Nat) : Int)) rfl rfl (nadd (i := i) (k := 1) (m := i + 1) (by omega) (by omega))) ?_
       refine l_val (gn rfl) rfl rfl (r_move rfl) ?_
       refine l_nil ?_
       intro a_ ha_
       refine ⟨(i + 1, x13.who.E), ⟨(hM53.forget (.cons _ (.cons _ (.refl _)))), ?_⟩, by omega, ha_.sub ⟨rfl, rfl, rfl, rfl, rfl, rfl, rfl, rfl, trivial⟩⟩
       exact ⟨by omega, hro.step (by rw [List.getElem?_map, hx13]; rfl) (seen_no (by assumption)) (fun h0 => by first | exact cmp_no (by assumption) | exact absurd h0 (by assumption)), by rw [take_step (show (l.map Seat.who)[i]? = some _ from by rw [List.getElem?_map, hx13]; rfl), List.map_append, ← List.append_assoc]; exact (hm51.keep hK54 (by simp; omega))⟩
     ·skip
      have hp55 : ¬ ((0 : Nat) < i) := of_decide_eq_false h39
      refine s_off ⟨hM34, ((((((hmp.keep0 hK17).keep hK21 (by simp; omega)).keep0 hK24).keep0 hK29).keep hK33 (by simp; omega)).keep0 (Keeps.drew _))⟩ rfl (gno rfl rfl rfl rfl h39) rfl rfl ?_
      refine s_off ⟨hM34, ((((((hmp.keep0 hK17).keep hK21 (by simp; omega)).keep0 hK24).keep0 hK29).keep hK33 (by simp; omega)).keep0 (Keeps.drew _))⟩ rfl (gno rfl rfl rfl rfl h39) rfl rfl ?_
      refine s_off ⟨hM34, ((((((hmp.keep0 hK17).keep hK21 (by simp; omega)).keep0 hK24).keep0 hK29).keep hK33 (by simp; omega)).keep0 (Keeps.drew _))⟩ rfl (gno rfl rfl rfl rfl h39) rfl rfl ?_
      refine s_offx (.inr ⟨hM34, ((((((hmp.keep0 hK17).keep hK21 (by simp; omega)).keep0 hK24).keep0 hK29).keep hK33 (by simp; omega)).keep0 (Keeps.drew _))⟩) rfl (gno rfl rfl rfl rfl h39) rfl rfl ?_
      refine s_off ⟨hM34, ((((((hmp.keep0 hK17).keep hK21 (by simp; omega)).keep0 hK24).keep0 hK29).keep hK33 (by simp; omega)).keep0 (Keeps.drew _))⟩ rfl (gno rfl rfl rfl rfl h39) rfl rfl ?_
      refine s_take ⟨hM34, ((((((hmp.keep0 hK17).keep hK21 (by simp; omega)).keep0 hK24).keep0 hK29).keep hK33 (by simp; omega)).keep0 (Keeps.drew _))⟩ rfl (gy rfl rfl rfl rfl h36) rfl rfl (fun w h => r_pickF rfl h39 rfl) ?_
      refine s_take ⟨hM34, ((((((hmp.keep0 hK17).keep hK21 (by simp; omega)).keep0 hK24).keep0 hK29).keep hK33 (by simp; omega)).keep0 (Keeps.drew _))⟩ rfl (gn rfl) rfl rfl (fun w h => r_pickF rfl h36 rfl) ?_
      refine s_nil ?_
      refine c_condF rfl rfl ?_
      refine c_skip ?_
      refine c_seq ?_
      refine c_reg ?_
      refine l_val (gn rfl) rfl rfl (r_move rfl) ?_
      refine l_val (gn rfl) rfl rfl (r_fieldAddr Cipher.fld_E rfl) ?_
      refine l_val (gn rfl) rfl rfl (r_loadA Tryz.isAgg24 Tryz.sizeOf24 (Pt.size _) rfl (Holds.sub (hM34.base (i := 0) rfl) (Cipher.sub_E _))) ?_
      refine l_mapUpdate hM34 ((((((hmp.keep0 hK17).keep hK21 (by simp; omega)).keep0 hK24).keep0 hK29).keep hK33 (by simp; omega)).keep0 (Keeps.drew _)) (seen_no (by assumption)) rfl rfl rfl (by simp) (by simp; omega) ?_
      intro w56 hM57 hK58 hm59
      refine l_nil ?_
      refine c_reg ?_
      refine l_val (gn rfl) rfl rfl (r_fieldAddr Cipher.fld_E rfl) ?_
      refine l_val (gn rfl) rfl rfl (r_loadA Tryz.isAgg24 Tryz.sizeOf24 (Pt.size _) rfl (Holds.sub (hM57.base (i := 0) rfl) (Cipher.sub_E _))) ?_
      refine l_store hM57 (i := 2) rfl Tryz.sizeOf24 rfl rfl (Pt.size _) (by rw [Pt.size]; decide) (Pt.one _) (put_whole _ _ ((Pt.size _).trans (Pt.size _).symm)) ?_
      intro w60 hM61 hK62
      replace hM61 : Mem w [b] [(b26, (Cipher.cells x13.who), 40), (b14, (Seat.cells x13), 73), (b4, (Pt.cells x13.who.E), 24)] w60 := hM61
      refine l_nil ?_
      refine c_reg ?_
      refine l_val (gn rfl) rfl rfl (r_add (r := ((i + 1 : Nat) : Int)) rfl rfl (nadd (i := i) (k := 1) (m := i + 1) (by omega) (by omega))) ?_
      refine l_val (gn rfl) rfl rfl (r_move rfl) ?_
      refine l_nil ?_
      intro a_ ha_
      refine ⟨(i + 1, x13.who.E), ⟨(hM61.forget (.cons _ (.cons _ (.refl _)))), ?_⟩, by omega, ha_.sub ⟨rfl, rfl, rfl, rfl, rfl, rfl, rfl, rfl, trivial⟩⟩
      exact ⟨by omega, hro.step (by rw [List.getElem?_map, hx13]; rfl) (seen_no (by assumption)) (fun h0 => by first | exact cmp_no (by assumption) | exact absurd h0 (by assumption)), by rw [take_step (show (l.map Seat.who)[i]? = some _ from by rw [List.getElem?_map, hx13]; rfl), List.map_append, ← List.append_assoc]; exact (hm59.keep hK62 (by simp; omega))⟩
   ·skip
    have hp63 : ¬ ((i : Nat) < l.length) := of_decide_eq_false h11
    refine c_condF rfl h11 ?_
    refine c_exit rfl ?_
    refine c_seq ?_
    refine c_reg ?_
    refine l_val (gn rfl) rfl rfl (r_assign rfl) ?_
    refine l_nil ?_
    refine c_ret ?_
    refine ret1 rfl rfl ?_
    exact ⟨true, rfl, ⟨fun _ => hro.done (by simpa using (show l.length ≤ 40 from by omega)) (by simpa using (show ¬ i < l.length from by assumption)), fun _ => rfl⟩, fun _ => by have := hmp; rw [List.take_of_length_le (by simp; omega)] at this; exact this, hM10.kp⟩
theorem f48 {w : World} (x : Invite) : Ret 48 #[.agg x.cells] w (fun v w' => v = .agg x.who.cells ∧ Keeps [] w w') := by
  have hM0 := Mem.start w
  refine enter Tryz.func48 rfl rfl ?_
  refine c_seq ?_
  refine c_reg ?_
  refine l_box hM0 rfl rfl ?_
  intro b1 w2 hM3 hK4 hB5
  replace hM3 : Mem w [] [(b1, (Invite.cells x), 82)] w2 := hM3
  refine l_alloc hM3 rfl Cipher.zv ?_
  intro b6 w7 hM8 hK9 hB10
  replace hM8 : Mem w [] [(b6, (Cipher.cells Cipher.zero), 40), (b1, (Invite.cells x), 82)] w7 := hM8
  refine l_nil ?_
  refine c_seq ?_
  refine c_reg ?_
  refine l_val (gn rfl) rfl rfl (r_fieldAddr Invite.fld_who rfl) ?_
  refine l_val (gn rfl) rfl rfl (r_loadA Tryz.isAgg40 Tryz.sizeOf40 (Cipher.size _) rfl (Holds.sub (hM8.base (i := 1) rfl) (Invite.sub_who _))) ?_
  refine l_store hM8 (i := 0) rfl Tryz.sizeOf40 rfl rfl (Cipher.size _) (by rw [Cipher.size]; decide) (Cipher.one _) (put_whole _ _ ((Cipher.size _).trans (Cipher.size _).symm)) ?_
  intro w11 hM12 hK13
  replace hM12 : Mem w [] [(b6, (Cipher.cells x.who), 40), (b1, (Invite.cells x), 82)] w11 := hM12
  refine l_nil ?_
  refine c_ret ?_
  refine retC rfl Tryz.isAgg40 Tryz.sizeOf40 (Cipher.size _) rfl (hM12.base (i := 0) rfl) ?_
  exact ⟨rfl, hM12.kp⟩
theorem f47 {A : Nat → Prop} {w : World} {s : Sl} {l : List Invite} {b : Nat} {ks : List Pt} (hR : Row A w s 129 Invite.cells l) (hA : ¬ A b) (hm : MapB w b ks) :
    Ret 47 #[s.val, .func (.func 48) #[] #[], .map (some b)] w (fun v w' => ∃ r : Bool, v = .bool r ∧ (r = true ↔ OkRoll ks (l.map Invite.who)) ∧ (r = true → MapB w' b (ks ++ (l.map Invite.who).map Cipher.E)) ∧ Keeps [b] w w') := by
  have hn := hR.bd
  have hX : ∀ x ∈ [b], ¬ A x := by simpa using hA
  have hM0 : Mem w [b] [] w := ⟨Keeps.refl _ _, by simp, by simp, by simp⟩
  have hbl := hm.lt
  refine enter Tryz.func47 rfl rfl ?_
  refine c_seq ?_
  refine c_reg ?_
  refine l_val (gn rfl) rfl rfl (r_assign rfl) ?_
  refine l_nil ?_
  refine c_seq ?_
  refine c_seq ?_
  refine c_reg ?_
  refine l_val (gn rfl) rfl rfl (r_move rfl) ?_
  refine l_val (gn rfl) rfl rfl (r_lenR Tryz.underlying33 rfl hR.len) ?_
  refine l_val (gn rfl) rfl rfl (r_gtr (b := decide ((40 : Nat) < l.length)) rfl rfl (nlt 40 l.length)) ?_
  refine l_nil ?_
  refine ways (decide ((40 : Nat) < l.length)) (fun h1 => ?_) (fun h1 => ?_)
  ·skip
   have hp2 : (40 : Nat) < l.length := of_decide_eq_true h1
   refine c_condT rfl h1 ?_
   refine c_seq ?_
   refine c_reg ?_
   refine l_val (gn rfl) rfl rfl (r_assign rfl) ?_
   refine l_nil ?_
   refine c_ret ?_
   refine ret1 rfl rfl ?_
   refine ⟨false, rfl, ⟨fun e => (by cases e), fun hok => ?_⟩, fun e => (by cases e), hM0.kp⟩
   have := hok.1; simp at this; omega
  ·skip
   have hp3 : ¬ ((40 : Nat) < l.length) := of_decide_eq_false h1
   refine c_condF rfl h1 ?_
   refine c_skip ?_
   refine c_seq ?_
   refine c_reg ?_
   refine l_alloc hM0 rfl zv_Pt ?_
   intro b4 w5 hM6 hK7 hB8
   replace hM6 : Mem w [b] [(b4, (Pt.cells Pt.zero), 24)] w5 := hM6
   have hNb4 : w.heap.size ≤ b4 := Nat.le_trans hM0.kp.size hB8
   refine l_nil ?_
   refine c_seq ?_
   refine c_seq ?_
   refine c_reg ?_
   refine l_val (gn rfl) rfl rfl (r_move rfl) ?_
   refine l_val (gn rfl) rfl rfl (r_lenR Tryz.underlying33 rfl (hR.keep hM6.kp hX).len) ?_
   refine l_val (gn rfl) rfl rfl (r_move rfl) ?_
   refine l_nil ?_
   refine c_block ?_
   refine c_loop (ι := Nat × Pt) (fun p_ w_ => Mem w [b] [(b4, (Pt.cells p_.2), 24)] w_ ∧ (p_.1 ≤ l.length ∧ RollTo ks (l.map Invite.who) p_.1 p_.2 ∧ MapB w_ b (ks ++ ((l.map Invite.who).take p_.1).map Cipher.E))) (fun p_ => [(0, Sl.val s), (1, Value.func (Fn.func 48) #[] #[]), (2, Value.map (some b)), (13, Value.bool (decide ((40 : Nat) < l.length))), (7, Value.pointer (some ⟨b4, 0, none⟩)), (14, Sl.val s), (15, Value.int .i64 ((l.length : Nat) : Int)), (16, Value.int .i64 ((p_.1 : Nat) : Int))]) (fun p_ => l.length - p_.1) (0, Pt.zero) ⟨hM6, Nat.zero_le _, RollTo.start _ _ _, by simpa using (hm.keep0 hK7)⟩ ⟨rfl, rfl, rfl, rfl, rfl, rfl, rfl, rfl, trivial⟩ ?_
   rintro ⟨i, t⟩ w9 ⟨hM10, hk, hro, hmp⟩
   change AT _ [(0, Sl.val s), (1, Value.func (Fn.func 48) #[] #[]), (2, Value.map (some b)), (13, Value.bool (decide ((40 : Nat) < l.length))), (7, Value.pointer (some ⟨b4, 0, none⟩)), (14, Sl.val s), (15, Value.int .i64 ((l.length : Nat) : Int)), (16, Value.int .i64 ((i : Nat) : Int))] _ _
   replace hM10 : Mem w [b] [(b4, (Pt.cells t), 24)] w9 := hM10
   refine c_seq ?_
   refine c_reg ?_
   refine l_val (gn rfl) rfl rfl (r_lss (b := decide ((i : Nat) < l.length)) rfl rfl (nlt i l.length)) ?_
   refine l_nil ?_
   refine c_seq ?_
   refine ways (decide ((i : Nat) < l.length)) (fun h11 => ?_) (fun h11 => ?_)
   ·skip
    have hp12 : (i : Nat) < l.length := of_decide_eq_true h11
    refine c_condT rfl h11 ?_
    refine c_skip ?_
    refine c_seq ?_
    refine c_block ?_
    refine c_seq ?_
    refine c_reg ?_
    refine l_val (gn rfl) rfl rfl (r_move rfl) ?_
    have hlt13 : i < l.length := by first | assumption | omega
    obtain ⟨x13, hx13⟩ : ∃ x, l[i]? = some x := ⟨_, List.getElem?_eq_getElem hlt13⟩
    obtain ⟨p13, o13, ha13, hA13, -⟩ := (hR.keep hM10.kp hX).at_ _ _ hx13
    refine l_val (gn rfl) rfl rfl (r_indexR Tryz.underlying33 Tryz.sizeOf82 ⟨_, (hR.keep hM10.kp hX)⟩ rfl ha13 rfl hlt13) ?_
    refine l_val (gn rfl) rfl rfl (r_loadA Tryz.isAgg82 Tryz.sizeOf82 (Invite.size _) rfl ((hR.keep hM10.kp hX).ix hx13 ha13)) ?_
    refine l_alloc hM10 rfl Invite.zv ?_
    intro b14 w15 hM16 hK17 hB18
    replace hM16 : Mem w [b] [(b14, (Invite.cells Invite.zero), 82), (b4, (Pt.cells t), 24)] w15 := hM16
    have hNb14 : w.heap.size ≤ b14 := Nat.le_trans hM10.kp.size hB18
    refine l_val (gn rfl) rfl rfl (r_assign rfl) ?_
    refine l_store hM16 (i := 0) rfl Tryz.sizeOf82 rfl rfl (Invite.size _) (by rw [Invite.size]; decide) (Invite.one _) (put_whole _ _ ((Invite.size _).trans (Invite.size _).symm)) ?_
    intro w19 hM20 hK21
    replace hM20 : Mem w [b] [(b14, (Invite.cells x13), 82), (b4, (Pt.cells t), 24)] w19 := hM20
    refine l_nil ?_
    refine c_seq ?_
    refine c_reg ?_
    refine l_val (gn rfl) rfl rfl (r_move rfl) ?_
    refine l_val (gn rfl) rfl rfl (r_loadA Tryz.isAgg82 Tryz.sizeOf82 (Invite.size _) rfl (hM20.base (i := 0) rfl)) ?_
    refine l_call (gn rfl) rfl rfl (r_callv (cap := []) rfl Tryz.call48 rfl) (f48 x13) ?_
    rintro v22 w23 ⟨rfl, hK24⟩
    have hM25 := hM20.keep hK24
    refine l_alloc hM25 rfl Cipher.zv ?_
    intro b26 w27 hM28 hK29 hB30
    replace hM28 : Mem w [b] [(b26, (Cipher.cells Cipher.zero), 40), (b14, (Invite.cells x13), 82), (b4, (Pt.cells t), 24)] w27 := hM28
    have hNb26 : w.heap.size ≤ b26 := Nat.le_trans hM25.kp.size hB30
    refine l_store hM28 (i := 0) rfl Tryz.sizeOf40 rfl rfl (Cipher.size _) (by rw [Cipher.size]; decide) (Cipher.one _) (put_whole _ _ ((Cipher.size _).trans (Cipher.size _).symm)) ?_
    intro w31 hM32 hK33
    replace hM32 : Mem w [b] [(b26, (Cipher.cells x13.who), 40), (b14, (Invite.cells x13), 82), (b4, (Pt.cells t), 24)] w31 := hM32
    refine l_nil ?_
    refine c_seq ?_
    refine c_seq ?_
    refine c_regD (fun w_ => Mem w [b] [(b26, (Cipher.cells x13.who), 40), (b14, (Invite.cells x13), 82), (b4, (Pt.cells t), 24)] w_ ∧ MapB w_ b (ks ++ ((l.map Invite.who).take i).map Cipher.E)) [] [(0, true), (1, true), (2, true), (3, true), (4, true), (5, true), (6, true), (7, true), (8, true), (9, true), (10, true), (11, true), (12, false), (13, true), (14, true), (15, true)] (by kernel_rfl) ?_
    have hM34 := hM32.drew
    refine s_take ⟨hM34, ((((((hmp.keep0 hK17).keep hK21 (by simp; omega)).keep0 hK24).keep0 hK29).keep hK33 (by simp; omega)).keep0 (Keeps.drew _))⟩ rfl (gn rfl) rfl rfl (fun w h => r_move rfl) ?_
    refine s_take ⟨hM34, ((((((hmp.keep0 hK17).keep hK21 (by simp; omega)).keep0 hK24).keep0 hK29).keep hK33 (by simp; omega)).keep0 (Keeps.drew _))⟩ rfl (gn rfl) rfl rfl (fun w h => r_fieldAddr Cipher.fld_E rfl) ?_
    refine s_take ⟨hM34, ((((((hmp.keep0 hK17).keep hK21 (by simp; omega)).keep0 hK24).keep0 hK29).keep hK33 (by simp; omega)).keep0 (Keeps.drew _))⟩ rfl (gn rfl) rfl rfl (fun w h => r_loadA Tryz.isAgg24 Tryz.sizeOf24 (Pt.size _) rfl (Holds.sub (h.1.base (i := 0) rfl) (Cipher.sub_E _))) ?_
    refine s_take ⟨hM34, ((((((hmp.keep0 hK17).keep hK21 (by simp; omega)).keep0 hK24).keep0 hK29).keep hK33 (by simp; omega)).keep0 (Keeps.drew _))⟩ rfl (gn rfl) rfl rfl (fun w h => r_lookup h.2 rfl rfl) ?_
    refine s_take ⟨hM34, ((((((hmp.keep0 hK17).keep hK21 (by simp; omega)).keep0 hK24).keep0 hK29).keep hK33 (by simp; omega)).keep0 (Keeps.drew _))⟩ rfl (gn rfl) rfl rfl (fun w h => r_gtr (b := decide ((0 : Nat) < seen ((ks ++ ((l.map Invite.who).take i).map Cipher.E)) x13.who.E)) rfl rfl (nlt 0 (seen ((ks ++ ((l.map Invite.who).take i).map Cipher.E)) x13.who.E))) ?_
    refine s_take ⟨hM34, ((((((hmp.keep0 hK17).keep hK21 (by simp; omega)).keep0 hK24).keep0 hK29).keep hK33 (by simp; omega)).keep0 (Keeps.drew _))⟩ rfl (gn rfl) rfl rfl (fun w h => r_move rfl) ?_
    refine ways (decide ((0 : Nat) < seen ((ks ++ ((l.map Invite.who).take i).map Cipher.E)) x13.who.E)) (fun h36 => ?_) (fun h36 => ?_)
    ·skip
     have hp37 : (0 : Nat) < seen ((ks ++ ((l.map Invite.who).take i).map Cipher.E)) x13.who.E := of_decide_eq_true h36
     refine s_off ⟨hM34, ((((((hmp.keep0 hK17).keep hK21 (by simp; omega)).keep0 hK24).keep0 hK29).keep hK33 (by simp; omega)).keep0 (Keeps.drew _))⟩ rfl (gno rfl rfl rfl rfl h36) rfl rfl ?_
     refine s_off ⟨hM34, ((((((hmp.keep0 hK17).keep hK21 (by simp; omega)).keep0 hK24).keep0 hK29).keep hK33 (by simp; omega)).keep0 (Keeps.drew _))⟩ rfl (gno rfl rfl rfl rfl h36) rfl rfl ?_
     refine s_off ⟨hM34, ((((((hmp.keep0 hK17).keep hK21 (by simp; omega)).keep0 hK24).keep0 hK29).keep hK33 (by simp; omega)).keep0 (Keeps.drew _))⟩ rfl (gno rfl rfl rfl rfl h36) rfl rfl ?_
     refine s_off ⟨hM34, ((((((hmp.keep0 hK17).keep hK21 (by simp; omega)).keep0 hK24).keep0 hK29).keep hK33 (by simp; omega)).keep0 (Keeps.drew _))⟩ rfl (gnu rfl rfl rfl rfl) rfl rfl ?_
     refine s_off ⟨hM34, ((((((hmp.keep0 hK17).keep hK21 (by simp; omega)).keep0 hK24).keep0 hK29).keep hK33 (by simp; omega)).keep0 (Keeps.drew _))⟩ rfl (gnu rfl rfl rfl rfl) rfl rfl ?_
     refine s_off ⟨hM34, ((((((hmp.keep0 hK17).keep hK21 (by simp; omega)).keep0 hK24).keep0 hK29).keep hK33 (by simp; omega)).keep0 (Keeps.drew _))⟩ rfl (gnu rfl rfl rfl rfl) rfl rfl ?_
     refine s_offx (.inr ⟨hM34, ((((((hmp.keep0 hK17).keep hK21 (by simp; omega)).keep0 hK24).keep0 hK29).keep hK33 (by simp; omega)).keep0 (Keeps.drew _))⟩) rfl (gnu rfl rfl rfl rfl) rfl rfl ?_
     refine s_off ⟨hM34, ((((((hmp.keep0 hK17).keep hK21 (by simp; omega)).keep0 hK24).keep0 hK29).keep hK33 (by simp; omega)).keep0 (Keeps.drew _))⟩ rfl (gnu rfl rfl rfl rfl) rfl rfl ?_
     refine s_off ⟨hM34, ((((((hmp.keep0 hK17).keep hK21 (by simp; omega)).keep0 hK24).keep0 hK29).keep hK33 (by simp; omega)).keep0 (Keeps.drew _))⟩ rfl (gno rfl rfl rfl rfl h36) rfl rfl ?_
     refine s_take ⟨hM34, ((((((hmp.keep0 hK17).keep hK21 (by simp; omega)).keep0 hK24).keep0 hK29).keep hK33 (by simp; omega)).keep0 (Keeps.drew _))⟩ rfl (gn rfl) rfl rfl (fun w h => r_pickT rfl h36 rfl) ?_
     refine s_nil ?_
     refine c_condT rfl rfl ?_
     refine c_seq ?_
     refine c_reg ?_
     refine l_val (gn rfl) rfl rfl (r_assign rfl) ?_
     refine l_nil ?_
     refine c_ret ?_
     refine ret1 rfl rfl ?_
     refine ⟨false, rfl, ⟨fun e => (by cases e), fun hok => ?_⟩, fun e => (by cases e), hM34.kp⟩
     exact (RollTo.seen (by rw [List.getElem?_map, hx13]; rfl) (seen_yes (by assumption)) hok).elim
    ·skip
     have hp38 : ¬ ((0 : Nat) < seen ((ks ++ ((l.map Invite.who).take i).map Cipher.E)) x13.who.E) := of_decide_eq_false h36
     refine s_take ⟨hM34, ((((((hmp.keep0 hK17).keep hK21 (by simp; omega)).keep0 hK24).keep0 hK29).keep hK33 (by simp; omega)).keep0 (Keeps.drew _))⟩ rfl (gy rfl rfl rfl rfl h36) rfl rfl (fun w h => r_move rfl) ?_
     refine s_take ⟨hM34, ((((((hmp.keep0 hK17).keep hK21 (by simp; omega)).keep0 hK24).keep0 hK29).keep hK33 (by simp; omega)).keep0 (Keeps.drew _))⟩ rfl (gy rfl rfl rfl rfl h36) rfl rfl (fun w h => r_gtr (b := decide ((0 : Nat) < i)) rfl rfl (nlt 0 i)) ?_
     refine s_take ⟨hM34, ((((((hmp.keep0 hK17).keep hK21 (by simp; omega)).keep0 hK24).keep0 hK29).keep hK33 (by simp; omega)).keep0 (Keeps.drew _))⟩ rfl (gy rfl rfl rfl rfl h36) rfl rfl (fun w h => r_move rfl) ?_
     refine ways (decide ((0 : Nat) < i)) (fun h39 => ?_) (fun h39 => ?_)
     ·skip
      have hp40 : (0 : Nat) < i := of_decide_eq_true h39
      refine s_take ⟨hM34, ((((((hmp.keep0 hK17).keep hK21 (by simp; omega)).keep0 hK24).keep0 hK29).keep hK33 (by simp; omega)).keep0 (Keeps.drew _))⟩ rfl (gy rfl rfl rfl rfl h39) rfl rfl (fun w h => r_sliceArr Tryz.underlying24 Tryz.sizeOf5 rfl) ?_
      refine s_take ⟨hM34, ((((((hmp.keep0 hK17).keep hK21 (by simp; omega)).keep0 hK24).keep0 hK29).keep hK33 (by simp; omega)).keep0 (Keeps.drew _))⟩ rfl (gy rfl rfl rfl rfl h39) rfl rfl (fun w h => r_fieldAddr Cipher.fld_E rfl) ?_
      refine s_take ⟨hM34, ((((((hmp.keep0 hK17).keep hK21 (by simp; omega)).keep0 hK24).keep0 hK29).keep hK33 (by simp; omega)).keep0 (Keeps.drew _))⟩ rfl (gy rfl rfl rfl rfl h39) rfl rfl (fun w h => r_sliceArr Tryz.underlying24 Tryz.sizeOf5 rfl) ?_
      refine s_call rfl (gy rfl rfl rfl rfl h39) rfl rfl (r_call Tryz.call88 rfl) (f88 (hM34.base (i := 2) rfl) (Holds.sub (hM34.base (i := 0) rfl) (Cipher.sub_E _))) ?_
      rintro v41 w42 ⟨rfl, hK43⟩
      have hM44 := hM34.keep hK43
      refine ⟨.inr ⟨hM44, (((((((hmp.keep0 hK17).keep hK21 (by simp; omega)).keep0 hK24).keep0 hK29).keep hK33 (by simp; omega)).keep0 (Keeps.drew _)).keep0 hK43)⟩, ?_⟩
      refine s_take ⟨hM44, (((((((hmp.keep0 hK17).keep hK21 (by simp; omega)).keep0 hK24).keep0 hK29).keep hK33 (by simp; omega)).keep0 (Keeps.drew _)).keep0 hK43)⟩ rfl (gy rfl rfl rfl rfl h39) rfl rfl (fun w h => r_geq (b := decide ((((0 : Nat) : Int) : Int) ≤ (ptCmp t x13.who.E : Int))) rfl rfl rfl) ?_
      refine s_take ⟨hM44, (((((((hmp.keep0 hK17).keep hK21 (by simp; omega)).keep0 hK24).keep0 hK29).keep hK33 (by simp; omega)).keep0 (Keeps.drew _)).keep0 hK43)⟩ rfl (gy rfl rfl rfl rfl h36) rfl rfl (fun w h => r_pickT rfl h39 rfl) ?_
      refine s_take ⟨hM44, (((((((hmp.keep0 hK17).keep hK21 (by simp; omega)).keep0 hK24).keep0 hK29).keep hK33 (by simp; omega)).keep0 (Keeps.drew _)).keep0 hK43)⟩ rfl (gn rfl) rfl rfl (fun w h => r_pickF rfl h36 rfl) ?_
      refine s_nil ?_
      refine ways (decide ((((0 : Nat) : Int) : Int) ≤ (ptCmp t x13.who.E : Int))) (fun h45 => ?_) (fun h45 => ?_)
      ·skip
       have hp46 : (((0 : Nat) : Int) : Int) ≤ (ptCmp t x13.who.E : Int) := of_decide_eq_true h45
       refine c_condT rfl h45 ?_
       refine c_seq ?_
       refine c_reg ?_
       refine l_val (gn rfl) rfl rfl (r_assign rfl) ?_
       refine l_nil ?_
       refine c_ret ?_
       refine ret1 rfl rfl ?_
       refine ⟨false, rfl, ⟨fun e => (by cases e), fun hok => ?_⟩, fun e => (by cases e), hM44.kp⟩
       exact (hro.down (by rw [List.getElem?_map, hx13]; rfl) (by assumption) (cmp_yes (by assumption)) hok).elim
      ·skip
       have hp47 : ¬ ((((0 : Nat) : Int) : Int) ≤ (ptCmp t x13.who.E : Int)) := of_decide_eq_false h45
       refine c_condF rfl h45 ?_
       refine c_skip ?_
       refine c_seq ?_
       refine c_reg ?_
       refine l_val (gn rfl) rfl rfl (r_move rfl) ?_
       refine l_val (gn rfl) rfl rfl (r_fieldAddr Cipher.fld_E rfl) ?_
       refine l_val (gn rfl) rfl rfl (r_loadA Tryz.isAgg24 Tryz.sizeOf24 (Pt.size _) rfl (Holds.sub (hM44.base (i := 0) rfl) (Cipher.sub_E _))) ?_
       refine l_mapUpdate hM44 (((((((hmp.keep0 hK17).keep hK21 (by simp; omega)).keep0 hK24).keep0 hK29).keep hK33 (by simp; omega)).keep0 (Keeps.drew _)).keep0 hK43) (seen_no (by assumption)) rfl rfl rfl (by simp) (by simp; omega) ?_
       intro w48 hM49 hK50 hm51
       refine l_nil ?_
       refine c_reg ?_
       refine l_val (gn rfl) rfl rfl (r_fieldAddr Cipher.fld_E rfl) ?_
       refine l_val (gn rfl) rfl rfl (r_loadA Tryz.isAgg24 Tryz.sizeOf24 (Pt.size _) rfl (Holds.sub (hM49.base (i := 0) rfl) (Cipher.sub_E _))) ?_
       refine l_store hM49 (i := 2) rfl Tryz.sizeOf24 rfl rfl (Pt.size _) (by rw [Pt.size]; decide) (Pt.one _) (put_whole _ _ ((Pt.size _).trans (Pt.size _).symm)) ?_
       intro w52 hM53 hK54
       replace hM53 : Mem w [b] [(b26, (Cipher.cells x13.who), 40), (b14, (Invite.cells x13), 82), (b4, (Pt.cells x13.who.E), 24)] w52 := hM53
       refine l_nil ?_
       refine c_reg ?_
       refine l_val (gn rfl) rfl rfl (r_add (r := ((i + 1 : Nat) : Int)) rfl rfl (nadd (i := i) (k := 1) (m := i + 1) (by omega) (by omega))) ?_
       refine l_val (gn rfl) rfl rfl (r_move rfl) ?_
       refine l_nil ?_
       intro a_ ha_
       refine ⟨(i + 1, x13.who.E), ⟨(hM53.forget (.cons _ (.cons _ (.refl _)))), ?_⟩, by omega, ha_.sub ⟨rfl, rfl, rfl, rfl, rfl, rfl, rfl, rfl, trivial⟩⟩
       exact ⟨by omega, hro.step (by rw [List.getElem?_map, hx13]; rfl) (seen_no (by assumption)) (fun h0 => by first | exact cmp_no (by assumption) | exact absurd h0 (by assumption)), by rw [take_step (show (l.map Invite.who)[i]? = some _ from by rw [List.getElem?_map, hx13]; rfl), List.map_append, ← List.append_assoc]; exact (hm51.keep hK54 (by simp; omega))⟩
     ·skip
      have hp55 : ¬ ((0 : Nat) < i) := of_decide_eq_false h39
      refine s_off ⟨hM34, ((((((hmp.keep0 hK17).keep hK21 (by simp; omega)).keep0 hK24).keep0 hK29).keep hK33 (by simp; omega)).keep0 (Keeps.drew _))⟩ rfl (gno rfl rfl rfl rfl h39) rfl rfl ?_
      refine s_off ⟨hM34, ((((((hmp.keep0 hK17).keep hK21 (by simp; omega)).keep0 hK24).keep0 hK29).keep hK33 (by simp; omega)).keep0 (Keeps.drew _))⟩ rfl (gno rfl rfl rfl rfl h39) rfl rfl ?_
      refine s_off ⟨hM34, ((((((hmp.keep0 hK17).keep hK21 (by simp; omega)).keep0 hK24).keep0 hK29).keep hK33 (by simp; omega)).keep0 (Keeps.drew _))⟩ rfl (gno rfl rfl rfl rfl h39) rfl rfl ?_
      refine s_offx (.inr ⟨hM34, ((((((hmp.keep0 hK17).keep hK21 (by simp; omega)).keep0 hK24).keep0 hK29).keep hK33 (by simp; omega)).keep0 (Keeps.drew _))⟩) rfl (gno rfl rfl rfl rfl h39) rfl rfl ?_
      refine s_off ⟨hM34, ((((((hmp.keep0 hK17).keep hK21 (by simp; omega)).keep0 hK24).keep0 hK29).keep hK33 (by simp; omega)).keep0 (Keeps.drew _))⟩ rfl (gno rfl rfl rfl rfl h39) rfl rfl ?_
      refine s_take ⟨hM34, ((((((hmp.keep0 hK17).keep hK21 (by simp; omega)).keep0 hK24).keep0 hK29).keep hK33 (by simp; omega)).keep0 (Keeps.drew _))⟩ rfl (gy rfl rfl rfl rfl h36) rfl rfl (fun w h => r_pickF rfl h39 rfl) ?_
      refine s_take ⟨hM34, ((((((hmp.keep0 hK17).keep hK21 (by simp; omega)).keep0 hK24).keep0 hK29).keep hK33 (by simp; omega)).keep0 (Keeps.drew _))⟩ rfl (gn rfl) rfl rfl (fun w h => r_pickF rfl h36 rfl) ?_
      refine s_nil ?_
      refine c_condF rfl rfl ?_
      refine c_skip ?_
      refine c_seq ?_
      refine c_reg ?_
      refine l_val (gn rfl) rfl rfl (r_move rfl) ?_
      refine l_val (gn rfl) rfl rfl (r_fieldAddr Cipher.fld_E rfl) ?_
      refine l_val (gn rfl) rfl rfl (r_loadA Tryz.isAgg24 Tryz.sizeOf24 (Pt.size _) rfl (Holds.sub (hM34.base (i := 0) rfl) (Cipher.sub_E _))) ?_
      refine l_mapUpdate hM34 ((((((hmp.keep0 hK17).keep hK21 (by simp; omega)).keep0 hK24).keep0 hK29).keep hK33 (by simp; omega)).keep0 (Keeps.drew _)) (seen_no (by assumption)) rfl rfl rfl (by simp) (by simp; omega) ?_
      intro w56 hM57 hK58 hm59
      refine l_nil ?_
      refine c_reg ?_
      refine l_val (gn rfl) rfl rfl (r_fieldAddr Cipher.fld_E rfl) ?_
      refine l_val (gn rfl) rfl rfl (r_loadA Tryz.isAgg24 Tryz.sizeOf24 (Pt.size _) rfl (Holds.sub (hM57.base (i := 0) rfl) (Cipher.sub_E _))) ?_
      refine l_store hM57 (i := 2) rfl Tryz.sizeOf24 rfl rfl (Pt.size _) (by rw [Pt.size]; decide) (Pt.one _) (put_whole _ _ ((Pt.size _).trans (Pt.size _).symm)) ?_
      intro w60 hM61 hK62
      replace hM61 : Mem w [b] [(b26, (Cipher.cells x13.who), 40), (b14, (Invite.cells x13), 82), (b4, (Pt.cells x13.who.E), 24)] w60 := hM61
      refine l_nil ?_
      refine c_reg ?_
      refine l_val (gn rfl) rfl rfl (r_add (r := ((i + 1 : Nat) : Int)) rfl rfl (nadd (i := i) (k := 1) (m := i + 1) (by omega) (by omega))) ?_
      refine l_val (gn rfl) rfl rfl (r_move rfl) ?_
      refine l_nil ?_
      intro a_ ha_
      refine ⟨(i + 1, x13.who.E), ⟨(hM61.forget (.cons _ (.cons _ (.refl _)))), ?_⟩, by omega, ha_.sub ⟨rfl, rfl, rfl, rfl, rfl, rfl, rfl, rfl, trivial⟩⟩
      exact ⟨by omega, hro.step (by rw [List.getElem?_map, hx13]; rfl) (seen_no (by assumption)) (fun h0 => by first | exact cmp_no (by assumption) | exact absurd h0 (by assumption)), by rw [take_step (show (l.map Invite.who)[i]? = some _ from by rw [List.getElem?_map, hx13]; rfl), List.map_append, ← List.append_assoc]; exact (hm59.keep hK62 (by simp; omega))⟩
   ·skip
    have hp63 : ¬ ((i : Nat) < l.length) := of_decide_eq_false h11
    refine c_condF rfl h11 ?_
    refine c_exit rfl ?_
    refine c_seq ?_
    refine c_reg ?_
    refine l_val (gn rfl) rfl rfl (r_assign rfl) ?_
    refine l_nil ?_
    refine c_ret ?_
    refine ret1 rfl rfl ?_
    exact ⟨true, rfl, ⟨fun _ => hro.done (by simpa using (show l.length ≤ 40 from by omega)) (by simpa using (show ¬ i < l.length from by assumption)), fun _ => rfl⟩, fun _ => by have := hmp; rw [List.take_of_length_le (by simp; omega)] at this; exact this, hM10.kp⟩
theorem f50 {w : World} (x : Ask) : Ret 50 #[.agg x.cells] w (fun v w' => v = .agg x.who.cells ∧ Keeps [] w w') := by
  have hM0 := Mem.start w
  refine enter Tryz.func50 rfl rfl ?_
  refine c_seq ?_
  refine c_reg ?_
  refine l_box hM0 rfl rfl ?_
  intro b1 w2 hM3 hK4 hB5
  replace hM3 : Mem w [] [(b1, (Ask.cells x), 84)] w2 := hM3
  refine l_alloc hM3 rfl Cipher.zv ?_
  intro b6 w7 hM8 hK9 hB10
  replace hM8 : Mem w [] [(b6, (Cipher.cells Cipher.zero), 40), (b1, (Ask.cells x), 84)] w7 := hM8
  refine l_nil ?_
  refine c_seq ?_
  refine c_reg ?_
  refine l_val (gn rfl) rfl rfl (r_fieldAddr Ask.fld_who rfl) ?_
  refine l_val (gn rfl) rfl rfl (r_loadA Tryz.isAgg40 Tryz.sizeOf40 (Cipher.size _) rfl (Holds.sub (hM8.base (i := 1) rfl) (Ask.sub_who _))) ?_
  refine l_store hM8 (i := 0) rfl Tryz.sizeOf40 rfl rfl (Cipher.size _) (by rw [Cipher.size]; decide) (Cipher.one _) (put_whole _ _ ((Cipher.size _).trans (Cipher.size _).symm)) ?_
  intro w11 hM12 hK13
  replace hM12 : Mem w [] [(b6, (Cipher.cells x.who), 40), (b1, (Ask.cells x), 84)] w11 := hM12
  refine l_nil ?_
  refine c_ret ?_
  refine retC rfl Tryz.isAgg40 Tryz.sizeOf40 (Cipher.size _) rfl (hM12.base (i := 0) rfl) ?_
  exact ⟨rfl, hM12.kp⟩
theorem f49 {A : Nat → Prop} {w : World} {s : Sl} {l : List Ask} {b : Nat} {ks : List Pt} (hR : Row A w s 65 Ask.cells l) (hA : ¬ A b) (hm : MapB w b ks) :
    Ret 49 #[s.val, .func (.func 50) #[] #[], .map (some b)] w (fun v w' => ∃ r : Bool, v = .bool r ∧ (r = true ↔ OkRoll ks (l.map Ask.who)) ∧ (r = true → MapB w' b (ks ++ (l.map Ask.who).map Cipher.E)) ∧ Keeps [b] w w') := by
  have hn := hR.bd
  have hX : ∀ x ∈ [b], ¬ A x := by simpa using hA
  have hM0 : Mem w [b] [] w := ⟨Keeps.refl _ _, by simp, by simp, by simp⟩
  have hbl := hm.lt
  refine enter Tryz.func49 rfl rfl ?_
  refine c_seq ?_
  refine c_reg ?_
  refine l_val (gn rfl) rfl rfl (r_assign rfl) ?_
  refine l_nil ?_
  refine c_seq ?_
  refine c_seq ?_
  refine c_reg ?_
  refine l_val (gn rfl) rfl rfl (r_move rfl) ?_
  refine l_val (gn rfl) rfl rfl (r_lenR Tryz.underlying34 rfl hR.len) ?_
  refine l_val (gn rfl) rfl rfl (r_gtr (b := decide ((40 : Nat) < l.length)) rfl rfl (nlt 40 l.length)) ?_
  refine l_nil ?_
  refine ways (decide ((40 : Nat) < l.length)) (fun h1 => ?_) (fun h1 => ?_)
  ·skip
   have hp2 : (40 : Nat) < l.length := of_decide_eq_true h1
   refine c_condT rfl h1 ?_
   refine c_seq ?_
   refine c_reg ?_
   refine l_val (gn rfl) rfl rfl (r_assign rfl) ?_
   refine l_nil ?_
   refine c_ret ?_
   refine ret1 rfl rfl ?_
   refine ⟨false, rfl, ⟨fun e => (by cases e), fun hok => ?_⟩, fun e => (by cases e), hM0.kp⟩
   have := hok.1; simp at this; omega
  ·skip
   have hp3 : ¬ ((40 : Nat) < l.length) := of_decide_eq_false h1
   refine c_condF rfl h1 ?_
   refine c_skip ?_
   refine c_seq ?_
   refine c_reg ?_
   refine l_alloc hM0 rfl zv_Pt ?_
   intro b4 w5 hM6 hK7 hB8
   replace hM6 : Mem w [b] [(b4, (Pt.cells Pt.zero), 24)] w5 := hM6
   have hNb4 : w.heap.size ≤ b4 := Nat.le_trans hM0.kp.size hB8
   refine l_nil ?_
   refine c_seq ?_
   refine c_seq ?_
   refine c_reg ?_
   refine l_val (gn rfl) rfl rfl (r_move rfl) ?_
   refine l_val (gn rfl) rfl rfl (r_lenR Tryz.underlying34 rfl (hR.keep hM6.kp hX).len) ?_
   refine l_val (gn rfl) rfl rfl (r_move rfl) ?_
   refine l_nil ?_
   refine c_block ?_
   refine c_loop (ι := Nat × Pt) (fun p_ w_ => Mem w [b] [(b4, (Pt.cells p_.2), 24)] w_ ∧ (p_.1 ≤ l.length ∧ RollTo ks (l.map Ask.who) p_.1 p_.2 ∧ MapB w_ b (ks ++ ((l.map Ask.who).take p_.1).map Cipher.E))) (fun p_ => [(0, Sl.val s), (1, Value.func (Fn.func 50) #[] #[]), (2, Value.map (some b)), (13, Value.bool (decide ((40 : Nat) < l.length))), (7, Value.pointer (some ⟨b4, 0, none⟩)), (14, Sl.val s), (15, Value.int .i64 ((l.length : Nat) : Int)), (16, Value.int .i64 ((p_.1 : Nat) : Int))]) (fun p_ => l.length - p_.1) (0, Pt.zero) ⟨hM6, Nat.zero_le _, RollTo.start _ _ _, by simpa using (hm.keep0 hK7)⟩ ⟨rfl, rfl, rfl, rfl, rfl, rfl, rfl, rfl, trivial⟩ ?_
   rintro ⟨i, t⟩ w9 ⟨hM10, hk, hro, hmp⟩
   change AT _ [(0, Sl.val s), (1, Value.func (Fn.func 50) #[] #[]), (2, Value.map (some b)), (13, Value.bool (decide ((40 : Nat) < l.length))), (7, Value.pointer (some ⟨b4, 0, none⟩)), (14, Sl.val s), (15, Value.int .i64 ((l.length : Nat) : Int)), (16, Value.int .i64 ((i : Nat) : Int))] _ _
   replace hM10 : Mem w [b] [(b4, (Pt.cells t), 24)] w9 := hM10
   refine c_seq ?_
   refine c_reg ?_
   refine l_val (gn rfl) rfl rfl (r_lss (b := decide ((i : Nat) < l.length)) rfl rfl (nlt i l.length)) ?_
   refine l_nil ?_
   refine c_seq ?_
   refine ways (decide ((i : Nat) < l.length)) (fun h11 => ?_) (fun h11 => ?_)
   ·skip
    have hp12 : (i : Nat) < l.length := of_decide_eq_true h11
    refine c_condT rfl h11 ?_
    refine c_skip ?_
    refine c_seq ?_
    refine c_block ?_
    refine c_seq ?_
    refine c_reg ?_
    refine l_val (gn rfl) rfl rfl (r_move rfl) ?_
    have hlt13 : i < l.length := by first | assumption | omega
    obtain ⟨x13, hx13⟩ : ∃ x, l[i]? = some x := ⟨_, List.getElem?_eq_getElem hlt13⟩
    obtain ⟨p13, o13, ha13, hA13, -⟩ := (hR.keep hM10.kp hX).at_ _ _ hx13
    refine l_val (gn rfl) rfl rfl (r_indexR Tryz.underlying34 Tryz.sizeOf84 ⟨_, (hR.keep hM10.kp hX)⟩ rfl ha13 rfl hlt13) ?_
    refine l_val (gn rfl) rfl rfl (r_loadA Tryz.isAgg84 Tryz.sizeOf84 (Ask.size _) rfl ((hR.keep hM10.kp hX).ix hx13 ha13)) ?_
    refine l_alloc hM10 rfl Ask.zv ?_
    intro b14 w15 hM16 hK17 hB18
    replace hM16 : Mem w [b] [(b14, (Ask.cells Ask.zero), 84), (b4, (Pt.cells t), 24)] w15 := hM16
    have hNb14 : w.heap.size ≤ b14 := Nat.le_trans hM10.kp.size hB18
    refine l_val (gn rfl) rfl rfl (r_assign rfl) ?_
    refine l_store hM16 (i := 0) rfl Tryz.sizeOf84 rfl rfl (Ask.size _) (by rw [Ask.size]; decide) (Ask.one _) (put_whole _ _ ((Ask.size _).trans (Ask.size _).symm)) ?_
    intro w19 hM20 hK21
    replace hM20 : Mem w [b] [(b14, (Ask.cells x13), 84), (b4, (Pt.cells t), 24)] w19 := hM20
    refine l_nil ?_
    refine c_seq ?_
    refine c_reg ?_
    refine l_val (gn rfl) rfl rfl (r_move rfl) ?_
    refine l_val (gn rfl) rfl rfl (r_loadA Tryz.isAgg84 Tryz.sizeOf84 (Ask.size _) rfl (hM20.base (i := 0) rfl)) ?_
    refine l_call (gn rfl) rfl rfl (r_callv (cap := []) rfl Tryz.call50 rfl) (f50 x13) ?_
    rintro v22 w23 ⟨rfl, hK24⟩
    have hM25 := hM20.keep hK24
    refine l_alloc hM25 rfl Cipher.zv ?_
    intro b26 w27 hM28 hK29 hB30
    replace hM28 : Mem w [b] [(b26, (Cipher.cells Cipher.zero), 40), (b14, (Ask.cells x13), 84), (b4, (Pt.cells t), 24)] w27 := hM28
    have hNb26 : w.heap.size ≤ b26 := Nat.le_trans hM25.kp.size hB30
    refine l_store hM28 (i := 0) rfl Tryz.sizeOf40 rfl rfl (Cipher.size _) (by rw [Cipher.size]; decide) (Cipher.one _) (put_whole _ _ ((Cipher.size _).trans (Cipher.size _).symm)) ?_
    intro w31 hM32 hK33
    replace hM32 : Mem w [b] [(b26, (Cipher.cells x13.who), 40), (b14, (Ask.cells x13), 84), (b4, (Pt.cells t), 24)] w31 := hM32
    refine l_nil ?_
    refine c_seq ?_
    refine c_seq ?_
    refine c_regD (fun w_ => Mem w [b] [(b26, (Cipher.cells x13.who), 40), (b14, (Ask.cells x13), 84), (b4, (Pt.cells t), 24)] w_ ∧ MapB w_ b (ks ++ ((l.map Ask.who).take i).map Cipher.E)) [] [(0, true), (1, true), (2, true), (3, true), (4, true), (5, true), (6, true), (7, true), (8, true), (9, true), (10, true), (11, true), (12, false), (13, true), (14, true), (15, true)] (by kernel_rfl) ?_
    have hM34 := hM32.drew
    refine s_take ⟨hM34, ((((((hmp.keep0 hK17).keep hK21 (by simp; omega)).keep0 hK24).keep0 hK29).keep hK33 (by simp; omega)).keep0 (Keeps.drew _))⟩ rfl (gn rfl) rfl rfl (fun w h => r_move rfl) ?_
    refine s_take ⟨hM34, ((((((hmp.keep0 hK17).keep hK21 (by simp; omega)).keep0 hK24).keep0 hK29).keep hK33 (by simp; omega)).keep0 (Keeps.drew _))⟩ rfl (gn rfl) rfl rfl (fun w h => r_fieldAddr Cipher.fld_E rfl) ?_
    refine s_take ⟨hM34, ((((((hmp.keep0 hK17).keep hK21 (by simp; omega)).keep0 hK24).keep0 hK29).keep hK33 (by simp; omega)).keep0 (Keeps.drew _))⟩ rfl (gn rfl) rfl rfl (fun w h => r_loadA Tryz.isAgg24 Tryz.sizeOf24 (Pt.size _) rfl (Holds.sub (h.1.base (i := 0) rfl) (Cipher.sub_E _))) ?_
    refine s_take ⟨hM34, ((((((hmp.keep0 hK17).keep hK21 (by simp; omega)).keep0 hK24).keep0 hK29).keep hK33 (by simp; omega)).keep0 (Keeps.drew _))⟩ rfl (gn rfl) rfl rfl (fun w h => r_lookup h.2 rfl rfl) ?_
    refine s_take ⟨hM34, ((((((hmp.keep0 hK17).keep hK21 (by simp; omega)).keep0 hK24).keep0 hK29).keep hK33 (by simp; omega)).keep0 (Keeps.drew _))⟩ rfl (gn rfl) rfl rfl (fun w h => r_gtr (b := decide ((0 : Nat) < seen ((ks ++ ((l.map Ask.who).take i).map Cipher.E)) x13.who.E)) rfl rfl (nlt 0 (seen ((ks ++ ((l.map Ask.who).take i).map Cipher.E)) x13.who.E))) ?_
    refine s_take ⟨hM34, ((((((hmp.keep0 hK17).keep hK21 (by simp; omega)).keep0 hK24).keep0 hK29).keep hK33 (by simp; omega)).keep0 (Keeps.drew _))⟩ rfl (gn rfl) rfl rfl (fun w h => r_move rfl) ?_
    refine ways (decide ((0 : Nat) < seen ((ks ++ ((l.map Ask.who).take i).map Cipher.E)) x13.who.E)) (fun h36 => ?_) (fun h36 => ?_)
    ·skip
     have hp37 : (0 : Nat) < seen ((ks ++ ((l.map Ask.who).take i).map Cipher.E)) x13.who.E := of_decide_eq_true h36
     refine s_off ⟨hM34, ((((((hmp.keep0 hK17).keep hK21 (by simp; omega)).keep0 hK24).keep0 hK29).keep hK33 (by simp; omega)).keep0 (Keeps.drew _))⟩ rfl (gno rfl rfl rfl rfl h36) rfl rfl ?_
     refine s_off ⟨hM34, ((((((hmp.keep0 hK17).keep hK21 (by simp; omega)).keep0 hK24).keep0 hK29).keep hK33 (by simp; omega)).keep0 (Keeps.drew _))⟩ rfl (gno rfl rfl rfl rfl h36) rfl rfl ?_
     refine s_off ⟨hM34, ((((((hmp.keep0 hK17).keep hK21 (by simp; omega)).keep0 hK24).keep0 hK29).keep hK33 (by simp; omega)).keep0 (Keeps.drew _))⟩ rfl (gno rfl rfl rfl rfl h36) rfl rfl ?_
     refine s_off ⟨hM34, ((((((hmp.keep0 hK17).keep hK21 (by simp; omega)).keep0 hK24).keep0 hK29).keep hK33 (by simp; omega)).keep0 (Keeps.drew _))⟩ rfl (gnu rfl rfl rfl rfl) rfl rfl ?_
     refine s_off ⟨hM34, ((((((hmp.keep0 hK17).keep hK21 (by simp; omega)).keep0 hK24).keep0 hK29).keep hK33 (by simp; omega)).keep0 (Keeps.drew _))⟩ rfl (gnu rfl rfl rfl rfl) rfl rfl ?_
     refine s_off ⟨hM34, ((((((hmp.keep0 hK17).keep hK21 (by simp; omega)).keep0 hK24).keep0 hK29).keep hK33 (by simp; omega)).keep0 (Keeps.drew _))⟩ rfl (gnu rfl rfl rfl rfl) rfl rfl ?_
     refine s_offx (.inr ⟨hM34, ((((((hmp.keep0 hK17).keep hK21 (by simp; omega)).keep0 hK24).keep0 hK29).keep hK33 (by simp; omega)).keep0 (Keeps.drew _))⟩) rfl (gnu rfl rfl rfl rfl) rfl rfl ?_
     refine s_off ⟨hM34, ((((((hmp.keep0 hK17).keep hK21 (by simp; omega)).keep0 hK24).keep0 hK29).keep hK33 (by simp; omega)).keep0 (Keeps.drew _))⟩ rfl (gnu rfl rfl rfl rfl) rfl rfl ?_
     refine s_off ⟨hM34, ((((((hmp.keep0 hK17).keep hK21 (by simp; omega)).keep0 hK24).keep0 hK29).keep hK33 (by simp; omega)).keep0 (Keeps.drew _))⟩ rfl (gno rfl rfl rfl rfl h36) rfl rfl ?_
     refine s_take ⟨hM34, ((((((hmp.keep0 hK17).keep hK21 (by simp; omega)).keep0 hK24).keep0 hK29).keep hK33 (by simp; omega)).keep0 (Keeps.drew _))⟩ rfl (gn rfl) rfl rfl (fun w h => r_pickT rfl h36 rfl) ?_
     refine s_nil ?_
     refine c_condT rfl rfl ?_
     refine c_seq ?_
     refine c_reg ?_
     refine l_val (gn rfl) rfl rfl (r_assign rfl) ?_
     refine l_nil ?_
     refine c_ret ?_
     refine ret1 rfl rfl ?_
     refine ⟨false, rfl, ⟨fun e => (by cases e), fun hok => ?_⟩, fun e => (by cases e), hM34.kp⟩
     exact (RollTo.seen (by rw [List.getElem?_map, hx13]; rfl) (seen_yes (by assumption)) hok).elim
    ·skip
     have hp38 : ¬ ((0 : Nat) < seen ((ks ++ ((l.map Ask.who).take i).map Cipher.E)) x13.who.E) := of_decide_eq_false h36
     refine s_take ⟨hM34, ((((((hmp.keep0 hK17).keep hK21 (by simp; omega)).keep0 hK24).keep0 hK29).keep hK33 (by simp; omega)).keep0 (Keeps.drew _))⟩ rfl (gy rfl rfl rfl rfl h36) rfl rfl (fun w h => r_move rfl) ?_
     refine s_take ⟨hM34, ((((((hmp.keep0 hK17).keep hK21 (by simp; omega)).keep0 hK24).keep0 hK29).keep hK33 (by simp; omega)).keep0 (Keeps.drew _))⟩ rfl (gy rfl rfl rfl rfl h36) rfl rfl (fun w h => r_gtr (b := decide ((0 : Nat) < i)) rfl rfl (nlt 0 i)) ?_
     refine s_take ⟨hM34, ((((((hmp.keep0 hK17).keep hK21 (by simp; omega)).keep0 hK24).keep0 hK29).keep hK33 (by simp; omega)).keep0 (Keeps.drew _))⟩ rfl (gy rfl rfl rfl rfl h36) rfl rfl (fun w h => r_move rfl) ?_
     refine ways (decide ((0 : Nat) < i)) (fun h39 => ?_) (fun h39 => ?_)
     ·skip
      have hp40 : (0 : Nat) < i := of_decide_eq_true h39
      refine s_take ⟨hM34, ((((((hmp.keep0 hK17).keep hK21 (by simp; omega)).keep0 hK24).keep0 hK29).keep hK33 (by simp; omega)).keep0 (Keeps.drew _))⟩ rfl (gy rfl rfl rfl rfl h39) rfl rfl (fun w h => r_sliceArr Tryz.underlying24 Tryz.sizeOf5 rfl) ?_
      refine s_take ⟨hM34, ((((((hmp.keep0 hK17).keep hK21 (by simp; omega)).keep0 hK24).keep0 hK29).keep hK33 (by simp; omega)).keep0 (Keeps.drew _))⟩ rfl (gy rfl rfl rfl rfl h39) rfl rfl (fun w h => r_fieldAddr Cipher.fld_E rfl) ?_
      refine s_take ⟨hM34, ((((((hmp.keep0 hK17).keep hK21 (by simp; omega)).keep0 hK24).keep0 hK29).keep hK33 (by simp; omega)).keep0 (Keeps.drew _))⟩ rfl (gy rfl rfl rfl rfl h39) rfl rfl (fun w h => r_sliceArr Tryz.underlying24 Tryz.sizeOf5 rfl) ?_
      refine s_call rfl (gy rfl rfl rfl rfl h39) rfl rfl (r_call Tryz.call88 rfl) (f88 (hM34.base (i := 2) rfl) (Holds.sub (hM34.base (i := 0) rfl) (Cipher.sub_E _))) ?_
      rintro v41 w42 ⟨rfl, hK43⟩
      have hM44 := hM34.keep hK43
      refine ⟨.inr ⟨hM44, (((((((hmp.keep0 hK17).keep hK21 (by simp; omega)).keep0 hK24).keep0 hK29).keep hK33 (by simp; omega)).keep0 (Keeps.drew _)).keep0 hK43)⟩, ?_⟩
      refine s_take ⟨hM44, (((((((hmp.keep0 hK17).keep hK21 (by simp; omega)).keep0 hK24).keep0 hK29).keep hK33 (by simp; omega)).keep0 (Keeps.drew _)).keep0 hK43)⟩ rfl (gy rfl rfl rfl rfl h39) rfl rfl (fun w h => r_geq (b := decide ((((0 : Nat) : Int) : Int) ≤ (ptCmp t x13.who.E : Int))) rfl rfl rfl) ?_
      refine s_take ⟨hM44, (((((((hmp.keep0 hK17).keep hK21 (by simp; omega)).keep0 hK24).keep0 hK29).keep hK33 (by simp; omega)).keep0 (Keeps.drew _)).keep0 hK43)⟩ rfl (gy rfl rfl rfl rfl h36) rfl rfl (fun w h => r_pickT rfl h39 rfl) ?_
      refine s_take ⟨hM44, (((((((hmp.keep0 hK17).keep hK21 (by simp; omega)).keep0 hK24).keep0 hK29).keep hK33 (by simp; omega)).keep0 (Keeps.drew _)).keep0 hK43)⟩ rfl (gn rfl) rfl rfl (fun w h => r_pickF rfl h36 rfl) ?_
      refine s_nil ?_
      refine ways (decide ((((0 : Nat) : Int) : Int) ≤ (ptCmp t x13.who.E : Int))) (fun h45 => ?_) (fun h45 => ?_)
      ·skip
       have hp46 : (((0 : Nat) : Int) : Int) ≤ (ptCmp t x13.who.E : Int) := of_decide_eq_true h45
       refine c_condT rfl h45 ?_
       refine c_seq ?_
       refine c_reg ?_
       refine l_val (gn rfl) rfl rfl (r_assign rfl) ?_
       refine l_nil ?_
       refine c_ret ?_
       refine ret1 rfl rfl ?_
       refine ⟨false, rfl, ⟨fun e => (by cases e), fun hok => ?_⟩, fun e => (by cases e), hM44.kp⟩
       exact (hro.down (by rw [List.getElem?_map, hx13]; rfl) (by assumption) (cmp_yes (by assumption)) hok).elim
      ·skip
       have hp47 : ¬ ((((0 : Nat) : Int) : Int) ≤ (ptCmp t x13.who.E : Int)) := of_decide_eq_false h45
       refine c_condF rfl h45 ?_
       refine c_skip ?_
       refine c_seq ?_
       refine c_reg ?_
       refine l_val (gn rfl) rfl rfl (r_move rfl) ?_
       refine l_val (gn rfl) rfl rfl (r_fieldAddr Cipher.fld_E rfl) ?_
       refine l_val (gn rfl) rfl rfl (r_loadA Tryz.isAgg24 Tryz.sizeOf24 (Pt.size _) rfl (Holds.sub (hM44.base (i := 0) rfl) (Cipher.sub_E _))) ?_
       refine l_mapUpdate hM44 (((((((hmp.keep0 hK17).keep hK21 (by simp; omega)).keep0 hK24).keep0 hK29).keep hK33 (by simp; omega)).keep0 (Keeps.drew _)).keep0 hK43) (seen_no (by assumption)) rfl rfl rfl (by simp) (by simp; omega) ?_
       intro w48 hM49 hK50 hm51
       refine l_nil ?_
       refine c_reg ?_
       refine l_val (gn rfl) rfl rfl (r_fieldAddr Cipher.fld_E rfl) ?_
       refine l_val (gn rfl) rfl rfl (r_loadA Tryz.isAgg24 Tryz.sizeOf24 (Pt.size _) rfl (Holds.sub (hM49.base (i := 0) rfl) (Cipher.sub_E _))) ?_
       refine l_store hM49 (i := 2) rfl Tryz.sizeOf24 rfl rfl (Pt.size _) (by rw [Pt.size]; decide) (Pt.one _) (put_whole _ _ ((Pt.size _).trans (Pt.size _).symm)) ?_
       intro w52 hM53 hK54
       replace hM53 : Mem w [b] [(b26, (Cipher.cells x13.who), 40), (b14, (Ask.cells x13), 84), (b4, (Pt.cells x13.who.E), 24)] w52 := hM53
       refine l_nil ?_
       refine c_reg ?_
       refine l_val (gn rfl) rfl rfl (r_add (r := ((i + 1 : Nat) : Int)) rfl rfl (nadd (i := i) (k := 1) (m := i + 1) (by omega) (by omega))) ?_
       refine l_val (gn rfl) rfl rfl (r_move rfl) ?_
       refine l_nil ?_
       intro a_ ha_
       refine ⟨(i + 1, x13.who.E), ⟨(hM53.forget (.cons _ (.cons _ (.refl _)))), ?_⟩, by omega, ha_.sub ⟨rfl, rfl, rfl, rfl, rfl, rfl, rfl, rfl, trivial⟩⟩
       exact ⟨by omega, hro.step (by rw [List.getElem?_map, hx13]; rfl) (seen_no (by assumption)) (fun h0 => by first | exact cmp_no (by assumption) | exact absurd h0 (by assumption)), by rw [take_step (show (l.map Ask.who)[i]? = some _ from by rw [List.getElem?_map, hx13]; rfl), List.map_append, ← List.append_assoc]; exact (hm51.keep hK54 (by simp; omega))⟩
     ·skip
      have hp55 : ¬ ((0 : Nat) < i) := of_decide_eq_false h39
      refine s_off ⟨hM34, ((((((hmp.keep0 hK17).keep hK21 (by simp; omega)).keep0 hK24).keep0 hK29).keep hK33 (by simp; omega)).keep0 (Keeps.drew _))⟩ rfl (gno rfl rfl rfl rfl h39) rfl rfl ?_
      refine s_off ⟨hM34, ((((((hmp.keep0 hK17).keep hK21 (by simp; omega)).keep0 hK24).keep0 hK29).keep hK33 (by simp; omega)).keep0 (Keeps.drew _))⟩ rfl (gno rfl rfl rfl rfl h39) rfl rfl ?_
      refine s_off ⟨hM34, ((((((hmp.keep0 hK17).keep hK21 (by simp; omega)).keep0 hK24).keep0 hK29).keep hK33 (by simp; omega)).keep0 (Keeps.drew _))⟩ rfl (gno rfl rfl rfl rfl h39) rfl rfl ?_
      refine s_offx (.inr ⟨hM34, ((((((hmp.keep0 hK17).keep hK21 (by simp; omega)).keep0 hK24).keep0 hK29).keep hK33 (by simp; omega)).keep0 (Keeps.drew _))⟩) rfl (gno rfl rfl rfl rfl h39) rfl rfl ?_
      refine s_off ⟨hM34, ((((((hmp.keep0 hK17).keep hK21 (by simp; omega)).keep0 hK24).keep0 hK29).keep hK33 (by simp; omega)).keep0 (Keeps.drew _))⟩ rfl (gno rfl rfl rfl rfl h39) rfl rfl ?_
      refine s_take ⟨hM34, ((((((hmp.keep0 hK17).keep hK21 (by simp; omega)).keep0 hK24).keep0 hK29).keep hK33 (by simp; omega)).keep0 (Keeps.drew _))⟩ rfl (gy rfl rfl rfl rfl h36) rfl rfl (fun w h => r_pickF rfl h39 rfl) ?_
      refine s_take ⟨hM34, ((((((hmp.keep0 hK17).keep hK21 (by simp; omega)).keep0 hK24).keep0 hK29).keep hK33 (by simp; omega)).keep0 (Keeps.drew _))⟩ rfl (gn rfl) rfl rfl (fun w h => r_pickF rfl h36 rfl) ?_
      refine s_nil ?_
      refine c_condF rfl rfl ?_
      refine c_skip ?_
      refine c_seq ?_
      refine c_reg ?_
      refine l_val (gn rfl) rfl rfl (r_move rfl) ?_
      refine l_val (gn rfl) rfl rfl (r_fieldAddr Cipher.fld_E rfl) ?_
      refine l_val (gn rfl) rfl rfl (r_loadA Tryz.isAgg24 Tryz.sizeOf24 (Pt.size _) rfl (Holds.sub (hM34.base (i := 0) rfl) (Cipher.sub_E _))) ?_
      refine l_mapUpdate hM34 ((((((hmp.keep0 hK17).keep hK21 (by simp; omega)).keep0 hK24).keep0 hK29).keep hK33 (by simp; omega)).keep0 (Keeps.drew _)) (seen_no (by assumption)) rfl rfl rfl (by simp) (by simp; omega) ?_
      intro w56 hM57 hK58 hm59
      refine l_nil ?_
      refine c_reg ?_
      refine l_val (gn rfl) rfl rfl (r_fieldAddr Cipher.fld_E rfl) ?_
      refine l_val (gn rfl) rfl rfl (r_loadA Tryz.isAgg24 Tryz.sizeOf24 (Pt.size _) rfl (Holds.sub (hM57.base (i := 0) rfl) (Cipher.sub_E _))) ?_
      refine l_store hM57 (i := 2) rfl Tryz.sizeOf24 rfl rfl (Pt.size _) (by rw [Pt.size]; decide) (Pt.one _) (put_whole _ _ ((Pt.size _).trans (Pt.size _).symm)) ?_
      intro w60 hM61 hK62
      replace hM61 : Mem w [b] [(b26, (Cipher.cells x13.who), 40), (b14, (Ask.cells x13), 84), (b4, (Pt.cells x13.who.E), 24)] w60 := hM61
      refine l_nil ?_
      refine c_reg ?_
      refine l_val (gn rfl) rfl rfl (r_add (r := ((i + 1 : Nat) : Int)) rfl rfl (nadd (i := i) (k := 1) (m := i + 1) (by omega) (by omega))) ?_
      refine l_val (gn rfl) rfl rfl (r_move rfl) ?_
      refine l_nil ?_
      intro a_ ha_
      refine ⟨(i + 1, x13.who.E), ⟨(hM61.forget (.cons _ (.cons _ (.refl _)))), ?_⟩, by omega, ha_.sub ⟨rfl, rfl, rfl, rfl, rfl, rfl, rfl, rfl, trivial⟩⟩
      exact ⟨by omega, hro.step (by rw [List.getElem?_map, hx13]; rfl) (seen_no (by assumption)) (fun h0 => by first | exact cmp_no (by assumption) | exact absurd h0 (by assumption)), by rw [take_step (show (l.map Ask.who)[i]? = some _ from by rw [List.getElem?_map, hx13]; rfl), List.map_append, ← List.append_assoc]; exact (hm59.keep hK62 (by simp; omega))⟩
   ·skip
    have hp63 : ¬ ((i : Nat) < l.length) := of_decide_eq_false h11
    refine c_condF rfl h11 ?_
    refine c_exit rfl ?_
    refine c_seq ?_
    refine c_reg ?_
    refine l_val (gn rfl) rfl rfl (r_assign rfl) ?_
    refine l_nil ?_
    refine c_ret ?_
    refine ret1 rfl rfl ?_
    exact ⟨true, rfl, ⟨fun _ => hro.done (by simpa using (show l.length ≤ 40 from by omega)) (by simpa using (show ¬ i < l.length from by assumption)), fun _ => rfl⟩, fun _ => by have := hmp; rw [List.take_of_length_le (by simp; omega)] at this; exact this, hM10.kp⟩
theorem f52 {w : World} (x : Ban) : Ret 52 #[.agg x.cells] w (fun v w' => v = .agg x.who.cells ∧ Keeps [] w w') := by
  have hM0 := Mem.start w
  refine enter Tryz.func52 rfl rfl ?_
  refine c_seq ?_
  refine c_reg ?_
  refine l_box hM0 rfl rfl ?_
  intro b1 w2 hM3 hK4 hB5
  replace hM3 : Mem w [] [(b1, (Ban.cells x), 86)] w2 := hM3
  refine l_alloc hM3 rfl Cipher.zv ?_
  intro b6 w7 hM8 hK9 hB10
  replace hM8 : Mem w [] [(b6, (Cipher.cells Cipher.zero), 40), (b1, (Ban.cells x), 86)] w7 := hM8
  refine l_nil ?_
  refine c_seq ?_
  refine c_reg ?_
  refine l_val (gn rfl) rfl rfl (r_fieldAddr Ban.fld_who rfl) ?_
  refine l_val (gn rfl) rfl rfl (r_loadA Tryz.isAgg40 Tryz.sizeOf40 (Cipher.size _) rfl (Holds.sub (hM8.base (i := 1) rfl) (Ban.sub_who _))) ?_
  refine l_store hM8 (i := 0) rfl Tryz.sizeOf40 rfl rfl (Cipher.size _) (by rw [Cipher.size]; decide) (Cipher.one _) (put_whole _ _ ((Cipher.size _).trans (Cipher.size _).symm)) ?_
  intro w11 hM12 hK13
  replace hM12 : Mem w [] [(b6, (Cipher.cells x.who), 40), (b1, (Ban.cells x), 86)] w11 := hM12
  refine l_nil ?_
  refine c_ret ?_
  refine retC rfl Tryz.isAgg40 Tryz.sizeOf40 (Cipher.size _) rfl (hM12.base (i := 0) rfl) ?_
  exact ⟨rfl, hM12.kp⟩
theorem f51 {A : Nat → Prop} {w : World} {s : Sl} {l : List Ban} {b : Nat} {ks : List Pt} (hR : Row A w s 128 Ban.cells l) (hA : ¬ A b) (hm : MapB w b ks) :
    Ret 51 #[s.val, .func (.func 52) #[] #[], .map (some b)] w (fun v w' => ∃ r : Bool, v = .bool r ∧ (r = true ↔ OkRoll ks (l.map Ban.who)) ∧ (r = true → MapB w' b (ks ++ (l.map Ban.who).map Cipher.E)) ∧ Keeps [b] w w') := by
  have hn := hR.bd
  have hX : ∀ x ∈ [b], ¬ A x := by simpa using hA
  have hM0 : Mem w [b] [] w := ⟨Keeps.refl _ _, by simp, by simp, by simp⟩
  have hbl := hm.lt
  refine enter Tryz.func51 rfl rfl ?_
  refine c_seq ?_
  refine c_reg ?_
  refine l_val (gn rfl) rfl rfl (r_assign rfl) ?_
  refine l_nil ?_
  refine c_seq ?_
  refine c_seq ?_
  refine c_reg ?_
  refine l_val (gn rfl) rfl rfl (r_move rfl) ?_
  refine l_val (gn rfl) rfl rfl (r_lenR Tryz.underlying35 rfl hR.len) ?_
  refine l_val (gn rfl) rfl rfl (r_gtr (b := decide ((40 : Nat) < l.length)) rfl rfl (nlt 40 l.length)) ?_
  refine l_nil ?_
  refine ways (decide ((40 : Nat) < l.length)) (fun h1 => ?_) (fun h1 => ?_)
  ·skip
   have hp2 : (40 : Nat) < l.length := of_decide_eq_true h1
   refine c_condT rfl h1 ?_
   refine c_seq ?_
   refine c_reg ?_
   refine l_val (gn rfl) rfl rfl (r_assign rfl) ?_
   refine l_nil ?_
   refine c_ret ?_
   refine ret1 rfl rfl ?_
   refine ⟨false, rfl, ⟨fun e => (by cases e), fun hok => ?_⟩, fun e => (by cases e), hM0.kp⟩
   have := hok.1; simp at this; omega
  ·skip
   have hp3 : ¬ ((40 : Nat) < l.length) := of_decide_eq_false h1
   refine c_condF rfl h1 ?_
   refine c_skip ?_
   refine c_seq ?_
   refine c_reg ?_
   refine l_alloc hM0 rfl zv_Pt ?_
   intro b4 w5 hM6 hK7 hB8
   replace hM6 : Mem w [b] [(b4, (Pt.cells Pt.zero), 24)] w5 := hM6
   have hNb4 : w.heap.size ≤ b4 := Nat.le_trans hM0.kp.size hB8
   refine l_nil ?_
   refine c_seq ?_
   refine c_seq ?_
   refine c_reg ?_
   refine l_val (gn rfl) rfl rfl (r_move rfl) ?_
   refine l_val (gn rfl) rfl rfl (r_lenR Tryz.underlying35 rfl (hR.keep hM6.kp hX).len) ?_
   refine l_val (gn rfl) rfl rfl (r_move rfl) ?_
   refine l_nil ?_
   refine c_block ?_
   refine c_loop (ι := Nat × Pt) (fun p_ w_ => Mem w [b] [(b4, (Pt.cells p_.2), 24)] w_ ∧ (p_.1 ≤ l.length ∧ RollTo ks (l.map Ban.who) p_.1 p_.2 ∧ MapB w_ b (ks ++ ((l.map Ban.who).take p_.1).map Cipher.E))) (fun p_ => [(0, Sl.val s), (1, Value.func (Fn.func 52) #[] #[]), (2, Value.map (some b)), (13, Value.bool (decide ((40 : Nat) < l.length))), (7, Value.pointer (some ⟨b4, 0, none⟩)), (14, Sl.val s), (15, Value.int .i64 ((l.length : Nat) : Int)), (16, Value.int .i64 ((p_.1 : Nat) : Int))]) (fun p_ => l.length - p_.1) (0, Pt.zero) ⟨hM6, Nat.zero_le _, RollTo.start _ _ _, by simpa using (hm.keep0 hK7)⟩ ⟨rfl, rfl, rfl, rfl, rfl, rfl, rfl, rfl, trivial⟩ ?_
   rintro ⟨i, t⟩ w9 ⟨hM10, hk, hro, hmp⟩
   change AT _ [(0, Sl.val s), (1, Value.func (Fn.func 52) #[] #[]), (2, Value.map (some b)), (13, Value.bool (decide ((40 : Nat) < l.length))), (7, Value.pointer (some ⟨b4, 0, none⟩)), (14, Sl.val s), (15, Value.int .i64 ((l.length : Nat) : Int)), (16, Value.int .i64 ((i : Nat) : Int))] _ _
   replace hM10 : Mem w [b] [(b4, (Pt.cells t), 24)] w9 := hM10
   refine c_seq ?_
   refine c_reg ?_
   refine l_val (gn rfl) rfl rfl (r_lss (b := decide ((i : Nat) < l.length)) rfl rfl (nlt i l.length)) ?_
   refine l_nil ?_
   refine c_seq ?_
   refine ways (decide ((i : Nat) < l.length)) (fun h11 => ?_) (fun h11 => ?_)
   ·skip
    have hp12 : (i : Nat) < l.length := of_decide_eq_true h11
    refine c_condT rfl h11 ?_
    refine c_skip ?_
    refine c_seq ?_
    refine c_block ?_
    refine c_seq ?_
    refine c_reg ?_
    refine l_val (gn rfl) rfl rfl (r_move rfl) ?_
    have hlt13 : i < l.length := by first | assumption | omega
    obtain ⟨x13, hx13⟩ : ∃ x, l[i]? = some x := ⟨_, List.getElem?_eq_getElem hlt13⟩
    obtain ⟨p13, o13, ha13, hA13, -⟩ := (hR.keep hM10.kp hX).at_ _ _ hx13
    refine l_val (gn rfl) rfl rfl (r_indexR Tryz.underlying35 Tryz.sizeOf86 ⟨_, (hR.keep hM10.kp hX)⟩ rfl ha13 rfl hlt13) ?_
    refine l_val (gn rfl) rfl rfl (r_loadA Tryz.isAgg86 Tryz.sizeOf86 (Ban.size _) rfl ((hR.keep hM10.kp hX).ix hx13 ha13)) ?_
    refine l_alloc hM10 rfl Ban.zv ?_
    intro b14 w15 hM16 hK17 hB18
    replace hM16 : Mem w [b] [(b14, (Ban.cells Ban.zero), 86), (b4, (Pt.cells t), 24)] w15 := hM16
    have hNb14 : w.heap.size ≤ b14 := Nat.le_trans hM10.kp.size hB18
    refine l_val (gn rfl) rfl rfl (r_assign rfl) ?_
    refine l_store hM16 (i := 0) rfl Tryz.sizeOf86 rfl rfl (Ban.size _) (by rw [Ban.size]; decide) (Ban.one _) (put_whole _ _ ((Ban.size _).trans (Ban.size _).symm)) ?_
    intro w19 hM20 hK21
    replace hM20 : Mem w [b] [(b14, (Ban.cells x13), 86), (b4, (Pt.cells t), 24)] w19 := hM20
    refine l_nil ?_
    refine c_seq ?_
    refine c_reg ?_
    refine l_val (gn rfl) rfl rfl (r_move rfl) ?_
    refine l_val (gn rfl) rfl rfl (r_loadA Tryz.isAgg86 Tryz.sizeOf86 (Ban.size _) rfl (hM20.base (i := 0) rfl)) ?_
    refine l_call (gn rfl) rfl rfl (r_callv (cap := []) rfl Tryz.call52 rfl) (f52 x13) ?_
    rintro v22 w23 ⟨rfl, hK24⟩
    have hM25 := hM20.keep hK24
    refine l_alloc hM25 rfl Cipher.zv ?_
    intro b26 w27 hM28 hK29 hB30
    replace hM28 : Mem w [b] [(b26, (Cipher.cells Cipher.zero), 40), (b14, (Ban.cells x13), 86), (b4, (Pt.cells t), 24)] w27 := hM28
    have hNb26 : w.heap.size ≤ b26 := Nat.le_trans hM25.kp.size hB30
    refine l_store hM28 (i := 0) rfl Tryz.sizeOf40 rfl rfl (Cipher.size _) (by rw [Cipher.size]; decide) (Cipher.one _) (put_whole _ _ ((Cipher.size _).trans (Cipher.size _).symm)) ?_
    intro w31 hM32 hK33
    replace hM32 : Mem w [b] [(b26, (Cipher.cells x13.who), 40), (b14, (Ban.cells x13), 86), (b4, (Pt.cells t), 24)] w31 := hM32
    refine l_nil ?_
    refine c_seq ?_
    refine c_seq ?_
    refine c_regD (fun w_ => Mem w [b] [(b26, (Cipher.cells x13.who), 40), (b14, (Ban.cells x13), 86), (b4, (Pt.cells t), 24)] w_ ∧ MapB w_ b (ks ++ ((l.map Ban.who).take i).map Cipher.E)) [] [(0, true), (1, true), (2, true), (3, true), (4, true), (5, true), (6, true), (7, true), (8, true), (9, true), (10, true), (11, true), (12, false), (13, true), (14, true), (15, true)] (by kernel_rfl) ?_
    have hM34 := hM32.drew
    refine s_take ⟨hM34, ((((((hmp.keep0 hK17).keep hK21 (by simp; omega)).keep0 hK24).keep0 hK29).keep hK33 (by simp; omega)).keep0 (Keeps.drew _))⟩ rfl (gn rfl) rfl rfl (fun w h => r_move rfl) ?_
    refine s_take ⟨hM34, ((((((hmp.keep0 hK17).keep hK21 (by simp; omega)).keep0 hK24).keep0 hK29).keep hK33 (by simp; omega)).keep0 (Keeps.drew _))⟩ rfl (gn rfl) rfl rfl (fun w h => r_fieldAddr Cipher.fld_E rfl) ?_
    refine s_take ⟨hM34, ((((((hmp.keep0 hK17).keep hK21 (by simp; omega)).keep0 hK24).keep0 hK29).keep hK33 (by simp; omega)).keep0 (Keeps.drew _))⟩ rfl (gn rfl) rfl rfl (fun w h => r_loadA Tryz.isAgg24 Tryz.sizeOf24 (Pt.size _) rfl (Holds.sub (h.1.base (i := 0) rfl) (Cipher.sub_E _))) ?_
    refine s_take ⟨hM34, ((((((hmp.keep0 hK17).keep hK21 (by simp; omega)).keep0 hK24).keep0 hK29).keep hK33 (by simp; omega)).keep0 (Keeps.drew _))⟩ rfl (gn rfl) rfl rfl (fun w h => r_lookup h.2 rfl rfl) ?_
    refine s_take ⟨hM34, ((((((hmp.keep0 hK17).keep hK21 (by simp; omega)).keep0 hK24).keep0 hK29).keep hK33 (by simp; omega)).keep0 (Keeps.drew _))⟩ rfl (gn rfl) rfl rfl (fun w h => r_gtr (b := decide ((0 : Nat) < seen ((ks ++ ((l.map Ban.who).take i).map Cipher.E)) x13.who.E)) rfl rfl (nlt 0 (seen ((ks ++ ((l.map Ban.who).take i).map Cipher.E)) x13.who.E))) ?_
    refine s_take ⟨hM34, ((((((hmp.keep0 hK17).keep hK21 (by simp; omega)).keep0 hK24).keep0 hK29).keep hK33 (by simp; omega)).keep0 (Keeps.drew _))⟩ rfl (gn rfl) rfl rfl (fun w h => r_move rfl) ?_
    refine ways (decide ((0 : Nat) < seen ((ks ++ ((l.map Ban.who).take i).map Cipher.E)) x13.who.E)) (fun h36 => ?_) (fun h36 => ?_)
    ·skip
     have hp37 : (0 : Nat) < seen ((ks ++ ((l.map Ban.who).take i).map Cipher.E)) x13.who.E := of_decide_eq_true h36
     refine s_off ⟨hM34, ((((((hmp.keep0 hK17).keep hK21 (by simp; omega)).keep0 hK24).keep0 hK29).keep hK33 (by simp; omega)).keep0 (Keeps.drew _))⟩ rfl (gno rfl rfl rfl rfl h36) rfl rfl ?_
     refine s_off ⟨hM34, ((((((hmp.keep0 hK17).keep hK21 (by simp; omega)).keep0 hK24).keep0 hK29).keep hK33 (by simp; omega)).keep0 (Keeps.drew _))⟩ rfl (gno rfl rfl rfl rfl h36) rfl rfl ?_
     refine s_off ⟨hM34, ((((((hmp.keep0 hK17).keep hK21 (by simp; omega)).keep0 hK24).keep0 hK29).keep hK33 (by simp; omega)).keep0 (Keeps.drew _))⟩ rfl (gno rfl rfl rfl rfl h36) rfl rfl ?_
     refine s_off ⟨hM34, ((((((hmp.keep0 hK17).keep hK21 (by simp; omega)).keep0 hK24).keep0 hK29).keep hK33 (by simp; omega)).keep0 (Keeps.drew _))⟩ rfl (gnu rfl rfl rfl rfl) rfl rfl ?_
     refine s_off ⟨hM34, ((((((hmp.keep0 hK17).keep hK21 (by simp; omega)).keep0 hK24).keep0 hK29).keep hK33 (by simp; omega)).keep0 (Keeps.drew _))⟩ rfl (gnu rfl rfl rfl rfl) rfl rfl ?_
     refine s_off ⟨hM34, ((((((hmp.keep0 hK17).keep hK21 (by simp; omega)).keep0 hK24).keep0 hK29).keep hK33 (by simp; omega)).keep0 (Keeps.drew _))⟩ rfl (gnu rfl rfl rfl rfl) rfl rfl ?_
     refine s_offx (.inr ⟨hM34, ((((((hmp.keep0 hK17).keep hK21 (by simp; omega)).keep0 hK24).keep0 hK29).keep hK33 (by simp; omega)).keep0 (Keeps.drew _))⟩) rfl (gnu rfl rfl rfl rfl) rfl rfl ?_
     refine s_off ⟨hM34, ((((((hmp.keep0 hK17).keep hK21 (by simp; omega)).keep0 hK24).keep0 hK29).keep hK33 (by simp; omega)).keep0 (Keeps.drew _))⟩ rfl (gnu rfl rfl rfl rfl) rfl rfl ?_
     refine s_off ⟨hM34, ((((((hmp.keep0 hK17).keep hK21 (by simp; omega)).keep0 hK24).keep0 hK29).keep hK33 (by simp; omega)).keep0 (Keeps.drew _))⟩ rfl (gno rfl rfl rfl rfl h36) rfl rfl ?_
     refine s_take ⟨hM34, ((((((hmp.keep0 hK17).keep hK21 (by simp; omega)).keep0 hK24).keep0 hK29).keep hK33 (by simp; omega)).keep0 (Keeps.drew _))⟩ rfl (gn rfl) rfl rfl (fun w h => r_pickT rfl h36 rfl) ?_
     refine s_nil ?_
     refine c_condT rfl rfl ?_
     refine c_seq ?_
     refine c_reg ?_
     refine l_val (gn rfl) rfl rfl (r_assign rfl) ?_
     refine l_nil ?_
     refine c_ret ?_
     refine ret1 rfl rfl ?_
     refine ⟨false, rfl, ⟨fun e => (by cases e), fun hok => ?_⟩, fun e => (by cases e), hM34.kp⟩
     exact (RollTo.seen (by rw [List.getElem?_map, hx13]; rfl) (seen_yes (by assumption)) hok).elim
    ·skip
     have hp38 : ¬ ((0 : Nat) < seen ((ks ++ ((l.map Ban.who).take i).map Cipher.E)) x13.who.E) := of_decide_eq_false h36
     refine s_take ⟨hM34, ((((((hmp.keep0 hK17).keep hK21 (by simp; omega)).keep0 hK24).keep0 hK29).keep hK33 (by simp; omega)).keep0 (Keeps.drew _))⟩ rfl (gy rfl rfl rfl rfl h36) rfl rfl (fun w h => r_move rfl) ?_
     refine s_take ⟨hM34, ((((((hmp.keep0 hK17).keep hK21 (by simp; omega)).keep0 hK24).keep0 hK29).keep hK33 (by simp; omega)).keep0 (Keeps.drew _))⟩ rfl (gy rfl rfl rfl rfl h36) rfl rfl (fun w h => r_gtr (b := decide ((0 : Nat) < i)) rfl rfl (nlt 0 i)) ?_
     refine s_take ⟨hM34, ((((((hmp.keep0 hK17).keep hK21 (by simp; omega)).keep0 hK24).keep0 hK29).keep hK33 (by simp; omega)).keep0 (Keeps.drew _))⟩ rfl (gy rfl rfl rfl rfl h36) rfl rfl (fun w h => r_move rfl) ?_
     refine ways (decide ((0 : Nat) < i)) (fun h39 => ?_) (fun h39 => ?_)
     ·skip
      have hp40 : (0 : Nat) < i := of_decide_eq_true h39
      refine s_take ⟨hM34, ((((((hmp.keep0 hK17).keep hK21 (by simp; omega)).keep0 hK24).keep0 hK29).keep hK33 (by simp; omega)).keep0 (Keeps.drew _))⟩ rfl (gy rfl rfl rfl rfl h39) rfl rfl (fun w h => r_sliceArr Tryz.underlying24 Tryz.sizeOf5 rfl) ?_
      refine s_take ⟨hM34, ((((((hmp.keep0 hK17).keep hK21 (by simp; omega)).keep0 hK24).keep0 hK29).keep hK33 (by simp; omega)).keep0 (Keeps.drew _))⟩ rfl (gy rfl rfl rfl rfl h39) rfl rfl (fun w h => r_fieldAddr Cipher.fld_E rfl) ?_
      refine s_take ⟨hM34, ((((((hmp.keep0 hK17).keep hK21 (by simp; omega)).keep0 hK24).keep0 hK29).keep hK33 (by simp; omega)).keep0 (Keeps.drew _))⟩ rfl (gy rfl rfl rfl rfl h39) rfl rfl (fun w h => r_sliceArr Tryz.underlying24 Tryz.sizeOf5 rfl) ?_
      refine s_call rfl (gy rfl rfl rfl rfl h39) rfl rfl (r_call Tryz.call88 rfl) (f88 (hM34.base (i := 2) rfl) (Holds.sub (hM34.base (i := 0) rfl) (Cipher.sub_E _))) ?_
      rintro v41 w42 ⟨rfl, hK43⟩
      have hM44 := hM34.keep hK43
      refine ⟨.inr ⟨hM44, (((((((hmp.keep0 hK17).keep hK21 (by simp; omega)).keep0 hK24).keep0 hK29).keep hK33 (by simp; omega)).keep0 (Keeps.drew _)).keep0 hK43)⟩, ?_⟩
      refine s_take ⟨hM44, (((((((hmp.keep0 hK17).keep hK21 (by simp; omega)).keep0 hK24).keep0 hK29).keep hK33 (by simp; omega)).keep0 (Keeps.drew _)).keep0 hK43)⟩ rfl (gy rfl rfl rfl rfl h39) rfl rfl (fun w h => r_geq (b := decide ((((0 : Nat) : Int) : Int) ≤ (ptCmp t x13.who.E : Int))) rfl rfl rfl) ?_
      refine s_take ⟨hM44, (((((((hmp.keep0 hK17).keep hK21 (by simp; omega)).keep0 hK24).keep0 hK29).keep hK33 (by simp; omega)).keep0 (Keeps.drew _)).keep0 hK43)⟩ rfl (gy rfl rfl rfl rfl h36) rfl rfl (fun w h => r_pickT rfl h39 rfl) ?_
      refine s_take ⟨hM44, (((((((hmp.keep0 hK17).keep hK21 (by simp; omega)).keep0 hK24).keep0 hK29).keep hK33 (by simp; omega)).keep0 (Keeps.drew _)).keep0 hK43)⟩ rfl (gn rfl) rfl rfl (fun w h => r_pickF rfl h36 rfl) ?_
      refine s_nil ?_
      refine ways (decide ((((0 : Nat) : Int) : Int) ≤ (ptCmp t x13.who.E : Int))) (fun h45 => ?_) (fun h45 => ?_)
      ·skip
       have hp46 : (((0 : Nat) : Int) : Int) ≤ (ptCmp t x13.who.E : Int) := of_decide_eq_true h45
       refine c_condT rfl h45 ?_
       refine c_seq ?_
       refine c_reg ?_
       refine l_val (gn rfl) rfl rfl (r_assign rfl) ?_
       refine l_nil ?_
       refine c_ret ?_
       refine ret1 rfl rfl ?_
       refine ⟨false, rfl, ⟨fun e => (by cases e), fun hok => ?_⟩, fun e => (by cases e), hM44.kp⟩
       exact (hro.down (by rw [List.getElem?_map, hx13]; rfl) (by assumption) (cmp_yes (by assumption)) hok).elim
      ·skip
       have hp47 : ¬ ((((0 : Nat) : Int) : Int) ≤ (ptCmp t x13.who.E : Int)) := of_decide_eq_false h45
       refine c_condF rfl h45 ?_
       refine c_skip ?_
       refine c_seq ?_
       refine c_reg ?_
       refine l_val (gn rfl) rfl rfl (r_move rfl) ?_
       refine l_val (gn rfl) rfl rfl (r_fieldAddr Cipher.fld_E rfl) ?_
       refine l_val (gn rfl) rfl rfl (r_loadA Tryz.isAgg24 Tryz.sizeOf24 (Pt.size _) rfl (Holds.sub (hM44.base (i := 0) rfl) (Cipher.sub_E _))) ?_
       refine l_mapUpdate hM44 (((((((hmp.keep0 hK17).keep hK21 (by simp; omega)).keep0 hK24).keep0 hK29).keep hK33 (by simp; omega)).keep0 (Keeps.drew _)).keep0 hK43) (seen_no (by assumption)) rfl rfl rfl (by simp) (by simp; omega) ?_
       intro w48 hM49 hK50 hm51
       refine l_nil ?_
       refine c_reg ?_
       refine l_val (gn rfl) rfl rfl (r_fieldAddr Cipher.fld_E rfl) ?_
       refine l_val (gn rfl) rfl rfl (r_loadA Tryz.isAgg24 Tryz.sizeOf24 (Pt.size _) rfl (Holds.sub (hM49.base (i := 0) rfl) (Cipher.sub_E _))) ?_
       refine l_store hM49 (i := 2) rfl Tryz.sizeOf24 rfl rfl (Pt.size _) (by rw [Pt.size]; decide) (Pt.one _) (put_whole _ _ ((Pt.size _).trans (Pt.size _).symm)) ?_
       intro w52 hM53 hK54
       replace hM53 : Mem w [b] [(b26, (Cipher.cells x13.who), 40), (b14, (Ban.cells x13), 86), (b4, (Pt.cells x13.who.E), 24)] w52 := hM53
       refine l_nil ?_
       refine c_reg ?_
       refine l_val (gn rfl) rfl rfl (r_add (r := ((i + 1 : Nat) : Int)) rfl rfl (nadd (i := i) (k := 1) (m := i + 1) (by omega) (by omega))) ?_
       refine l_val (gn rfl) rfl rfl (r_move rfl) ?_
       refine l_nil ?_
       intro a_ ha_
       refine ⟨(i + 1, x13.who.E), ⟨(hM53.forget (.cons _ (.cons _ (.refl _)))), ?_⟩, by omega, ha_.sub ⟨rfl, rfl, rfl, rfl, rfl, rfl, rfl, rfl, trivial⟩⟩
       exact ⟨by omega, hro.step (by rw [List.getElem?_map, hx13]; rfl) (seen_no (by assumption)) (fun h0 => by first | exact cmp_no (by assumption) | exact absurd h0 (by assumption)), by rw [take_step (show (l.map Ban.who)[i]? = some _ from by rw [List.getElem?_map, hx13]; rfl), List.map_append, ← List.append_assoc]; exact (hm51.keep hK54 (by simp; omega))⟩
     ·skip
      have hp55 : ¬ ((0 : Nat) < i) := of_decide_eq_false h39
      refine s_off ⟨hM34, ((((((hmp.keep0 hK17).keep hK21 (by simp; omega)).keep0 hK24).keep0 hK29).keep hK33 (by simp; omega)).keep0 (Keeps.drew _))⟩ rfl (gno rfl rfl rfl rfl h39) rfl rfl ?_
      refine s_off ⟨hM34, ((((((hmp.keep0 hK17).keep hK21 (by simp; omega)).keep0 hK24).keep0 hK29).keep hK33 (by simp; omega)).keep0 (Keeps.drew _))⟩ rfl (gno rfl rfl rfl rfl h39) rfl rfl ?_
      refine s_off ⟨hM34, ((((((hmp.keep0 hK17).keep hK21 (by simp; omega)).keep0 hK24).keep0 hK29).keep hK33 (by simp; omega)).keep0 (Keeps.drew _))⟩ rfl (gno rfl rfl rfl rfl h39) rfl rfl ?_
      refine s_offx (.inr ⟨hM34, ((((((hmp.keep0 hK17).keep hK21 (by simp; omega)).keep0 hK24).keep0 hK29).keep hK33 (by simp; omega)).keep0 (Keeps.drew _))⟩) rfl (gno rfl rfl rfl rfl h39) rfl rfl ?_
      refine s_off ⟨hM34, ((((((hmp.keep0 hK17).keep hK21 (by simp; omega)).keep0 hK24).keep0 hK29).keep hK33 (by simp; omega)).keep0 (Keeps.drew _))⟩ rfl (gno rfl rfl rfl rfl h39) rfl rfl ?_
      refine s_take ⟨hM34, ((((((hmp.keep0 hK17).keep hK21 (by simp; omega)).keep0 hK24).keep0 hK29).keep hK33 (by simp; omega)).keep0 (Keeps.drew _))⟩ rfl (gy rfl rfl rfl rfl h36) rfl rfl (fun w h => r_pickF rfl h39 rfl) ?_
      refine s_take ⟨hM34, ((((((hmp.keep0 hK17).keep hK21 (by simp; omega)).keep0 hK24).keep0 hK29).keep hK33 (by simp; omega)).keep0 (Keeps.drew _))⟩ rfl (gn rfl) rfl rfl (fun w h => r_pickF rfl h36 rfl) ?_
      refine s_nil ?_
      refine c_condF rfl rfl ?_
      refine c_skip ?_
      refine c_seq ?_
      refine c_reg ?_
      refine l_val (gn rfl) rfl rfl (r_move rfl) ?_
      refine l_val (gn rfl) rfl rfl (r_fieldAddr Cipher.fld_E rfl) ?_
      refine l_val (gn rfl) rfl rfl (r_loadA Tryz.isAgg24 Tryz.sizeOf24 (Pt.size _) rfl (Holds.sub (hM34.base (i := 0) rfl) (Cipher.sub_E _))) ?_
      refine l_mapUpdate hM34 ((((((hmp.keep0 hK17).keep hK21 (by simp; omega)).keep0 hK24).keep0 hK29).keep hK33 (by simp; omega)).keep0 (Keeps.drew _)) (seen_no (by assumption)) rfl rfl rfl (by simp) (by simp; omega) ?_
      intro w56 hM57 hK58 hm59
      refine l_nil ?_
      refine c_reg ?_
      refine l_val (gn rfl) rfl rfl (r_fieldAddr Cipher.fld_E rfl) ?_
      refine l_val (gn rfl) rfl rfl (r_loadA Tryz.isAgg24 Tryz.sizeOf24 (Pt.size _) rfl (Holds.sub (hM57.base (i := 0) rfl) (Cipher.sub_E _))) ?_
      refine l_store hM57 (i := 2) rfl Tryz.sizeOf24 rfl rfl (Pt.size _) (by rw [Pt.size]; decide) (Pt.one _) (put_whole _ _ ((Pt.size _).trans (Pt.size _).symm)) ?_
      intro w60 hM61 hK62
      replace hM61 : Mem w [b] [(b26, (Cipher.cells x13.who), 40), (b14, (Ban.cells x13), 86), (b4, (Pt.cells x13.who.E), 24)] w60 := hM61
      refine l_nil ?_
      refine c_reg ?_
      refine l_val (gn rfl) rfl rfl (r_add (r := ((i + 1 : Nat) : Int)) rfl rfl (nadd (i := i) (k := 1) (m := i + 1) (by omega) (by omega))) ?_
      refine l_val (gn rfl) rfl rfl (r_move rfl) ?_
      refine l_nil ?_
      intro a_ ha_
      refine ⟨(i + 1, x13.who.E), ⟨(hM61.forget (.cons _ (.cons _ (.refl _)))), ?_⟩, by omega, ha_.sub ⟨rfl, rfl, rfl, rfl, rfl, rfl, rfl, rfl, trivial⟩⟩
      exact ⟨by omega, hro.step (by rw [List.getElem?_map, hx13]; rfl) (seen_no (by assumption)) (fun h0 => by first | exact cmp_no (by assumption) | exact absurd h0 (by assumption)), by rw [take_step (show (l.map Ban.who)[i]? = some _ from by rw [List.getElem?_map, hx13]; rfl), List.map_append, ← List.append_assoc]; exact (hm59.keep hK62 (by simp; omega))⟩
   ·skip
    have hp63 : ¬ ((i : Nat) < l.length) := of_decide_eq_false h11
    refine c_condF rfl h11 ?_
    refine c_exit rfl ?_
    refine c_seq ?_
    refine c_reg ?_
    refine l_val (gn rfl) rfl rfl (r_assign rfl) ?_
    refine l_nil ?_
    refine c_ret ?_
    refine ret1 rfl rfl ?_
    exact ⟨true, rfl, ⟨fun _ => hro.done (by simpa using (show l.length ≤ 40 from by omega)) (by simpa using (show ¬ i < l.length from by assumption)), fun _ => rfl⟩, fun _ => by have := hmp; rw [List.take_of_length_le (by simp; omega)] at this; exact this, hM10.kp⟩
end Go.Proofs.YtekhaogjmmmniaaGreat
