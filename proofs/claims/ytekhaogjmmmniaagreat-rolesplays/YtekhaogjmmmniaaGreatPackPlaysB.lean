/- Part 2 of the proof of RolesPlaysSaid: what the functions reached compute, in plain words and by walks through their code. No statement of the rows is proved here. -/
import Derived.Test.YtekhaogjmmmniaaGreatPackPlaysA
namespace Go.Proofs.YtekhaogjmmmniaaGreat
open Go Go.RowKit

theorem f24 {A : Nat → Prop} {w : World} {S : State} {q : Six} (hS : StV A w q S) : Ret 24 #[.agg (S.rep q).cells] w (fun v w' => v = .bool (hasAdmin S) ∧ Keeps [] w w') := by
  have hM0 := Mem.start w
  refine enter Tryz.func24 rfl rfl ?_
  refine c_sr ?_
  refine l_box hM0 rfl rfl ?_
  intro b1 w2 hM3 hK4 hB5
  replace hM3 : Mem w [] [(b1, (SRep.cells ((SRep.mk S.ver S.key q.t S.acc q.p q.s q.i q.a q.b))), 37)] w2 := hM3
  refine l_v rfl (r_assign rfl) ?_
  refine l_nil ?_
  refine c_sr ?_
  refine l_v rfl (r_fieldAddr SRep.fld_seats rfl) ?_
  refine l_v rfl (r_load1 (v := Sl.val q.s) Tryz.isAgg32 rfl (Holds.sub (hM3.base (i := 0) rfl) (SRep.sub_seats _))) ?_
  refine l_v rfl (r_lenR Tryz.underlying32 rfl (hS.seats.keep0 hM3.kp).len) ?_
  refine l_v rfl (r_eql (b := decide ((S.seats.length : Nat) = 0)) rfl rfl (neq' S.seats.length 0)) ?_
  refine l_v rfl (r_move rfl) ?_
  refine ways (decide ((S.seats.length : Nat) = 0)) (fun h6 => ?_) (fun h6 => ?_)
  ·skip
   have hp7 : (S.seats.length : Nat) = 0 := of_decide_eq_true h6
   refine l_off (gno rfl rfl rfl rfl h6) rfl rfl ?_
   refine l_off (gno rfl rfl rfl rfl h6) rfl rfl ?_
   refine l_off (gno rfl rfl rfl rfl h6) rfl rfl ?_
   refine l_v rfl (r_pickT rfl h6 rfl) ?_
   refine l_v rfl (r_assign rfl) ?_
   refine l_nil ?_
   refine c_ret ?_
   refine ret1 rfl rfl ?_
   exact ⟨by simp [hasAdmin, *], hM3.kp⟩
  ·skip
   have hp8 : ¬ ((S.seats.length : Nat) = 0) := of_decide_eq_false h6
   refine l_val (gy rfl rfl rfl rfl h6) rfl rfl (r_loadA Tryz.isAgg37 Tryz.sizeOf37 (SRep.size _) rfl (hM3.base (i := 0) rfl)) ?_
   refine l_call (gy rfl rfl rfl rfl h6) rfl rfl (r_call Tryz.call40 rfl) (f40 (hS.keep0 hM3.kp)) ?_
   rintro v9 w10 ⟨rfl, hK11⟩
   have hM12 := hM3.keep hK11
   refine l_val (gy rfl rfl rfl rfl h6) rfl rfl (r_gtr (b := decide ((0 : Nat) < admins S.seats)) rfl rfl (nlt 0 (admins S.seats))) ?_
   refine l_v rfl (r_pickF rfl h6 rfl) ?_
   refine l_v rfl (r_assign rfl) ?_
   refine l_nil ?_
   refine c_ret ?_
   refine ret1 rfl rfl ?_
   exact ⟨by simp [hasAdmin, *], hM12.kp⟩
theorem f9 {A : Nat → Prop} {w : World} {S : State} {q : Six} (hS : StV A w q S) {B : Nat → Prop} {a : Action} {qa : Two} (hA : AcV B w qa a) : Ret 9 #[.agg (S.rep q).cells, .agg (a.rep qa).cells] w (fun v w' => v = .bool (largeB S a) ∧ Keeps [] w w') := by
  obtain ⟨hn1, hn2, hn3, hn4, hn5, hn6⟩ := hS.bd
  obtain ⟨hn7, hn8⟩ := hA.bd
  have hM0 := Mem.start w
  refine enter Tryz.func9 rfl rfl ?_
  refine c_sr ?_
  refine l_box hM0 rfl rfl ?_
  intro b1 w2 hM3 hK4 hB5
  replace hM3 : Mem w [] [(b1, (SRep.cells ((SRep.mk S.ver S.key q.t S.acc q.p q.s q.i q.a q.b))), 37)] w2 := hM3
  refine l_box hM3 rfl rfl ?_
  intro b6 w7 hM8 hK9 hB10
  replace hM8 : Mem w [] [(b6, (ARep.cells ((ARep.mk a.ver a.kind a.who a.E a.role qa.t a.acc qa.p))), 42), (b1, (SRep.cells ((SRep.mk S.ver S.key q.t S.acc q.p q.s q.i q.a q.b))), 37)] w7 := hM8
  refine l_v rfl (r_assign rfl) ?_
  refine l_nil ?_
  refine c_sr ?_
  refine l_v rfl (r_fieldAddr SRep.fld_seats rfl) ?_
  refine l_v rfl (r_load1 (v := Sl.val q.s) Tryz.isAgg32 rfl (Holds.sub (hM8.base (i := 1) rfl) (SRep.sub_seats _))) ?_
  refine l_v rfl (r_lenR Tryz.underlying32 rfl (hS.seats.keep0 hM8.kp).len) ?_
  refine l_v rfl (r_fieldAddr SRep.fld_invites rfl) ?_
  refine l_v rfl (r_load1 (v := Sl.val q.i) Tryz.isAgg33 rfl (Holds.sub (hM8.base (i := 1) rfl) (SRep.sub_invites _))) ?_
  refine l_v rfl (r_lenR Tryz.underlying33 rfl (hS.invites.keep0 hM8.kp).len) ?_
  refine l_v rfl (r_add (r := ((S.seats.length + S.invites.length : Nat) : Int)) rfl rfl (nadd (i := S.seats.length) (k := S.invites.length) (m := S.seats.length + S.invites.length) (by omega) (by omega))) ?_
  refine l_v rfl (r_fieldAddr SRep.fld_asks rfl) ?_
  refine l_v rfl (r_load1 (v := Sl.val q.a) Tryz.isAgg34 rfl (Holds.sub (hM8.base (i := 1) rfl) (SRep.sub_asks _))) ?_
  refine l_v rfl (r_lenR Tryz.underlying34 rfl (hS.asks.keep0 hM8.kp).len) ?_
  refine l_v rfl (r_add (r := (((S.seats.length + S.invites.length) + S.asks.length : Nat) : Int)) rfl rfl (nadd (i := S.seats.length + S.invites.length) (k := S.asks.length) (m := (S.seats.length + S.invites.length) + S.asks.length) (by omega) (by omega))) ?_
  refine l_v rfl (r_fieldAddr SRep.fld_bans rfl) ?_
  refine l_v rfl (r_load1 (v := Sl.val q.b) Tryz.isAgg35 rfl (Holds.sub (hM8.base (i := 1) rfl) (SRep.sub_bans _))) ?_
  refine l_v rfl (r_lenR Tryz.underlying35 rfl (hS.bans.keep0 hM8.kp).len) ?_
  refine l_v rfl (r_add (r := ((((S.seats.length + S.invites.length) + S.asks.length) + S.bans.length : Nat) : Int)) rfl rfl (nadd (i := (S.seats.length + S.invites.length) + S.asks.length) (k := S.bans.length) (m := ((S.seats.length + S.invites.length) + S.asks.length) + S.bans.length) (by omega) (by omega))) ?_
  refine l_v rfl (r_assign rfl) ?_
  refine l_nil ?_
  refine c_sr ?_
  refine l_v rfl (r_move rfl) ?_
  refine l_v rfl (r_gtr (b := decide ((400 : Nat) < ((S.seats.length + S.invites.length) + S.asks.length) + S.bans.length)) rfl rfl (nlt 400 (((S.seats.length + S.invites.length) + S.asks.length) + S.bans.length))) ?_
  refine l_v rfl (r_move rfl) ?_
  refine ways (decide ((400 : Nat) < ((S.seats.length + S.invites.length) + S.asks.length) + S.bans.length)) (fun h11 => ?_) (fun h11 => ?_)
  ·skip
   have hp12 : (400 : Nat) < ((S.seats.length + S.invites.length) + S.asks.length) + S.bans.length := of_decide_eq_true h11
   refine l_off (gno rfl rfl rfl rfl h11) rfl rfl ?_
   refine l_off (gno rfl rfl rfl rfl h11) rfl rfl ?_
   refine l_off (gno rfl rfl rfl rfl h11) rfl rfl ?_
   refine l_off (gno rfl rfl rfl rfl h11) rfl rfl ?_
   refine l_off (gno rfl rfl rfl rfl h11) rfl rfl ?_
   refine l_off (gno rfl rfl rfl rfl h11) rfl rfl ?_
   refine l_off (gno rfl rfl rfl rfl h11) rfl rfl ?_
   refine l_off (gno rfl rfl rfl rfl h11) rfl rfl ?_
   refine l_off (gno rfl rfl rfl rfl h11) rfl rfl ?_
   refine l_off (gno rfl rfl rfl rfl h11) rfl rfl ?_
   refine l_off (gno rfl rfl rfl rfl h11) rfl rfl ?_
   refine l_off (gno rfl rfl rfl rfl h11) rfl rfl ?_
   refine l_off (gno rfl rfl rfl rfl h11) rfl rfl ?_
   refine l_off (gno rfl rfl rfl rfl h11) rfl rfl ?_
   refine l_off (gno rfl rfl rfl rfl h11) rfl rfl ?_
   refine l_off (gno rfl rfl rfl rfl h11) rfl rfl ?_
   refine l_v rfl (r_pickT rfl h11 rfl) ?_
   refine l_v rfl (r_assign rfl) ?_
   refine l_nil ?_
   refine c_ret ?_
   refine ret1 rfl rfl ?_
   exact ⟨by simp [largeB, *], hM8.kp⟩
  ·skip
   have hp13 : ¬ ((400 : Nat) < ((S.seats.length + S.invites.length) + S.asks.length) + S.bans.length) := of_decide_eq_false h11
   refine l_val (gy rfl rfl rfl rfl h11) rfl rfl (r_fieldAddr SRep.fld_title rfl) ?_
   refine l_val (gy rfl rfl rfl rfl h11) rfl rfl (r_load1 (v := Sl.val q.t) Tryz.isAgg27 rfl (Holds.sub (hM8.base (i := 1) rfl) (SRep.sub_title _))) ?_
   refine l_val (gy rfl rfl rfl rfl h11) rfl rfl (r_lenR Tryz.underlying27 rfl (hS.title.keep0 hM8.kp).len) ?_
   refine l_val (gy rfl rfl rfl rfl h11) rfl rfl (r_fieldAddr SRep.fld_pass rfl) ?_
   refine l_val (gy rfl rfl rfl rfl h11) rfl rfl (r_load1 (v := Sl.val q.p) Tryz.isAgg27 rfl (Holds.sub (hM8.base (i := 1) rfl) (SRep.sub_pass _))) ?_
   refine l_val (gy rfl rfl rfl rfl h11) rfl rfl (r_lenR Tryz.underlying27 rfl (hS.pass.keep0 hM8.kp).len) ?_
   refine l_val (gy rfl rfl rfl rfl h11) rfl rfl (r_add (r := ((S.title.length + S.pass.length : Nat) : Int)) rfl rfl (nadd (i := S.title.length) (k := S.pass.length) (m := S.title.length + S.pass.length) (by omega) (by omega))) ?_
   refine l_val (gy rfl rfl rfl rfl h11) rfl rfl (r_fieldAddr ARep.fld_title rfl) ?_
   refine l_val (gy rfl rfl rfl rfl h11) rfl rfl (r_load1 (v := Sl.val qa.t) Tryz.isAgg27 rfl (Holds.sub (hM8.base (i := 0) rfl) (ARep.sub_title _))) ?_
   refine l_val (gy rfl rfl rfl rfl h11) rfl rfl (r_lenR Tryz.underlying27 rfl (hA.title.keep0 hM8.kp).len) ?_
   refine l_val (gy rfl rfl rfl rfl h11) rfl rfl (r_add (r := (((S.title.length + S.pass.length) + a.title.length : Nat) : Int)) rfl rfl (nadd (i := S.title.length + S.pass.length) (k := a.title.length) (m := (S.title.length + S.pass.length) + a.title.length) (by omega) (by omega))) ?_
   refine l_val (gy rfl rfl rfl rfl h11) rfl rfl (r_fieldAddr ARep.fld_pass rfl) ?_
   refine l_val (gy rfl rfl rfl rfl h11) rfl rfl (r_load1 (v := Sl.val qa.p) Tryz.isAgg27 rfl (Holds.sub (hM8.base (i := 0) rfl) (ARep.sub_pass _))) ?_
   refine l_val (gy rfl rfl rfl rfl h11) rfl rfl (r_lenR Tryz.underlying27 rfl (hA.pass.keep0 hM8.kp).len) ?_
   refine l_val (gy rfl rfl rfl rfl h11) rfl rfl (r_add (r := ((((S.title.length + S.pass.length) + a.title.length) + a.pass.length : Nat) : Int)) rfl rfl (nadd (i := (S.title.length + S.pass.length) + a.title.length) (k := a.pass.length) (m := ((S.title.length + S.pass.length) + a.title.length) + a.pass.length) (by omega) (by omega))) ?_
   refine l_val (gy rfl rfl rfl rfl h11) rfl rfl (r_gtr (b := decide ((20000 : Nat) < ((S.title.length + S.pass.length) + a.title.length) + a.pass.length)) rfl rfl (nlt 20000 (((S.title.length + S.pass.length) + a.title.length) + a.pass.length))) ?_
   refine l_v rfl (r_pickF rfl h11 rfl) ?_
   refine l_v rfl (r_assign rfl) ?_
   refine l_nil ?_
   refine c_ret ?_
   refine ret1 rfl rfl ?_
   exact ⟨by simp [largeB, *], hM8.kp⟩
theorem f98 {A B : Nat → Prop} {w : World} {s1 s2 : Sl} {l1 l2 : List UInt8} (h1 : Row A w s1 1 encB l1) (h2 : Row B w s2 1 encB l2) :
    Ret 98 #[s1.val, s2.val] w (fun v w' => v = .bool (decide (l1 = l2)) ∧ Keeps [] w w') := by
  have hM0 := Mem.start w
  refine enter Tryz.func98 rfl rfl ?_
  refine c_sr ?_
  refine l_v rfl (r_assign rfl) ?_
  refine l_nil ?_
  refine c_sr ?_
  refine l_v rfl (r_move rfl) ?_
  refine l_v rfl (r_bstrR rfl h1) ?_
  refine l_v rfl (r_move rfl) ?_
  refine l_v rfl (r_bstrR rfl h2) ?_
  refine l_v rfl (r_streq rfl rfl) ?_
  refine l_v rfl (r_assign rfl) ?_
  refine l_nil ?_
  refine c_ret ?_
  refine ret1 rfl rfl ?_
  exact ⟨rfl, hM0.kp⟩
theorem f86 {w : World} (a b : Pt) : Ret 86 #[.agg a.cells, .agg b.cells] w (fun v w' => v = .bool (ptLt a b) ∧ Keeps [] w w') := by
  have hM0 := Mem.start w
  refine enter Tryz.func86 rfl rfl ?_
  refine c_sr ?_
  refine l_box hM0 rfl rfl ?_
  intro b1 w2 hM3 hK4 hB5
  replace hM3 : Mem w [] [(b1, (Pt.cells a), 24)] w2 := hM3
  refine l_box hM3 rfl rfl ?_
  intro b6 w7 hM8 hK9 hB10
  replace hM8 : Mem w [] [(b6, (Pt.cells b), 24), (b1, (Pt.cells a), 24)] w7 := hM8
  refine l_v rfl (r_assign rfl) ?_
  refine l_nil ?_
  refine c_seq ?_
  refine c_regD (Mem w [] [(b6, (Pt.cells b), 24), (b1, (Pt.cells a), 24)]) [] [(0, true), (1, true), (2, true), (3, true), (4, true), (5, true)] (by kernel_rfl) ?_
  have hM11 := hM8.drew
  refine s_take hM11 rfl (gn rfl) rfl rfl (fun w h => r_sliceArr Tryz.underlying24 Tryz.sizeOf5 rfl) ?_
  refine s_take hM11 rfl (gn rfl) rfl rfl (fun w h => r_bstrP rfl (h.base (i := 1) rfl)) ?_
  refine s_take hM11 rfl (gn rfl) rfl rfl (fun w h => r_sliceArr Tryz.underlying24 Tryz.sizeOf5 rfl) ?_
  refine s_take hM11 rfl (gn rfl) rfl rfl (fun w h => r_bstrP rfl (h.base (i := 0) rfl)) ?_
  refine s_take hM11 rfl (gn rfl) rfl rfl (fun w h => r_strlt rfl rfl) ?_
  refine s_take hM11 rfl (gn rfl) rfl rfl (fun w h => r_assign rfl) ?_
  refine s_nil ?_
  refine c_ret ?_
  refine ret1 rfl rfl ?_
  exact ⟨rfl, hM11.kp⟩
theorem f88 {w : World} {a b : Pt} {b1 o1 b2 o2 : Nat} (h1 : Holds w b1 o1 a.cells) (h2 : Holds w b2 o2 b.cells) :
    Ret 88 #[.slice (some ⟨b1, o1, none⟩) 32 32, .slice (some ⟨b2, o2, none⟩) 32 32] w (fun v w' => v = .int .i64 (ptCmp a b) ∧ Keeps [] w w') := by
  have hM0 := Mem.start w
  refine enter Tryz.func88 rfl rfl ?_
  refine c_sr ?_
  refine l_v rfl (r_assign rfl) ?_
  refine l_nil ?_
  refine c_sr ?_
  refine l_v rfl (r_move rfl) ?_
  refine l_v rfl (r_move rfl) ?_
  refine l_v rfl (r_cmp rfl rfl (h1.keep hM0.kp (by simp)) (h2.keep hM0.kp (by simp))) ?_
  refine l_v rfl (r_assign rfl) ?_
  refine l_nil ?_
  refine c_ret ?_
  refine ret1 rfl rfl ?_
  exact ⟨rfl, hM0.kp⟩
theorem f26 {A : Nat → Prop} {w : World} {S : State} {q : Six} (hS : StV A w q S) (e : Pt) : Ret 26 #[.agg (S.rep q).cells, .agg e.cells] w
    (fun v w' => v = .tuple #[.int .i64 (((placeOf S e).1 : Nat) : Int), .int .u64 (((placeOf S e).2.1 : Nat) : Int), .agg (placeOf S e).2.2.cells] ∧ Keeps [] w w') := by
  have hM0 := Mem.start w
  refine enter Tryz.func26 rfl rfl ?_
  refine c_sr ?_
  refine l_box hM0 rfl rfl ?_
  intro b1 w2 hM3 hK4 hB5
  replace hM3 : Mem w [] [(b1, (SRep.cells ((SRep.mk S.ver S.key q.t S.acc q.p q.s q.i q.a q.b))), 37)] w2 := hM3
  refine l_box hM3 rfl rfl ?_
  intro b6 w7 hM8 hK9 hB10
  replace hM8 : Mem w [] [(b6, (Pt.cells e), 24), (b1, (SRep.cells ((SRep.mk S.ver S.key q.t S.acc q.p q.s q.i q.a q.b))), 37)] w7 := hM8
  refine l_v rfl (r_assign rfl) ?_
  refine l_v rfl (r_assign rfl) ?_
  refine l_alloc hM8 rfl zv_Pt ?_
  intro b11 w12 hM13 hK14 hB15
  replace hM13 : Mem w [] [(b11, (Pt.cells Pt.zero), 24), (b6, (Pt.cells e), 24), (b1, (SRep.cells ((SRep.mk S.ver S.key q.t S.acc q.p q.s q.i q.a q.b))), 37)] w12 := hM13
  refine l_nil ?_
  refine c_sr ?_
  refine l_v rfl (r_loadA Tryz.isAgg37 Tryz.sizeOf37 (SRep.size _) rfl (hM13.base (i := 2) rfl)) ?_
  refine l_v rfl (r_loadA Tryz.isAgg24 Tryz.sizeOf24 (Pt.size _) rfl (hM13.base (i := 1) rfl)) ?_
  refine l_call (gn rfl) rfl rfl (r_call Tryz.call36 rfl) (f36 (hS.keep0 hM13.kp) e) ?_
  rintro v16 w17 ⟨rfl, hK18⟩
  have hM19 := hM13.keep hK18
  rcases idxOf_cases (seatIs e) S.seats with ⟨hi20, hf20⟩ | ⟨k20, x20, hi20, hx20, hp20, hf20⟩
  ·skip
   rw [hi20]
   refine l_v rfl (r_assign rfl) ?_
   refine l_nil ?_
   refine c_seq ?_
   refine c_sr ?_
   refine l_v rfl (r_move rfl) ?_
   refine l_v rfl (r_geq (b := false) rfl rfl (by decide)) ?_
   refine l_nil ?_
   refine c_condF rfl rfl ?_
   refine c_skip ?_
   refine c_sr ?_
   refine l_v rfl (r_loadA Tryz.isAgg37 Tryz.sizeOf37 (SRep.size _) rfl (hM19.base (i := 2) rfl)) ?_
   refine l_v rfl (r_loadA Tryz.isAgg24 Tryz.sizeOf24 (Pt.size _) rfl (hM19.base (i := 1) rfl)) ?_
   refine l_call (gn rfl) rfl rfl (r_call Tryz.call41 rfl) (f41 (hS.keep0 hM19.kp) e) ?_
   rintro v21 w22 ⟨rfl, hK23⟩
   have hM24 := hM19.keep hK23
   rcases idxOf_cases (inviteIs e) S.invites with ⟨hi25, hf25⟩ | ⟨k25, x25, hi25, hx25, hp25, hf25⟩
   ·skip
    rw [hi25]
    refine l_v rfl (r_assign rfl) ?_
    refine l_nil ?_
    refine c_seq ?_
    refine c_sr ?_
    refine l_v rfl (r_move rfl) ?_
    refine l_v rfl (r_geq (b := false) rfl rfl (by decide)) ?_
    refine l_nil ?_
    refine c_condF rfl rfl ?_
    refine c_skip ?_
    refine c_sr ?_
    refine l_v rfl (r_loadA Tryz.isAgg37 Tryz.sizeOf37 (SRep.size _) rfl (hM24.base (i := 2) rfl)) ?_
    refine l_v rfl (r_loadA Tryz.isAgg24 Tryz.sizeOf24 (Pt.size _) rfl (hM24.base (i := 1) rfl)) ?_
    refine l_call (gn rfl) rfl rfl (r_call Tryz.call42 rfl) (f42 (hS.keep0 hM24.kp) e) ?_
    rintro v26 w27 ⟨rfl, hK28⟩
    have hM29 := hM24.keep hK28
    rcases idxOf_cases (askIs e) S.asks with ⟨hi30, hf30⟩ | ⟨k30, x30, hi30, hx30, hp30, hf30⟩
    ·skip
     rw [hi30]
     refine l_v rfl (r_assign rfl) ?_
     refine l_nil ?_
     refine c_seq ?_
     refine c_sr ?_
     refine l_v rfl (r_move rfl) ?_
     refine l_v rfl (r_geq (b := false) rfl rfl (by decide)) ?_
     refine l_nil ?_
     refine c_condF rfl rfl ?_
     refine c_skip ?_
     refine c_sr ?_
     refine l_v rfl (r_loadA Tryz.isAgg37 Tryz.sizeOf37 (SRep.size _) rfl (hM29.base (i := 2) rfl)) ?_
     refine l_v rfl (r_loadA Tryz.isAgg24 Tryz.sizeOf24 (Pt.size _) rfl (hM29.base (i := 1) rfl)) ?_
     refine l_call (gn rfl) rfl rfl (r_call Tryz.call43 rfl) (f43 (hS.keep0 hM29.kp) e) ?_
     rintro v31 w32 ⟨rfl, hK33⟩
     have hM34 := hM29.keep hK33
     rcases idxOf_cases (banIs e) S.bans with ⟨hi35, hf35⟩ | ⟨k35, x35, hi35, hx35, hp35, hf35⟩
     ·skip
      rw [hi35]
      refine l_v rfl (r_assign rfl) ?_
      refine l_nil ?_
      refine c_seq ?_
      refine c_sr ?_
      refine l_v rfl (r_move rfl) ?_
      refine l_v rfl (r_geq (b := false) rfl rfl (by decide)) ?_
      refine l_nil ?_
      refine c_condF rfl rfl ?_
      refine c_skip ?_
      refine c_sr ?_
      refine l_v rfl (r_build rfl Pt.built) ?_
      refine l_v rfl (r_assign rfl) ?_
      refine l_v rfl (r_assign rfl) ?_
      refine l_store hM34 (i := 0) rfl Tryz.sizeOf24 rfl rfl (Pt.size _) (by rw [Pt.size]; decide) (Pt.one _) (put_whole _ _ ((Pt.size _).trans (Pt.size _).symm)) ?_
      intro w36 hM37 hK38
      replace hM37 : Mem w [] [(b11, (Pt.cells Pt.zero), 24), (b6, (Pt.cells e), 24), (b1, (SRep.cells ((SRep.mk S.ver S.key q.t S.acc q.p q.s q.i q.a q.b))), 37)] w36 := hM37
      refine l_nil ?_
      refine c_ret ?_
      refine retTTC rfl Tryz.isAgg24 Tryz.sizeOf24 (Pt.size _) rfl rfl rfl (hM37.base (i := 0) rfl) ?_
      exact ⟨by simp [placeOf, *], hM37.kp⟩
     ·skip
      rw [hi35]
      refine l_v rfl (r_assign rfl) ?_
      refine l_nil ?_
      refine c_seq ?_
      refine c_sr ?_
      refine l_v rfl (r_move rfl) ?_
      refine l_v rfl (r_geq (b := true) rfl rfl (by simp)) ?_
      refine l_nil ?_
      refine c_condT rfl rfl ?_
      refine c_seq ?_
      refine c_regD (Mem w [] [(b11, (Pt.cells Pt.zero), 24), (b6, (Pt.cells e), 24), (b1, (SRep.cells ((SRep.mk S.ver S.key q.t S.acc q.p q.s q.i q.a q.b))), 37)]) [9] [(0, true), (1, true), (2, true), (3, true), (4, true), (5, true), (6, true), (7, true), (8, true), (9, false)] (by kernel_rfl) ?_
      have hM39 := hM34.drew
      refine s_take hM39 rfl (gn rfl) rfl rfl (fun w h => r_fieldAddr SRep.fld_bans rfl) ?_
      refine s_take hM39 rfl (gn rfl) rfl rfl (fun w h => r_load1 (v := Sl.val q.b) Tryz.isAgg35 rfl (Holds.sub (h.base (i := 2) rfl) (SRep.sub_bans _))) ?_
      refine s_take hM39 rfl (gn rfl) rfl rfl (fun w h => r_move rfl) ?_
      have hlt41 : k35 < S.bans.length := (List.getElem?_eq_some_iff.1 hx35).1
      obtain ⟨p41, o41, ha41, hA41, -⟩ := (hS.bans.keep0 hM39.kp).at_ _ _ hx35
      refine s_take hM39 rfl (gn rfl) rfl rfl (fun w h => r_indexR Tryz.underlying35 Tryz.sizeOf86 ⟨_, (hS.bans.keep0 h.kp)⟩ rfl ha41 rfl hlt41) ?_
      refine s_take hM39 rfl (gn rfl) rfl rfl (fun w h => r_fieldAddr Ban.fld_by_ rfl) ?_
      refine s_take hM39 rfl (gn rfl) rfl rfl (fun w h => r_fieldAddr Cipher.fld_E rfl) ?_
      refine s_take hM39 rfl (gn rfl) rfl rfl (fun w h => r_loadA Tryz.isAgg24 Tryz.sizeOf24 (Pt.size _) rfl (Holds.sub (Holds.sub ((hS.bans.keep0 h.kp).ix hx35 ha41) (Ban.sub_by_ _)) (Cipher.sub_E _))) ?_
      refine s_take hM39 rfl (gn rfl) rfl rfl (fun w h => r_assign rfl) ?_
      refine s_take hM39 rfl (gn rfl) rfl rfl (fun w h => r_assign rfl) ?_
      refine s_store hM39 (j := 0) rfl rfl Tryz.sizeOf24 rfl rfl (Pt.size _) (by rw [Pt.size]; decide) (Pt.one _) (put_whole _ _ ((Pt.size _).trans (Pt.size _).symm)) ?_
      intro w42 hM43 hK44
      replace hM43 : Mem w [] [(b11, (Pt.cells x35.by_.E), 24), (b6, (Pt.cells e), 24), (b1, (SRep.cells ((SRep.mk S.ver S.key q.t S.acc q.p q.s q.i q.a q.b))), 37)] w42 := hM43
      refine ⟨.inl rfl, ?_⟩
      refine s_nil ?_
      refine c_ret ?_
      refine retTTC rfl Tryz.isAgg24 Tryz.sizeOf24 (Pt.size _) rfl rfl rfl (hM43.base (i := 0) rfl) ?_
      exact ⟨by simp [placeOf, *], hM43.kp⟩
    ·skip
     rw [hi30]
     refine l_v rfl (r_assign rfl) ?_
     refine l_nil ?_
     refine c_seq ?_
     refine c_sr ?_
     refine l_v rfl (r_move rfl) ?_
     refine l_v rfl (r_geq (b := true) rfl rfl (by simp)) ?_
     refine l_nil ?_
     refine c_condT rfl rfl ?_
     refine c_seq ?_
     refine c_regD (Mem w [] [(b11, (Pt.cells Pt.zero), 24), (b6, (Pt.cells e), 24), (b1, (SRep.cells ((SRep.mk S.ver S.key q.t S.acc q.p q.s q.i q.a q.b))), 37)]) [10] [(0, true), (1, true), (2, true), (3, true), (4, true), (5, true), (6, true), (7, true), (8, true), (9, true), (10, false)] (by kernel_rfl) ?_
     have hM45 := hM29.drew
     refine s_take hM45 rfl (gn rfl) rfl rfl (fun w h => r_fieldAddr SRep.fld_asks rfl) ?_
     refine s_take hM45 rfl (gn rfl) rfl rfl (fun w h => r_load1 (v := Sl.val q.a) Tryz.isAgg34 rfl (Holds.sub (h.base (i := 2) rfl) (SRep.sub_asks _))) ?_
     refine s_take hM45 rfl (gn rfl) rfl rfl (fun w h => r_move rfl) ?_
     have hlt47 : k30 < S.asks.length := (List.getElem?_eq_some_iff.1 hx30).1
     obtain ⟨p47, o47, ha47, hA47, -⟩ := (hS.asks.keep0 hM45.kp).at_ _ _ hx30
     refine s_take hM45 rfl (gn rfl) rfl rfl (fun w h => r_indexR Tryz.underlying34 Tryz.sizeOf84 ⟨_, (hS.asks.keep0 h.kp)⟩ rfl ha47 rfl hlt47) ?_
     refine s_take hM45 rfl (gn rfl) rfl rfl (fun w h => r_fieldAddr Ask.fld_at_ rfl) ?_
     refine s_take hM45 rfl (gn rfl) rfl rfl (fun w h => r_load1 (v := vU32 x30.at_) Tryz.isAgg22 rfl (Holds.sub ((hS.asks.keep0 h.kp).ix hx30 ha47) (Ask.sub_at_ _))) ?_
     refine s_take hM45 rfl (gn rfl) rfl rfl (fun w h => r_convI (r := ((x30.at_.toNat : Nat) : Int)) Tryz.underlying22 Tryz.underlying65 rfl (wu64_32 _)) ?_
     refine s_take hM45 rfl (gn rfl) rfl rfl (fun w h => r_build rfl Pt.built) ?_
     refine s_take hM45 rfl (gn rfl) rfl rfl (fun w h => r_assign rfl) ?_
     refine s_take hM45 rfl (gn rfl) rfl rfl (fun w h => r_assign rfl) ?_
     refine s_store hM45 (j := 0) rfl rfl Tryz.sizeOf24 rfl rfl (Pt.size _) (by rw [Pt.size]; decide) (Pt.one _) (put_whole _ _ ((Pt.size _).trans (Pt.size _).symm)) ?_
     intro w48 hM49 hK50
     replace hM49 : Mem w [] [(b11, (Pt.cells Pt.zero), 24), (b6, (Pt.cells e), 24), (b1, (SRep.cells ((SRep.mk S.ver S.key q.t S.acc q.p q.s q.i q.a q.b))), 37)] w48 := hM49
     refine ⟨.inl rfl, ?_⟩
     refine s_nil ?_
     refine c_ret ?_
     refine retTTC rfl Tryz.isAgg24 Tryz.sizeOf24 (Pt.size _) rfl rfl rfl (hM49.base (i := 0) rfl) ?_
     exact ⟨by simp [placeOf, *], hM49.kp⟩
   ·skip
    rw [hi25]
    refine l_v rfl (r_assign rfl) ?_
    refine l_nil ?_
    refine c_seq ?_
    refine c_sr ?_
    refine l_v rfl (r_move rfl) ?_
    refine l_v rfl (r_geq (b := true) rfl rfl (by simp)) ?_
    refine l_nil ?_
    refine c_condT rfl rfl ?_
    refine c_seq ?_
    refine c_regD (Mem w [] [(b11, (Pt.cells Pt.zero), 24), (b6, (Pt.cells e), 24), (b1, (SRep.cells ((SRep.mk S.ver S.key q.t S.acc q.p q.s q.i q.a q.b))), 37)]) [16] [(0, true), (1, true), (2, true), (3, true), (4, true), (5, true), (6, true), (7, true), (8, true), (9, true), (10, true), (11, true), (12, true), (13, true), (14, true), (15, true), (16, false)] (by kernel_rfl) ?_
    have hM51 := hM24.drew
    refine s_take hM51 rfl (gn rfl) rfl rfl (fun w h => r_fieldAddr SRep.fld_invites rfl) ?_
    refine s_take hM51 rfl (gn rfl) rfl rfl (fun w h => r_load1 (v := Sl.val q.i) Tryz.isAgg33 rfl (Holds.sub (h.base (i := 2) rfl) (SRep.sub_invites _))) ?_
    refine s_take hM51 rfl (gn rfl) rfl rfl (fun w h => r_move rfl) ?_
    have hlt53 : k25 < S.invites.length := (List.getElem?_eq_some_iff.1 hx25).1
    obtain ⟨p53, o53, ha53, hA53, -⟩ := (hS.invites.keep0 hM51.kp).at_ _ _ hx25
    refine s_take hM51 rfl (gn rfl) rfl rfl (fun w h => r_indexR Tryz.underlying33 Tryz.sizeOf82 ⟨_, (hS.invites.keep0 h.kp)⟩ rfl ha53 rfl hlt53) ?_
    refine s_take hM51 rfl (gn rfl) rfl rfl (fun w h => r_fieldAddr Invite.fld_role rfl) ?_
    refine s_take hM51 rfl (gn rfl) rfl rfl (fun w h => r_load1 (v := vU8 x25.role) Tryz.isAgg28 rfl (Holds.sub ((hS.invites.keep0 h.kp).ix hx25 ha53) (Invite.sub_role _))) ?_
    refine s_take hM51 rfl (gn rfl) rfl rfl (fun w h => r_convI (r := ((x25.role.toNat : Nat) : Int)) Tryz.underlying28 Tryz.underlying65 rfl (wu64_8 _)) ?_
    refine s_take hM51 rfl (gn rfl) rfl rfl (fun w h => r_fieldAddr SRep.fld_invites rfl) ?_
    refine s_take hM51 rfl (gn rfl) rfl rfl (fun w h => r_load1 (v := Sl.val q.i) Tryz.isAgg33 rfl (Holds.sub (h.base (i := 2) rfl) (SRep.sub_invites _))) ?_
    refine s_take hM51 rfl (gn rfl) rfl rfl (fun w h => r_move rfl) ?_
    refine s_take hM51 rfl (gn rfl) rfl rfl (fun w h => r_indexR Tryz.underlying33 Tryz.sizeOf82 ⟨_, (hS.invites.keep0 h.kp)⟩ rfl ha53 rfl hlt53) ?_
    refine s_take hM51 rfl (gn rfl) rfl rfl (fun w h => r_fieldAddr Invite.fld_by_ rfl) ?_
    refine s_take hM51 rfl (gn rfl) rfl rfl (fun w h => r_fieldAddr Cipher.fld_E rfl) ?_
    refine s_take hM51 rfl (gn rfl) rfl rfl (fun w h => r_loadA Tryz.isAgg24 Tryz.sizeOf24 (Pt.size _) rfl (Holds.sub (Holds.sub ((hS.invites.keep0 h.kp).ix hx25 ha53) (Invite.sub_by_ _)) (Cipher.sub_E _))) ?_
    refine s_take hM51 rfl (gn rfl) rfl rfl (fun w h => r_assign rfl) ?_
    refine s_take hM51 rfl (gn rfl) rfl rfl (fun w h => r_assign rfl) ?_
    refine s_store hM51 (j := 0) rfl rfl Tryz.sizeOf24 rfl rfl (Pt.size _) (by rw [Pt.size]; decide) (Pt.one _) (put_whole _ _ ((Pt.size _).trans (Pt.size _).symm)) ?_
    intro w54 hM55 hK56
    replace hM55 : Mem w [] [(b11, (Pt.cells x25.by_.E), 24), (b6, (Pt.cells e), 24), (b1, (SRep.cells ((SRep.mk S.ver S.key q.t S.acc q.p q.s q.i q.a q.b))), 37)] w54 := hM55
    refine ⟨.inl rfl, ?_⟩
    refine s_nil ?_
    refine c_ret ?_
    refine retTTC rfl Tryz.isAgg24 Tryz.sizeOf24 (Pt.size _) rfl rfl rfl (hM55.base (i := 0) rfl) ?_
    exact ⟨by simp [placeOf, *], hM55.kp⟩
  ·skip
   rw [hi20]
   refine l_v rfl (r_assign rfl) ?_
   refine l_nil ?_
   refine c_seq ?_
   refine c_sr ?_
   refine l_v rfl (r_move rfl) ?_
   refine l_v rfl (r_geq (b := true) rfl rfl (by simp)) ?_
   refine l_nil ?_
   refine c_condT rfl rfl ?_
   refine c_seq ?_
   refine c_regD (Mem w [] [(b11, (Pt.cells Pt.zero), 24), (b6, (Pt.cells e), 24), (b1, (SRep.cells ((SRep.mk S.ver S.key q.t S.acc q.p q.s q.i q.a q.b))), 37)]) [19] [(0, true), (1, true), (2, true), (3, true), (4, true), (5, true), (6, true), (7, true), (8, true), (9, true), (10, true), (11, true), (12, true), (13, true), (14, true), (15, true), (16, true), (17, true), (18, true), (19, false)] (by kernel_rfl) ?_
   have hM57 := hM19.drew
   refine s_take hM57 rfl (gn rfl) rfl rfl (fun w h => r_fieldAddr SRep.fld_seats rfl) ?_
   refine s_take hM57 rfl (gn rfl) rfl rfl (fun w h => r_load1 (v := Sl.val q.s) Tryz.isAgg32 rfl (Holds.sub (h.base (i := 2) rfl) (SRep.sub_seats _))) ?_
   refine s_take hM57 rfl (gn rfl) rfl rfl (fun w h => r_move rfl) ?_
   have hlt59 : k20 < S.seats.length := (List.getElem?_eq_some_iff.1 hx20).1
   obtain ⟨p59, o59, ha59, hA59, -⟩ := (hS.seats.keep0 hM57.kp).at_ _ _ hx20
   refine s_take hM57 rfl (gn rfl) rfl rfl (fun w h => r_indexR Tryz.underlying32 Tryz.sizeOf73 ⟨_, (hS.seats.keep0 h.kp)⟩ rfl ha59 rfl hlt59) ?_
   refine s_take hM57 rfl (gn rfl) rfl rfl (fun w h => r_fieldAddr Seat.fld_role rfl) ?_
   refine s_take hM57 rfl (gn rfl) rfl rfl (fun w h => r_load1 (v := vU8 x20.role) Tryz.isAgg28 rfl (Holds.sub ((hS.seats.keep0 h.kp).ix hx20 ha59) (Seat.sub_role _))) ?_
   refine s_take hM57 rfl (gn rfl) rfl rfl (fun w h => r_convI (r := ((x20.role.toNat : Nat) : Int)) Tryz.underlying28 Tryz.underlying65 rfl (wu64_8 _)) ?_
   refine s_take hM57 rfl (gn rfl) rfl rfl (fun w h => r_shl (r := ((x20.role.toNat * 4294967296 : Nat) : Int)) rfl rfl (by decide) (u64shl x20.role.toNat (by have := UInt8.toNat_lt x20.role; omega))) ?_
   refine s_take hM57 rfl (gn rfl) rfl rfl (fun w h => r_fieldAddr SRep.fld_seats rfl) ?_
   refine s_take hM57 rfl (gn rfl) rfl rfl (fun w h => r_load1 (v := Sl.val q.s) Tryz.isAgg32 rfl (Holds.sub (h.base (i := 2) rfl) (SRep.sub_seats _))) ?_
   refine s_take hM57 rfl (gn rfl) rfl rfl (fun w h => r_move rfl) ?_
   refine s_take hM57 rfl (gn rfl) rfl rfl (fun w h => r_indexR Tryz.underlying32 Tryz.sizeOf73 ⟨_, (hS.seats.keep0 h.kp)⟩ rfl ha59 rfl hlt59) ?_
   refine s_take hM57 rfl (gn rfl) rfl rfl (fun w h => r_fieldAddr Seat.fld_joined rfl) ?_
   refine s_take hM57 rfl (gn rfl) rfl rfl (fun w h => r_load1 (v := vU32 x20.joined) Tryz.isAgg22 rfl (Holds.sub ((hS.seats.keep0 h.kp).ix hx20 ha59) (Seat.sub_joined _))) ?_
   refine s_take hM57 rfl (gn rfl) rfl rfl (fun w h => r_convI (r := ((x20.joined.toNat : Nat) : Int)) Tryz.underlying22 Tryz.underlying65 rfl (wu64_32 _)) ?_
   refine s_take hM57 rfl (gn rfl) rfl rfl (fun w h => r_add (r := (((x20.role.toNat * 4294967296) + x20.joined.toNat : Nat) : Int)) rfl rfl (u64add (x20.role.toNat * 4294967296) x20.joined.toNat (by have := UInt8.toNat_lt x20.role; have := UInt32.toNat_lt x20.joined; omega))) ?_
   refine s_take hM57 rfl (gn rfl) rfl rfl (fun w h => r_build rfl Pt.built) ?_
   refine s_take hM57 rfl (gn rfl) rfl rfl (fun w h => r_assign rfl) ?_
   refine s_take hM57 rfl (gn rfl) rfl rfl (fun w h => r_assign rfl) ?_
   refine s_store hM57 (j := 0) rfl rfl Tryz.sizeOf24 rfl rfl (Pt.size _) (by rw [Pt.size]; decide) (Pt.one _) (put_whole _ _ ((Pt.size _).trans (Pt.size _).symm)) ?_
   intro w60 hM61 hK62
   replace hM61 : Mem w [] [(b11, (Pt.cells Pt.zero), 24), (b6, (Pt.cells e), 24), (b1, (SRep.cells ((SRep.mk S.ver S.key q.t S.acc q.p q.s q.i q.a q.b))), 37)] w60 := hM61
   refine ⟨.inl rfl, ?_⟩
   refine s_nil ?_
   refine c_ret ?_
   refine retTTC rfl Tryz.isAgg24 Tryz.sizeOf24 (Pt.size _) rfl rfl rfl (hM61.base (i := 0) rfl) ?_
   exact ⟨by simp [placeOf, *], hM61.kp⟩
end Go.Proofs.YtekhaogjmmmniaaGreat
namespace Go.Proofs.YtekhaogjmmmniaaGreat
open Go Go.RowKit

theorem f58 {w : World} (k : UInt8) : Ret 58 #[vU8 k] w (fun v w' => v = .agg (hsOf k).cells ∧ Keeps [] w w') := by
  have hM0 := Mem.start w
  refine enter Tryz.func58 rfl rfl ?_
  refine c_sr ?_
  refine l_alloc hM0 rfl Hs.zv ?_
  intro b1 w2 hM3 hK4 hB5
  replace hM3 : Mem w [] [(b1, (Hs.cells Hs.zero), 106)] w2 := hM3
  refine l_nil ?_
  refine c_seq ?_
  refine c_sr ?_
  refine l_v rfl (r_move rfl) ?_
  refine l_nil ?_
  refine c_block ?_
  refine c_seq ?_
  refine c_block ?_
  refine c_seq ?_
  refine c_block ?_
  refine c_seq ?_
  refine c_block ?_
  refine c_seq ?_
  refine c_block ?_
  refine c_seq ?_
  refine c_block ?_
  refine c_seq ?_
  refine c_block ?_
  refine c_seq ?_
  refine c_block ?_
  refine c_seq ?_
  refine c_seq ?_
  refine c_seq ?_
  refine c_sr ?_
  refine l_v rfl (r_eql (b := decide ((k : UInt8) = 1)) rfl rfl (u8eq k 1)) ?_
  refine l_v rfl (r_assign rfl) ?_
  refine l_nil ?_
  refine ways (decide ((k : UInt8) = 1)) (fun h6 => ?_) (fun h6 => ?_)
  ·skip
   have hp7 : (k : UInt8) = 1 := of_decide_eq_true h6
   refine c_condT rfl h6 ?_
   refine c_skip ?_
   refine c_condT rfl h6 ?_
   refine c_exit rfl ?_
   refine c_sr ?_
   refine l_v rfl (r_fieldAddr Hs.fld_who rfl) ?_
   refine l_store hM3 (i := 0) rfl Tryz.sizeOf4 rfl rfl rfl (by rw [Hs.size]; decide) (one_one rfl) (Hs.put_who _ _) ?_
   intro w8 hM9 hK10
   replace hM9 : Mem w [] [(b1, (Hs.cells ((Hs.mk true Hs.zero.e Hs.zero.role Hs.zero.title Hs.zero.access Hs.zero.password))), 106)] w8 := hM9
   refine l_v rfl (r_fieldAddr Hs.fld_role rfl) ?_
   refine l_store hM9 (i := 0) rfl Tryz.sizeOf4 rfl rfl rfl (by rw [Hs.size]; decide) (one_one rfl) (Hs.put_role _ _) ?_
   intro w11 hM12 hK13
   replace hM12 : Mem w [] [(b1, (Hs.cells ((Hs.mk true Hs.zero.e true Hs.zero.title Hs.zero.access Hs.zero.password))), 106)] w11 := hM12
   refine l_nil ?_
   refine c_exit rfl ?_
   refine c_sr ?_
   refine l_v rfl (r_loadA Tryz.isAgg106 Tryz.sizeOf106 (Hs.size _) rfl (hM12.base (i := 0) rfl)) ?_
   refine l_store hM12 (i := 0) rfl Tryz.sizeOf106 rfl rfl (Hs.size _) (by rw [Hs.size]; decide) (Hs.one _) (put_whole _ _ ((Hs.size _).trans (Hs.size _).symm)) ?_
   intro w14 hM15 hK16
   replace hM15 : Mem w [] [(b1, (Hs.cells ((Hs.mk true Hs.zero.e true Hs.zero.title Hs.zero.access Hs.zero.password))), 106)] w14 := hM15
   refine l_nil ?_
   refine c_ret ?_
   refine retC rfl Tryz.isAgg106 Tryz.sizeOf106 (Hs.size _) rfl (hM15.base (i := 0) rfl) ?_
   exact ⟨congrArg (fun h => Value.agg (Hs.cells h)) (show (Hs.mk true Hs.zero.e true Hs.zero.title Hs.zero.access Hs.zero.password) = hsOf k from by simp [hsOf, Hs.zero, *]), hM15.kp⟩
  ·skip
   have hp17 : ¬ ((k : UInt8) = 1) := of_decide_eq_false h6
   refine c_condF rfl h6 ?_
   refine c_reg ?_
   refine l_v rfl (r_eql (b := decide ((k : UInt8) = 5)) rfl rfl (u8eq k 5)) ?_
   refine l_v rfl (r_assign rfl) ?_
   refine l_nil ?_
   refine ways (decide ((k : UInt8) = 5)) (fun h18 => ?_) (fun h18 => ?_)
   ·skip
    have hp19 : (k : UInt8) = 5 := of_decide_eq_true h18
    refine c_condT rfl h18 ?_
    refine c_exit rfl ?_
    refine c_sr ?_
    refine l_v rfl (r_fieldAddr Hs.fld_who rfl) ?_
    refine l_store hM3 (i := 0) rfl Tryz.sizeOf4 rfl rfl rfl (by rw [Hs.size]; decide) (one_one rfl) (Hs.put_who _ _) ?_
    intro w20 hM21 hK22
    replace hM21 : Mem w [] [(b1, (Hs.cells ((Hs.mk true Hs.zero.e Hs.zero.role Hs.zero.title Hs.zero.access Hs.zero.password))), 106)] w20 := hM21
    refine l_v rfl (r_fieldAddr Hs.fld_role rfl) ?_
    refine l_store hM21 (i := 0) rfl Tryz.sizeOf4 rfl rfl rfl (by rw [Hs.size]; decide) (one_one rfl) (Hs.put_role _ _) ?_
    intro w23 hM24 hK25
    replace hM24 : Mem w [] [(b1, (Hs.cells ((Hs.mk true Hs.zero.e true Hs.zero.title Hs.zero.access Hs.zero.password))), 106)] w23 := hM24
    refine l_nil ?_
    refine c_exit rfl ?_
    refine c_sr ?_
    refine l_v rfl (r_loadA Tryz.isAgg106 Tryz.sizeOf106 (Hs.size _) rfl (hM24.base (i := 0) rfl)) ?_
    refine l_store hM24 (i := 0) rfl Tryz.sizeOf106 rfl rfl (Hs.size _) (by rw [Hs.size]; decide) (Hs.one _) (put_whole _ _ ((Hs.size _).trans (Hs.size _).symm)) ?_
    intro w26 hM27 hK28
    replace hM27 : Mem w [] [(b1, (Hs.cells ((Hs.mk true Hs.zero.e true Hs.zero.title Hs.zero.access Hs.zero.password))), 106)] w26 := hM27
    refine l_nil ?_
    refine c_ret ?_
    refine retC rfl Tryz.isAgg106 Tryz.sizeOf106 (Hs.size _) rfl (hM27.base (i := 0) rfl) ?_
    exact ⟨congrArg (fun h => Value.agg (Hs.cells h)) (show (Hs.mk true Hs.zero.e true Hs.zero.title Hs.zero.access Hs.zero.password) = hsOf k from by simp [hsOf, Hs.zero, *]), hM27.kp⟩
   ·skip
    have hp29 : ¬ ((k : UInt8) = 5) := of_decide_eq_false h18
    refine c_condF rfl h18 ?_
    refine c_skip ?_
    refine c_seq ?_
    refine c_seq ?_
    refine c_sr ?_
    refine l_v rfl (r_eql (b := decide ((k : UInt8) = 9)) rfl rfl (u8eq k 9)) ?_
    refine l_v rfl (r_assign rfl) ?_
    refine l_nil ?_
    refine ways (decide ((k : UInt8) = 9)) (fun h30 => ?_) (fun h30 => ?_)
    ·skip
     have hp31 : (k : UInt8) = 9 := of_decide_eq_true h30
     refine c_condT rfl h30 ?_
     refine c_skip ?_
     refine c_condT rfl h30 ?_
     refine c_exit rfl ?_
     refine c_reg ?_
     refine l_v rfl (r_fieldAddr Hs.fld_who rfl) ?_
     refine l_store hM3 (i := 0) rfl Tryz.sizeOf4 rfl rfl rfl (by rw [Hs.size]; decide) (one_one rfl) (Hs.put_who _ _) ?_
     intro w32 hM33 hK34
     replace hM33 : Mem w [] [(b1, (Hs.cells ((Hs.mk true Hs.zero.e Hs.zero.role Hs.zero.title Hs.zero.access Hs.zero.password))), 106)] w32 := hM33
     refine l_nil ?_
     refine c_sr ?_
     refine l_v rfl (r_fieldAddr Hs.fld_password rfl) ?_
     refine l_store hM33 (i := 0) rfl Tryz.sizeOf4 rfl rfl rfl (by rw [Hs.size]; decide) (one_one rfl) (Hs.put_password _ _) ?_
     intro w35 hM36 hK37
     replace hM36 : Mem w [] [(b1, (Hs.cells ((Hs.mk true Hs.zero.e Hs.zero.role Hs.zero.title Hs.zero.access true))), 106)] w35 := hM36
     refine l_nil ?_
     refine c_exit rfl ?_
     refine c_sr ?_
     refine l_v rfl (r_loadA Tryz.isAgg106 Tryz.sizeOf106 (Hs.size _) rfl (hM36.base (i := 0) rfl)) ?_
     refine l_store hM36 (i := 0) rfl Tryz.sizeOf106 rfl rfl (Hs.size _) (by rw [Hs.size]; decide) (Hs.one _) (put_whole _ _ ((Hs.size _).trans (Hs.size _).symm)) ?_
     intro w38 hM39 hK40
     replace hM39 : Mem w [] [(b1, (Hs.cells ((Hs.mk true Hs.zero.e Hs.zero.role Hs.zero.title Hs.zero.access true))), 106)] w38 := hM39
     refine l_nil ?_
     refine c_ret ?_
     refine retC rfl Tryz.isAgg106 Tryz.sizeOf106 (Hs.size _) rfl (hM39.base (i := 0) rfl) ?_
     exact ⟨congrArg (fun h => Value.agg (Hs.cells h)) (show (Hs.mk true Hs.zero.e Hs.zero.role Hs.zero.title Hs.zero.access true) = hsOf k from by simp [hsOf, Hs.zero, *]), hM39.kp⟩
    ·skip
     have hp41 : ¬ ((k : UInt8) = 9) := of_decide_eq_false h30
     refine c_condF rfl h30 ?_
     refine c_reg ?_
     refine l_v rfl (r_eql (b := decide ((k : UInt8) = 10)) rfl rfl (u8eq k 10)) ?_
     refine l_v rfl (r_assign rfl) ?_
     refine l_nil ?_
     refine ways (decide ((k : UInt8) = 10)) (fun h42 => ?_) (fun h42 => ?_)
     ·skip
      have hp43 : (k : UInt8) = 10 := of_decide_eq_true h42
      refine c_condT rfl h42 ?_
      refine c_exit rfl ?_
      refine c_reg ?_
      refine l_v rfl (r_fieldAddr Hs.fld_who rfl) ?_
      refine l_store hM3 (i := 0) rfl Tryz.sizeOf4 rfl rfl rfl (by rw [Hs.size]; decide) (one_one rfl) (Hs.put_who _ _) ?_
      intro w44 hM45 hK46
      replace hM45 : Mem w [] [(b1, (Hs.cells ((Hs.mk true Hs.zero.e Hs.zero.role Hs.zero.title Hs.zero.access Hs.zero.password))), 106)] w44 := hM45
      refine l_nil ?_
      refine c_sr ?_
      refine l_v rfl (r_fieldAddr Hs.fld_password rfl) ?_
      refine l_store hM45 (i := 0) rfl Tryz.sizeOf4 rfl rfl rfl (by rw [Hs.size]; decide) (one_one rfl) (Hs.put_password _ _) ?_
      intro w47 hM48 hK49
      replace hM48 : Mem w [] [(b1, (Hs.cells ((Hs.mk true Hs.zero.e Hs.zero.role Hs.zero.title Hs.zero.access true))), 106)] w47 := hM48
      refine l_nil ?_
      refine c_exit rfl ?_
      refine c_sr ?_
      refine l_v rfl (r_loadA Tryz.isAgg106 Tryz.sizeOf106 (Hs.size _) rfl (hM48.base (i := 0) rfl)) ?_
      refine l_store hM48 (i := 0) rfl Tryz.sizeOf106 rfl rfl (Hs.size _) (by rw [Hs.size]; decide) (Hs.one _) (put_whole _ _ ((Hs.size _).trans (Hs.size _).symm)) ?_
      intro w50 hM51 hK52
      replace hM51 : Mem w [] [(b1, (Hs.cells ((Hs.mk true Hs.zero.e Hs.zero.role Hs.zero.title Hs.zero.access true))), 106)] w50 := hM51
      refine l_nil ?_
      refine c_ret ?_
      refine retC rfl Tryz.isAgg106 Tryz.sizeOf106 (Hs.size _) rfl (hM51.base (i := 0) rfl) ?_
      exact ⟨congrArg (fun h => Value.agg (Hs.cells h)) (show (Hs.mk true Hs.zero.e Hs.zero.role Hs.zero.title Hs.zero.access true) = hsOf k from by simp [hsOf, Hs.zero, *]), hM51.kp⟩
     ·skip
      have hp53 : ¬ ((k : UInt8) = 10) := of_decide_eq_false h42
      refine c_condF rfl h42 ?_
      refine c_skip ?_
      refine c_seq ?_
      refine c_sr ?_
      refine l_v rfl (r_eql (b := decide ((k : UInt8) = 18)) rfl rfl (u8eq k 18)) ?_
      refine l_v rfl (r_assign rfl) ?_
      refine l_nil ?_
      refine ways (decide ((k : UInt8) = 18)) (fun h54 => ?_) (fun h54 => ?_)
      ·skip
       have hp55 : (k : UInt8) = 18 := of_decide_eq_true h54
       refine c_condT rfl h54 ?_
       refine c_exit rfl ?_
       refine c_sr ?_
       refine l_v rfl (r_fieldAddr Hs.fld_password rfl) ?_
       refine l_store hM3 (i := 0) rfl Tryz.sizeOf4 rfl rfl rfl (by rw [Hs.size]; decide) (one_one rfl) (Hs.put_password _ _) ?_
       intro w56 hM57 hK58
       replace hM57 : Mem w [] [(b1, (Hs.cells ((Hs.mk Hs.zero.who Hs.zero.e Hs.zero.role Hs.zero.title Hs.zero.access true))), 106)] w56 := hM57
       refine l_nil ?_
       refine c_exit rfl ?_
       refine c_sr ?_
       refine l_v rfl (r_loadA Tryz.isAgg106 Tryz.sizeOf106 (Hs.size _) rfl (hM57.base (i := 0) rfl)) ?_
       refine l_store hM57 (i := 0) rfl Tryz.sizeOf106 rfl rfl (Hs.size _) (by rw [Hs.size]; decide) (Hs.one _) (put_whole _ _ ((Hs.size _).trans (Hs.size _).symm)) ?_
       intro w59 hM60 hK61
       replace hM60 : Mem w [] [(b1, (Hs.cells ((Hs.mk Hs.zero.who Hs.zero.e Hs.zero.role Hs.zero.title Hs.zero.access true))), 106)] w59 := hM60
       refine l_nil ?_
       refine c_ret ?_
       refine retC rfl Tryz.isAgg106 Tryz.sizeOf106 (Hs.size _) rfl (hM60.base (i := 0) rfl) ?_
       exact ⟨congrArg (fun h => Value.agg (Hs.cells h)) (show (Hs.mk Hs.zero.who Hs.zero.e Hs.zero.role Hs.zero.title Hs.zero.access true) = hsOf k from by simp [hsOf, Hs.zero, *]), hM60.kp⟩
      ·skip
       have hp62 : ¬ ((k : UInt8) = 18) := of_decide_eq_false h54
       refine c_condF rfl h54 ?_
       refine c_skip ?_
       refine c_seq ?_
       refine c_seq ?_
       refine c_sr ?_
       refine l_v rfl (r_eql (b := decide ((k : UInt8) = 3)) rfl rfl (u8eq k 3)) ?_
       refine l_v rfl (r_assign rfl) ?_
       refine l_nil ?_
       refine ways (decide ((k : UInt8) = 3)) (fun h63 => ?_) (fun h63 => ?_)
       ·skip
        have hp64 : (k : UInt8) = 3 := of_decide_eq_true h63
        refine c_condT rfl h63 ?_
        refine c_skip ?_
        refine c_condT rfl h63 ?_
        refine c_exit rfl ?_
        refine c_reg ?_
        refine l_v rfl (r_fieldAddr Hs.fld_role rfl) ?_
        refine l_store hM3 (i := 0) rfl Tryz.sizeOf4 rfl rfl rfl (by rw [Hs.size]; decide) (one_one rfl) (Hs.put_role _ _) ?_
        intro w65 hM66 hK67
        replace hM66 : Mem w [] [(b1, (Hs.cells ((Hs.mk Hs.zero.who Hs.zero.e true Hs.zero.title Hs.zero.access Hs.zero.password))), 106)] w65 := hM66
        refine l_nil ?_
        refine c_sr ?_
        refine l_v rfl (r_fieldAddr Hs.fld_e rfl) ?_
        refine l_store hM66 (i := 0) rfl Tryz.sizeOf4 rfl rfl rfl (by rw [Hs.size]; decide) (one_one rfl) (Hs.put_e _ _) ?_
        intro w68 hM69 hK70
        replace hM69 : Mem w [] [(b1, (Hs.cells ((Hs.mk Hs.zero.who true true Hs.zero.title Hs.zero.access Hs.zero.password))), 106)] w68 := hM69
        refine l_nil ?_
        refine c_exit rfl ?_
        refine c_sr ?_
        refine l_v rfl (r_loadA Tryz.isAgg106 Tryz.sizeOf106 (Hs.size _) rfl (hM69.base (i := 0) rfl)) ?_
        refine l_store hM69 (i := 0) rfl Tryz.sizeOf106 rfl rfl (Hs.size _) (by rw [Hs.size]; decide) (Hs.one _) (put_whole _ _ ((Hs.size _).trans (Hs.size _).symm)) ?_
        intro w71 hM72 hK73
        replace hM72 : Mem w [] [(b1, (Hs.cells ((Hs.mk Hs.zero.who true true Hs.zero.title Hs.zero.access Hs.zero.password))), 106)] w71 := hM72
        refine l_nil ?_
        refine c_ret ?_
        refine retC rfl Tryz.isAgg106 Tryz.sizeOf106 (Hs.size _) rfl (hM72.base (i := 0) rfl) ?_
        exact ⟨congrArg (fun h => Value.agg (Hs.cells h)) (show (Hs.mk Hs.zero.who true true Hs.zero.title Hs.zero.access Hs.zero.password) = hsOf k from by simp [hsOf, Hs.zero, *]), hM72.kp⟩
       ·skip
        have hp74 : ¬ ((k : UInt8) = 3) := of_decide_eq_false h63
        refine c_condF rfl h63 ?_
        refine c_reg ?_
        refine l_v rfl (r_eql (b := decide ((k : UInt8) = 12)) rfl rfl (u8eq k 12)) ?_
        refine l_v rfl (r_assign rfl) ?_
        refine l_nil ?_
        refine ways (decide ((k : UInt8) = 12)) (fun h75 => ?_) (fun h75 => ?_)
        ·skip
         have hp76 : (k : UInt8) = 12 := of_decide_eq_true h75
         refine c_condT rfl h75 ?_
         refine c_exit rfl ?_
         refine c_reg ?_
         refine l_v rfl (r_fieldAddr Hs.fld_role rfl) ?_
         refine l_store hM3 (i := 0) rfl Tryz.sizeOf4 rfl rfl rfl (by rw [Hs.size]; decide) (one_one rfl) (Hs.put_role _ _) ?_
         intro w77 hM78 hK79
         replace hM78 : Mem w [] [(b1, (Hs.cells ((Hs.mk Hs.zero.who Hs.zero.e true Hs.zero.title Hs.zero.access Hs.zero.password))), 106)] w77 := hM78
         refine l_nil ?_
         refine c_sr ?_
         refine l_v rfl (r_fieldAddr Hs.fld_e rfl) ?_
         refine l_store hM78 (i := 0) rfl Tryz.sizeOf4 rfl rfl rfl (by rw [Hs.size]; decide) (one_one rfl) (Hs.put_e _ _) ?_
         intro w80 hM81 hK82
         replace hM81 : Mem w [] [(b1, (Hs.cells ((Hs.mk Hs.zero.who true true Hs.zero.title Hs.zero.access Hs.zero.password))), 106)] w80 := hM81
         refine l_nil ?_
         refine c_exit rfl ?_
         refine c_sr ?_
         refine l_v rfl (r_loadA Tryz.isAgg106 Tryz.sizeOf106 (Hs.size _) rfl (hM81.base (i := 0) rfl)) ?_
         refine l_store hM81 (i := 0) rfl Tryz.sizeOf106 rfl rfl (Hs.size _) (by rw [Hs.size]; decide) (Hs.one _) (put_whole _ _ ((Hs.size _).trans (Hs.size _).symm)) ?_
         intro w83 hM84 hK85
         replace hM84 : Mem w [] [(b1, (Hs.cells ((Hs.mk Hs.zero.who true true Hs.zero.title Hs.zero.access Hs.zero.password))), 106)] w83 := hM84
         refine l_nil ?_
         refine c_ret ?_
         refine retC rfl Tryz.isAgg106 Tryz.sizeOf106 (Hs.size _) rfl (hM84.base (i := 0) rfl) ?_
         exact ⟨congrArg (fun h => Value.agg (Hs.cells h)) (show (Hs.mk Hs.zero.who true true Hs.zero.title Hs.zero.access Hs.zero.password) = hsOf k from by simp [hsOf, Hs.zero, *]), hM84.kp⟩
        ·skip
         have hp86 : ¬ ((k : UInt8) = 12) := of_decide_eq_false h75
         refine c_condF rfl h75 ?_
         refine c_skip ?_
         refine c_seq ?_
         refine c_seq ?_
         refine c_sr ?_
         refine l_v rfl (r_eql (b := decide ((k : UInt8) = 2)) rfl rfl (u8eq k 2)) ?_
         refine l_v rfl (r_assign rfl) ?_
         refine l_nil ?_
         refine ways (decide ((k : UInt8) = 2)) (fun h87 => ?_) (fun h87 => ?_)
         ·skip
          have hp88 : (k : UInt8) = 2 := of_decide_eq_true h87
          refine c_condT rfl h87 ?_
          refine c_skip ?_
          refine c_condT rfl h87 ?_
          refine c_exit rfl ?_
          refine c_sr ?_
          refine l_v rfl (r_fieldAddr Hs.fld_e rfl) ?_
          refine l_store hM3 (i := 0) rfl Tryz.sizeOf4 rfl rfl rfl (by rw [Hs.size]; decide) (one_one rfl) (Hs.put_e _ _) ?_
          intro w89 hM90 hK91
          replace hM90 : Mem w [] [(b1, (Hs.cells ((Hs.mk Hs.zero.who true Hs.zero.role Hs.zero.title Hs.zero.access Hs.zero.password))), 106)] w89 := hM90
          refine l_nil ?_
          refine c_exit rfl ?_
          refine c_sr ?_
          refine l_v rfl (r_loadA Tryz.isAgg106 Tryz.sizeOf106 (Hs.size _) rfl (hM90.base (i := 0) rfl)) ?_
          refine l_store hM90 (i := 0) rfl Tryz.sizeOf106 rfl rfl (Hs.size _) (by rw [Hs.size]; decide) (Hs.one _) (put_whole _ _ ((Hs.size _).trans (Hs.size _).symm)) ?_
          intro w92 hM93 hK94
          replace hM93 : Mem w [] [(b1, (Hs.cells ((Hs.mk Hs.zero.who true Hs.zero.role Hs.zero.title Hs.zero.access Hs.zero.password))), 106)] w92 := hM93
          refine l_nil ?_
          refine c_ret ?_
          refine retC rfl Tryz.isAgg106 Tryz.sizeOf106 (Hs.size _) rfl (hM93.base (i := 0) rfl) ?_
          exact ⟨congrArg (fun h => Value.agg (Hs.cells h)) (show (Hs.mk Hs.zero.who true Hs.zero.role Hs.zero.title Hs.zero.access Hs.zero.password) = hsOf k from by simp [hsOf, Hs.zero, *]), hM93.kp⟩
         ·skip
          have hp95 : ¬ ((k : UInt8) = 2) := of_decide_eq_false h87
          refine c_condF rfl h87 ?_
          refine c_sr ?_
          refine l_v rfl (r_eql (b := decide ((k : UInt8) = 6)) rfl rfl (u8eq k 6)) ?_
          refine l_v rfl (r_assign rfl) ?_
          refine l_nil ?_
          refine ways (decide ((k : UInt8) = 6)) (fun h96 => ?_) (fun h96 => ?_)
          ·skip
           have hp97 : (k : UInt8) = 6 := of_decide_eq_true h96
           refine c_condT rfl h96 ?_
           refine c_skip ?_
           refine c_condT rfl h96 ?_
           refine c_exit rfl ?_
           refine c_sr ?_
           refine l_v rfl (r_fieldAddr Hs.fld_e rfl) ?_
           refine l_store hM3 (i := 0) rfl Tryz.sizeOf4 rfl rfl rfl (by rw [Hs.size]; decide) (one_one rfl) (Hs.put_e _ _) ?_
           intro w98 hM99 hK100
           replace hM99 : Mem w [] [(b1, (Hs.cells ((Hs.mk Hs.zero.who true Hs.zero.role Hs.zero.title Hs.zero.access Hs.zero.password))), 106)] w98 := hM99
           refine l_nil ?_
           refine c_exit rfl ?_
           refine c_sr ?_
           refine l_v rfl (r_loadA Tryz.isAgg106 Tryz.sizeOf106 (Hs.size _) rfl (hM99.base (i := 0) rfl)) ?_
           refine l_store hM99 (i := 0) rfl Tryz.sizeOf106 rfl rfl (Hs.size _) (by rw [Hs.size]; decide) (Hs.one _) (put_whole _ _ ((Hs.size _).trans (Hs.size _).symm)) ?_
           intro w101 hM102 hK103
           replace hM102 : Mem w [] [(b1, (Hs.cells ((Hs.mk Hs.zero.who true Hs.zero.role Hs.zero.title Hs.zero.access Hs.zero.password))), 106)] w101 := hM102
           refine l_nil ?_
           refine c_ret ?_
           refine retC rfl Tryz.isAgg106 Tryz.sizeOf106 (Hs.size _) rfl (hM102.base (i := 0) rfl) ?_
           exact ⟨congrArg (fun h => Value.agg (Hs.cells h)) (show (Hs.mk Hs.zero.who true Hs.zero.role Hs.zero.title Hs.zero.access Hs.zero.password) = hsOf k from by simp [hsOf, Hs.zero, *]), hM102.kp⟩
          ·skip
           have hp104 : ¬ ((k : UInt8) = 6) := of_decide_eq_false h96
           refine c_condF rfl h96 ?_
           refine c_sr ?_
           refine l_v rfl (r_eql (b := decide ((k : UInt8) = 13)) rfl rfl (u8eq k 13)) ?_
           refine l_v rfl (r_assign rfl) ?_
           refine l_nil ?_
           refine ways (decide ((k : UInt8) = 13)) (fun h105 => ?_) (fun h105 => ?_)
           ·skip
            have hp106 : (k : UInt8) = 13 := of_decide_eq_true h105
            refine c_condT rfl h105 ?_
            refine c_skip ?_
            refine c_condT rfl h105 ?_
            refine c_exit rfl ?_
            refine c_sr ?_
            refine l_v rfl (r_fieldAddr Hs.fld_e rfl) ?_
            refine l_store hM3 (i := 0) rfl Tryz.sizeOf4 rfl rfl rfl (by rw [Hs.size]; decide) (one_one rfl) (Hs.put_e _ _) ?_
            intro w107 hM108 hK109
            replace hM108 : Mem w [] [(b1, (Hs.cells ((Hs.mk Hs.zero.who true Hs.zero.role Hs.zero.title Hs.zero.access Hs.zero.password))), 106)] w107 := hM108
            refine l_nil ?_
            refine c_exit rfl ?_
            refine c_sr ?_
            refine l_v rfl (r_loadA Tryz.isAgg106 Tryz.sizeOf106 (Hs.size _) rfl (hM108.base (i := 0) rfl)) ?_
            refine l_store hM108 (i := 0) rfl Tryz.sizeOf106 rfl rfl (Hs.size _) (by rw [Hs.size]; decide) (Hs.one _) (put_whole _ _ ((Hs.size _).trans (Hs.size _).symm)) ?_
            intro w110 hM111 hK112
            replace hM111 : Mem w [] [(b1, (Hs.cells ((Hs.mk Hs.zero.who true Hs.zero.role Hs.zero.title Hs.zero.access Hs.zero.password))), 106)] w110 := hM111
            refine l_nil ?_
            refine c_ret ?_
            refine retC rfl Tryz.isAgg106 Tryz.sizeOf106 (Hs.size _) rfl (hM111.base (i := 0) rfl) ?_
            exact ⟨congrArg (fun h => Value.agg (Hs.cells h)) (show (Hs.mk Hs.zero.who true Hs.zero.role Hs.zero.title Hs.zero.access Hs.zero.password) = hsOf k from by simp [hsOf, Hs.zero, *]), hM111.kp⟩
           ·skip
            have hp113 : ¬ ((k : UInt8) = 13) := of_decide_eq_false h105
            refine c_condF rfl h105 ?_
            refine c_sr ?_
            refine l_v rfl (r_eql (b := decide ((k : UInt8) = 14)) rfl rfl (u8eq k 14)) ?_
            refine l_v rfl (r_assign rfl) ?_
            refine l_nil ?_
            refine ways (decide ((k : UInt8) = 14)) (fun h114 => ?_) (fun h114 => ?_)
            ·skip
             have hp115 : (k : UInt8) = 14 := of_decide_eq_true h114
             refine c_condT rfl h114 ?_
             refine c_skip ?_
             refine c_condT rfl h114 ?_
             refine c_exit rfl ?_
             refine c_sr ?_
             refine l_v rfl (r_fieldAddr Hs.fld_e rfl) ?_
             refine l_store hM3 (i := 0) rfl Tryz.sizeOf4 rfl rfl rfl (by rw [Hs.size]; decide) (one_one rfl) (Hs.put_e _ _) ?_
             intro w116 hM117 hK118
             replace hM117 : Mem w [] [(b1, (Hs.cells ((Hs.mk Hs.zero.who true Hs.zero.role Hs.zero.title Hs.zero.access Hs.zero.password))), 106)] w116 := hM117
             refine l_nil ?_
             refine c_exit rfl ?_
             refine c_sr ?_
             refine l_v rfl (r_loadA Tryz.isAgg106 Tryz.sizeOf106 (Hs.size _) rfl (hM117.base (i := 0) rfl)) ?_
             refine l_store hM117 (i := 0) rfl Tryz.sizeOf106 rfl rfl (Hs.size _) (by rw [Hs.size]; decide) (Hs.one _) (put_whole _ _ ((Hs.size _).trans (Hs.size _).symm)) ?_
             intro w119 hM120 hK121
             replace hM120 : Mem w [] [(b1, (Hs.cells ((Hs.mk Hs.zero.who true Hs.zero.role Hs.zero.title Hs.zero.access Hs.zero.password))), 106)] w119 := hM120
             refine l_nil ?_
             refine c_ret ?_
             refine retC rfl Tryz.isAgg106 Tryz.sizeOf106 (Hs.size _) rfl (hM120.base (i := 0) rfl) ?_
             exact ⟨congrArg (fun h => Value.agg (Hs.cells h)) (show (Hs.mk Hs.zero.who true Hs.zero.role Hs.zero.title Hs.zero.access Hs.zero.password) = hsOf k from by simp [hsOf, Hs.zero, *]), hM120.kp⟩
            ·skip
             have hp122 : ¬ ((k : UInt8) = 14) := of_decide_eq_false h114
             refine c_condF rfl h114 ?_
             refine c_reg ?_
             refine l_v rfl (r_eql (b := decide ((k : UInt8) = 15)) rfl rfl (u8eq k 15)) ?_
             refine l_v rfl (r_assign rfl) ?_
             refine l_nil ?_
             refine ways (decide ((k : UInt8) = 15)) (fun h123 => ?_) (fun h123 => ?_)
             ·skip
              have hp124 : (k : UInt8) = 15 := of_decide_eq_true h123
              refine c_condT rfl h123 ?_
              refine c_exit rfl ?_
              refine c_sr ?_
              refine l_v rfl (r_fieldAddr Hs.fld_e rfl) ?_
              refine l_store hM3 (i := 0) rfl Tryz.sizeOf4 rfl rfl rfl (by rw [Hs.size]; decide) (one_one rfl) (Hs.put_e _ _) ?_
              intro w125 hM126 hK127
              replace hM126 : Mem w [] [(b1, (Hs.cells ((Hs.mk Hs.zero.who true Hs.zero.role Hs.zero.title Hs.zero.access Hs.zero.password))), 106)] w125 := hM126
              refine l_nil ?_
              refine c_exit rfl ?_
              refine c_sr ?_
              refine l_v rfl (r_loadA Tryz.isAgg106 Tryz.sizeOf106 (Hs.size _) rfl (hM126.base (i := 0) rfl)) ?_
              refine l_store hM126 (i := 0) rfl Tryz.sizeOf106 rfl rfl (Hs.size _) (by rw [Hs.size]; decide) (Hs.one _) (put_whole _ _ ((Hs.size _).trans (Hs.size _).symm)) ?_
              intro w128 hM129 hK130
              replace hM129 : Mem w [] [(b1, (Hs.cells ((Hs.mk Hs.zero.who true Hs.zero.role Hs.zero.title Hs.zero.access Hs.zero.password))), 106)] w128 := hM129
              refine l_nil ?_
              refine c_ret ?_
              refine retC rfl Tryz.isAgg106 Tryz.sizeOf106 (Hs.size _) rfl (hM129.base (i := 0) rfl) ?_
              exact ⟨congrArg (fun h => Value.agg (Hs.cells h)) (show (Hs.mk Hs.zero.who true Hs.zero.role Hs.zero.title Hs.zero.access Hs.zero.password) = hsOf k from by simp [hsOf, Hs.zero, *]), hM129.kp⟩
             ·skip
              have hp131 : ¬ ((k : UInt8) = 15) := of_decide_eq_false h123
              refine c_condF rfl h123 ?_
              refine c_skip ?_
              refine c_seq ?_
              refine c_sr ?_
              refine l_v rfl (r_eql (b := decide ((k : UInt8) = 16)) rfl rfl (u8eq k 16)) ?_
              refine l_v rfl (r_assign rfl) ?_
              refine l_nil ?_
              refine ways (decide ((k : UInt8) = 16)) (fun h132 => ?_) (fun h132 => ?_)
              ·skip
               have hp133 : (k : UInt8) = 16 := of_decide_eq_true h132
               refine c_condT rfl h132 ?_
               refine c_exit rfl ?_
               refine c_sr ?_
               refine l_v rfl (r_fieldAddr Hs.fld_title rfl) ?_
               refine l_store hM3 (i := 0) rfl Tryz.sizeOf4 rfl rfl rfl (by rw [Hs.size]; decide) (one_one rfl) (Hs.put_title _ _) ?_
               intro w134 hM135 hK136
               replace hM135 : Mem w [] [(b1, (Hs.cells ((Hs.mk Hs.zero.who Hs.zero.e Hs.zero.role true Hs.zero.access Hs.zero.password))), 106)] w134 := hM135
               refine l_nil ?_
               refine c_exit rfl ?_
               refine c_sr ?_
               refine l_v rfl (r_loadA Tryz.isAgg106 Tryz.sizeOf106 (Hs.size _) rfl (hM135.base (i := 0) rfl)) ?_
               refine l_store hM135 (i := 0) rfl Tryz.sizeOf106 rfl rfl (Hs.size _) (by rw [Hs.size]; decide) (Hs.one _) (put_whole _ _ ((Hs.size _).trans (Hs.size _).symm)) ?_
               intro w137 hM138 hK139
               replace hM138 : Mem w [] [(b1, (Hs.cells ((Hs.mk Hs.zero.who Hs.zero.e Hs.zero.role true Hs.zero.access Hs.zero.password))), 106)] w137 := hM138
               refine l_nil ?_
               refine c_ret ?_
               refine retC rfl Tryz.isAgg106 Tryz.sizeOf106 (Hs.size _) rfl (hM138.base (i := 0) rfl) ?_
               exact ⟨congrArg (fun h => Value.agg (Hs.cells h)) (show (Hs.mk Hs.zero.who Hs.zero.e Hs.zero.role true Hs.zero.access Hs.zero.password) = hsOf k from by simp [hsOf, Hs.zero, *]), hM138.kp⟩
              ·skip
               have hp140 : ¬ ((k : UInt8) = 16) := of_decide_eq_false h132
               refine c_condF rfl h132 ?_
               refine c_skip ?_
               refine c_sr ?_
               refine l_v rfl (r_eql (b := decide ((k : UInt8) = 17)) rfl rfl (u8eq k 17)) ?_
               refine l_v rfl (r_assign rfl) ?_
               refine l_nil ?_
               refine ways (decide ((k : UInt8) = 17)) (fun h141 => ?_) (fun h141 => ?_)
               ·skip
                have hp142 : (k : UInt8) = 17 := of_decide_eq_true h141
                refine c_condT rfl h141 ?_
                refine c_exit rfl ?_
                refine c_sr ?_
                refine l_v rfl (r_fieldAddr Hs.fld_access rfl) ?_
                refine l_store hM3 (i := 0) rfl Tryz.sizeOf4 rfl rfl rfl (by rw [Hs.size]; decide) (one_one rfl) (Hs.put_access _ _) ?_
                intro w143 hM144 hK145
                replace hM144 : Mem w [] [(b1, (Hs.cells ((Hs.mk Hs.zero.who Hs.zero.e Hs.zero.role Hs.zero.title true Hs.zero.password))), 106)] w143 := hM144
                refine l_nil ?_
                refine c_exit rfl ?_
                refine c_sr ?_
                refine l_v rfl (r_loadA Tryz.isAgg106 Tryz.sizeOf106 (Hs.size _) rfl (hM144.base (i := 0) rfl)) ?_
                refine l_store hM144 (i := 0) rfl Tryz.sizeOf106 rfl rfl (Hs.size _) (by rw [Hs.size]; decide) (Hs.one _) (put_whole _ _ ((Hs.size _).trans (Hs.size _).symm)) ?_
                intro w146 hM147 hK148
                replace hM147 : Mem w [] [(b1, (Hs.cells ((Hs.mk Hs.zero.who Hs.zero.e Hs.zero.role Hs.zero.title true Hs.zero.password))), 106)] w146 := hM147
                refine l_nil ?_
                refine c_ret ?_
                refine retC rfl Tryz.isAgg106 Tryz.sizeOf106 (Hs.size _) rfl (hM147.base (i := 0) rfl) ?_
                exact ⟨congrArg (fun h => Value.agg (Hs.cells h)) (show (Hs.mk Hs.zero.who Hs.zero.e Hs.zero.role Hs.zero.title true Hs.zero.password) = hsOf k from by simp [hsOf, Hs.zero, *]), hM147.kp⟩
               ·skip
                have hp149 : ¬ ((k : UInt8) = 17) := of_decide_eq_false h141
                refine c_condF rfl h141 ?_
                refine c_skip ?_
                refine c_exit rfl ?_
                refine c_sr ?_
                refine l_v rfl (r_loadA Tryz.isAgg106 Tryz.sizeOf106 (Hs.size _) rfl (hM3.base (i := 0) rfl)) ?_
                refine l_store hM3 (i := 0) rfl Tryz.sizeOf106 rfl rfl (Hs.size _) (by rw [Hs.size]; decide) (Hs.one _) (put_whole _ _ ((Hs.size _).trans (Hs.size _).symm)) ?_
                intro w150 hM151 hK152
                replace hM151 : Mem w [] [(b1, (Hs.cells Hs.zero), 106)] w150 := hM151
                refine l_nil ?_
                refine c_ret ?_
                refine retC rfl Tryz.isAgg106 Tryz.sizeOf106 (Hs.size _) rfl (hM151.base (i := 0) rfl) ?_
                exact ⟨congrArg (fun h => Value.agg (Hs.cells h)) (show Hs.zero = hsOf k from by simp [hsOf, Hs.zero, *]), hM151.kp⟩
theorem f29 {B : Nat → Prop} {a : Action} {qa : Two} {w : World} (hA : AcV B w qa a) : Ret 29 #[.agg (a.rep qa).cells] w (fun v w' => v = .bool (okAct a) ∧ Keeps [] w w') := by
  have hM0 := Mem.start w
  refine enter Tryz.func29 rfl rfl ?_
  refine c_sr ?_
  refine l_box hM0 rfl rfl ?_
  intro b1 w2 hM3 hK4 hB5
  replace hM3 : Mem w [] [(b1, (ARep.cells ((ARep.mk a.ver a.kind a.who a.E a.role qa.t a.acc qa.p))), 42)] w2 := hM3
  refine l_v rfl (r_assign rfl) ?_
  refine l_nil ?_
  refine c_sr ?_
  refine l_v rfl (r_fieldAddr ARep.fld_kind rfl) ?_
  refine l_v rfl (r_load1 (v := vU8 a.kind) Tryz.isAgg38 rfl (Holds.sub (hM3.base (i := 0) rfl) (ARep.sub_kind _))) ?_
  refine l_call (gn rfl) rfl rfl (r_call Tryz.call58 rfl) (f58 a.kind) ?_
  rintro v6 w7 ⟨rfl, hK8⟩
  have hM9 := hM3.keep hK8
  refine l_alloc hM9 rfl Hs.zv ?_
  intro b10 w11 hM12 hK13 hB14
  replace hM12 : Mem w [] [(b10, (Hs.cells Hs.zero), 106), (b1, (ARep.cells ((ARep.mk a.ver a.kind a.who a.E a.role qa.t a.acc qa.p))), 42)] w11 := hM12
  refine l_store hM12 (i := 0) rfl Tryz.sizeOf106 rfl rfl (Hs.size _) (by rw [Hs.size]; decide) (Hs.one _) (put_whole _ _ ((Hs.size _).trans (Hs.size _).symm)) ?_
  intro w15 hM16 hK17
  replace hM16 : Mem w [] [(b10, (Hs.cells ((hsOf a.kind))), 106), (b1, (ARep.cells ((ARep.mk a.ver a.kind a.who a.E a.role qa.t a.acc qa.p))), 42)] w15 := hM16
  refine l_nil ?_
  refine c_seq ?_
  refine c_block ?_
  refine c_sr ?_
  refine l_v rfl (r_fieldAddr ARep.fld_kind rfl) ?_
  refine l_v rfl (r_load1 (v := vU8 a.kind) Tryz.isAgg38 rfl (Holds.sub (hM16.base (i := 1) rfl) (ARep.sub_kind _))) ?_
  refine l_v rfl (r_lss (b := decide ((a.kind : UInt8) < 1)) rfl rfl (u8lt a.kind 1)) ?_
  refine l_v rfl (r_move rfl) ?_
  refine ways (decide ((a.kind : UInt8) < 1)) (fun h18 => ?_) (fun h18 => ?_)
  ·skip
   have hp19 : (a.kind : UInt8) < 1 := of_decide_eq_true h18
   refine l_off (gno rfl rfl rfl rfl h18) rfl rfl ?_
   refine l_off (gno rfl rfl rfl rfl h18) rfl rfl ?_
   refine l_off (gno rfl rfl rfl rfl h18) rfl rfl ?_
   refine l_v rfl (r_pickT rfl h18 rfl) ?_
   refine l_v rfl (r_move rfl) ?_
   refine l_off (gno rfl rfl rfl rfl rfl) rfl rfl ?_
   refine l_off (gno rfl rfl rfl rfl rfl) rfl rfl ?_
   refine l_off (gno rfl rfl rfl rfl rfl) rfl rfl ?_
   refine l_off (gno rfl rfl rfl rfl rfl) rfl rfl ?_
   refine l_v rfl (r_pickT rfl rfl rfl) ?_
   refine l_v rfl (r_assign rfl) ?_
   refine l_nil ?_
   refine c_condT rfl rfl ?_
   refine c_sr ?_
   refine l_v rfl (r_assign rfl) ?_
   refine l_nil ?_
   refine c_ret ?_
   refine ret1 rfl rfl ?_
   exact ⟨by rw [okAct29]; (try simp only [h18]); (try simp only []); simp, hM16.kp⟩
  ·skip
   have hp20 : ¬ ((a.kind : UInt8) < 1) := of_decide_eq_false h18
   refine l_val (gy rfl rfl rfl rfl h18) rfl rfl (r_fieldAddr ARep.fld_kind rfl) ?_
   refine l_val (gy rfl rfl rfl rfl h18) rfl rfl (r_load1 (v := vU8 a.kind) Tryz.isAgg38 rfl (Holds.sub (hM16.base (i := 1) rfl) (ARep.sub_kind _))) ?_
   refine l_val (gy rfl rfl rfl rfl h18) rfl rfl (r_gtr (b := decide ((18 : UInt8) < a.kind)) rfl rfl (u8lt 18 a.kind)) ?_
   refine l_v rfl (r_pickF rfl h18 rfl) ?_
   refine l_v rfl (r_move rfl) ?_
   refine ways (decide ((18 : UInt8) < a.kind)) (fun h21 => ?_) (fun h21 => ?_)
   ·skip
    have hp22 : (18 : UInt8) < a.kind := of_decide_eq_true h21
    refine l_off (gno rfl rfl rfl rfl h21) rfl rfl ?_
    refine l_off (gno rfl rfl rfl rfl h21) rfl rfl ?_
    refine l_off (gno rfl rfl rfl rfl h21) rfl rfl ?_
    refine l_off (gno rfl rfl rfl rfl h21) rfl rfl ?_
    refine l_v rfl (r_pickT rfl h21 rfl) ?_
    refine l_v rfl (r_assign rfl) ?_
    refine l_nil ?_
    refine c_condT rfl rfl ?_
    refine c_sr ?_
    refine l_v rfl (r_assign rfl) ?_
    refine l_nil ?_
    refine c_ret ?_
    refine ret1 rfl rfl ?_
    exact ⟨by rw [okAct29]; (try simp only [h18, h21]); (try simp only []); simp, hM16.kp⟩
   ·skip
    have hp23 : ¬ ((18 : UInt8) < a.kind) := of_decide_eq_false h21
    refine l_val (gy rfl rfl rfl rfl h21) rfl rfl (r_fieldAddr ARep.fld_title rfl) ?_
    refine l_val (gy rfl rfl rfl rfl h21) rfl rfl (r_load1 (v := Sl.val qa.t) Tryz.isAgg27 rfl (Holds.sub (hM16.base (i := 1) rfl) (ARep.sub_title _))) ?_
    refine l_val (gy rfl rfl rfl rfl h21) rfl rfl (r_lenR Tryz.underlying27 rfl (hA.title.keep0 hM16.kp).len) ?_
    refine l_val (gy rfl rfl rfl rfl h21) rfl rfl (r_gtr (b := decide ((200 : Nat) < a.title.length)) rfl rfl (nlt 200 a.title.length)) ?_
    refine l_v rfl (r_pickF rfl h21 rfl) ?_
    refine l_v rfl (r_assign rfl) ?_
    refine l_nil ?_
    refine ways (decide ((200 : Nat) < a.title.length)) (fun h24 => ?_) (fun h24 => ?_)
    ·skip
     have hp25 : (200 : Nat) < a.title.length := of_decide_eq_true h24
     refine c_condT rfl h24 ?_
     refine c_sr ?_
     refine l_v rfl (r_assign rfl) ?_
     refine l_nil ?_
     refine c_ret ?_
     refine ret1 rfl rfl ?_
     exact ⟨by rw [okAct29]; (try simp only [h18, h21, h24]); (try simp only []); simp, hM16.kp⟩
    ·skip
     have hp26 : ¬ ((200 : Nat) < a.title.length) := of_decide_eq_false h24
     refine c_condF rfl h24 ?_
     refine c_seq ?_
     refine c_join (ι := Unit) (fun _ w_ => Mem w [] [(b10, (Hs.cells ((hsOf a.kind))), 106), (b1, (ARep.cells ((ARep.mk a.ver a.kind a.who a.E a.role qa.t a.acc qa.p))), 42)] w_) (fun _ => [(0, Value.agg (ARep.cells ((ARep.mk a.ver a.kind a.who a.E a.role qa.t a.acc qa.p)))), (1, Value.pointer (some ⟨b1, 0, none⟩)), (2, Value.bool false), (3, Value.pointer (some ⟨b10, 0, none⟩)), (8, Value.bool (decide ((200 : Nat) < a.title.length))), (23, Value.bool (((!(hsOf a.kind).who && !decide (a.who = Cipher.zero)) || (!(hsOf a.kind).e && !decide (a.E = Pt.zero)) || (!decide ((hsOf a.kind).role = isRole a.role)) || (!(hsOf a.kind).role && !decide (a.role = 0)))))]) ?_ ?_
     ·skip
      refine c_regD (Mem w [] [(b10, (Hs.cells ((hsOf a.kind))), 106), (b1, (ARep.cells ((ARep.mk a.ver a.kind a.who a.E a.role qa.t a.acc qa.p))), 42)]) [] [(0, true), (1, true), (2, true), (3, true), (4, true), (5, true), (6, true), (7, true), (8, true), (9, true), (10, true), (11, true), (12, true), (13, true), (14, true), (15, true), (16, true), (17, true), (18, true), (19, true), (20, true), (21, true), (22, true), (23, true), (24, true), (25, false), (26, true), (27, true), (28, true), (29, true), (30, true), (31, true), (32, true), (33, true), (34, true), (35, true), (36, true), (37, true), (38, true)] (by kernel_rfl) ?_
      have hM27 := hM16.drew
      refine s_take hM27 rfl (gn rfl) rfl rfl (fun w h => r_fieldAddr Hs.fld_who rfl) ?_
      refine s_take hM27 rfl (gn rfl) rfl rfl (fun w h => r_load1 (v := Value.bool ((hsOf a.kind).who)) Tryz.isAgg4 rfl (Holds.sub (h.base (i := 0) rfl) (Hs.sub_who _))) ?_
      refine s_take hM27 rfl (gn rfl) rfl rfl (fun w h => r_not rfl) ?_
      refine s_take hM27 rfl (gn rfl) rfl rfl (fun w h => r_move rfl) ?_
      refine ways ((hsOf a.kind).who) (fun h29 => ?_) (fun h29 => ?_)
      ·skip
       refine s_off hM27 rfl (gno rfl rfl rfl rfl (congrArg Bool.not h29)) rfl rfl ?_
       refine s_off hM27 rfl (gno rfl rfl rfl rfl (congrArg Bool.not h29)) rfl rfl ?_
       refine s_off hM27 rfl (gno rfl rfl rfl rfl (congrArg Bool.not h29)) rfl rfl ?_
       refine s_off hM27 rfl (gno rfl rfl rfl rfl (congrArg Bool.not h29)) rfl rfl ?_
       refine s_take hM27 rfl (gn rfl) rfl rfl (fun w h => r_pickF rfl (congrArg Bool.not h29) rfl) ?_
       refine s_take hM27 rfl (gn rfl) rfl rfl (fun w h => r_move rfl) ?_
       refine s_take hM27 rfl (gy rfl rfl rfl rfl rfl) rfl rfl (fun w h => r_fieldAddr Hs.fld_e rfl) ?_
       refine s_take hM27 rfl (gy rfl rfl rfl rfl rfl) rfl rfl (fun w h => r_load1 (v := Value.bool ((hsOf a.kind).e)) Tryz.isAgg4 rfl (Holds.sub (h.base (i := 0) rfl) (Hs.sub_e _))) ?_
       refine s_take hM27 rfl (gy rfl rfl rfl rfl rfl) rfl rfl (fun w h => r_not rfl) ?_
       refine s_take hM27 rfl (gy rfl rfl rfl rfl rfl) rfl rfl (fun w h => r_move rfl) ?_
       refine ways ((hsOf a.kind).e) (fun h30 => ?_) (fun h30 => ?_)
       ·skip
        refine s_off hM27 rfl (gno rfl rfl rfl rfl (congrArg Bool.not h30)) rfl rfl ?_
        refine s_off hM27 rfl (gno rfl rfl rfl rfl (congrArg Bool.not h30)) rfl rfl ?_
        refine s_off hM27 rfl (gno rfl rfl rfl rfl (congrArg Bool.not h30)) rfl rfl ?_
        refine s_off hM27 rfl (gno rfl rfl rfl rfl (congrArg Bool.not h30)) rfl rfl ?_
        refine s_take hM27 rfl (gy rfl rfl rfl rfl rfl) rfl rfl (fun w h => r_pickF rfl (congrArg Bool.not h30) rfl) ?_
        refine s_take hM27 rfl (gn rfl) rfl rfl (fun w h => r_pickF rfl rfl rfl) ?_
        refine s_take hM27 rfl (gn rfl) rfl rfl (fun w h => r_move rfl) ?_
        refine s_take hM27 rfl (gy rfl rfl rfl rfl rfl) rfl rfl (fun w h => r_fieldAddr Hs.fld_role rfl) ?_
        refine s_take hM27 rfl (gy rfl rfl rfl rfl rfl) rfl rfl (fun w h => r_load1 (v := Value.bool ((hsOf a.kind).role)) Tryz.isAgg4 rfl (Holds.sub (h.base (i := 0) rfl) (Hs.sub_role _))) ?_
        refine s_take hM27 rfl (gy rfl rfl rfl rfl rfl) rfl rfl (fun w h => r_fieldAddr ARep.fld_role rfl) ?_
        refine s_take hM27 rfl (gy rfl rfl rfl rfl rfl) rfl rfl (fun w h => r_load1 (v := vU8 a.role) Tryz.isAgg28 rfl (Holds.sub (h.base (i := 1) rfl) (ARep.sub_role _))) ?_
        refine s_call rfl (gy rfl rfl rfl rfl rfl) rfl rfl (r_call Tryz.call55 rfl) (f55 a.role) ?_
        rintro v31 w32 ⟨rfl, hK33⟩
        have hM34 := hM27.keep hK33
        refine ⟨.inr hM34, ?_⟩
        refine s_take hM34 rfl (gy rfl rfl rfl rfl rfl) rfl rfl (fun w h => r_neBool rfl rfl) ?_
        refine s_take hM34 rfl (gn rfl) rfl rfl (fun w h => r_pickF rfl rfl rfl) ?_
        refine s_take hM34 rfl (gn rfl) rfl rfl (fun w h => r_move rfl) ?_
        refine ways (decide (((hsOf a.kind).role) = (isRole a.role))) (fun h35 => ?_) (fun h35 => ?_)
        ·skip
         refine s_take hM34 rfl (gy rfl rfl rfl rfl (congrArg Bool.not h35)) rfl rfl (fun w h => r_fieldAddr Hs.fld_role rfl) ?_
         refine s_take hM34 rfl (gy rfl rfl rfl rfl (congrArg Bool.not h35)) rfl rfl (fun w h => r_load1 (v := Value.bool ((hsOf a.kind).role)) Tryz.isAgg4 rfl (Holds.sub (h.base (i := 0) rfl) (Hs.sub_role _))) ?_
         refine s_take hM34 rfl (gy rfl rfl rfl rfl (congrArg Bool.not h35)) rfl rfl (fun w h => r_not rfl) ?_
         refine s_take hM34 rfl (gy rfl rfl rfl rfl (congrArg Bool.not h35)) rfl rfl (fun w h => r_move rfl) ?_
         refine ways ((hsOf a.kind).role) (fun h36 => ?_) (fun h36 => ?_)
         ·skip
          refine s_off hM34 rfl (gno rfl rfl rfl rfl (congrArg Bool.not h36)) rfl rfl ?_
          refine s_off hM34 rfl (gno rfl rfl rfl rfl (congrArg Bool.not h36)) rfl rfl ?_
          refine s_off hM34 rfl (gno rfl rfl rfl rfl (congrArg Bool.not h36)) rfl rfl ?_
          refine s_take hM34 rfl (gy rfl rfl rfl rfl (congrArg Bool.not h35)) rfl rfl (fun w h => r_pickF rfl (congrArg Bool.not h36) rfl) ?_
          refine s_take hM34 rfl (gn rfl) rfl rfl (fun w h => r_pickF rfl (congrArg Bool.not h35) rfl) ?_
          refine s_take hM34 rfl (gn rfl) rfl rfl (fun w h => r_assign rfl) ?_
          refine s_nil ?_
          exact jn () hM34 ⟨rfl, rfl, rfl, rfl, rfl, okB (by (try simp only [h35]); (try simp only [h29, h30, h36]); simp), trivial⟩
         ·skip
          refine s_take hM34 rfl (gy rfl rfl rfl rfl (congrArg Bool.not h36)) rfl rfl (fun w h => r_fieldAddr ARep.fld_role rfl) ?_
          refine s_take hM34 rfl (gy rfl rfl rfl rfl (congrArg Bool.not h36)) rfl rfl (fun w h => r_load1 (v := vU8 a.role) Tryz.isAgg28 rfl (Holds.sub (h.base (i := 1) rfl) (ARep.sub_role _))) ?_
          refine s_take hM34 rfl (gy rfl rfl rfl rfl (congrArg Bool.not h36)) rfl rfl (fun w h => r_neq (b := (!(decide ((a.role : UInt8) = 0)))) rfl rfl (congrArg Bool.not (u8eq a.role 0))) ?_
          refine s_take hM34 rfl (gy rfl rfl rfl rfl (congrArg Bool.not h35)) rfl rfl (fun w h => r_pickT rfl (congrArg Bool.not h36) rfl) ?_
          refine s_take hM34 rfl (gn rfl) rfl rfl (fun w h => r_pickF rfl (congrArg Bool.not h35) rfl) ?_
          refine s_take hM34 rfl (gn rfl) rfl rfl (fun w h => r_assign rfl) ?_
          refine s_nil ?_
          exact jn () hM34 ⟨rfl, rfl, rfl, rfl, rfl, okB (by (try simp only [h35]); (try simp only [h29, h30, h36]); simp), trivial⟩
        ·skip
         refine s_off hM34 rfl (gno rfl rfl rfl rfl (congrArg Bool.not h35)) rfl rfl ?_
         refine s_off hM34 rfl (gno rfl rfl rfl rfl (congrArg Bool.not h35)) rfl rfl ?_
         refine s_off hM34 rfl (gno rfl rfl rfl rfl (congrArg Bool.not h35)) rfl rfl ?_
         refine s_off hM34 rfl (gno rfl rfl rfl rfl (congrArg Bool.not h35)) rfl rfl ?_
         refine s_off hM34 rfl (gnu rfl rfl rfl rfl) rfl rfl ?_
         refine s_off hM34 rfl (gnu rfl rfl rfl rfl) rfl rfl ?_
         refine s_off hM34 rfl (gnu rfl rfl rfl rfl) rfl rfl ?_
         refine s_off hM34 rfl (gno rfl rfl rfl rfl (congrArg Bool.not h35)) rfl rfl ?_
         refine s_take hM34 rfl (gn rfl) rfl rfl (fun w h => r_pickT rfl (congrArg Bool.not h35) rfl) ?_
         refine s_take hM34 rfl (gn rfl) rfl rfl (fun w h => r_assign rfl) ?_
         refine s_nil ?_
         exact jn () hM34 ⟨rfl, rfl, rfl, rfl, rfl, okB (by (try simp only [h35]); (try simp only [h29, h30]); simp), trivial⟩
       ·skip
        refine s_take hM27 rfl (gy rfl rfl rfl rfl (congrArg Bool.not h30)) rfl rfl (fun w h => r_fieldAddr ARep.fld_E rfl) ?_
        refine s_take hM27 rfl (gy rfl rfl rfl rfl (congrArg Bool.not h30)) rfl rfl (fun w h => r_loadA Tryz.isAgg24 Tryz.sizeOf24 (Pt.size _) rfl (Holds.sub (h.base (i := 1) rfl) (ARep.sub_E _))) ?_
        refine s_take hM27 rfl (gy rfl rfl rfl rfl (congrArg Bool.not h30)) rfl rfl (fun w h => r_build rfl Pt.built) ?_
        refine s_take hM27 rfl (gy rfl rfl rfl rfl (congrArg Bool.not h30)) rfl rfl (fun w h => r_nePt Tryz.eqGuardType24 Tryz.underlying24 rfl rfl) ?_
        refine s_take hM27 rfl (gy rfl rfl rfl rfl rfl) rfl rfl (fun w h => r_pickT rfl (congrArg Bool.not h30) rfl) ?_
        refine s_take hM27 rfl (gn rfl) rfl rfl (fun w h => r_pickF rfl rfl rfl) ?_
        refine s_take hM27 rfl (gn rfl) rfl rfl (fun w h => r_move rfl) ?_
        refine ways (decide (a.E = Pt.zero)) (fun h37 => ?_) (fun h37 => ?_)
        ·skip
         have hp38 : a.E = Pt.zero := of_decide_eq_true h37
         refine s_take hM27 rfl (gy rfl rfl rfl rfl (congrArg Bool.not h37)) rfl rfl (fun w h => r_fieldAddr Hs.fld_role rfl) ?_
         refine s_take hM27 rfl (gy rfl rfl rfl rfl (congrArg Bool.not h37)) rfl rfl (fun w h => r_load1 (v := Value.bool ((hsOf a.kind).role)) Tryz.isAgg4 rfl (Holds.sub (h.base (i := 0) rfl) (Hs.sub_role _))) ?_
         refine s_take hM27 rfl (gy rfl rfl rfl rfl (congrArg Bool.not h37)) rfl rfl (fun w h => r_fieldAddr ARep.fld_role rfl) ?_
         refine s_take hM27 rfl (gy rfl rfl rfl rfl (congrArg Bool.not h37)) rfl rfl (fun w h => r_load1 (v := vU8 a.role) Tryz.isAgg28 rfl (Holds.sub (h.base (i := 1) rfl) (ARep.sub_role _))) ?_
         refine s_call rfl (gy rfl rfl rfl rfl (congrArg Bool.not h37)) rfl rfl (r_call Tryz.call55 rfl) (f55 a.role) ?_
         rintro v39 w40 ⟨rfl, hK41⟩
         have hM42 := hM27.keep hK41
         refine ⟨.inr hM42, ?_⟩
         refine s_take hM42 rfl (gy rfl rfl rfl rfl (congrArg Bool.not h37)) rfl rfl (fun w h => r_neBool rfl rfl) ?_
         refine s_take hM42 rfl (gn rfl) rfl rfl (fun w h => r_pickF rfl (congrArg Bool.not h37) rfl) ?_
         refine s_take hM42 rfl (gn rfl) rfl rfl (fun w h => r_move rfl) ?_
         refine ways (decide (((hsOf a.kind).role) = (isRole a.role))) (fun h43 => ?_) (fun h43 => ?_)
         ·skip
          refine s_take hM42 rfl (gy rfl rfl rfl rfl (congrArg Bool.not h43)) rfl rfl (fun w h => r_fieldAddr Hs.fld_role rfl) ?_
          refine s_take hM42 rfl (gy rfl rfl rfl rfl (congrArg Bool.not h43)) rfl rfl (fun w h => r_load1 (v := Value.bool ((hsOf a.kind).role)) Tryz.isAgg4 rfl (Holds.sub (h.base (i := 0) rfl) (Hs.sub_role _))) ?_
          refine s_take hM42 rfl (gy rfl rfl rfl rfl (congrArg Bool.not h43)) rfl rfl (fun w h => r_not rfl) ?_
          refine s_take hM42 rfl (gy rfl rfl rfl rfl (congrArg Bool.not h43)) rfl rfl (fun w h => r_move rfl) ?_
          refine ways ((hsOf a.kind).role) (fun h44 => ?_) (fun h44 => ?_)
          ·skip
           refine s_off hM42 rfl (gno rfl rfl rfl rfl (congrArg Bool.not h44)) rfl rfl ?_
           refine s_off hM42 rfl (gno rfl rfl rfl rfl (congrArg Bool.not h44)) rfl rfl ?_
           refine s_off hM42 rfl (gno rfl rfl rfl rfl (congrArg Bool.not h44)) rfl rfl ?_
           refine s_take hM42 rfl (gy rfl rfl rfl rfl (congrArg Bool.not h43)) rfl rfl (fun w h => r_pickF rfl (congrArg Bool.not h44) rfl) ?_
           refine s_take hM42 rfl (gn rfl) rfl rfl (fun w h => r_pickF rfl (congrArg Bool.not h43) rfl) ?_
           refine s_take hM42 rfl (gn rfl) rfl rfl (fun w h => r_assign rfl) ?_
           refine s_nil ?_
           exact jn () hM42 ⟨rfl, rfl, rfl, rfl, rfl, okB (by (try simp only [h37, h43]); (try simp only [h29, h30, h44]); simp), trivial⟩
          ·skip
           refine s_take hM42 rfl (gy rfl rfl rfl rfl (congrArg Bool.not h44)) rfl rfl (fun w h => r_fieldAddr ARep.fld_role rfl) ?_
           refine s_take hM42 rfl (gy rfl rfl rfl rfl (congrArg Bool.not h44)) rfl rfl (fun w h => r_load1 (v := vU8 a.role) Tryz.isAgg28 rfl (Holds.sub (h.base (i := 1) rfl) (ARep.sub_role _))) ?_
           refine s_take hM42 rfl (gy rfl rfl rfl rfl (congrArg Bool.not h44)) rfl rfl (fun w h => r_neq (b := (!(decide ((a.role : UInt8) = 0)))) rfl rfl (congrArg Bool.not (u8eq a.role 0))) ?_
           refine s_take hM42 rfl (gy rfl rfl rfl rfl (congrArg Bool.not h43)) rfl rfl (fun w h => r_pickT rfl (congrArg Bool.not h44) rfl) ?_
           refine s_take hM42 rfl (gn rfl) rfl rfl (fun w h => r_pickF rfl (congrArg Bool.not h43) rfl) ?_
           refine s_take hM42 rfl (gn rfl) rfl rfl (fun w h => r_assign rfl) ?_
           refine s_nil ?_
           exact jn () hM42 ⟨rfl, rfl, rfl, rfl, rfl, okB (by (try simp only [h37, h43]); (try simp only [h29, h30, h44]); simp), trivial⟩
         ·skip
          refine s_off hM42 rfl (gno rfl rfl rfl rfl (congrArg Bool.not h43)) rfl rfl ?_
          refine s_off hM42 rfl (gno rfl rfl rfl rfl (congrArg Bool.not h43)) rfl rfl ?_
          refine s_off hM42 rfl (gno rfl rfl rfl rfl (congrArg Bool.not h43)) rfl rfl ?_
          refine s_off hM42 rfl (gno rfl rfl rfl rfl (congrArg Bool.not h43)) rfl rfl ?_
          refine s_off hM42 rfl (gnu rfl rfl rfl rfl) rfl rfl ?_
          refine s_off hM42 rfl (gnu rfl rfl rfl rfl) rfl rfl ?_
          refine s_off hM42 rfl (gnu rfl rfl rfl rfl) rfl rfl ?_
          refine s_off hM42 rfl (gno rfl rfl rfl rfl (congrArg Bool.not h43)) rfl rfl ?_
          refine s_take hM42 rfl (gn rfl) rfl rfl (fun w h => r_pickT rfl (congrArg Bool.not h43) rfl) ?_
          refine s_take hM42 rfl (gn rfl) rfl rfl (fun w h => r_assign rfl) ?_
          refine s_nil ?_
          exact jn () hM42 ⟨rfl, rfl, rfl, rfl, rfl, okB (by (try simp only [h37, h43]); (try simp only [h29, h30]); simp), trivial⟩
        ·skip
         have hp45 : ¬ (a.E = Pt.zero) := of_decide_eq_false h37
         refine s_off hM27 rfl (gno rfl rfl rfl rfl (congrArg Bool.not h37)) rfl rfl ?_
         refine s_off hM27 rfl (gno rfl rfl rfl rfl (congrArg Bool.not h37)) rfl rfl ?_
         refine s_off hM27 rfl (gno rfl rfl rfl rfl (congrArg Bool.not h37)) rfl rfl ?_
         refine s_off hM27 rfl (gno rfl rfl rfl rfl (congrArg Bool.not h37)) rfl rfl ?_
         refine s_offx (.inr hM27) rfl (gno rfl rfl rfl rfl (congrArg Bool.not h37)) rfl rfl ?_
         refine s_off hM27 rfl (gno rfl rfl rfl rfl (congrArg Bool.not h37)) rfl rfl ?_
         refine s_take hM27 rfl (gn rfl) rfl rfl (fun w h => r_pickT rfl (congrArg Bool.not h37) rfl) ?_
         refine s_take hM27 rfl (gn rfl) rfl rfl (fun w h => r_move rfl) ?_
         refine s_off hM27 rfl (gno rfl rfl rfl rfl rfl) rfl rfl ?_
         refine s_off hM27 rfl (gno rfl rfl rfl rfl rfl) rfl rfl ?_
         refine s_off hM27 rfl (gno rfl rfl rfl rfl rfl) rfl rfl ?_
         refine s_off hM27 rfl (gno rfl rfl rfl rfl rfl) rfl rfl ?_
         refine s_off hM27 rfl (gnu rfl rfl rfl rfl) rfl rfl ?_
         refine s_off hM27 rfl (gnu rfl rfl rfl rfl) rfl rfl ?_
         refine s_off hM27 rfl (gnu rfl rfl rfl rfl) rfl rfl ?_
         refine s_off hM27 rfl (gno rfl rfl rfl rfl rfl) rfl rfl ?_
         refine s_take hM27 rfl (gn rfl) rfl rfl (fun w h => r_pickT rfl rfl rfl) ?_
         refine s_take hM27 rfl (gn rfl) rfl rfl (fun w h => r_assign rfl) ?_
         refine s_nil ?_
         exact jn () hM27 ⟨rfl, rfl, rfl, rfl, rfl, okB (by (try simp only [h37]); (try simp only [h29, h30]); simp), trivial⟩
      ·skip
       refine s_take hM27 rfl (gy rfl rfl rfl rfl (congrArg Bool.not h29)) rfl rfl (fun w h => r_fieldAddr ARep.fld_who rfl) ?_
       refine s_take hM27 rfl (gy rfl rfl rfl rfl (congrArg Bool.not h29)) rfl rfl (fun w h => r_loadA Tryz.isAgg40 Tryz.sizeOf40 (Cipher.size _) rfl (Holds.sub (h.base (i := 1) rfl) (ARep.sub_who _))) ?_
       refine s_take hM27 rfl (gy rfl rfl rfl rfl (congrArg Bool.not h29)) rfl rfl (fun w h => r_build rfl ((Cipher.built _).trans (fill_nil))) ?_
       refine s_take hM27 rfl (gy rfl rfl rfl rfl (congrArg Bool.not h29)) rfl rfl (fun w h => r_neCipher rfl rfl) ?_
       refine s_take hM27 rfl (gn rfl) rfl rfl (fun w h => r_pickT rfl (congrArg Bool.not h29) rfl) ?_
       refine s_take hM27 rfl (gn rfl) rfl rfl (fun w h => r_move rfl) ?_
       refine ways (decide (a.who = Cipher.zero)) (fun h46 => ?_) (fun h46 => ?_)
       ·skip
        have hp47 : a.who = Cipher.zero := of_decide_eq_true h46
        refine s_take hM27 rfl (gy rfl rfl rfl rfl (congrArg Bool.not h46)) rfl rfl (fun w h => r_fieldAddr Hs.fld_e rfl) ?_
        refine s_take hM27 rfl (gy rfl rfl rfl rfl (congrArg Bool.not h46)) rfl rfl (fun w h => r_load1 (v := Value.bool ((hsOf a.kind).e)) Tryz.isAgg4 rfl (Holds.sub (h.base (i := 0) rfl) (Hs.sub_e _))) ?_
        refine s_take hM27 rfl (gy rfl rfl rfl rfl (congrArg Bool.not h46)) rfl rfl (fun w h => r_not rfl) ?_
        refine s_take hM27 rfl (gy rfl rfl rfl rfl (congrArg Bool.not h46)) rfl rfl (fun w h => r_move rfl) ?_
        refine ways ((hsOf a.kind).e) (fun h48 => ?_) (fun h48 => ?_)
        ·skip
         refine s_off hM27 rfl (gno rfl rfl rfl rfl (congrArg Bool.not h48)) rfl rfl ?_
         refine s_off hM27 rfl (gno rfl rfl rfl rfl (congrArg Bool.not h48)) rfl rfl ?_
         refine s_off hM27 rfl (gno rfl rfl rfl rfl (congrArg Bool.not h48)) rfl rfl ?_
         refine s_off hM27 rfl (gno rfl rfl rfl rfl (congrArg Bool.not h48)) rfl rfl ?_
         refine s_take hM27 rfl (gy rfl rfl rfl rfl (congrArg Bool.not h46)) rfl rfl (fun w h => r_pickF rfl (congrArg Bool.not h48) rfl) ?_
         refine s_take hM27 rfl (gn rfl) rfl rfl (fun w h => r_pickF rfl (congrArg Bool.not h46) rfl) ?_
         refine s_take hM27 rfl (gn rfl) rfl rfl (fun w h => r_move rfl) ?_
         refine s_take hM27 rfl (gy rfl rfl rfl rfl rfl) rfl rfl (fun w h => r_fieldAddr Hs.fld_role rfl) ?_
         refine s_take hM27 rfl (gy rfl rfl rfl rfl rfl) rfl rfl (fun w h => r_load1 (v := Value.bool ((hsOf a.kind).role)) Tryz.isAgg4 rfl (Holds.sub (h.base (i := 0) rfl) (Hs.sub_role _))) ?_
         refine s_take hM27 rfl (gy rfl rfl rfl rfl rfl) rfl rfl (fun w h => r_fieldAddr ARep.fld_role rfl) ?_
         refine s_take hM27 rfl (gy rfl rfl rfl rfl rfl) rfl rfl (fun w h => r_load1 (v := vU8 a.role) Tryz.isAgg28 rfl (Holds.sub (h.base (i := 1) rfl) (ARep.sub_role _))) ?_
         refine s_call rfl (gy rfl rfl rfl rfl rfl) rfl rfl (r_call Tryz.call55 rfl) (f55 a.role) ?_
         rintro v49 w50 ⟨rfl, hK51⟩
         have hM52 := hM27.keep hK51
         refine ⟨.inr hM52, ?_⟩
         refine s_take hM52 rfl (gy rfl rfl rfl rfl rfl) rfl rfl (fun w h => r_neBool rfl rfl) ?_
         refine s_take hM52 rfl (gn rfl) rfl rfl (fun w h => r_pickF rfl rfl rfl) ?_
         refine s_take hM52 rfl (gn rfl) rfl rfl (fun w h => r_move rfl) ?_
         refine ways (decide (((hsOf a.kind).role) = (isRole a.role))) (fun h53 => ?_) (fun h53 => ?_)
         ·skip
          refine s_take hM52 rfl (gy rfl rfl rfl rfl (congrArg Bool.not h53)) rfl rfl (fun w h => r_fieldAddr Hs.fld_role rfl) ?_
          refine s_take hM52 rfl (gy rfl rfl rfl rfl (congrArg Bool.not h53)) rfl rfl (fun w h => r_load1 (v := Value.bool ((hsOf a.kind).role)) Tryz.isAgg4 rfl (Holds.sub (h.base (i := 0) rfl) (Hs.sub_role _))) ?_
          refine s_take hM52 rfl (gy rfl rfl rfl rfl (congrArg Bool.not h53)) rfl rfl (fun w h => r_not rfl) ?_
          refine s_take hM52 rfl (gy rfl rfl rfl rfl (congrArg Bool.not h53)) rfl rfl (fun w h => r_move rfl) ?_
          refine ways ((hsOf a.kind).role) (fun h54 => ?_) (fun h54 => ?_)
          ·skip
           refine s_off hM52 rfl (gno rfl rfl rfl rfl (congrArg Bool.not h54)) rfl rfl ?_
           refine s_off hM52 rfl (gno rfl rfl rfl rfl (congrArg Bool.not h54)) rfl rfl ?_
           refine s_off hM52 rfl (gno rfl rfl rfl rfl (congrArg Bool.not h54)) rfl rfl ?_
           refine s_take hM52 rfl (gy rfl rfl rfl rfl (congrArg Bool.not h53)) rfl rfl (fun w h => r_pickF rfl (congrArg Bool.not h54) rfl) ?_
           refine s_take hM52 rfl (gn rfl) rfl rfl (fun w h => r_pickF rfl (congrArg Bool.not h53) rfl) ?_
           refine s_take hM52 rfl (gn rfl) rfl rfl (fun w h => r_assign rfl) ?_
           refine s_nil ?_
           exact jn () hM52 ⟨rfl, rfl, rfl, rfl, rfl, okB (by (try simp only [h46, h53]); (try simp only [h29, h48, h54]); simp), trivial⟩
          ·skip
           refine s_take hM52 rfl (gy rfl rfl rfl rfl (congrArg Bool.not h54)) rfl rfl (fun w h => r_fieldAddr ARep.fld_role rfl) ?_
           refine s_take hM52 rfl (gy rfl rfl rfl rfl (congrArg Bool.not h54)) rfl rfl (fun w h => r_load1 (v := vU8 a.role) Tryz.isAgg28 rfl (Holds.sub (h.base (i := 1) rfl) (ARep.sub_role _))) ?_
           refine s_take hM52 rfl (gy rfl rfl rfl rfl (congrArg Bool.not h54)) rfl rfl (fun w h => r_neq (b := (!(decide ((a.role : UInt8) = 0)))) rfl rfl (congrArg Bool.not (u8eq a.role 0))) ?_
           refine s_take hM52 rfl (gy rfl rfl rfl rfl (congrArg Bool.not h53)) rfl rfl (fun w h => r_pickT rfl (congrArg Bool.not h54) rfl) ?_
           refine s_take hM52 rfl (gn rfl) rfl rfl (fun w h => r_pickF rfl (congrArg Bool.not h53) rfl) ?_
           refine s_take hM52 rfl (gn rfl) rfl rfl (fun w h => r_assign rfl) ?_
           refine s_nil ?_
           exact jn () hM52 ⟨rfl, rfl, rfl, rfl, rfl, okB (by (try simp only [h46, h53]); (try simp only [h29, h48, h54]); simp), trivial⟩
         ·skip
          refine s_off hM52 rfl (gno rfl rfl rfl rfl (congrArg Bool.not h53)) rfl rfl ?_
          refine s_off hM52 rfl (gno rfl rfl rfl rfl (congrArg Bool.not h53)) rfl rfl ?_
          refine s_off hM52 rfl (gno rfl rfl rfl rfl (congrArg Bool.not h53)) rfl rfl ?_
          refine s_off hM52 rfl (gno rfl rfl rfl rfl (congrArg Bool.not h53)) rfl rfl ?_
          refine s_off hM52 rfl (gnu rfl rfl rfl rfl) rfl rfl ?_
          refine s_off hM52 rfl (gnu rfl rfl rfl rfl) rfl rfl ?_
          refine s_off hM52 rfl (gnu rfl rfl rfl rfl) rfl rfl ?_
          refine s_off hM52 rfl (gno rfl rfl rfl rfl (congrArg Bool.not h53)) rfl rfl ?_
          refine s_take hM52 rfl (gn rfl) rfl rfl (fun w h => r_pickT rfl (congrArg Bool.not h53) rfl) ?_
          refine s_take hM52 rfl (gn rfl) rfl rfl (fun w h => r_assign rfl) ?_
          refine s_nil ?_
          exact jn () hM52 ⟨rfl, rfl, rfl, rfl, rfl, okB (by (try simp only [h46, h53]); (try simp only [h29, h48]); simp), trivial⟩
        ·skip
         refine s_take hM27 rfl (gy rfl rfl rfl rfl (congrArg Bool.not h48)) rfl rfl (fun w h => r_fieldAddr ARep.fld_E rfl) ?_
         refine s_take hM27 rfl (gy rfl rfl rfl rfl (congrArg Bool.not h48)) rfl rfl (fun w h => r_loadA Tryz.isAgg24 Tryz.sizeOf24 (Pt.size _) rfl (Holds.sub (h.base (i := 1) rfl) (ARep.sub_E _))) ?_
         refine s_take hM27 rfl (gy rfl rfl rfl rfl (congrArg Bool.not h48)) rfl rfl (fun w h => r_build rfl Pt.built) ?_
         refine s_take hM27 rfl (gy rfl rfl rfl rfl (congrArg Bool.not h48)) rfl rfl (fun w h => r_nePt Tryz.eqGuardType24 Tryz.underlying24 rfl rfl) ?_
         refine s_take hM27 rfl (gy rfl rfl rfl rfl (congrArg Bool.not h46)) rfl rfl (fun w h => r_pickT rfl (congrArg Bool.not h48) rfl) ?_
         refine s_take hM27 rfl (gn rfl) rfl rfl (fun w h => r_pickF rfl (congrArg Bool.not h46) rfl) ?_
         refine s_take hM27 rfl (gn rfl) rfl rfl (fun w h => r_move rfl) ?_
         refine ways (decide (a.E = Pt.zero)) (fun h55 => ?_) (fun h55 => ?_)
         ·skip
          have hp56 : a.E = Pt.zero := of_decide_eq_true h55
          refine s_take hM27 rfl (gy rfl rfl rfl rfl (congrArg Bool.not h55)) rfl rfl (fun w h => r_fieldAddr Hs.fld_role rfl) ?_
          refine s_take hM27 rfl (gy rfl rfl rfl rfl (congrArg Bool.not h55)) rfl rfl (fun w h => r_load1 (v := Value.bool ((hsOf a.kind).role)) Tryz.isAgg4 rfl (Holds.sub (h.base (i := 0) rfl) (Hs.sub_role _))) ?_
          refine s_take hM27 rfl (gy rfl rfl rfl rfl (congrArg Bool.not h55)) rfl rfl (fun w h => r_fieldAddr ARep.fld_role rfl) ?_
          refine s_take hM27 rfl (gy rfl rfl rfl rfl (congrArg Bool.not h55)) rfl rfl (fun w h => r_load1 (v := vU8 a.role) Tryz.isAgg28 rfl (Holds.sub (h.base (i := 1) rfl) (ARep.sub_role _))) ?_
          refine s_call rfl (gy rfl rfl rfl rfl (congrArg Bool.not h55)) rfl rfl (r_call Tryz.call55 rfl) (f55 a.role) ?_
          rintro v57 w58 ⟨rfl, hK59⟩
          have hM60 := hM27.keep hK59
          refine ⟨.inr hM60, ?_⟩
          refine s_take hM60 rfl (gy rfl rfl rfl rfl (congrArg Bool.not h55)) rfl rfl (fun w h => r_neBool rfl rfl) ?_
          refine s_take hM60 rfl (gn rfl) rfl rfl (fun w h => r_pickF rfl (congrArg Bool.not h55) rfl) ?_
          refine s_take hM60 rfl (gn rfl) rfl rfl (fun w h => r_move rfl) ?_
          refine ways (decide (((hsOf a.kind).role) = (isRole a.role))) (fun h61 => ?_) (fun h61 => ?_)
          ·skip
           refine s_take hM60 rfl (gy rfl rfl rfl rfl (congrArg Bool.not h61)) rfl rfl (fun w h => r_fieldAddr Hs.fld_role rfl) ?_
           refine s_take hM60 rfl (gy rfl rfl rfl rfl (congrArg Bool.not h61)) rfl rfl (fun w h => r_load1 (v := Value.bool ((hsOf a.kind).role)) Tryz.isAgg4 rfl (Holds.sub (h.base (i := 0) rfl) (Hs.sub_role _))) ?_
           refine s_take hM60 rfl (gy rfl rfl rfl rfl (congrArg Bool.not h61)) rfl rfl (fun w h => r_not rfl) ?_
           refine s_take hM60 rfl (gy rfl rfl rfl rfl (congrArg Bool.not h61)) rfl rfl (fun w h => r_move rfl) ?_
           refine ways ((hsOf a.kind).role) (fun h62 => ?_) (fun h62 => ?_)
           ·skip
            refine s_off hM60 rfl (gno rfl rfl rfl rfl (congrArg Bool.not h62)) rfl rfl ?_
            refine s_off hM60 rfl (gno rfl rfl rfl rfl (congrArg Bool.not h62)) rfl rfl ?_
            refine s_off hM60 rfl (gno rfl rfl rfl rfl (congrArg Bool.not h62)) rfl rfl ?_
            refine s_take hM60 rfl (gy rfl rfl rfl rfl (congrArg Bool.not h61)) rfl rfl (fun w h => r_pickF rfl (congrArg Bool.not h62) rfl) ?_
            refine s_take hM60 rfl (gn rfl) rfl rfl (fun w h => r_pickF rfl (congrArg Bool.not h61) rfl) ?_
            refine s_take hM60 rfl (gn rfl) rfl rfl (fun w h => r_assign rfl) ?_
            refine s_nil ?_
            exact jn () hM60 ⟨rfl, rfl, rfl, rfl, rfl, okB (by (try simp only [h46, h55, h61]); (try simp only [h29, h48, h62]); simp), trivial⟩
           ·skip
            refine s_take hM60 rfl (gy rfl rfl rfl rfl (congrArg Bool.not h62)) rfl rfl (fun w h => r_fieldAddr ARep.fld_role rfl) ?_
            refine s_take hM60 rfl (gy rfl rfl rfl rfl (congrArg Bool.not h62)) rfl rfl (fun w h => r_load1 (v := vU8 a.role) Tryz.isAgg28 rfl (Holds.sub (h.base (i := 1) rfl) (ARep.sub_role _))) ?_
            refine s_take hM60 rfl (gy rfl rfl rfl rfl (congrArg Bool.not h62)) rfl rfl (fun w h => r_neq (b := (!(decide ((a.role : UInt8) = 0)))) rfl rfl (congrArg Bool.not (u8eq a.role 0))) ?_
            refine s_take hM60 rfl (gy rfl rfl rfl rfl (congrArg Bool.not h61)) rfl rfl (fun w h => r_pickT rfl (congrArg Bool.not h62) rfl) ?_
            refine s_take hM60 rfl (gn rfl) rfl rfl (fun w h => r_pickF rfl (congrArg Bool.not h61) rfl) ?_
            refine s_take hM60 rfl (gn rfl) rfl rfl (fun w h => r_assign rfl) ?_
            refine s_nil ?_
            exact jn () hM60 ⟨rfl, rfl, rfl, rfl, rfl, okB (by (try simp only [h46, h55, h61]); (try simp only [h29, h48, h62]); simp), trivial⟩
          ·skip
           refine s_off hM60 rfl (gno rfl rfl rfl rfl (congrArg Bool.not h61)) rfl rfl ?_
           refine s_off hM60 rfl (gno rfl rfl rfl rfl (congrArg Bool.not h61)) rfl rfl ?_
           refine s_off hM60 rfl (gno rfl rfl rfl rfl (congrArg Bool.not h61)) rfl rfl ?_
           refine s_off hM60 rfl (gno rfl rfl rfl rfl (congrArg Bool.not h61)) rfl rfl ?_
           refine s_off hM60 rfl (gnu rfl rfl rfl rfl) rfl rfl ?_
           refine s_off hM60 rfl (gnu rfl rfl rfl rfl) rfl rfl ?_
           refine s_off hM60 rfl (gnu rfl rfl rfl rfl) rfl rfl ?_
           refine s_off hM60 rfl (gno rfl rfl rfl rfl (congrArg Bool.not h61)) rfl rfl ?_
           refine s_take hM60 rfl (gn rfl) rfl rfl (fun w h => r_pickT rfl (congrArg Bool.not h61) rfl) ?_
           refine s_take hM60 rfl (gn rfl) rfl rfl (fun w h => r_assign rfl) ?_
           refine s_nil ?_
           exact jn () hM60 ⟨rfl, rfl, rfl, rfl, rfl, okB (by (try simp only [h46, h55, h61]); (try simp only [h29, h48]); simp), trivial⟩
         ·skip
          have hp63 : ¬ (a.E = Pt.zero) := of_decide_eq_false h55
          refine s_off hM27 rfl (gno rfl rfl rfl rfl (congrArg Bool.not h55)) rfl rfl ?_
          refine s_off hM27 rfl (gno rfl rfl rfl rfl (congrArg Bool.not h55)) rfl rfl ?_
          refine s_off hM27 rfl (gno rfl rfl rfl rfl (congrArg Bool.not h55)) rfl rfl ?_
          refine s_off hM27 rfl (gno rfl rfl rfl rfl (congrArg Bool.not h55)) rfl rfl ?_
          refine s_offx (.inr hM27) rfl (gno rfl rfl rfl rfl (congrArg Bool.not h55)) rfl rfl ?_
          refine s_off hM27 rfl (gno rfl rfl rfl rfl (congrArg Bool.not h55)) rfl rfl ?_
          refine s_take hM27 rfl (gn rfl) rfl rfl (fun w h => r_pickT rfl (congrArg Bool.not h55) rfl) ?_
          refine s_take hM27 rfl (gn rfl) rfl rfl (fun w h => r_move rfl) ?_
          refine s_off hM27 rfl (gno rfl rfl rfl rfl rfl) rfl rfl ?_
          refine s_off hM27 rfl (gno rfl rfl rfl rfl rfl) rfl rfl ?_
          refine s_off hM27 rfl (gno rfl rfl rfl rfl rfl) rfl rfl ?_
          refine s_off hM27 rfl (gno rfl rfl rfl rfl rfl) rfl rfl ?_
          refine s_off hM27 rfl (gnu rfl rfl rfl rfl) rfl rfl ?_
          refine s_off hM27 rfl (gnu rfl rfl rfl rfl) rfl rfl ?_
          refine s_off hM27 rfl (gnu rfl rfl rfl rfl) rfl rfl ?_
          refine s_off hM27 rfl (gno rfl rfl rfl rfl rfl) rfl rfl ?_
          refine s_take hM27 rfl (gn rfl) rfl rfl (fun w h => r_pickT rfl rfl rfl) ?_
          refine s_take hM27 rfl (gn rfl) rfl rfl (fun w h => r_assign rfl) ?_
          refine s_nil ?_
          exact jn () hM27 ⟨rfl, rfl, rfl, rfl, rfl, okB (by (try simp only [h46, h55]); (try simp only [h29, h48]); simp), trivial⟩
       ·skip
        have hp64 : ¬ (a.who = Cipher.zero) := of_decide_eq_false h46
        refine s_off hM27 rfl (gno rfl rfl rfl rfl (congrArg Bool.not h46)) rfl rfl ?_
        refine s_off hM27 rfl (gno rfl rfl rfl rfl (congrArg Bool.not h46)) rfl rfl ?_
        refine s_off hM27 rfl (gno rfl rfl rfl rfl (congrArg Bool.not h46)) rfl rfl ?_
        refine s_off hM27 rfl (gno rfl rfl rfl rfl (congrArg Bool.not h46)) rfl rfl ?_
        refine s_off hM27 rfl (gnu rfl rfl rfl rfl) rfl rfl ?_
        refine s_off hM27 rfl (gnu rfl rfl rfl rfl) rfl rfl ?_
        refine s_off hM27 rfl (gnu rfl rfl rfl rfl) rfl rfl ?_
        refine s_off hM27 rfl (gnu rfl rfl rfl rfl) rfl rfl ?_
        refine s_off hM27 rfl (gno rfl rfl rfl rfl (congrArg Bool.not h46)) rfl rfl ?_
        refine s_take hM27 rfl (gn rfl) rfl rfl (fun w h => r_pickT rfl (congrArg Bool.not h46) rfl) ?_
        refine s_take hM27 rfl (gn rfl) rfl rfl (fun w h => r_move rfl) ?_
        refine s_off hM27 rfl (gno rfl rfl rfl rfl rfl) rfl rfl ?_
        refine s_off hM27 rfl (gno rfl rfl rfl rfl rfl) rfl rfl ?_
        refine s_off hM27 rfl (gno rfl rfl rfl rfl rfl) rfl rfl ?_
        refine s_off hM27 rfl (gno rfl rfl rfl rfl rfl) rfl rfl ?_
        refine s_offx (.inr hM27) rfl (gno rfl rfl rfl rfl rfl) rfl rfl ?_
        refine s_off hM27 rfl (gno rfl rfl rfl rfl rfl) rfl rfl ?_
        refine s_take hM27 rfl (gn rfl) rfl rfl (fun w h => r_pickT rfl rfl rfl) ?_
        refine s_take hM27 rfl (gn rfl) rfl rfl (fun w h => r_move rfl) ?_
        refine s_off hM27 rfl (gno rfl rfl rfl rfl rfl) rfl rfl ?_
        refine s_off hM27 rfl (gno rfl rfl rfl rfl rfl) rfl rfl ?_
        refine s_off hM27 rfl (gno rfl rfl rfl rfl rfl) rfl rfl ?_
        refine s_off hM27 rfl (gno rfl rfl rfl rfl rfl) rfl rfl ?_
        refine s_off hM27 rfl (gnu rfl rfl rfl rfl) rfl rfl ?_
        refine s_off hM27 rfl (gnu rfl rfl rfl rfl) rfl rfl ?_
        refine s_off hM27 rfl (gnu rfl rfl rfl rfl) rfl rfl ?_
        refine s_off hM27 rfl (gno rfl rfl rfl rfl rfl) rfl rfl ?_
        refine s_take hM27 rfl (gn rfl) rfl rfl (fun w h => r_pickT rfl rfl rfl) ?_
        refine s_take hM27 rfl (gn rfl) rfl rfl (fun w h => r_assign rfl) ?_
        refine s_nil ?_
        exact jn () hM27 ⟨rfl, rfl, rfl, rfl, rfl, okB (by (try simp only [h46]); (try simp only [h29]); simp), trivial⟩
     ·skip
      rintro - w65 hM66
      refine ways (((!(hsOf a.kind).who && !decide (a.who = Cipher.zero)) || (!(hsOf a.kind).e && !decide (a.E = Pt.zero)) || (!decide ((hsOf a.kind).role = isRole a.role)) || (!(hsOf a.kind).role && !decide (a.role = 0)))) (fun h67 => ?_) (fun h67 => ?_)
      ·skip
       refine c_condT rfl h67 ?_
       refine c_sr ?_
       refine l_v rfl (r_assign rfl) ?_
       refine l_nil ?_
       refine c_ret ?_
       refine ret1 rfl rfl ?_
       exact ⟨by rw [okAct29]; (try simp only [h18, h21, h24]); (try simp only [h67]); simp, hM66.kp⟩
      ·skip
       refine c_condF rfl h67 ?_
       refine c_seq ?_
       refine c_join (ι := Unit) (fun _ w_ => Mem w [] [(b10, (Hs.cells ((hsOf a.kind))), 106), (b1, (ARep.cells ((ARep.mk a.ver a.kind a.who a.E a.role qa.t a.acc qa.p))), 42)] w_) (fun _ => [(0, Value.agg (ARep.cells ((ARep.mk a.ver a.kind a.who a.E a.role qa.t a.acc qa.p)))), (1, Value.pointer (some ⟨b1, 0, none⟩)), (2, Value.bool false), (3, Value.pointer (some ⟨b10, 0, none⟩)), (8, Value.bool (decide ((200 : Nat) < a.title.length))), (23, Value.bool (((!(hsOf a.kind).who && !decide (a.who = Cipher.zero)) || (!(hsOf a.kind).e && !decide (a.E = Pt.zero)) || (!decide ((hsOf a.kind).role = isRole a.role)) || (!(hsOf a.kind).role && !decide (a.role = 0))))), (62, Value.bool (((!(hsOf a.kind).title && decide (0 < a.title.length)) || ((hsOf a.kind).access && !okAccess a.acc) || (!(hsOf a.kind).access && !decide (a.acc = Access.zero)))))]) ?_ ?_
       ·skip
        refine c_reg ?_
        refine l_v rfl (r_fieldAddr Hs.fld_title rfl) ?_
        refine l_v rfl (r_load1 (v := Value.bool ((hsOf a.kind).title)) Tryz.isAgg4 rfl (Holds.sub (hM66.base (i := 0) rfl) (Hs.sub_title _))) ?_
        refine l_v rfl (r_not rfl) ?_
        refine l_v rfl (r_move rfl) ?_
        refine ways ((hsOf a.kind).title) (fun h68 => ?_) (fun h68 => ?_)
        ·skip
         refine l_off (gno rfl rfl rfl rfl (congrArg Bool.not h68)) rfl rfl ?_
         refine l_off (gno rfl rfl rfl rfl (congrArg Bool.not h68)) rfl rfl ?_
         refine l_off (gno rfl rfl rfl rfl (congrArg Bool.not h68)) rfl rfl ?_
         refine l_off (gno rfl rfl rfl rfl (congrArg Bool.not h68)) rfl rfl ?_
         refine l_v rfl (r_pickF rfl (congrArg Bool.not h68) rfl) ?_
         refine l_v rfl (r_move rfl) ?_
         refine l_val (gy rfl rfl rfl rfl rfl) rfl rfl (r_fieldAddr Hs.fld_access rfl) ?_
         refine l_val (gy rfl rfl rfl rfl rfl) rfl rfl (r_load1 (v := Value.bool ((hsOf a.kind).access)) Tryz.isAgg4 rfl (Holds.sub (hM66.base (i := 0) rfl) (Hs.sub_access _))) ?_
         refine l_val (gy rfl rfl rfl rfl rfl) rfl rfl (r_move rfl) ?_
         refine ways ((hsOf a.kind).access) (fun h69 => ?_) (fun h69 => ?_)
         ·skip
          refine l_val (gy rfl rfl rfl rfl h69) rfl rfl (r_fieldAddr ARep.fld_acc rfl) ?_
          refine l_val (gy rfl rfl rfl rfl h69) rfl rfl (r_loadA Tryz.isAgg31 Tryz.sizeOf31 (Access.size _) rfl (Holds.sub (hM66.base (i := 1) rfl) (ARep.sub_acc _))) ?_
          refine l_call (gy rfl rfl rfl rfl h69) rfl rfl (r_call Tryz.call44 rfl) (f44 a.acc) ?_
          rintro v70 w71 ⟨rfl, hK72⟩
          have hM73 := hM66.keep hK72
          refine l_val (gy rfl rfl rfl rfl h69) rfl rfl (r_not rfl) ?_
          refine l_val (gy rfl rfl rfl rfl rfl) rfl rfl (r_pickT rfl h69 rfl) ?_
          refine l_v rfl (r_pickF rfl rfl rfl) ?_
          refine l_v rfl (r_move rfl) ?_
          refine ways (okAccess a.acc) (fun h74 => ?_) (fun h74 => ?_)
          ·skip
           refine l_val (gy rfl rfl rfl rfl (congrArg Bool.not h74)) rfl rfl (r_fieldAddr Hs.fld_access rfl) ?_
           refine l_val (gy rfl rfl rfl rfl (congrArg Bool.not h74)) rfl rfl (r_load1 (v := Value.bool ((hsOf a.kind).access)) Tryz.isAgg4 rfl (Holds.sub (hM73.base (i := 0) rfl) (Hs.sub_access _))) ?_
           refine l_val (gy rfl rfl rfl rfl (congrArg Bool.not h74)) rfl rfl (r_not rfl) ?_
           refine l_val (gy rfl rfl rfl rfl (congrArg Bool.not h74)) rfl rfl (r_move rfl) ?_
           refine l_off (gno rfl rfl rfl rfl (congrArg Bool.not h69)) rfl rfl ?_
           refine l_off (gno rfl rfl rfl rfl (congrArg Bool.not h69)) rfl rfl ?_
           refine l_off (gno rfl rfl rfl rfl (congrArg Bool.not h69)) rfl rfl ?_
           refine l_off (gno rfl rfl rfl rfl (congrArg Bool.not h69)) rfl rfl ?_
           refine l_val (gy rfl rfl rfl rfl (congrArg Bool.not h74)) rfl rfl (r_pickF rfl (congrArg Bool.not h69) rfl) ?_
           refine l_v rfl (r_pickF rfl (congrArg Bool.not h74) rfl) ?_
           refine l_v rfl (r_assign rfl) ?_
           refine l_nil ?_
           exact jn () hM73 ⟨rfl, rfl, rfl, rfl, rfl, rfl, okB (by (try simp only [h18, h21, h24]); (try simp only [h68, h69, h74]); simp), trivial⟩
          ·skip
           refine l_off (gno rfl rfl rfl rfl (congrArg Bool.not h74)) rfl rfl ?_
           refine l_off (gno rfl rfl rfl rfl (congrArg Bool.not h74)) rfl rfl ?_
           refine l_off (gno rfl rfl rfl rfl (congrArg Bool.not h74)) rfl rfl ?_
           refine l_off (gno rfl rfl rfl rfl (congrArg Bool.not h74)) rfl rfl ?_
           refine l_off (gnu rfl rfl rfl rfl) rfl rfl ?_
           refine l_off (gnu rfl rfl rfl rfl) rfl rfl ?_
           refine l_off (gnu rfl rfl rfl rfl) rfl rfl ?_
           refine l_off (gnu rfl rfl rfl rfl) rfl rfl ?_
           refine l_off (gno rfl rfl rfl rfl (congrArg Bool.not h74)) rfl rfl ?_
           refine l_v rfl (r_pickT rfl (congrArg Bool.not h74) rfl) ?_
           refine l_v rfl (r_assign rfl) ?_
           refine l_nil ?_
           exact jn () hM73 ⟨rfl, rfl, rfl, rfl, rfl, rfl, okB (by (try simp only [h18, h21, h24]); (try simp only [h68, h69, h74]); simp), trivial⟩
         ·skip
          refine l_off (gno rfl rfl rfl rfl h69) rfl rfl ?_
          refine l_off (gno rfl rfl rfl rfl h69) rfl rfl ?_
          refine l_off (gno rfl rfl rfl rfl h69) rfl rfl ?_
          refine l_off (gno rfl rfl rfl rfl h69) rfl rfl ?_
          refine l_val (gy rfl rfl rfl rfl rfl) rfl rfl (r_pickF rfl h69 rfl) ?_
          refine l_v rfl (r_pickF rfl rfl rfl) ?_
          refine l_v rfl (r_move rfl) ?_
          refine l_val (gy rfl rfl rfl rfl rfl) rfl rfl (r_fieldAddr Hs.fld_access rfl) ?_
          refine l_val (gy rfl rfl rfl rfl rfl) rfl rfl (r_load1 (v := Value.bool ((hsOf a.kind).access)) Tryz.isAgg4 rfl (Holds.sub (hM66.base (i := 0) rfl) (Hs.sub_access _))) ?_
          refine l_val (gy rfl rfl rfl rfl rfl) rfl rfl (r_not rfl) ?_
          refine l_val (gy rfl rfl rfl rfl rfl) rfl rfl (r_move rfl) ?_
          refine l_val (gy rfl rfl rfl rfl (congrArg Bool.not h69)) rfl rfl (r_fieldAddr ARep.fld_acc rfl) ?_
          refine l_val (gy rfl rfl rfl rfl (congrArg Bool.not h69)) rfl rfl (r_loadA Tryz.isAgg31 Tryz.sizeOf31 (Access.size _) rfl (Holds.sub (hM66.base (i := 1) rfl) (ARep.sub_acc _))) ?_
          refine l_val (gy rfl rfl rfl rfl (congrArg Bool.not h69)) rfl rfl (r_build rfl ((Access.built _).trans (fill_nil))) ?_
          refine l_val (gy rfl rfl rfl rfl (congrArg Bool.not h69)) rfl rfl (r_neAccess rfl rfl) ?_
          refine l_val (gy rfl rfl rfl rfl rfl) rfl rfl (r_pickT rfl (congrArg Bool.not h69) rfl) ?_
          refine l_v rfl (r_pickF rfl rfl rfl) ?_
          refine l_v rfl (r_assign rfl) ?_
          refine l_nil ?_
          exact jn () hM66 ⟨rfl, rfl, rfl, rfl, rfl, rfl, okB (by (try simp only []); (try simp only [h68, h69]); simp), trivial⟩
        ·skip
         refine l_val (gy rfl rfl rfl rfl (congrArg Bool.not h68)) rfl rfl (r_fieldAddr ARep.fld_title rfl) ?_
         refine l_val (gy rfl rfl rfl rfl (congrArg Bool.not h68)) rfl rfl (r_load1 (v := Sl.val qa.t) Tryz.isAgg27 rfl (Holds.sub (hM66.base (i := 1) rfl) (ARep.sub_title _))) ?_
         refine l_val (gy rfl rfl rfl rfl (congrArg Bool.not h68)) rfl rfl (r_lenR Tryz.underlying27 rfl (hA.title.keep0 hM66.kp).len) ?_
         refine l_val (gy rfl rfl rfl rfl (congrArg Bool.not h68)) rfl rfl (r_gtr (b := decide ((0 : Nat) < a.title.length)) rfl rfl (nlt 0 a.title.length)) ?_
         refine l_v rfl (r_pickT rfl (congrArg Bool.not h68) rfl) ?_
         refine l_v rfl (r_move rfl) ?_
         refine ways (decide ((0 : Nat) < a.title.length)) (fun h75 => ?_) (fun h75 => ?_)
         ·skip
          have hp76 : (0 : Nat) < a.title.length := of_decide_eq_true h75
          refine l_off (gno rfl rfl rfl rfl h75) rfl rfl ?_
          refine l_off (gno rfl rfl rfl rfl h75) rfl rfl ?_
          refine l_off (gno rfl rfl rfl rfl h75) rfl rfl ?_
          refine l_off (gnu rfl rfl rfl rfl) rfl rfl ?_
          refine l_off (gnu rfl rfl rfl rfl) rfl rfl ?_
          refine l_off (gnu rfl rfl rfl rfl) rfl rfl ?_
          refine l_off (gnu rfl rfl rfl rfl) rfl rfl ?_
          refine l_off (gno rfl rfl rfl rfl h75) rfl rfl ?_
          refine l_v rfl (r_pickT rfl h75 rfl) ?_
          refine l_v rfl (r_move rfl) ?_
          refine l_off (gno rfl rfl rfl rfl rfl) rfl rfl ?_
          refine l_off (gno rfl rfl rfl rfl rfl) rfl rfl ?_
          refine l_off (gno rfl rfl rfl rfl rfl) rfl rfl ?_
          refine l_off (gno rfl rfl rfl rfl rfl) rfl rfl ?_
          refine l_off (gnu rfl rfl rfl rfl) rfl rfl ?_
          refine l_off (gnu rfl rfl rfl rfl) rfl rfl ?_
          refine l_off (gnu rfl rfl rfl rfl) rfl rfl ?_
          refine l_off (gnu rfl rfl rfl rfl) rfl rfl ?_
          refine l_off (gno rfl rfl rfl rfl rfl) rfl rfl ?_
          refine l_v rfl (r_pickT rfl rfl rfl) ?_
          refine l_v rfl (r_assign rfl) ?_
          refine l_nil ?_
          exact jn () hM66 ⟨rfl, rfl, rfl, rfl, rfl, rfl, okB (by (try simp only [h75]); (try simp only [h68]); simp), trivial⟩
         ·skip
          have hp77 : ¬ ((0 : Nat) < a.title.length) := of_decide_eq_false h75
          refine l_val (gy rfl rfl rfl rfl h75) rfl rfl (r_fieldAddr Hs.fld_access rfl) ?_
          refine l_val (gy rfl rfl rfl rfl h75) rfl rfl (r_load1 (v := Value.bool ((hsOf a.kind).access)) Tryz.isAgg4 rfl (Holds.sub (hM66.base (i := 0) rfl) (Hs.sub_access _))) ?_
          refine l_val (gy rfl rfl rfl rfl h75) rfl rfl (r_move rfl) ?_
          refine ways ((hsOf a.kind).access) (fun h78 => ?_) (fun h78 => ?_)
          ·skip
           refine l_val (gy rfl rfl rfl rfl h78) rfl rfl (r_fieldAddr ARep.fld_acc rfl) ?_
           refine l_val (gy rfl rfl rfl rfl h78) rfl rfl (r_loadA Tryz.isAgg31 Tryz.sizeOf31 (Access.size _) rfl (Holds.sub (hM66.base (i := 1) rfl) (ARep.sub_acc _))) ?_
           refine l_call (gy rfl rfl rfl rfl h78) rfl rfl (r_call Tryz.call44 rfl) (f44 a.acc) ?_
           rintro v79 w80 ⟨rfl, hK81⟩
           have hM82 := hM66.keep hK81
           refine l_val (gy rfl rfl rfl rfl h78) rfl rfl (r_not rfl) ?_
           refine l_val (gy rfl rfl rfl rfl h75) rfl rfl (r_pickT rfl h78 rfl) ?_
           refine l_v rfl (r_pickF rfl h75 rfl) ?_
           refine l_v rfl (r_move rfl) ?_
           refine ways (okAccess a.acc) (fun h83 => ?_) (fun h83 => ?_)
           ·skip
            refine l_val (gy rfl rfl rfl rfl (congrArg Bool.not h83)) rfl rfl (r_fieldAddr Hs.fld_access rfl) ?_
            refine l_val (gy rfl rfl rfl rfl (congrArg Bool.not h83)) rfl rfl (r_load1 (v := Value.bool ((hsOf a.kind).access)) Tryz.isAgg4 rfl (Holds.sub (hM82.base (i := 0) rfl) (Hs.sub_access _))) ?_
            refine l_val (gy rfl rfl rfl rfl (congrArg Bool.not h83)) rfl rfl (r_not rfl) ?_
            refine l_val (gy rfl rfl rfl rfl (congrArg Bool.not h83)) rfl rfl (r_move rfl) ?_
            refine l_off (gno rfl rfl rfl rfl (congrArg Bool.not h78)) rfl rfl ?_
            refine l_off (gno rfl rfl rfl rfl (congrArg Bool.not h78)) rfl rfl ?_
            refine l_off (gno rfl rfl rfl rfl (congrArg Bool.not h78)) rfl rfl ?_
            refine l_off (gno rfl rfl rfl rfl (congrArg Bool.not h78)) rfl rfl ?_
            refine l_val (gy rfl rfl rfl rfl (congrArg Bool.not h83)) rfl rfl (r_pickF rfl (congrArg Bool.not h78) rfl) ?_
            refine l_v rfl (r_pickF rfl (congrArg Bool.not h83) rfl) ?_
            refine l_v rfl (r_assign rfl) ?_
            refine l_nil ?_
            exact jn () hM82 ⟨rfl, rfl, rfl, rfl, rfl, rfl, okB (by (try simp only [h75]); (try simp only [h68, h78, h83]); simp), trivial⟩
           ·skip
            refine l_off (gno rfl rfl rfl rfl (congrArg Bool.not h83)) rfl rfl ?_
            refine l_off (gno rfl rfl rfl rfl (congrArg Bool.not h83)) rfl rfl ?_
            refine l_off (gno rfl rfl rfl rfl (congrArg Bool.not h83)) rfl rfl ?_
            refine l_off (gno rfl rfl rfl rfl (congrArg Bool.not h83)) rfl rfl ?_
            refine l_off (gnu rfl rfl rfl rfl) rfl rfl ?_
            refine l_off (gnu rfl rfl rfl rfl) rfl rfl ?_
            refine l_off (gnu rfl rfl rfl rfl) rfl rfl ?_
            refine l_off (gnu rfl rfl rfl rfl) rfl rfl ?_
            refine l_off (gno rfl rfl rfl rfl (congrArg Bool.not h83)) rfl rfl ?_
            refine l_v rfl (r_pickT rfl (congrArg Bool.not h83) rfl) ?_
            refine l_v rfl (r_assign rfl) ?_
            refine l_nil ?_
            exact jn () hM82 ⟨rfl, rfl, rfl, rfl, rfl, rfl, okB (by (try simp only [h75]); (try simp only [h68, h78, h83]); simp), trivial⟩
          ·skip
           refine l_off (gno rfl rfl rfl rfl h78) rfl rfl ?_
           refine l_off (gno rfl rfl rfl rfl h78) rfl rfl ?_
           refine l_off (gno rfl rfl rfl rfl h78) rfl rfl ?_
           refine l_off (gno rfl rfl rfl rfl h78) rfl rfl ?_
           refine l_val (gy rfl rfl rfl rfl h75) rfl rfl (r_pickF rfl h78 rfl) ?_
           refine l_v rfl (r_pickF rfl h75 rfl) ?_
           refine l_v rfl (r_move rfl) ?_
           refine l_val (gy rfl rfl rfl rfl rfl) rfl rfl (r_fieldAddr Hs.fld_access rfl) ?_
           refine l_val (gy rfl rfl rfl rfl rfl) rfl rfl (r_load1 (v := Value.bool ((hsOf a.kind).access)) Tryz.isAgg4 rfl (Holds.sub (hM66.base (i := 0) rfl) (Hs.sub_access _))) ?_
           refine l_val (gy rfl rfl rfl rfl rfl) rfl rfl (r_not rfl) ?_
           refine l_val (gy rfl rfl rfl rfl rfl) rfl rfl (r_move rfl) ?_
           refine l_val (gy rfl rfl rfl rfl (congrArg Bool.not h78)) rfl rfl (r_fieldAddr ARep.fld_acc rfl) ?_
           refine l_val (gy rfl rfl rfl rfl (congrArg Bool.not h78)) rfl rfl (r_loadA Tryz.isAgg31 Tryz.sizeOf31 (Access.size _) rfl (Holds.sub (hM66.base (i := 1) rfl) (ARep.sub_acc _))) ?_
           refine l_val (gy rfl rfl rfl rfl (congrArg Bool.not h78)) rfl rfl (r_build rfl ((Access.built _).trans (fill_nil))) ?_
           refine l_val (gy rfl rfl rfl rfl (congrArg Bool.not h78)) rfl rfl (r_neAccess rfl rfl) ?_
           refine l_val (gy rfl rfl rfl rfl rfl) rfl rfl (r_pickT rfl (congrArg Bool.not h78) rfl) ?_
           refine l_v rfl (r_pickF rfl rfl rfl) ?_
           refine l_v rfl (r_assign rfl) ?_
           refine l_nil ?_
           exact jn () hM66 ⟨rfl, rfl, rfl, rfl, rfl, rfl, okB (by (try simp only [h75]); (try simp only [h68, h78]); simp), trivial⟩
       ·skip
        rintro - w84 hM85
        refine ways (((!(hsOf a.kind).title && decide (0 < a.title.length)) || ((hsOf a.kind).access && !okAccess a.acc) || (!(hsOf a.kind).access && !decide (a.acc = Access.zero)))) (fun h86 => ?_) (fun h86 => ?_)
        ·skip
         refine c_condT rfl h86 ?_
         refine c_sr ?_
         refine l_v rfl (r_assign rfl) ?_
         refine l_nil ?_
         refine c_ret ?_
         refine ret1 rfl rfl ?_
         exact ⟨by rw [okAct29]; (try simp only [h18, h21, h24]); (try simp only [h67, h86]); simp, hM85.kp⟩
        ·skip
         refine c_condF rfl h86 ?_
         refine c_skip ?_
         refine c_sr ?_
         refine l_v rfl (r_fieldAddr ARep.fld_pass rfl) ?_
         refine l_v rfl (r_load1 (v := Sl.val qa.p) Tryz.isAgg27 rfl (Holds.sub (hM85.base (i := 1) rfl) (ARep.sub_pass _))) ?_
         refine l_v rfl (r_lenR Tryz.underlying27 rfl (hA.pass.keep0 hM85.kp).len) ?_
         refine l_v rfl (r_assign rfl) ?_
         refine l_nil ?_
         refine c_sr ?_
         refine l_v rfl (r_move rfl) ?_
         refine l_v rfl (r_eql (b := decide ((a.pass.length : Nat) = 0)) rfl rfl (neq' a.pass.length 0)) ?_
         refine l_v rfl (r_move rfl) ?_
         refine ways (decide ((a.pass.length : Nat) = 0)) (fun h87 => ?_) (fun h87 => ?_)
         ·skip
          have hp88 : (a.pass.length : Nat) = 0 := of_decide_eq_true h87
          refine l_val (gy rfl rfl rfl rfl h87) rfl rfl (r_fieldAddr Hs.fld_password rfl) ?_
          refine l_val (gy rfl rfl rfl rfl h87) rfl rfl (r_load1 (v := Value.bool ((hsOf a.kind).password)) Tryz.isAgg4 rfl (Holds.sub (hM85.base (i := 0) rfl) (Hs.sub_password _))) ?_
          refine l_val (gy rfl rfl rfl rfl h87) rfl rfl (r_not rfl) ?_
          refine l_val (gy rfl rfl rfl rfl h87) rfl rfl (r_move rfl) ?_
          refine ways ((hsOf a.kind).password) (fun h89 => ?_) (fun h89 => ?_)
          ·skip
           refine l_val (gy rfl rfl rfl rfl (congrArg Bool.not h89)) rfl rfl (r_fieldAddr ARep.fld_kind rfl) ?_
           refine l_val (gy rfl rfl rfl rfl (congrArg Bool.not h89)) rfl rfl (r_load1 (v := vU8 a.kind) Tryz.isAgg38 rfl (Holds.sub (hM85.base (i := 1) rfl) (ARep.sub_kind _))) ?_
           refine l_val (gy rfl rfl rfl rfl (congrArg Bool.not h89)) rfl rfl (r_eql (b := decide ((a.kind : UInt8) = 18)) rfl rfl (u8eq a.kind 18)) ?_
           refine l_val (gy rfl rfl rfl rfl h87) rfl rfl (r_pickF rfl (congrArg Bool.not h89) rfl) ?_
           refine l_v rfl (r_pickT rfl h87 rfl) ?_
           refine l_v rfl (r_move rfl) ?_
           refine ways (decide ((a.kind : UInt8) = 18)) (fun h90 => ?_) (fun h90 => ?_)
           ·skip
            have hp91 : (a.kind : UInt8) = 18 := of_decide_eq_true h90
            refine l_off (gno rfl rfl rfl rfl h90) rfl rfl ?_
            refine l_off (gno rfl rfl rfl rfl h90) rfl rfl ?_
            refine l_off (gno rfl rfl rfl rfl h90) rfl rfl ?_
            refine l_off (gnu rfl rfl rfl rfl) rfl rfl ?_
            refine l_off (gnu rfl rfl rfl rfl) rfl rfl ?_
            refine l_off (gno rfl rfl rfl rfl h90) rfl rfl ?_
            refine l_v rfl (r_pickT rfl h90 rfl) ?_
            refine l_v rfl (r_assign rfl) ?_
            refine l_nil ?_
            refine c_ret ?_
            refine ret1 rfl rfl ?_
            exact ⟨by rw [okAct29]; (try simp only [h18, h21, h24, h87, h90]); (try simp only [h67, h86, h89]); simp, hM85.kp⟩
           ·skip
            have hp92 : ¬ ((a.kind : UInt8) = 18) := of_decide_eq_false h90
            refine l_val (gy rfl rfl rfl rfl h90) rfl rfl (r_move rfl) ?_
            refine l_val (gy rfl rfl rfl rfl h90) rfl rfl (r_eql (b := decide ((a.pass.length : Nat) = 16)) rfl rfl (neq' a.pass.length 16)) ?_
            refine l_val (gy rfl rfl rfl rfl h90) rfl rfl (r_move rfl) ?_
            refine ways (decide ((a.pass.length : Nat) = 16)) (fun h93 => ?_) (fun h93 => ?_)
            ·skip
             have hp94 : (a.pass.length : Nat) = 16 := of_decide_eq_true h93
             refine l_val (gy rfl rfl rfl rfl h93) rfl rfl (r_fieldAddr Hs.fld_password rfl) ?_
             refine l_val (gy rfl rfl rfl rfl h93) rfl rfl (r_load1 (v := Value.bool ((hsOf a.kind).password)) Tryz.isAgg4 rfl (Holds.sub (hM85.base (i := 0) rfl) (Hs.sub_password _))) ?_
             refine l_val (gy rfl rfl rfl rfl h90) rfl rfl (r_pickT rfl h93 rfl) ?_
             refine l_v rfl (r_pickF rfl h90 rfl) ?_
             refine l_v rfl (r_assign rfl) ?_
             refine l_nil ?_
             refine c_ret ?_
             refine ret1 rfl rfl ?_
             exact ⟨by rw [okAct29]; (try simp only [h18, h21, h24, h87, h90, h93]); (try simp only [h67, h86, h89]); simp, hM85.kp⟩
            ·skip
             have hp95 : ¬ ((a.pass.length : Nat) = 16) := of_decide_eq_false h93
             refine l_off (gno rfl rfl rfl rfl h93) rfl rfl ?_
             refine l_off (gno rfl rfl rfl rfl h93) rfl rfl ?_
             refine l_val (gy rfl rfl rfl rfl h90) rfl rfl (r_pickF rfl h93 rfl) ?_
             refine l_v rfl (r_pickF rfl h90 rfl) ?_
             refine l_v rfl (r_assign rfl) ?_
             refine l_nil ?_
             refine c_ret ?_
             refine ret1 rfl rfl ?_
             exact ⟨by rw [okAct29]; (try simp only [h18, h21, h24, h87, h90, h93]); (try simp only [h67, h86, h89]); simp, hM85.kp⟩
          ·skip
           refine l_off (gno rfl rfl rfl rfl (congrArg Bool.not h89)) rfl rfl ?_
           refine l_off (gno rfl rfl rfl rfl (congrArg Bool.not h89)) rfl rfl ?_
           refine l_off (gno rfl rfl rfl rfl (congrArg Bool.not h89)) rfl rfl ?_
           refine l_val (gy rfl rfl rfl rfl h87) rfl rfl (r_pickT rfl (congrArg Bool.not h89) rfl) ?_
           refine l_v rfl (r_pickT rfl h87 rfl) ?_
           refine l_v rfl (r_move rfl) ?_
           refine l_off (gno rfl rfl rfl rfl rfl) rfl rfl ?_
           refine l_off (gno rfl rfl rfl rfl rfl) rfl rfl ?_
           refine l_off (gno rfl rfl rfl rfl rfl) rfl rfl ?_
           refine l_off (gnu rfl rfl rfl rfl) rfl rfl ?_
           refine l_off (gnu rfl rfl rfl rfl) rfl rfl ?_
           refine l_off (gno rfl rfl rfl rfl rfl) rfl rfl ?_
           refine l_v rfl (r_pickT rfl rfl rfl) ?_
           refine l_v rfl (r_assign rfl) ?_
           refine l_nil ?_
           refine c_ret ?_
           refine ret1 rfl rfl ?_
           exact ⟨by rw [okAct29]; (try simp only [h18, h21, h24, h87]); (try simp only [h67, h86, h89]); simp, hM85.kp⟩
         ·skip
          have hp96 : ¬ ((a.pass.length : Nat) = 0) := of_decide_eq_false h87
          refine l_off (gno rfl rfl rfl rfl h87) rfl rfl ?_
          refine l_off (gno rfl rfl rfl rfl h87) rfl rfl ?_
          refine l_off (gno rfl rfl rfl rfl h87) rfl rfl ?_
          refine l_off (gno rfl rfl rfl rfl h87) rfl rfl ?_
          refine l_off (gnu rfl rfl rfl rfl) rfl rfl ?_
          refine l_off (gnu rfl rfl rfl rfl) rfl rfl ?_
          refine l_off (gnu rfl rfl rfl rfl) rfl rfl ?_
          refine l_off (gno rfl rfl rfl rfl h87) rfl rfl ?_
          refine l_v rfl (r_pickF rfl h87 rfl) ?_
          refine l_v rfl (r_move rfl) ?_
          refine l_val (gy rfl rfl rfl rfl rfl) rfl rfl (r_move rfl) ?_
          refine l_val (gy rfl rfl rfl rfl rfl) rfl rfl (r_eql (b := decide ((a.pass.length : Nat) = 16)) rfl rfl (neq' a.pass.length 16)) ?_
          refine l_val (gy rfl rfl rfl rfl rfl) rfl rfl (r_move rfl) ?_
          refine ways (decide ((a.pass.length : Nat) = 16)) (fun h97 => ?_) (fun h97 => ?_)
          ·skip
           have hp98 : (a.pass.length : Nat) = 16 := of_decide_eq_true h97
           refine l_val (gy rfl rfl rfl rfl h97) rfl rfl (r_fieldAddr Hs.fld_password rfl) ?_
           refine l_val (gy rfl rfl rfl rfl h97) rfl rfl (r_load1 (v := Value.bool ((hsOf a.kind).password)) Tryz.isAgg4 rfl (Holds.sub (hM85.base (i := 0) rfl) (Hs.sub_password _))) ?_
           refine l_val (gy rfl rfl rfl rfl rfl) rfl rfl (r_pickT rfl h97 rfl) ?_
           refine l_v rfl (r_pickF rfl rfl rfl) ?_
           refine l_v rfl (r_assign rfl) ?_
           refine l_nil ?_
           refine c_ret ?_
           refine ret1 rfl rfl ?_
           exact ⟨by rw [okAct29]; (try simp only [h18, h21, h24, h87, h97]); (try simp only [h67, h86]); simp, hM85.kp⟩
          ·skip
           have hp99 : ¬ ((a.pass.length : Nat) = 16) := of_decide_eq_false h97
           refine l_off (gno rfl rfl rfl rfl h97) rfl rfl ?_
           refine l_off (gno rfl rfl rfl rfl h97) rfl rfl ?_
           refine l_val (gy rfl rfl rfl rfl rfl) rfl rfl (r_pickF rfl h97 rfl) ?_
           refine l_v rfl (r_pickF rfl rfl rfl) ?_
           refine l_v rfl (r_assign rfl) ?_
           refine l_nil ?_
           refine c_ret ?_
           refine ret1 rfl rfl ?_
           exact ⟨by rw [okAct29]; (try simp only [h18, h21, h24, h87, h97]); (try simp only [h67, h86]); simp, hM85.kp⟩
end Go.Proofs.YtekhaogjmmmniaaGreat
namespace Go.Proofs.YtekhaogjmmmniaaGreat
open Go Go.RowKit

theorem f15 {A B : Nat → Prop} {w : World} {S T : State} {q q2 : Six} (hS : StV A w q S) (hT : StV B w q2 T) :
    Ret 15 #[.agg (S.rep q).cells, .agg (T.rep q2).cells] w (fun v w' => v = .bool (sameState S T) ∧ Keeps [] w w') := by
  obtain ⟨hn1, hn2, hn3, hn4, hn5, hn6⟩ := hS.bd
  have hM0 := Mem.start w
  refine enter Tryz.func15 rfl rfl ?_
  refine c_sr ?_
  refine l_box hM0 rfl rfl ?_
  intro b1 w2 hM3 hK4 hB5
  replace hM3 : Mem w [] [(b1, (SRep.cells ((SRep.mk S.ver S.key q.t S.acc q.p q.s q.i q.a q.b))), 37)] w2 := hM3
  refine l_box hM3 rfl rfl ?_
  intro b6 w7 hM8 hK9 hB10
  replace hM8 : Mem w [] [(b6, (SRep.cells ((SRep.mk T.ver T.key q2.t T.acc q2.p q2.s q2.i q2.a q2.b))), 37), (b1, (SRep.cells ((SRep.mk S.ver S.key q.t S.acc q.p q.s q.i q.a q.b))), 37)] w7 := hM8
  refine l_v rfl (r_assign rfl) ?_
  refine l_nil ?_
  refine c_seq ?_
  refine c_sr ?_
  refine l_v rfl (r_fieldAddr SRep.fld_ver rfl) ?_
  refine l_v rfl (r_load1 (v := vU32 S.ver) Tryz.isAgg22 rfl (Holds.sub (hM8.base (i := 1) rfl) (SRep.sub_ver _))) ?_
  refine l_v rfl (r_fieldAddr SRep.fld_ver rfl) ?_
  refine l_v rfl (r_load1 (v := vU32 T.ver) Tryz.isAgg22 rfl (Holds.sub (hM8.base (i := 0) rfl) (SRep.sub_ver _))) ?_
  refine l_v rfl (r_neq (b := (!(decide ((S.ver : UInt32) = T.ver)))) rfl rfl (congrArg Bool.not (u32eq S.ver T.ver))) ?_
  refine l_v rfl (r_move rfl) ?_
  refine ways (decide ((S.ver : UInt32) = T.ver)) (fun h11 => ?_) (fun h11 => ?_)
  ·skip
   have hp12 : (S.ver : UInt32) = T.ver := of_decide_eq_true h11
   refine l_val (gy rfl rfl rfl rfl (congrArg Bool.not h11)) rfl rfl (r_fieldAddr SRep.fld_key rfl) ?_
   refine l_val (gy rfl rfl rfl rfl (congrArg Bool.not h11)) rfl rfl (r_loadA Tryz.isAgg26 Tryz.sizeOf26 (Pub.size _) rfl (Holds.sub (hM8.base (i := 1) rfl) (SRep.sub_key _))) ?_
   refine l_val (gy rfl rfl rfl rfl (congrArg Bool.not h11)) rfl rfl (r_fieldAddr SRep.fld_key rfl) ?_
   refine l_val (gy rfl rfl rfl rfl (congrArg Bool.not h11)) rfl rfl (r_loadA Tryz.isAgg26 Tryz.sizeOf26 (Pub.size _) rfl (Holds.sub (hM8.base (i := 0) rfl) (SRep.sub_key _))) ?_
   refine l_val (gy rfl rfl rfl rfl (congrArg Bool.not h11)) rfl rfl (r_nePub rfl rfl) ?_
   refine l_v rfl (r_pickF rfl (congrArg Bool.not h11) rfl) ?_
   refine l_v rfl (r_move rfl) ?_
   refine ways (decide (S.key = T.key)) (fun h13 => ?_) (fun h13 => ?_)
   ·skip
    have hp14 : S.key = T.key := of_decide_eq_true h13
    refine l_val (gy rfl rfl rfl rfl (congrArg Bool.not h13)) rfl rfl (r_fieldAddr SRep.fld_title rfl) ?_
    refine l_val (gy rfl rfl rfl rfl (congrArg Bool.not h13)) rfl rfl (r_load1 (v := Sl.val q.t) Tryz.isAgg27 rfl (Holds.sub (hM8.base (i := 1) rfl) (SRep.sub_title _))) ?_
    refine l_val (gy rfl rfl rfl rfl (congrArg Bool.not h13)) rfl rfl (r_bstrR rfl (hS.title.keep0 hM8.kp)) ?_
    refine l_val (gy rfl rfl rfl rfl (congrArg Bool.not h13)) rfl rfl (r_fieldAddr SRep.fld_title rfl) ?_
    refine l_val (gy rfl rfl rfl rfl (congrArg Bool.not h13)) rfl rfl (r_load1 (v := Sl.val q2.t) Tryz.isAgg27 rfl (Holds.sub (hM8.base (i := 0) rfl) (SRep.sub_title _))) ?_
    refine l_val (gy rfl rfl rfl rfl (congrArg Bool.not h13)) rfl rfl (r_bstrR rfl (hT.title.keep0 hM8.kp)) ?_
    refine l_val (gy rfl rfl rfl rfl (congrArg Bool.not h13)) rfl rfl (r_strne rfl rfl) ?_
    refine l_v rfl (r_pickF rfl (congrArg Bool.not h13) rfl) ?_
    refine l_v rfl (r_move rfl) ?_
    refine ways (decide (S.title = T.title)) (fun h15 => ?_) (fun h15 => ?_)
    ·skip
     have hp16 : S.title = T.title := of_decide_eq_true h15
     refine l_val (gy rfl rfl rfl rfl (congrArg Bool.not h15)) rfl rfl (r_fieldAddr SRep.fld_acc rfl) ?_
     refine l_val (gy rfl rfl rfl rfl (congrArg Bool.not h15)) rfl rfl (r_loadA Tryz.isAgg31 Tryz.sizeOf31 (Access.size _) rfl (Holds.sub (hM8.base (i := 1) rfl) (SRep.sub_acc _))) ?_
     refine l_val (gy rfl rfl rfl rfl (congrArg Bool.not h15)) rfl rfl (r_fieldAddr SRep.fld_acc rfl) ?_
     refine l_val (gy rfl rfl rfl rfl (congrArg Bool.not h15)) rfl rfl (r_loadA Tryz.isAgg31 Tryz.sizeOf31 (Access.size _) rfl (Holds.sub (hM8.base (i := 0) rfl) (SRep.sub_acc _))) ?_
     refine l_val (gy rfl rfl rfl rfl (congrArg Bool.not h15)) rfl rfl (r_neAccess rfl rfl) ?_
     refine l_v rfl (r_pickF rfl (congrArg Bool.not h15) rfl) ?_
     refine l_v rfl (r_move rfl) ?_
     refine ways (decide (S.acc = T.acc)) (fun h17 => ?_) (fun h17 => ?_)
     ·skip
      have hp18 : S.acc = T.acc := of_decide_eq_true h17
      refine l_val (gy rfl rfl rfl rfl (congrArg Bool.not h17)) rfl rfl (r_fieldAddr SRep.fld_pass rfl) ?_
      refine l_val (gy rfl rfl rfl rfl (congrArg Bool.not h17)) rfl rfl (r_load1 (v := Sl.val q.p) Tryz.isAgg27 rfl (Holds.sub (hM8.base (i := 1) rfl) (SRep.sub_pass _))) ?_
      refine l_val (gy rfl rfl rfl rfl (congrArg Bool.not h17)) rfl rfl (r_bstrR rfl (hS.pass.keep0 hM8.kp)) ?_
      refine l_val (gy rfl rfl rfl rfl (congrArg Bool.not h17)) rfl rfl (r_fieldAddr SRep.fld_pass rfl) ?_
      refine l_val (gy rfl rfl rfl rfl (congrArg Bool.not h17)) rfl rfl (r_load1 (v := Sl.val q2.p) Tryz.isAgg27 rfl (Holds.sub (hM8.base (i := 0) rfl) (SRep.sub_pass _))) ?_
      refine l_val (gy rfl rfl rfl rfl (congrArg Bool.not h17)) rfl rfl (r_bstrR rfl (hT.pass.keep0 hM8.kp)) ?_
      refine l_val (gy rfl rfl rfl rfl (congrArg Bool.not h17)) rfl rfl (r_strne rfl rfl) ?_
      refine l_v rfl (r_pickF rfl (congrArg Bool.not h17) rfl) ?_
      refine l_v rfl (r_move rfl) ?_
      refine ways (decide (S.pass = T.pass)) (fun h19 => ?_) (fun h19 => ?_)
      ·skip
       have hp20 : S.pass = T.pass := of_decide_eq_true h19
       refine l_val (gy rfl rfl rfl rfl (congrArg Bool.not h19)) rfl rfl (r_fieldAddr SRep.fld_seats rfl) ?_
       refine l_val (gy rfl rfl rfl rfl (congrArg Bool.not h19)) rfl rfl (r_load1 (v := Sl.val q.s) Tryz.isAgg32 rfl (Holds.sub (hM8.base (i := 1) rfl) (SRep.sub_seats _))) ?_
       refine l_val (gy rfl rfl rfl rfl (congrArg Bool.not h19)) rfl rfl (r_lenR Tryz.underlying32 rfl (hS.seats.keep0 hM8.kp).len) ?_
       refine l_val (gy rfl rfl rfl rfl (congrArg Bool.not h19)) rfl rfl (r_fieldAddr SRep.fld_seats rfl) ?_
       refine l_val (gy rfl rfl rfl rfl (congrArg Bool.not h19)) rfl rfl (r_load1 (v := Sl.val q2.s) Tryz.isAgg32 rfl (Holds.sub (hM8.base (i := 0) rfl) (SRep.sub_seats _))) ?_
       refine l_val (gy rfl rfl rfl rfl (congrArg Bool.not h19)) rfl rfl (r_lenR Tryz.underlying32 rfl (hT.seats.keep0 hM8.kp).len) ?_
       refine l_val (gy rfl rfl rfl rfl (congrArg Bool.not h19)) rfl rfl (r_neq (b := (!(decide ((S.seats.length : Nat) = T.seats.length)))) rfl rfl (congrArg Bool.not (neq' S.seats.length T.seats.length))) ?_
       refine l_v rfl (r_pickF rfl (congrArg Bool.not h19) rfl) ?_
       refine l_v rfl (r_move rfl) ?_
       refine ways (decide ((S.seats.length : Nat) = T.seats.length)) (fun h21 => ?_) (fun h21 => ?_)
       ·skip
        have hp22 : (S.seats.length : Nat) = T.seats.length := of_decide_eq_true h21
        refine l_val (gy rfl rfl rfl rfl (congrArg Bool.not h21)) rfl rfl (r_fieldAddr SRep.fld_invites rfl) ?_
        refine l_val (gy rfl rfl rfl rfl (congrArg Bool.not h21)) rfl rfl (r_load1 (v := Sl.val q.i) Tryz.isAgg33 rfl (Holds.sub (hM8.base (i := 1) rfl) (SRep.sub_invites _))) ?_
        refine l_val (gy rfl rfl rfl rfl (congrArg Bool.not h21)) rfl rfl (r_lenR Tryz.underlying33 rfl (hS.invites.keep0 hM8.kp).len) ?_
        refine l_val (gy rfl rfl rfl rfl (congrArg Bool.not h21)) rfl rfl (r_fieldAddr SRep.fld_invites rfl) ?_
        refine l_val (gy rfl rfl rfl rfl (congrArg Bool.not h21)) rfl rfl (r_load1 (v := Sl.val q2.i) Tryz.isAgg33 rfl (Holds.sub (hM8.base (i := 0) rfl) (SRep.sub_invites _))) ?_
        refine l_val (gy rfl rfl rfl rfl (congrArg Bool.not h21)) rfl rfl (r_lenR Tryz.underlying33 rfl (hT.invites.keep0 hM8.kp).len) ?_
        refine l_val (gy rfl rfl rfl rfl (congrArg Bool.not h21)) rfl rfl (r_neq (b := (!(decide ((S.invites.length : Nat) = T.invites.length)))) rfl rfl (congrArg Bool.not (neq' S.invites.length T.invites.length))) ?_
        refine l_v rfl (r_pickF rfl (congrArg Bool.not h21) rfl) ?_
        refine l_v rfl (r_move rfl) ?_
        refine ways (decide ((S.invites.length : Nat) = T.invites.length)) (fun h23 => ?_) (fun h23 => ?_)
        ·skip
         have hp24 : (S.invites.length : Nat) = T.invites.length := of_decide_eq_true h23
         refine l_val (gy rfl rfl rfl rfl (congrArg Bool.not h23)) rfl rfl (r_fieldAddr SRep.fld_asks rfl) ?_
         refine l_val (gy rfl rfl rfl rfl (congrArg Bool.not h23)) rfl rfl (r_load1 (v := Sl.val q.a) Tryz.isAgg34 rfl (Holds.sub (hM8.base (i := 1) rfl) (SRep.sub_asks _))) ?_
         refine l_val (gy rfl rfl rfl rfl (congrArg Bool.not h23)) rfl rfl (r_lenR Tryz.underlying34 rfl (hS.asks.keep0 hM8.kp).len) ?_
         refine l_val (gy rfl rfl rfl rfl (congrArg Bool.not h23)) rfl rfl (r_fieldAddr SRep.fld_asks rfl) ?_
         refine l_val (gy rfl rfl rfl rfl (congrArg Bool.not h23)) rfl rfl (r_load1 (v := Sl.val q2.a) Tryz.isAgg34 rfl (Holds.sub (hM8.base (i := 0) rfl) (SRep.sub_asks _))) ?_
         refine l_val (gy rfl rfl rfl rfl (congrArg Bool.not h23)) rfl rfl (r_lenR Tryz.underlying34 rfl (hT.asks.keep0 hM8.kp).len) ?_
         refine l_val (gy rfl rfl rfl rfl (congrArg Bool.not h23)) rfl rfl (r_neq (b := (!(decide ((S.asks.length : Nat) = T.asks.length)))) rfl rfl (congrArg Bool.not (neq' S.asks.length T.asks.length))) ?_
         refine l_v rfl (r_pickF rfl (congrArg Bool.not h23) rfl) ?_
         refine l_v rfl (r_move rfl) ?_
         refine ways (decide ((S.asks.length : Nat) = T.asks.length)) (fun h25 => ?_) (fun h25 => ?_)
         ·skip
          have hp26 : (S.asks.length : Nat) = T.asks.length := of_decide_eq_true h25
          refine l_val (gy rfl rfl rfl rfl (congrArg Bool.not h25)) rfl rfl (r_fieldAddr SRep.fld_bans rfl) ?_
          refine l_val (gy rfl rfl rfl rfl (congrArg Bool.not h25)) rfl rfl (r_load1 (v := Sl.val q.b) Tryz.isAgg35 rfl (Holds.sub (hM8.base (i := 1) rfl) (SRep.sub_bans _))) ?_
          refine l_val (gy rfl rfl rfl rfl (congrArg Bool.not h25)) rfl rfl (r_lenR Tryz.underlying35 rfl (hS.bans.keep0 hM8.kp).len) ?_
          refine l_val (gy rfl rfl rfl rfl (congrArg Bool.not h25)) rfl rfl (r_fieldAddr SRep.fld_bans rfl) ?_
          refine l_val (gy rfl rfl rfl rfl (congrArg Bool.not h25)) rfl rfl (r_load1 (v := Sl.val q2.b) Tryz.isAgg35 rfl (Holds.sub (hM8.base (i := 0) rfl) (SRep.sub_bans _))) ?_
          refine l_val (gy rfl rfl rfl rfl (congrArg Bool.not h25)) rfl rfl (r_lenR Tryz.underlying35 rfl (hT.bans.keep0 hM8.kp).len) ?_
          refine l_val (gy rfl rfl rfl rfl (congrArg Bool.not h25)) rfl rfl (r_neq (b := (!(decide ((S.bans.length : Nat) = T.bans.length)))) rfl rfl (congrArg Bool.not (neq' S.bans.length T.bans.length))) ?_
          refine l_v rfl (r_pickF rfl (congrArg Bool.not h25) rfl) ?_
          refine l_nil ?_
          refine ways (decide ((S.bans.length : Nat) = T.bans.length)) (fun h27 => ?_) (fun h27 => ?_)
          ·skip
           have hp28 : (S.bans.length : Nat) = T.bans.length := of_decide_eq_true h27
           refine c_condF rfl (congrArg Bool.not h27) ?_
           refine c_skip ?_
           refine c_seq ?_
           refine c_sr ?_
           refine l_v rfl (r_assign rfl) ?_
           refine l_nil ?_
           refine c_block ?_
           refine c_loop (ι := Nat) (fun k0 w_ => Mem w [] [(b6, (SRep.cells ((SRep.mk T.ver T.key q2.t T.acc q2.p q2.s q2.i q2.a q2.b))), 37), (b1, (SRep.cells ((SRep.mk S.ver S.key q.t S.acc q.p q.s q.i q.a q.b))), 37)] w_ ∧ (k0 ≤ S.seats.length ∧ S.seats.take k0 = T.seats.take k0)) (fun k0 => [(0, Value.agg (SRep.cells ((SRep.mk S.ver S.key q.t S.acc q.p q.s q.i q.a q.b)))), (1, Value.agg (SRep.cells ((SRep.mk T.ver T.key q2.t T.acc q2.p q2.s q2.i q2.a q2.b)))), (2, Value.pointer (some ⟨b1, 0, none⟩)), (3, Value.pointer (some ⟨b6, 0, none⟩)), (85, Value.bool ((!(decide ((S.bans.length : Nat) = T.bans.length))))), (5, Value.int .i64 ((k0 : Nat) : Int))]) (fun k0 => S.seats.length - k0) 0 ⟨hM8, Nat.zero_le _, rfl⟩ ⟨rfl, rfl, rfl, rfl, rfl, rfl, trivial⟩ ?_
           rintro k0 w29 ⟨hM30, hk0, he0⟩
           refine c_seq ?_
           refine c_sr ?_
           refine l_v rfl (r_move rfl) ?_
           refine l_v rfl (r_fieldAddr SRep.fld_seats rfl) ?_
           refine l_v rfl (r_load1 (v := Sl.val q.s) Tryz.isAgg32 rfl (Holds.sub (hM30.base (i := 1) rfl) (SRep.sub_seats _))) ?_
           refine l_v rfl (r_lenR Tryz.underlying32 rfl (hS.seats.keep0 hM30.kp).len) ?_
           refine l_v rfl (r_lss (b := decide ((k0 : Nat) < S.seats.length)) rfl rfl (nlt k0 S.seats.length)) ?_
           refine l_nil ?_
           refine ways (decide ((k0 : Nat) < S.seats.length)) (fun h31 => ?_) (fun h31 => ?_)
           ·skip
            have hp32 : (k0 : Nat) < S.seats.length := of_decide_eq_true h31
            refine c_condT rfl h31 ?_
            refine c_skip ?_
            refine c_seq ?_
            refine c_block ?_
            refine c_seq ?_
            have hM33 := hM30.drew
            refine c_regA (Mem w [] [(b6, (SRep.cells ((SRep.mk T.ver T.key q2.t T.acc q2.p q2.s q2.i q2.a q2.b))), 37), (b1, (SRep.cells ((SRep.mk S.ver S.key q.t S.acc q.p q.s q.i q.a q.b))), 37)]) [] [⟨10, 6, (Seat.cells Seat.zero), 73⟩, ⟨11, 7, (Seat.cells Seat.zero), 73⟩] [] [(0, true), (1, true), (2, true), (3, true), (4, true), (5, true), (6, true), (7, true), (8, true), (9, true)] [(12, false), (13, false)] (by kernel_rfl) ⟨⟨_, _, _, rfl, _, Seat.zv, rfl⟩, ⟨_, _, _, rfl, _, Seat.zv, rfl⟩, trivial⟩ (by simp) (fun _ _ k h => h.keep k) hM33 ?_
            refine a_take hM33 rfl rfl (gn rfl) rfl rfl (fun w h => r_fieldAddr SRep.fld_seats rfl) ?_
            refine a_take hM33 rfl rfl (gn rfl) rfl rfl (fun w h => r_load1 (v := Sl.val q.s) Tryz.isAgg32 rfl (Holds.sub (h.base (i := 1) rfl) (SRep.sub_seats _))) ?_
            refine a_take hM33 rfl rfl (gn rfl) rfl rfl (fun w h => r_move rfl) ?_
            have hlt34 : k0 < S.seats.length := by first | assumption | omega
            obtain ⟨x34, hx34⟩ : ∃ x, S.seats[k0]? = some x := ⟨_, List.getElem?_eq_getElem hlt34⟩
            obtain ⟨p34, o34, ha34, hA34, -⟩ := (hS.seats.keep0 hM33.kp).at_ _ _ hx34
            refine a_take hM33 rfl rfl (gn rfl) rfl rfl (fun w h => r_indexR Tryz.underlying32 Tryz.sizeOf73 ⟨_, (hS.seats.keep0 h.kp)⟩ rfl ha34 rfl hlt34) ?_
            refine a_take hM33 rfl rfl (gn rfl) rfl rfl (fun w h => r_loadA Tryz.isAgg73 Tryz.sizeOf73 (Seat.size _) rfl ((hS.seats.keep0 h.kp).ix hx34 ha34)) ?_
            refine a_take hM33 rfl rfl (gn rfl) rfl rfl (fun w h => r_fieldAddr SRep.fld_seats rfl) ?_
            refine a_take hM33 rfl rfl (gn rfl) rfl rfl (fun w h => r_load1 (v := Sl.val q2.s) Tryz.isAgg32 rfl (Holds.sub (h.base (i := 0) rfl) (SRep.sub_seats _))) ?_
            refine a_take hM33 rfl rfl (gn rfl) rfl rfl (fun w h => r_move rfl) ?_
            have hlt35 : k0 < T.seats.length := by first | assumption | omega
            obtain ⟨x35, hx35⟩ : ∃ x, T.seats[k0]? = some x := ⟨_, List.getElem?_eq_getElem hlt35⟩
            obtain ⟨p35, o35, ha35, hA35, -⟩ := (hT.seats.keep0 hM33.kp).at_ _ _ hx35
            refine a_take hM33 rfl rfl (gn rfl) rfl rfl (fun w h => r_indexR Tryz.underlying32 Tryz.sizeOf73 ⟨_, (hT.seats.keep0 h.kp)⟩ rfl ha35 rfl hlt35) ?_
            refine a_take hM33 rfl rfl (gn rfl) rfl rfl (fun w h => r_loadA Tryz.isAgg73 Tryz.sizeOf73 (Seat.size _) rfl ((hT.seats.keep0 h.kp).ix hx35 ha35)) ?_
            refine a_nil hM33 hM33.kp.size hM33.lt rfl rfl ?_
            intro w36 g37 hK38 hM39 hg40
            change AT _ (_ :: _ :: _) _ _
            replace hM39 : Mem w [] [(g37 10, (Seat.cells Seat.zero), 73), (g37 11, (Seat.cells Seat.zero), 73), (b6, (SRep.cells ((SRep.mk T.ver T.key q2.t T.acc q2.p q2.s q2.i q2.a q2.b))), 37), (b1, (SRep.cells ((SRep.mk S.ver S.key q.t S.acc q.p q.s q.i q.a q.b))), 37)] w36 := hM39
            refine s_store hM39 (j := 0) rfl rfl Tryz.sizeOf73 rfl rfl (Seat.size _) (by rw [Seat.size]; decide) (Seat.one _) (put_whole _ _ ((Seat.size _).trans (Seat.size _).symm)) ?_
            intro w41 hM42 hK43
            replace hM42 : Mem w [] [(g37 10, (Seat.cells x34), 73), (g37 11, (Seat.cells Seat.zero), 73), (b6, (SRep.cells ((SRep.mk T.ver T.key q2.t T.acc q2.p q2.s q2.i q2.a q2.b))), 37), (b1, (SRep.cells ((SRep.mk S.ver S.key q.t S.acc q.p q.s q.i q.a q.b))), 37)] w41 := hM42
            refine ⟨.inr (hM42.forget (.cons _ (.cons _ (.refl _)))), ?_⟩
            refine s_store hM42 (j := 1) rfl rfl Tryz.sizeOf73 rfl rfl (Seat.size _) (by rw [Seat.size]; decide) (Seat.one _) (put_whole _ _ ((Seat.size _).trans (Seat.size _).symm)) ?_
            intro w44 hM45 hK46
            replace hM45 : Mem w [] [(g37 10, (Seat.cells x34), 73), (g37 11, (Seat.cells x35), 73), (b6, (SRep.cells ((SRep.mk T.ver T.key q2.t T.acc q2.p q2.s q2.i q2.a q2.b))), 37), (b1, (SRep.cells ((SRep.mk S.ver S.key q.t S.acc q.p q.s q.i q.a q.b))), 37)] w44 := hM45
            refine ⟨.inr (hM45.forget (.cons _ (.cons _ (.refl _)))), ?_⟩
            refine s_nil ?_
            refine c_sr ?_
            refine l_v rfl (r_loadA Tryz.isAgg73 Tryz.sizeOf73 (Seat.size _) rfl (hM45.base (i := 0) rfl)) ?_
            refine l_v rfl (r_loadA Tryz.isAgg73 Tryz.sizeOf73 (Seat.size _) rfl (hM45.base (i := 1) rfl)) ?_
            refine l_v rfl (r_neSeat rfl rfl) ?_
            refine l_nil ?_
            refine ways (decide (x34 = x35)) (fun h47 => ?_) (fun h47 => ?_)
            ·skip
             have hp48 : x34 = x35 := of_decide_eq_true h47
             refine c_condF rfl (congrArg Bool.not h47) ?_
             refine c_skip ?_
             refine c_reg ?_
             refine l_v rfl (r_move rfl) ?_
             refine l_v rfl (r_add (r := ((k0 + 1 : Nat) : Int)) rfl rfl (nadd (i := k0) (k := 1) (m := k0 + 1) (by omega) (by omega))) ?_
             refine l_v rfl (r_assign rfl) ?_
             refine l_nil ?_
             intro a_ ha_
             refine ⟨k0 + 1, ⟨(hM45.forget (.cons _ (.cons _ (.refl _)))), ?_⟩, by omega, ha_.sub ⟨rfl, rfl, rfl, rfl, rfl, rfl, trivial⟩⟩
             exact ⟨by omega, same_step he0 hx34 hx35 (by assumption)⟩
            ·skip
             have hp49 : ¬ (x34 = x35) := of_decide_eq_false h47
             refine c_condT rfl (congrArg Bool.not h47) ?_
             refine c_sr ?_
             refine l_v rfl (r_assign rfl) ?_
             refine l_nil ?_
             refine c_ret ?_
             refine ret1 rfl rfl ?_
             have hz := same_no hx34 hx35 (by assumption)
             exact ⟨by simp only [sameState, hz]; simp, hM45.kp⟩
           ·skip
            have hp50 : ¬ ((k0 : Nat) < S.seats.length) := of_decide_eq_false h31
            refine c_condF rfl h31 ?_
            refine c_exit rfl ?_
            refine c_seq ?_
            refine c_sr ?_
            refine l_v rfl (r_assign rfl) ?_
            refine l_nil ?_
            refine c_block ?_
            refine c_loop (ι := Nat) (fun k1 w_ => Mem w [] [(b6, (SRep.cells ((SRep.mk T.ver T.key q2.t T.acc q2.p q2.s q2.i q2.a q2.b))), 37), (b1, (SRep.cells ((SRep.mk S.ver S.key q.t S.acc q.p q.s q.i q.a q.b))), 37)] w_ ∧ (k1 ≤ S.invites.length ∧ S.invites.take k1 = T.invites.take k1)) (fun k1 => [(0, Value.agg (SRep.cells ((SRep.mk S.ver S.key q.t S.acc q.p q.s q.i q.a q.b)))), (1, Value.agg (SRep.cells ((SRep.mk T.ver T.key q2.t T.acc q2.p q2.s q2.i q2.a q2.b)))), (2, Value.pointer (some ⟨b1, 0, none⟩)), (3, Value.pointer (some ⟨b6, 0, none⟩)), (85, Value.bool ((!(decide ((S.bans.length : Nat) = T.bans.length))))), (5, Value.int .i64 ((k0 : Nat) : Int)), (90, Value.bool (decide ((k0 : Nat) < S.seats.length))), (8, Value.int .i64 ((k1 : Nat) : Int))]) (fun k1 => S.invites.length - k1) 0 ⟨hM30, Nat.zero_le _, rfl⟩ ⟨rfl, rfl, rfl, rfl, rfl, rfl, rfl, rfl, trivial⟩ ?_
            rintro k1 w51 ⟨hM52, hk1, he1⟩
            refine c_seq ?_
            refine c_sr ?_
            refine l_v rfl (r_move rfl) ?_
            refine l_v rfl (r_fieldAddr SRep.fld_invites rfl) ?_
            refine l_v rfl (r_load1 (v := Sl.val q.i) Tryz.isAgg33 rfl (Holds.sub (hM52.base (i := 1) rfl) (SRep.sub_invites _))) ?_
            refine l_v rfl (r_lenR Tryz.underlying33 rfl (hS.invites.keep0 hM52.kp).len) ?_
            refine l_v rfl (r_lss (b := decide ((k1 : Nat) < S.invites.length)) rfl rfl (nlt k1 S.invites.length)) ?_
            refine l_nil ?_
            refine ways (decide ((k1 : Nat) < S.invites.length)) (fun h53 => ?_) (fun h53 => ?_)
            ·skip
             have hp54 : (k1 : Nat) < S.invites.length := of_decide_eq_true h53
             refine c_condT rfl h53 ?_
             refine c_skip ?_
             refine c_seq ?_
             refine c_block ?_
             refine c_seq ?_
             have hM55 := hM52.drew
             refine c_regA (Mem w [] [(b6, (SRep.cells ((SRep.mk T.ver T.key q2.t T.acc q2.p q2.s q2.i q2.a q2.b))), 37), (b1, (SRep.cells ((SRep.mk S.ver S.key q.t S.acc q.p q.s q.i q.a q.b))), 37)]) [] [⟨10, 9, (Invite.cells Invite.zero), 82⟩, ⟨11, 10, (Invite.cells Invite.zero), 82⟩] [] [(0, true), (1, true), (2, true), (3, true), (4, true), (5, true), (6, true), (7, true), (8, true), (9, true)] [(12, false), (13, false)] (by kernel_rfl) ⟨⟨_, _, _, rfl, _, Invite.zv, rfl⟩, ⟨_, _, _, rfl, _, Invite.zv, rfl⟩, trivial⟩ (by simp) (fun _ _ k h => h.keep k) hM55 ?_
             refine a_take hM55 rfl rfl (gn rfl) rfl rfl (fun w h => r_fieldAddr SRep.fld_invites rfl) ?_
             refine a_take hM55 rfl rfl (gn rfl) rfl rfl (fun w h => r_load1 (v := Sl.val q.i) Tryz.isAgg33 rfl (Holds.sub (h.base (i := 1) rfl) (SRep.sub_invites _))) ?_
             refine a_take hM55 rfl rfl (gn rfl) rfl rfl (fun w h => r_move rfl) ?_
             have hlt56 : k1 < S.invites.length := by first | assumption | omega
             obtain ⟨x56, hx56⟩ : ∃ x, S.invites[k1]? = some x := ⟨_, List.getElem?_eq_getElem hlt56⟩
             obtain ⟨p56, o56, ha56, hA56, -⟩ := (hS.invites.keep0 hM55.kp).at_ _ _ hx56
             refine a_take hM55 rfl rfl (gn rfl) rfl rfl (fun w h => r_indexR Tryz.underlying33 Tryz.sizeOf82 ⟨_, (hS.invites.keep0 h.kp)⟩ rfl ha56 rfl hlt56) ?_
             refine a_take hM55 rfl rfl (gn rfl) rfl rfl (fun w h => r_loadA Tryz.isAgg82 Tryz.sizeOf82 (Invite.size _) rfl ((hS.invites.keep0 h.kp).ix hx56 ha56)) ?_
             refine a_take hM55 rfl rfl (gn rfl) rfl rfl (fun w h => r_fieldAddr SRep.fld_invites rfl) ?_
             refine a_take hM55 rfl rfl (gn rfl) rfl rfl (fun w h => r_load1 (v := Sl.val q2.i) Tryz.isAgg33 rfl (Holds.sub (h.base (i := 0) rfl) (SRep.sub_invites _))) ?_
             refine a_take hM55 rfl rfl (gn rfl) rfl rfl (fun w h => r_move rfl) ?_
             have hlt57 : k1 < T.invites.length := by first | assumption | omega
             obtain ⟨x57, hx57⟩ : ∃ x, T.invites[k1]? = some x := ⟨_, List.getElem?_eq_getElem hlt57⟩
             obtain ⟨p57, o57, ha57, hA57, -⟩ := (hT.invites.keep0 hM55.kp).at_ _ _ hx57
             refine a_take hM55 rfl rfl (gn rfl) rfl rfl (fun w h => r_indexR Tryz.underlying33 Tryz.sizeOf82 ⟨_, (hT.invites.keep0 h.kp)⟩ rfl ha57 rfl hlt57) ?_
             refine a_take hM55 rfl rfl (gn rfl) rfl rfl (fun w h => r_loadA Tryz.isAgg82 Tryz.sizeOf82 (Invite.size _) rfl ((hT.invites.keep0 h.kp).ix hx57 ha57)) ?_
             refine a_nil hM55 hM55.kp.size hM55.lt rfl rfl ?_
             intro w58 g59 hK60 hM61 hg62
             change AT _ (_ :: _ :: _) _ _
             replace hM61 : Mem w [] [(g59 10, (Invite.cells Invite.zero), 82), (g59 11, (Invite.cells Invite.zero), 82), (b6, (SRep.cells ((SRep.mk T.ver T.key q2.t T.acc q2.p q2.s q2.i q2.a q2.b))), 37), (b1, (SRep.cells ((SRep.mk S.ver S.key q.t S.acc q.p q.s q.i q.a q.b))), 37)] w58 := hM61
             refine s_store hM61 (j := 0) rfl rfl Tryz.sizeOf82 rfl rfl (Invite.size _) (by rw [Invite.size]; decide) (Invite.one _) (put_whole _ _ ((Invite.size _).trans (Invite.size _).symm)) ?_
             intro w63 hM64 hK65
             replace hM64 : Mem w [] [(g59 10, (Invite.cells x56), 82), (g59 11, (Invite.cells Invite.zero), 82), (b6, (SRep.cells ((SRep.mk T.ver T.key q2.t T.acc q2.p q2.s q2.i q2.a q2.b))), 37), (b1, (SRep.cells ((SRep.mk S.ver S.key q.t S.acc q.p q.s q.i q.a q.b))), 37)] w63 := hM64
             refine ⟨.inr (hM64.forget (.cons _ (.cons _ (.refl _)))), ?_⟩
             refine s_store hM64 (j := 1) rfl rfl Tryz.sizeOf82 rfl rfl (Invite.size _) (by rw [Invite.size]; decide) (Invite.one _) (put_whole _ _ ((Invite.size _).trans (Invite.size _).symm)) ?_
             intro w66 hM67 hK68
             replace hM67 : Mem w [] [(g59 10, (Invite.cells x56), 82), (g59 11, (Invite.cells x57), 82), (b6, (SRep.cells ((SRep.mk T.ver T.key q2.t T.acc q2.p q2.s q2.i q2.a q2.b))), 37), (b1, (SRep.cells ((SRep.mk S.ver S.key q.t S.acc q.p q.s q.i q.a q.b))), 37)] w66 := hM67
             refine ⟨.inr (hM67.forget (.cons _ (.cons _ (.refl _)))), ?_⟩
             refine s_nil ?_
             refine c_sr ?_
             refine l_v rfl (r_loadA Tryz.isAgg82 Tryz.sizeOf82 (Invite.size _) rfl (hM67.base (i := 0) rfl)) ?_
             refine l_v rfl (r_loadA Tryz.isAgg82 Tryz.sizeOf82 (Invite.size _) rfl (hM67.base (i := 1) rfl)) ?_
             refine l_v rfl (r_neInvite rfl rfl) ?_
             refine l_nil ?_
             refine ways (decide (x56 = x57)) (fun h69 => ?_) (fun h69 => ?_)
             ·skip
              have hp70 : x56 = x57 := of_decide_eq_true h69
              refine c_condF rfl (congrArg Bool.not h69) ?_
              refine c_skip ?_
              refine c_reg ?_
              refine l_v rfl (r_move rfl) ?_
              refine l_v rfl (r_add (r := ((k1 + 1 : Nat) : Int)) rfl rfl (nadd (i := k1) (k := 1) (m := k1 + 1) (by omega) (by omega))) ?_
              refine l_v rfl (r_assign rfl) ?_
              refine l_nil ?_
              intro a_ ha_
              refine ⟨k1 + 1, ⟨(hM67.forget (.cons _ (.cons _ (.refl _)))), ?_⟩, by omega, ha_.sub ⟨rfl, rfl, rfl, rfl, rfl, rfl, rfl, rfl, trivial⟩⟩
              exact ⟨by omega, same_step he1 hx56 hx57 (by assumption)⟩
             ·skip
              have hp71 : ¬ (x56 = x57) := of_decide_eq_false h69
              refine c_condT rfl (congrArg Bool.not h69) ?_
              refine c_sr ?_
              refine l_v rfl (r_assign rfl) ?_
              refine l_nil ?_
              refine c_ret ?_
              refine ret1 rfl rfl ?_
              have hz := same_no hx56 hx57 (by assumption)
              exact ⟨by simp only [sameState, hz]; simp, hM67.kp⟩
            ·skip
             have hp72 : ¬ ((k1 : Nat) < S.invites.length) := of_decide_eq_false h53
             refine c_condF rfl h53 ?_
             refine c_exit rfl ?_
             refine c_seq ?_
             refine c_sr ?_
             refine l_v rfl (r_assign rfl) ?_
             refine l_nil ?_
             refine c_block ?_
             refine c_loop (ι := Nat) (fun k2 w_ => Mem w [] [(b6, (SRep.cells ((SRep.mk T.ver T.key q2.t T.acc q2.p q2.s q2.i q2.a q2.b))), 37), (b1, (SRep.cells ((SRep.mk S.ver S.key q.t S.acc q.p q.s q.i q.a q.b))), 37)] w_ ∧ (k2 ≤ S.asks.length ∧ S.asks.take k2 = T.asks.take k2)) (fun k2 => [(0, Value.agg (SRep.cells ((SRep.mk S.ver S.key q.t S.acc q.p q.s q.i q.a q.b)))), (1, Value.agg (SRep.cells ((SRep.mk T.ver T.key q2.t T.acc q2.p q2.s q2.i q2.a q2.b)))), (2, Value.pointer (some ⟨b1, 0, none⟩)), (3, Value.pointer (some ⟨b6, 0, none⟩)), (85, Value.bool ((!(decide ((S.bans.length : Nat) = T.bans.length))))), (5, Value.int .i64 ((k0 : Nat) : Int)), (90, Value.bool (decide ((k0 : Nat) < S.seats.length))), (8, Value.int .i64 ((k1 : Nat) : Int)), (110, Value.bool (decide ((k1 : Nat) < S.invites.length))), (11, Value.int .i64 ((k2 : Nat) : Int))]) (fun k2 => S.asks.length - k2) 0 ⟨hM52, Nat.zero_le _, rfl⟩ ⟨rfl, rfl, rfl, rfl, rfl, rfl, rfl, rfl, rfl, rfl, trivial⟩ ?_
             rintro k2 w73 ⟨hM74, hk2, he2⟩
             refine c_seq ?_
             refine c_sr ?_
             refine l_v rfl (r_move rfl) ?_
             refine l_v rfl (r_fieldAddr SRep.fld_asks rfl) ?_
             refine l_v rfl (r_load1 (v := Sl.val q.a) Tryz.isAgg34 rfl (Holds.sub (hM74.base (i := 1) rfl) (SRep.sub_asks _))) ?_
             refine l_v rfl (r_lenR Tryz.underlying34 rfl (hS.asks.keep0 hM74.kp).len) ?_
             refine l_v rfl (r_lss (b := decide ((k2 : Nat) < S.asks.length)) rfl rfl (nlt k2 S.asks.length)) ?_
             refine l_nil ?_
             refine ways (decide ((k2 : Nat) < S.asks.length)) (fun h75 => ?_) (fun h75 => ?_)
             ·skip
              have hp76 : (k2 : Nat) < S.asks.length := of_decide_eq_true h75
              refine c_condT rfl h75 ?_
              refine c_skip ?_
              refine c_seq ?_
              refine c_block ?_
              refine c_seq ?_
              refine c_regD (Mem w [] [(b6, (SRep.cells ((SRep.mk T.ver T.key q2.t T.acc q2.p q2.s q2.i q2.a q2.b))), 37), (b1, (SRep.cells ((SRep.mk S.ver S.key q.t S.acc q.p q.s q.i q.a q.b))), 37)]) [] [(0, true), (1, true), (2, true), (3, true), (4, true), (5, true), (6, true), (7, true), (8, true), (9, true), (10, true)] (by kernel_rfl) ?_
              have hM77 := hM74.drew
              refine s_take hM77 rfl (gn rfl) rfl rfl (fun w h => r_fieldAddr SRep.fld_asks rfl) ?_
              refine s_take hM77 rfl (gn rfl) rfl rfl (fun w h => r_load1 (v := Sl.val q.a) Tryz.isAgg34 rfl (Holds.sub (h.base (i := 1) rfl) (SRep.sub_asks _))) ?_
              refine s_take hM77 rfl (gn rfl) rfl rfl (fun w h => r_move rfl) ?_
              have hlt79 : k2 < S.asks.length := by first | assumption | omega
              obtain ⟨x79, hx79⟩ : ∃ x, S.asks[k2]? = some x := ⟨_, List.getElem?_eq_getElem hlt79⟩
              obtain ⟨p79, o79, ha79, hA79, -⟩ := (hS.asks.keep0 hM77.kp).at_ _ _ hx79
              refine s_take hM77 rfl (gn rfl) rfl rfl (fun w h => r_indexR Tryz.underlying34 Tryz.sizeOf84 ⟨_, (hS.asks.keep0 h.kp)⟩ rfl ha79 rfl hlt79) ?_
              refine s_take hM77 rfl (gn rfl) rfl rfl (fun w h => r_loadA Tryz.isAgg84 Tryz.sizeOf84 (Ask.size _) rfl ((hS.asks.keep0 h.kp).ix hx79 ha79)) ?_
              refine s_take hM77 rfl (gn rfl) rfl rfl (fun w h => r_fieldAddr SRep.fld_asks rfl) ?_
              refine s_take hM77 rfl (gn rfl) rfl rfl (fun w h => r_load1 (v := Sl.val q2.a) Tryz.isAgg34 rfl (Holds.sub (h.base (i := 0) rfl) (SRep.sub_asks _))) ?_
              refine s_take hM77 rfl (gn rfl) rfl rfl (fun w h => r_move rfl) ?_
              have hlt80 : k2 < T.asks.length := by first | assumption | omega
              obtain ⟨x80, hx80⟩ : ∃ x, T.asks[k2]? = some x := ⟨_, List.getElem?_eq_getElem hlt80⟩
              obtain ⟨p80, o80, ha80, hA80, -⟩ := (hT.asks.keep0 hM77.kp).at_ _ _ hx80
              refine s_take hM77 rfl (gn rfl) rfl rfl (fun w h => r_indexR Tryz.underlying34 Tryz.sizeOf84 ⟨_, (hT.asks.keep0 h.kp)⟩ rfl ha80 rfl hlt80) ?_
              refine s_take hM77 rfl (gn rfl) rfl rfl (fun w h => r_loadA Tryz.isAgg84 Tryz.sizeOf84 (Ask.size _) rfl ((hT.asks.keep0 h.kp).ix hx80 ha80)) ?_
              refine s_take hM77 rfl (gn rfl) rfl rfl (fun w h => r_neAsk rfl rfl) ?_
              refine s_nil ?_
              refine ways (decide (x79 = x80)) (fun h81 => ?_) (fun h81 => ?_)
              ·skip
               have hp82 : x79 = x80 := of_decide_eq_true h81
               refine c_condF rfl (congrArg Bool.not h81) ?_
               refine c_skip ?_
               refine c_reg ?_
               refine l_v rfl (r_move rfl) ?_
               refine l_v rfl (r_add (r := ((k2 + 1 : Nat) : Int)) rfl rfl (nadd (i := k2) (k := 1) (m := k2 + 1) (by omega) (by omega))) ?_
               refine l_v rfl (r_assign rfl) ?_
               refine l_nil ?_
               intro a_ ha_
               refine ⟨k2 + 1, ⟨hM77, ?_⟩, by omega, ha_.sub ⟨rfl, rfl, rfl, rfl, rfl, rfl, rfl, rfl, rfl, rfl, trivial⟩⟩
               exact ⟨by omega, same_step he2 hx79 hx80 (by assumption)⟩
              ·skip
               have hp83 : ¬ (x79 = x80) := of_decide_eq_false h81
               refine c_condT rfl (congrArg Bool.not h81) ?_
               refine c_sr ?_
               refine l_v rfl (r_assign rfl) ?_
               refine l_nil ?_
               refine c_ret ?_
               refine ret1 rfl rfl ?_
               have hz := same_no hx79 hx80 (by assumption)
               exact ⟨by simp only [sameState, hz]; simp, hM77.kp⟩
             ·skip
              have hp84 : ¬ ((k2 : Nat) < S.asks.length) := of_decide_eq_false h75
              refine c_condF rfl h75 ?_
              refine c_exit rfl ?_
              refine c_seq ?_
              refine c_sr ?_
              refine l_v rfl (r_assign rfl) ?_
              refine l_nil ?_
              refine c_block ?_
              refine c_loop (ι := Nat) (fun k3 w_ => Mem w [] [(b6, (SRep.cells ((SRep.mk T.ver T.key q2.t T.acc q2.p q2.s q2.i q2.a q2.b))), 37), (b1, (SRep.cells ((SRep.mk S.ver S.key q.t S.acc q.p q.s q.i q.a q.b))), 37)] w_ ∧ (k3 ≤ S.bans.length ∧ S.bans.take k3 = T.bans.take k3)) (fun k3 => [(0, Value.agg (SRep.cells ((SRep.mk S.ver S.key q.t S.acc q.p q.s q.i q.a q.b)))), (1, Value.agg (SRep.cells ((SRep.mk T.ver T.key q2.t T.acc q2.p q2.s q2.i q2.a q2.b)))), (2, Value.pointer (some ⟨b1, 0, none⟩)), (3, Value.pointer (some ⟨b6, 0, none⟩)), (85, Value.bool ((!(decide ((S.bans.length : Nat) = T.bans.length))))), (5, Value.int .i64 ((k0 : Nat) : Int)), (90, Value.bool (decide ((k0 : Nat) < S.seats.length))), (8, Value.int .i64 ((k1 : Nat) : Int)), (110, Value.bool (decide ((k1 : Nat) < S.invites.length))), (11, Value.int .i64 ((k2 : Nat) : Int)), (130, Value.bool (decide ((k2 : Nat) < S.asks.length))), (12, Value.int .i64 ((k3 : Nat) : Int))]) (fun k3 => S.bans.length - k3) 0 ⟨hM74, Nat.zero_le _, rfl⟩ ⟨rfl, rfl, rfl, rfl, rfl, rfl, rfl, rfl, rfl, rfl, rfl, rfl, trivial⟩ ?_
              rintro k3 w85 ⟨hM86, hk3, he3⟩
              refine c_seq ?_
              refine c_sr ?_
              refine l_v rfl (r_move rfl) ?_
              refine l_v rfl (r_fieldAddr SRep.fld_bans rfl) ?_
              refine l_v rfl (r_load1 (v := Sl.val q.b) Tryz.isAgg35 rfl (Holds.sub (hM86.base (i := 1) rfl) (SRep.sub_bans _))) ?_
              refine l_v rfl (r_lenR Tryz.underlying35 rfl (hS.bans.keep0 hM86.kp).len) ?_
              refine l_v rfl (r_lss (b := decide ((k3 : Nat) < S.bans.length)) rfl rfl (nlt k3 S.bans.length)) ?_
              refine l_nil ?_
              refine ways (decide ((k3 : Nat) < S.bans.length)) (fun h87 => ?_) (fun h87 => ?_)
              ·skip
               have hp88 : (k3 : Nat) < S.bans.length := of_decide_eq_true h87
               refine c_condT rfl h87 ?_
               refine c_skip ?_
               refine c_seq ?_
               refine c_block ?_
               refine c_seq ?_
               refine c_regD (Mem w [] [(b6, (SRep.cells ((SRep.mk T.ver T.key q2.t T.acc q2.p q2.s q2.i q2.a q2.b))), 37), (b1, (SRep.cells ((SRep.mk S.ver S.key q.t S.acc q.p q.s q.i q.a q.b))), 37)]) [] [(0, true), (1, true), (2, true), (3, true), (4, true), (5, true), (6, true), (7, true), (8, true), (9, true), (10, true)] (by kernel_rfl) ?_
               have hM89 := hM86.drew
               refine s_take hM89 rfl (gn rfl) rfl rfl (fun w h => r_fieldAddr SRep.fld_bans rfl) ?_
               refine s_take hM89 rfl (gn rfl) rfl rfl (fun w h => r_load1 (v := Sl.val q.b) Tryz.isAgg35 rfl (Holds.sub (h.base (i := 1) rfl) (SRep.sub_bans _))) ?_
               refine s_take hM89 rfl (gn rfl) rfl rfl (fun w h => r_move rfl) ?_
               have hlt91 : k3 < S.bans.length := by first | assumption | omega
               obtain ⟨x91, hx91⟩ : ∃ x, S.bans[k3]? = some x := ⟨_, List.getElem?_eq_getElem hlt91⟩
               obtain ⟨p91, o91, ha91, hA91, -⟩ := (hS.bans.keep0 hM89.kp).at_ _ _ hx91
               refine s_take hM89 rfl (gn rfl) rfl rfl (fun w h => r_indexR Tryz.underlying35 Tryz.sizeOf86 ⟨_, (hS.bans.keep0 h.kp)⟩ rfl ha91 rfl hlt91) ?_
               refine s_take hM89 rfl (gn rfl) rfl rfl (fun w h => r_loadA Tryz.isAgg86 Tryz.sizeOf86 (Ban.size _) rfl ((hS.bans.keep0 h.kp).ix hx91 ha91)) ?_
               refine s_take hM89 rfl (gn rfl) rfl rfl (fun w h => r_fieldAddr SRep.fld_bans rfl) ?_
               refine s_take hM89 rfl (gn rfl) rfl rfl (fun w h => r_load1 (v := Sl.val q2.b) Tryz.isAgg35 rfl (Holds.sub (h.base (i := 0) rfl) (SRep.sub_bans _))) ?_
               refine s_take hM89 rfl (gn rfl) rfl rfl (fun w h => r_move rfl) ?_
               have hlt92 : k3 < T.bans.length := by first | assumption | omega
               obtain ⟨x92, hx92⟩ : ∃ x, T.bans[k3]? = some x := ⟨_, List.getElem?_eq_getElem hlt92⟩
               obtain ⟨p92, o92, ha92, hA92, -⟩ := (hT.bans.keep0 hM89.kp).at_ _ _ hx92
               refine s_take hM89 rfl (gn rfl) rfl rfl (fun w h => r_indexR Tryz.underlying35 Tryz.sizeOf86 ⟨_, (hT.bans.keep0 h.kp)⟩ rfl ha92 rfl hlt92) ?_
               refine s_take hM89 rfl (gn rfl) rfl rfl (fun w h => r_loadA Tryz.isAgg86 Tryz.sizeOf86 (Ban.size _) rfl ((hT.bans.keep0 h.kp).ix hx92 ha92)) ?_
               refine s_take hM89 rfl (gn rfl) rfl rfl (fun w h => r_neBan rfl rfl) ?_
               refine s_nil ?_
               refine ways (decide (x91 = x92)) (fun h93 => ?_) (fun h93 => ?_)
               ·skip
                have hp94 : x91 = x92 := of_decide_eq_true h93
                refine c_condF rfl (congrArg Bool.not h93) ?_
                refine c_skip ?_
                refine c_reg ?_
                refine l_v rfl (r_move rfl) ?_
                refine l_v rfl (r_add (r := ((k3 + 1 : Nat) : Int)) rfl rfl (nadd (i := k3) (k := 1) (m := k3 + 1) (by omega) (by omega))) ?_
                refine l_v rfl (r_assign rfl) ?_
                refine l_nil ?_
                intro a_ ha_
                refine ⟨k3 + 1, ⟨hM89, ?_⟩, by omega, ha_.sub ⟨rfl, rfl, rfl, rfl, rfl, rfl, rfl, rfl, rfl, rfl, rfl, rfl, trivial⟩⟩
                exact ⟨by omega, same_step he3 hx91 hx92 (by assumption)⟩
               ·skip
                have hp95 : ¬ (x91 = x92) := of_decide_eq_false h93
                refine c_condT rfl (congrArg Bool.not h93) ?_
                refine c_sr ?_
                refine l_v rfl (r_assign rfl) ?_
                refine l_nil ?_
                refine c_ret ?_
                refine ret1 rfl rfl ?_
                have hz := same_no hx91 hx92 (by assumption)
                exact ⟨by simp only [sameState, hz]; simp, hM89.kp⟩
              ·skip
               have hp96 : ¬ ((k3 : Nat) < S.bans.length) := of_decide_eq_false h87
               refine c_condF rfl h87 ?_
               refine c_exit rfl ?_
               refine c_sr ?_
               refine l_v rfl (r_assign rfl) ?_
               refine l_nil ?_
               refine c_ret ?_
               refine ret1 rfl rfl ?_
               have e0 := same_end (by assumption) he0 (by assumption)
               have e1 := same_end (by assumption) he1 (by assumption)
               have e2 := same_end (by assumption) he2 (by assumption)
               have e3 := same_end (by assumption) he3 (by assumption)
               exact ⟨by (try simp only [sameState, h11, h13, h15, h17, h19]); simp only [e0, e1, e2, e3]; simp, hM86.kp⟩
          ·skip
           have hp97 : ¬ ((S.bans.length : Nat) = T.bans.length) := of_decide_eq_false h27
           refine c_condT rfl (congrArg Bool.not h27) ?_
           refine c_sr ?_
           refine l_v rfl (r_assign rfl) ?_
           refine l_nil ?_
           refine c_ret ?_
           refine ret1 rfl rfl ?_
           have hz := len_ne h27
           exact ⟨by simp only [sameState, hz]; simp, hM8.kp⟩
         ·skip
          have hp98 : ¬ ((S.asks.length : Nat) = T.asks.length) := of_decide_eq_false h25
          refine l_off (gno rfl rfl rfl rfl (congrArg Bool.not h25)) rfl rfl ?_
          refine l_off (gno rfl rfl rfl rfl (congrArg Bool.not h25)) rfl rfl ?_
          refine l_off (gno rfl rfl rfl rfl (congrArg Bool.not h25)) rfl rfl ?_
          refine l_off (gno rfl rfl rfl rfl (congrArg Bool.not h25)) rfl rfl ?_
          refine l_off (gno rfl rfl rfl rfl (congrArg Bool.not h25)) rfl rfl ?_
          refine l_off (gno rfl rfl rfl rfl (congrArg Bool.not h25)) rfl rfl ?_
          refine l_off (gno rfl rfl rfl rfl (congrArg Bool.not h25)) rfl rfl ?_
          refine l_v rfl (r_pickT rfl (congrArg Bool.not h25) rfl) ?_
          refine l_nil ?_
          refine c_condT rfl rfl ?_
          refine c_sr ?_
          refine l_v rfl (r_assign rfl) ?_
          refine l_nil ?_
          refine c_ret ?_
          refine ret1 rfl rfl ?_
          have hz := len_ne h25
          exact ⟨by simp only [sameState, hz]; simp, hM8.kp⟩
        ·skip
         have hp99 : ¬ ((S.invites.length : Nat) = T.invites.length) := of_decide_eq_false h23
         refine l_off (gno rfl rfl rfl rfl (congrArg Bool.not h23)) rfl rfl ?_
         refine l_off (gno rfl rfl rfl rfl (congrArg Bool.not h23)) rfl rfl ?_
         refine l_off (gno rfl rfl rfl rfl (congrArg Bool.not h23)) rfl rfl ?_
         refine l_off (gno rfl rfl rfl rfl (congrArg Bool.not h23)) rfl rfl ?_
         refine l_off (gno rfl rfl rfl rfl (congrArg Bool.not h23)) rfl rfl ?_
         refine l_off (gno rfl rfl rfl rfl (congrArg Bool.not h23)) rfl rfl ?_
         refine l_off (gno rfl rfl rfl rfl (congrArg Bool.not h23)) rfl rfl ?_
         refine l_v rfl (r_pickT rfl (congrArg Bool.not h23) rfl) ?_
         refine l_v rfl (r_move rfl) ?_
         refine l_off (gno rfl rfl rfl rfl rfl) rfl rfl ?_
         refine l_off (gno rfl rfl rfl rfl rfl) rfl rfl ?_
         refine l_off (gno rfl rfl rfl rfl rfl) rfl rfl ?_
         refine l_off (gno rfl rfl rfl rfl rfl) rfl rfl ?_
         refine l_off (gno rfl rfl rfl rfl rfl) rfl rfl ?_
         refine l_off (gno rfl rfl rfl rfl rfl) rfl rfl ?_
         refine l_off (gno rfl rfl rfl rfl rfl) rfl rfl ?_
         refine l_v rfl (r_pickT rfl rfl rfl) ?_
         refine l_nil ?_
         refine c_condT rfl rfl ?_
         refine c_sr ?_
         refine l_v rfl (r_assign rfl) ?_
         refine l_nil ?_
         refine c_ret ?_
         refine ret1 rfl rfl ?_
         have hz := len_ne h23
         exact ⟨by simp only [sameState, hz]; simp, hM8.kp⟩
       ·skip
        have hp100 : ¬ ((S.seats.length : Nat) = T.seats.length) := of_decide_eq_false h21
        refine l_off (gno rfl rfl rfl rfl (congrArg Bool.not h21)) rfl rfl ?_
        refine l_off (gno rfl rfl rfl rfl (congrArg Bool.not h21)) rfl rfl ?_
        refine l_off (gno rfl rfl rfl rfl (congrArg Bool.not h21)) rfl rfl ?_
        refine l_off (gno rfl rfl rfl rfl (congrArg Bool.not h21)) rfl rfl ?_
        refine l_off (gno rfl rfl rfl rfl (congrArg Bool.not h21)) rfl rfl ?_
        refine l_off (gno rfl rfl rfl rfl (congrArg Bool.not h21)) rfl rfl ?_
        refine l_off (gno rfl rfl rfl rfl (congrArg Bool.not h21)) rfl rfl ?_
        refine l_v rfl (r_pickT rfl (congrArg Bool.not h21) rfl) ?_
        refine l_v rfl (r_move rfl) ?_
        refine l_off (gno rfl rfl rfl rfl rfl) rfl rfl ?_
        refine l_off (gno rfl rfl rfl rfl rfl) rfl rfl ?_
        refine l_off (gno rfl rfl rfl rfl rfl) rfl rfl ?_
        refine l_off (gno rfl rfl rfl rfl rfl) rfl rfl ?_
        refine l_off (gno rfl rfl rfl rfl rfl) rfl rfl ?_
        refine l_off (gno rfl rfl rfl rfl rfl) rfl rfl ?_
        refine l_off (gno rfl rfl rfl rfl rfl) rfl rfl ?_
        refine l_v rfl (r_pickT rfl rfl rfl) ?_
        refine l_v rfl (r_move rfl) ?_
        refine l_off (gno rfl rfl rfl rfl rfl) rfl rfl ?_
        refine l_off (gno rfl rfl rfl rfl rfl) rfl rfl ?_
        refine l_off (gno rfl rfl rfl rfl rfl) rfl rfl ?_
        refine l_off (gno rfl rfl rfl rfl rfl) rfl rfl ?_
        refine l_off (gno rfl rfl rfl rfl rfl) rfl rfl ?_
        refine l_off (gno rfl rfl rfl rfl rfl) rfl rfl ?_
        refine l_off (gno rfl rfl rfl rfl rfl) rfl rfl ?_
        refine l_v rfl (r_pickT rfl rfl rfl) ?_
        refine l_nil ?_
        refine c_condT rfl rfl ?_
        refine c_sr ?_
        refine l_v rfl (r_assign rfl) ?_
        refine l_nil ?_
        refine c_ret ?_
        refine ret1 rfl rfl ?_
        have hz := len_ne h21
        exact ⟨by simp only [sameState, hz]; simp, hM8.kp⟩
      ·skip
       have hp101 : ¬ (S.pass = T.pass) := of_decide_eq_false h19
       refine l_off (gno rfl rfl rfl rfl (congrArg Bool.not h19)) rfl rfl ?_
       refine l_off (gno rfl rfl rfl rfl (congrArg Bool.not h19)) rfl rfl ?_
       refine l_off (gno rfl rfl rfl rfl (congrArg Bool.not h19)) rfl rfl ?_
       refine l_off (gno rfl rfl rfl rfl (congrArg Bool.not h19)) rfl rfl ?_
       refine l_off (gno rfl rfl rfl rfl (congrArg Bool.not h19)) rfl rfl ?_
       refine l_off (gno rfl rfl rfl rfl (congrArg Bool.not h19)) rfl rfl ?_
       refine l_off (gno rfl rfl rfl rfl (congrArg Bool.not h19)) rfl rfl ?_
       refine l_v rfl (r_pickT rfl (congrArg Bool.not h19) rfl) ?_
       refine l_v rfl (r_move rfl) ?_
       refine l_off (gno rfl rfl rfl rfl rfl) rfl rfl ?_
       refine l_off (gno rfl rfl rfl rfl rfl) rfl rfl ?_
       refine l_off (gno rfl rfl rfl rfl rfl) rfl rfl ?_
       refine l_off (gno rfl rfl rfl rfl rfl) rfl rfl ?_
       refine l_off (gno rfl rfl rfl rfl rfl) rfl rfl ?_
       refine l_off (gno rfl rfl rfl rfl rfl) rfl rfl ?_
       refine l_off (gno rfl rfl rfl rfl rfl) rfl rfl ?_
       refine l_v rfl (r_pickT rfl rfl rfl) ?_
       refine l_v rfl (r_move rfl) ?_
       refine l_off (gno rfl rfl rfl rfl rfl) rfl rfl ?_
       refine l_off (gno rfl rfl rfl rfl rfl) rfl rfl ?_
       refine l_off (gno rfl rfl rfl rfl rfl) rfl rfl ?_
       refine l_off (gno rfl rfl rfl rfl rfl) rfl rfl ?_
       refine l_off (gno rfl rfl rfl rfl rfl) rfl rfl ?_
       refine l_off (gno rfl rfl rfl rfl rfl) rfl rfl ?_
       refine l_off (gno rfl rfl rfl rfl rfl) rfl rfl ?_
       refine l_v rfl (r_pickT rfl rfl rfl) ?_
       refine l_v rfl (r_move rfl) ?_
       refine l_off (gno rfl rfl rfl rfl rfl) rfl rfl ?_
       refine l_off (gno rfl rfl rfl rfl rfl) rfl rfl ?_
       refine l_off (gno rfl rfl rfl rfl rfl) rfl rfl ?_
       refine l_off (gno rfl rfl rfl rfl rfl) rfl rfl ?_
       refine l_off (gno rfl rfl rfl rfl rfl) rfl rfl ?_
       refine l_off (gno rfl rfl rfl rfl rfl) rfl rfl ?_
       refine l_off (gno rfl rfl rfl rfl rfl) rfl rfl ?_
       refine l_v rfl (r_pickT rfl rfl rfl) ?_
       refine l_nil ?_
       refine c_condT rfl rfl ?_
       refine c_sr ?_
       refine l_v rfl (r_assign rfl) ?_
       refine l_nil ?_
       refine c_ret ?_
       refine ret1 rfl rfl ?_
       exact ⟨by simp only [sameState, h19]; simp, hM8.kp⟩
     ·skip
      have hp102 : ¬ (S.acc = T.acc) := of_decide_eq_false h17
      refine l_off (gno rfl rfl rfl rfl (congrArg Bool.not h17)) rfl rfl ?_
      refine l_off (gno rfl rfl rfl rfl (congrArg Bool.not h17)) rfl rfl ?_
      refine l_off (gno rfl rfl rfl rfl (congrArg Bool.not h17)) rfl rfl ?_
      refine l_off (gno rfl rfl rfl rfl (congrArg Bool.not h17)) rfl rfl ?_
      refine l_off (gno rfl rfl rfl rfl (congrArg Bool.not h17)) rfl rfl ?_
      refine l_off (gno rfl rfl rfl rfl (congrArg Bool.not h17)) rfl rfl ?_
      refine l_off (gno rfl rfl rfl rfl (congrArg Bool.not h17)) rfl rfl ?_
      refine l_v rfl (r_pickT rfl (congrArg Bool.not h17) rfl) ?_
      refine l_v rfl (r_move rfl) ?_
      refine l_off (gno rfl rfl rfl rfl rfl) rfl rfl ?_
      refine l_off (gno rfl rfl rfl rfl rfl) rfl rfl ?_
      refine l_off (gno rfl rfl rfl rfl rfl) rfl rfl ?_
      refine l_off (gno rfl rfl rfl rfl rfl) rfl rfl ?_
      refine l_off (gno rfl rfl rfl rfl rfl) rfl rfl ?_
      refine l_off (gno rfl rfl rfl rfl rfl) rfl rfl ?_
      refine l_off (gno rfl rfl rfl rfl rfl) rfl rfl ?_
      refine l_v rfl (r_pickT rfl rfl rfl) ?_
      refine l_v rfl (r_move rfl) ?_
      refine l_off (gno rfl rfl rfl rfl rfl) rfl rfl ?_
      refine l_off (gno rfl rfl rfl rfl rfl) rfl rfl ?_
      refine l_off (gno rfl rfl rfl rfl rfl) rfl rfl ?_
      refine l_off (gno rfl rfl rfl rfl rfl) rfl rfl ?_
      refine l_off (gno rfl rfl rfl rfl rfl) rfl rfl ?_
      refine l_off (gno rfl rfl rfl rfl rfl) rfl rfl ?_
      refine l_off (gno rfl rfl rfl rfl rfl) rfl rfl ?_
      refine l_v rfl (r_pickT rfl rfl rfl) ?_
      refine l_v rfl (r_move rfl) ?_
      refine l_off (gno rfl rfl rfl rfl rfl) rfl rfl ?_
      refine l_off (gno rfl rfl rfl rfl rfl) rfl rfl ?_
      refine l_off (gno rfl rfl rfl rfl rfl) rfl rfl ?_
      refine l_off (gno rfl rfl rfl rfl rfl) rfl rfl ?_
      refine l_off (gno rfl rfl rfl rfl rfl) rfl rfl ?_
      refine l_off (gno rfl rfl rfl rfl rfl) rfl rfl ?_
      refine l_off (gno rfl rfl rfl rfl rfl) rfl rfl ?_
      refine l_v rfl (r_pickT rfl rfl rfl) ?_
      refine l_v rfl (r_move rfl) ?_
      refine l_off (gno rfl rfl rfl rfl rfl) rfl rfl ?_
      refine l_off (gno rfl rfl rfl rfl rfl) rfl rfl ?_
      refine l_off (gno rfl rfl rfl rfl rfl) rfl rfl ?_
      refine l_off (gno rfl rfl rfl rfl rfl) rfl rfl ?_
      refine l_off (gno rfl rfl rfl rfl rfl) rfl rfl ?_
      refine l_off (gno rfl rfl rfl rfl rfl) rfl rfl ?_
      refine l_off (gno rfl rfl rfl rfl rfl) rfl rfl ?_
      refine l_v rfl (r_pickT rfl rfl rfl) ?_
      refine l_nil ?_
      refine c_condT rfl rfl ?_
      refine c_sr ?_
      refine l_v rfl (r_assign rfl) ?_
      refine l_nil ?_
      refine c_ret ?_
      refine ret1 rfl rfl ?_
      exact ⟨by simp only [sameState, h17]; simp, hM8.kp⟩
    ·skip
     have hp103 : ¬ (S.title = T.title) := of_decide_eq_false h15
     refine l_off (gno rfl rfl rfl rfl (congrArg Bool.not h15)) rfl rfl ?_
     refine l_off (gno rfl rfl rfl rfl (congrArg Bool.not h15)) rfl rfl ?_
     refine l_off (gno rfl rfl rfl rfl (congrArg Bool.not h15)) rfl rfl ?_
     refine l_off (gno rfl rfl rfl rfl (congrArg Bool.not h15)) rfl rfl ?_
     refine l_off (gno rfl rfl rfl rfl (congrArg Bool.not h15)) rfl rfl ?_
     refine l_v rfl (r_pickT rfl (congrArg Bool.not h15) rfl) ?_
     refine l_v rfl (r_move rfl) ?_
     refine l_off (gno rfl rfl rfl rfl rfl) rfl rfl ?_
     refine l_off (gno rfl rfl rfl rfl rfl) rfl rfl ?_
     refine l_off (gno rfl rfl rfl rfl rfl) rfl rfl ?_
     refine l_off (gno rfl rfl rfl rfl rfl) rfl rfl ?_
     refine l_off (gno rfl rfl rfl rfl rfl) rfl rfl ?_
     refine l_off (gno rfl rfl rfl rfl rfl) rfl rfl ?_
     refine l_off (gno rfl rfl rfl rfl rfl) rfl rfl ?_
     refine l_v rfl (r_pickT rfl rfl rfl) ?_
     refine l_v rfl (r_move rfl) ?_
     refine l_off (gno rfl rfl rfl rfl rfl) rfl rfl ?_
     refine l_off (gno rfl rfl rfl rfl rfl) rfl rfl ?_
     refine l_off (gno rfl rfl rfl rfl rfl) rfl rfl ?_
     refine l_off (gno rfl rfl rfl rfl rfl) rfl rfl ?_
     refine l_off (gno rfl rfl rfl rfl rfl) rfl rfl ?_
     refine l_off (gno rfl rfl rfl rfl rfl) rfl rfl ?_
     refine l_off (gno rfl rfl rfl rfl rfl) rfl rfl ?_
     refine l_v rfl (r_pickT rfl rfl rfl) ?_
     refine l_v rfl (r_move rfl) ?_
     refine l_off (gno rfl rfl rfl rfl rfl) rfl rfl ?_
     refine l_off (gno rfl rfl rfl rfl rfl) rfl rfl ?_
     refine l_off (gno rfl rfl rfl rfl rfl) rfl rfl ?_
     refine l_off (gno rfl rfl rfl rfl rfl) rfl rfl ?_
     refine l_off (gno rfl rfl rfl rfl rfl) rfl rfl ?_
     refine l_off (gno rfl rfl rfl rfl rfl) rfl rfl ?_
     refine l_off (gno rfl rfl rfl rfl rfl) rfl rfl ?_
     refine l_v rfl (r_pickT rfl rfl rfl) ?_
     refine l_v rfl (r_move rfl) ?_
     refine l_off (gno rfl rfl rfl rfl rfl) rfl rfl ?_
     refine l_off (gno rfl rfl rfl rfl rfl) rfl rfl ?_
     refine l_off (gno rfl rfl rfl rfl rfl) rfl rfl ?_
     refine l_off (gno rfl rfl rfl rfl rfl) rfl rfl ?_
     refine l_off (gno rfl rfl rfl rfl rfl) rfl rfl ?_
     refine l_off (gno rfl rfl rfl rfl rfl) rfl rfl ?_
     refine l_off (gno rfl rfl rfl rfl rfl) rfl rfl ?_
     refine l_v rfl (r_pickT rfl rfl rfl) ?_
     refine l_v rfl (r_move rfl) ?_
     refine l_off (gno rfl rfl rfl rfl rfl) rfl rfl ?_
     refine l_off (gno rfl rfl rfl rfl rfl) rfl rfl ?_
     refine l_off (gno rfl rfl rfl rfl rfl) rfl rfl ?_
     refine l_off (gno rfl rfl rfl rfl rfl) rfl rfl ?_
     refine l_off (gno rfl rfl rfl rfl rfl) rfl rfl ?_
     refine l_off (gno rfl rfl rfl rfl rfl) rfl rfl ?_
     refine l_off (gno rfl rfl rfl rfl rfl) rfl rfl ?_
     refine l_v rfl (r_pickT rfl rfl rfl) ?_
     refine l_nil ?_
     refine c_condT rfl rfl ?_
     refine c_sr ?_
     refine l_v rfl (r_assign rfl) ?_
     refine l_nil ?_
     refine c_ret ?_
     refine ret1 rfl rfl ?_
     exact ⟨by simp only [sameState, h15]; simp, hM8.kp⟩
   ·skip
    have hp104 : ¬ (S.key = T.key) := of_decide_eq_false h13
    refine l_off (gno rfl rfl rfl rfl (congrArg Bool.not h13)) rfl rfl ?_
    refine l_off (gno rfl rfl rfl rfl (congrArg Bool.not h13)) rfl rfl ?_
    refine l_off (gno rfl rfl rfl rfl (congrArg Bool.not h13)) rfl rfl ?_
    refine l_off (gno rfl rfl rfl rfl (congrArg Bool.not h13)) rfl rfl ?_
    refine l_off (gno rfl rfl rfl rfl (congrArg Bool.not h13)) rfl rfl ?_
    refine l_off (gno rfl rfl rfl rfl (congrArg Bool.not h13)) rfl rfl ?_
    refine l_off (gno rfl rfl rfl rfl (congrArg Bool.not h13)) rfl rfl ?_
    refine l_v rfl (r_pickT rfl (congrArg Bool.not h13) rfl) ?_
    refine l_v rfl (r_move rfl) ?_
    refine l_off (gno rfl rfl rfl rfl rfl) rfl rfl ?_
    refine l_off (gno rfl rfl rfl rfl rfl) rfl rfl ?_
    refine l_off (gno rfl rfl rfl rfl rfl) rfl rfl ?_
    refine l_off (gno rfl rfl rfl rfl rfl) rfl rfl ?_
    refine l_off (gno rfl rfl rfl rfl rfl) rfl rfl ?_
    refine l_v rfl (r_pickT rfl rfl rfl) ?_
    refine l_v rfl (r_move rfl) ?_
    refine l_off (gno rfl rfl rfl rfl rfl) rfl rfl ?_
    refine l_off (gno rfl rfl rfl rfl rfl) rfl rfl ?_
    refine l_off (gno rfl rfl rfl rfl rfl) rfl rfl ?_
    refine l_off (gno rfl rfl rfl rfl rfl) rfl rfl ?_
    refine l_off (gno rfl rfl rfl rfl rfl) rfl rfl ?_
    refine l_off (gno rfl rfl rfl rfl rfl) rfl rfl ?_
    refine l_off (gno rfl rfl rfl rfl rfl) rfl rfl ?_
    refine l_v rfl (r_pickT rfl rfl rfl) ?_
    refine l_v rfl (r_move rfl) ?_
    refine l_off (gno rfl rfl rfl rfl rfl) rfl rfl ?_
    refine l_off (gno rfl rfl rfl rfl rfl) rfl rfl ?_
    refine l_off (gno rfl rfl rfl rfl rfl) rfl rfl ?_
    refine l_off (gno rfl rfl rfl rfl rfl) rfl rfl ?_
    refine l_off (gno rfl rfl rfl rfl rfl) rfl rfl ?_
    refine l_off (gno rfl rfl rfl rfl rfl) rfl rfl ?_
    refine l_off (gno rfl rfl rfl rfl rfl) rfl rfl ?_
    refine l_v rfl (r_pickT rfl rfl rfl) ?_
    refine l_v rfl (r_move rfl) ?_
    refine l_off (gno rfl rfl rfl rfl rfl) rfl rfl ?_
    refine l_off (gno rfl rfl rfl rfl rfl) rfl rfl ?_
    refine l_off (gno rfl rfl rfl rfl rfl) rfl rfl ?_
    refine l_off (gno rfl rfl rfl rfl rfl) rfl rfl ?_
    refine l_off (gno rfl rfl rfl rfl rfl) rfl rfl ?_
    refine l_off (gno rfl rfl rfl rfl rfl) rfl rfl ?_
    refine l_off (gno rfl rfl rfl rfl rfl) rfl rfl ?_
    refine l_v rfl (r_pickT rfl rfl rfl) ?_
    refine l_v rfl (r_move rfl) ?_
    refine l_off (gno rfl rfl rfl rfl rfl) rfl rfl ?_
    refine l_off (gno rfl rfl rfl rfl rfl) rfl rfl ?_
    refine l_off (gno rfl rfl rfl rfl rfl) rfl rfl ?_
    refine l_off (gno rfl rfl rfl rfl rfl) rfl rfl ?_
    refine l_off (gno rfl rfl rfl rfl rfl) rfl rfl ?_
    refine l_off (gno rfl rfl rfl rfl rfl) rfl rfl ?_
    refine l_off (gno rfl rfl rfl rfl rfl) rfl rfl ?_
    refine l_v rfl (r_pickT rfl rfl rfl) ?_
    refine l_v rfl (r_move rfl) ?_
    refine l_off (gno rfl rfl rfl rfl rfl) rfl rfl ?_
    refine l_off (gno rfl rfl rfl rfl rfl) rfl rfl ?_
    refine l_off (gno rfl rfl rfl rfl rfl) rfl rfl ?_
    refine l_off (gno rfl rfl rfl rfl rfl) rfl rfl ?_
    refine l_off (gno rfl rfl rfl rfl rfl) rfl rfl ?_
    refine l_off (gno rfl rfl rfl rfl rfl) rfl rfl ?_
    refine l_off (gno rfl rfl rfl rfl rfl) rfl rfl ?_
    refine l_v rfl (r_pickT rfl rfl rfl) ?_
    refine l_nil ?_
    refine c_condT rfl rfl ?_
    refine c_sr ?_
    refine l_v rfl (r_assign rfl) ?_
    refine l_nil ?_
    refine c_ret ?_
    refine ret1 rfl rfl ?_
    exact ⟨by simp only [sameState, h13]; simp, hM8.kp⟩
  ·skip
   have hp105 : ¬ ((S.ver : UInt32) = T.ver) := of_decide_eq_false h11
   refine l_off (gno rfl rfl rfl rfl (congrArg Bool.not h11)) rfl rfl ?_
   refine l_off (gno rfl rfl rfl rfl (congrArg Bool.not h11)) rfl rfl ?_
   refine l_off (gno rfl rfl rfl rfl (congrArg Bool.not h11)) rfl rfl ?_
   refine l_off (gno rfl rfl rfl rfl (congrArg Bool.not h11)) rfl rfl ?_
   refine l_off (gno rfl rfl rfl rfl (congrArg Bool.not h11)) rfl rfl ?_
   refine l_v rfl (r_pickT rfl (congrArg Bool.not h11) rfl) ?_
   refine l_v rfl (r_move rfl) ?_
   refine l_off (gno rfl rfl rfl rfl rfl) rfl rfl ?_
   refine l_off (gno rfl rfl rfl rfl rfl) rfl rfl ?_
   refine l_off (gno rfl rfl rfl rfl rfl) rfl rfl ?_
   refine l_off (gno rfl rfl rfl rfl rfl) rfl rfl ?_
   refine l_off (gno rfl rfl rfl rfl rfl) rfl rfl ?_
   refine l_off (gno rfl rfl rfl rfl rfl) rfl rfl ?_
   refine l_off (gno rfl rfl rfl rfl rfl) rfl rfl ?_
   refine l_v rfl (r_pickT rfl rfl rfl) ?_
   refine l_v rfl (r_move rfl) ?_
   refine l_off (gno rfl rfl rfl rfl rfl) rfl rfl ?_
   refine l_off (gno rfl rfl rfl rfl rfl) rfl rfl ?_
   refine l_off (gno rfl rfl rfl rfl rfl) rfl rfl ?_
   refine l_off (gno rfl rfl rfl rfl rfl) rfl rfl ?_
   refine l_off (gno rfl rfl rfl rfl rfl) rfl rfl ?_
   refine l_v rfl (r_pickT rfl rfl rfl) ?_
   refine l_v rfl (r_move rfl) ?_
   refine l_off (gno rfl rfl rfl rfl rfl) rfl rfl ?_
   refine l_off (gno rfl rfl rfl rfl rfl) rfl rfl ?_
   refine l_off (gno rfl rfl rfl rfl rfl) rfl rfl ?_
   refine l_off (gno rfl rfl rfl rfl rfl) rfl rfl ?_
   refine l_off (gno rfl rfl rfl rfl rfl) rfl rfl ?_
   refine l_off (gno rfl rfl rfl rfl rfl) rfl rfl ?_
   refine l_off (gno rfl rfl rfl rfl rfl) rfl rfl ?_
   refine l_v rfl (r_pickT rfl rfl rfl) ?_
   refine l_v rfl (r_move rfl) ?_
   refine l_off (gno rfl rfl rfl rfl rfl) rfl rfl ?_
   refine l_off (gno rfl rfl rfl rfl rfl) rfl rfl ?_
   refine l_off (gno rfl rfl rfl rfl rfl) rfl rfl ?_
   refine l_off (gno rfl rfl rfl rfl rfl) rfl rfl ?_
   refine l_off (gno rfl rfl rfl rfl rfl) rfl rfl ?_
   refine l_off (gno rfl rfl rfl rfl rfl) rfl rfl ?_
   refine l_off (gno rfl rfl rfl rfl rfl) rfl rfl ?_
   refine l_v rfl (r_pickT rfl rfl rfl) ?_
   refine l_v rfl (r_move rfl) ?_
   refine l_off (gno rfl rfl rfl rfl rfl) rfl rfl ?_
   refine l_off (gno rfl rfl rfl rfl rfl) rfl rfl ?_
   refine l_off (gno rfl rfl rfl rfl rfl) rfl rfl ?_
   refine l_off (gno rfl rfl rfl rfl rfl) rfl rfl ?_
   refine l_off (gno rfl rfl rfl rfl rfl) rfl rfl ?_
   refine l_off (gno rfl rfl rfl rfl rfl) rfl rfl ?_
   refine l_off (gno rfl rfl rfl rfl rfl) rfl rfl ?_
   refine l_v rfl (r_pickT rfl rfl rfl) ?_
   refine l_v rfl (r_move rfl) ?_
   refine l_off (gno rfl rfl rfl rfl rfl) rfl rfl ?_
   refine l_off (gno rfl rfl rfl rfl rfl) rfl rfl ?_
   refine l_off (gno rfl rfl rfl rfl rfl) rfl rfl ?_
   refine l_off (gno rfl rfl rfl rfl rfl) rfl rfl ?_
   refine l_off (gno rfl rfl rfl rfl rfl) rfl rfl ?_
   refine l_off (gno rfl rfl rfl rfl rfl) rfl rfl ?_
   refine l_off (gno rfl rfl rfl rfl rfl) rfl rfl ?_
   refine l_v rfl (r_pickT rfl rfl rfl) ?_
   refine l_v rfl (r_move rfl) ?_
   refine l_off (gno rfl rfl rfl rfl rfl) rfl rfl ?_
   refine l_off (gno rfl rfl rfl rfl rfl) rfl rfl ?_
   refine l_off (gno rfl rfl rfl rfl rfl) rfl rfl ?_
   refine l_off (gno rfl rfl rfl rfl rfl) rfl rfl ?_
   refine l_off (gno rfl rfl rfl rfl rfl) rfl rfl ?_
   refine l_off (gno rfl rfl rfl rfl rfl) rfl rfl ?_
   refine l_off (gno rfl rfl rfl rfl rfl) rfl rfl ?_
   refine l_v rfl (r_pickT rfl rfl rfl) ?_
   refine l_nil ?_
   refine c_condT rfl rfl ?_
   refine c_sr ?_
   refine l_v rfl (r_assign rfl) ?_
   refine l_nil ?_
   refine c_ret ?_
   refine ret1 rfl rfl ?_
   exact ⟨by simp only [sameState, h11]; simp, hM8.kp⟩
theorem f25 {A : Nat → Prop} {w : World} {S : State} {q : Six} (hS : StV A w q S) (hb : total S ≤ 4000) : Ret 25 #[.agg (S.rep q).cells] w (fun v w' => ∃ s : Sl, v = s.val ∧ Own w.heap.size 40 w' s 64 Cipher.cells (ciphers S) ∧ Keeps [] w w') := by
  unfold total at hb
  obtain ⟨hn1, hn2, hn3, hn4, hn5, hn6⟩ := hS.bd
  have hM0 := Mem.start w
  refine enter Tryz.func25 rfl rfl ?_
  refine c_sr ?_
  refine l_box hM0 rfl rfl ?_
  intro b1 w2 hM3 hK4 hB5
  replace hM3 : Mem w [] [(b1, (SRep.cells ((SRep.mk S.ver S.key q.t S.acc q.p q.s q.i q.a q.b))), 37)] w2 := hM3
  refine l_v rfl (r_assign rfl) ?_
  refine l_nil ?_
  refine c_sr ?_
  refine l_v rfl (r_assign rfl) ?_
  refine l_nil ?_
  refine c_seq ?_
  refine c_sr ?_
  refine l_v rfl (r_assign rfl) ?_
  refine l_nil ?_
  refine c_block ?_
  have hBs6 : w.heap.size ≤ b1 + 1 := by have := hM3.own (b1, _, _) (List.mem_cons_self); simp at this; omega
  have hBl7 : b1 < b1 + 1 := by refine by omega
  refine c_loop (ι := Nat × Sl) (fun p_ w_ => Mem w [] [(b1, (SRep.cells ((SRep.mk S.ver S.key q.t S.acc q.p q.s q.i q.a q.b))), 37)] w_ ∧ (p_.1 ≤ S.seats.length ∧ Own (b1 + 1) 40 w_ p_.2 64 Cipher.cells ((S.seats.take p_.1).map Seat.who))) (fun p_ => [(0, Value.agg (SRep.cells ((SRep.mk S.ver S.key q.t S.acc q.p q.s q.i q.a q.b)))), (1, Value.pointer (some ⟨b1, 0, none⟩)), (2, (Value.slice none 0 0)), (4, Value.int .i64 ((p_.1 : Nat) : Int)), (3, Sl.val p_.2)]) (fun p_ => S.seats.length - p_.1) (0, Sl.nil) ⟨hM3, Nat.zero_le _, by simpa using (Own.nil (b1 + 1) _ _)⟩ ⟨rfl, rfl, rfl, rfl, rfl, trivial⟩ ?_
  rintro ⟨k0, s0⟩ w8 ⟨hM9, hk0, hl0⟩
  change AT _ [(0, Value.agg (SRep.cells ((SRep.mk S.ver S.key q.t S.acc q.p q.s q.i q.a q.b)))), (1, Value.pointer (some ⟨b1, 0, none⟩)), (2, (Value.slice none 0 0)), (4, Value.int .i64 ((k0 : Nat) : Int)), (3, Sl.val s0)] _ _
  replace hM9 : Mem w [] [(b1, (SRep.cells ((SRep.mk S.ver S.key q.t S.acc q.p q.s q.i q.a q.b))), 37)] w8 := hM9
  refine c_seq ?_
  refine c_sr ?_
  refine l_v rfl (r_move rfl) ?_
  refine l_v rfl (r_fieldAddr SRep.fld_seats rfl) ?_
  refine l_v rfl (r_load1 (v := Sl.val q.s) Tryz.isAgg32 rfl (Holds.sub (hM9.base (i := 0) rfl) (SRep.sub_seats _))) ?_
  refine l_v rfl (r_lenR Tryz.underlying32 rfl (hS.seats.keep0 hM9.kp).len) ?_
  refine l_v rfl (r_lss (b := decide ((k0 : Nat) < S.seats.length)) rfl rfl (nlt k0 S.seats.length)) ?_
  refine l_nil ?_
  refine ways (decide ((k0 : Nat) < S.seats.length)) (fun h10 => ?_) (fun h10 => ?_)
  ·skip
   have hp11 : (k0 : Nat) < S.seats.length := of_decide_eq_true h10
   refine c_condT rfl h10 ?_
   refine c_skip ?_
   refine c_seq ?_
   refine c_block ?_
   refine c_reg ?_
   refine l_v rfl (r_move rfl) ?_
   refine l_v rfl (r_fieldAddr SRep.fld_seats rfl) ?_
   refine l_v rfl (r_load1 (v := Sl.val q.s) Tryz.isAgg32 rfl (Holds.sub (hM9.base (i := 0) rfl) (SRep.sub_seats _))) ?_
   refine l_v rfl (r_move rfl) ?_
   have hlt12 : k0 < S.seats.length := by first | assumption | omega
   obtain ⟨x12, hx12⟩ : ∃ x, S.seats[k0]? = some x := ⟨_, List.getElem?_eq_getElem hlt12⟩
   obtain ⟨p12, o12, ha12, hA12, -⟩ := (hS.seats.keep0 hM9.kp).at_ _ _ hx12
   refine l_v rfl (r_indexR Tryz.underlying32 Tryz.sizeOf73 ⟨_, (hS.seats.keep0 hM9.kp)⟩ rfl ha12 rfl hlt12) ?_
   refine l_v rfl (r_fieldAddr Seat.fld_who rfl) ?_
   refine l_v rfl (r_loadA Tryz.isAgg40 Tryz.sizeOf40 (Cipher.size _) rfl (Holds.sub ((hS.seats.keep0 hM9.kp).ix hx12 ha12) (Seat.sub_who _))) ?_
   refine l_slice1 (enc := Cipher.cells) (o := x12.who) (base := b1 + 1) hM9 elCipher enCipher rfl rfl rfl (by decide) (hM9.blk (i := 0) rfl).lt ?_
   intro sb13 w14 hM15 hK16 hO17
   refine l_append (l := ((S.seats.take k0).map Seat.who)) (m := [x12.who]) (s := s0) (s2 := sb13) (enc := Cipher.cells) hM15 elCipher enCipher rfl (gn rfl) rfl rfl (hl0.keep0 hK16) (hO17.row enCipher) (by simp; omega) (hM15.blk (i := 0) rfl).lt hBs6 (by simp) ?_
   intro sa18 w19 Y20 hM21 hK22 hY23 hO24
   refine l_v rfl (r_assign rfl) ?_
   refine l_nil ?_
   refine c_reg ?_
   refine l_v rfl (r_move rfl) ?_
   refine l_v rfl (r_add (r := ((k0 + 1 : Nat) : Int)) rfl rfl (nadd (i := k0) (k := 1) (m := k0 + 1) (by omega) (by omega))) ?_
   refine l_v rfl (r_assign rfl) ?_
   refine l_nil ?_
   intro a_ ha_
   refine ⟨(k0 + 1, sa18), ⟨hM21, ?_⟩, by omega, ha_.sub ⟨rfl, rfl, rfl, rfl, rfl, trivial⟩⟩
   exact ⟨by omega, by rw [map_step _ hx12]; simpa using hO24⟩
  ·skip
   have hp25 : ¬ ((k0 : Nat) < S.seats.length) := of_decide_eq_false h10
   refine c_condF rfl h10 ?_
   refine c_exit rfl ?_
   refine c_seq ?_
   refine c_sr ?_
   refine l_v rfl (r_assign rfl) ?_
   refine l_nil ?_
   refine c_block ?_
   refine c_loop (ι := Nat × Sl) (fun p_ w_ => Mem w [] [(b1, (SRep.cells ((SRep.mk S.ver S.key q.t S.acc q.p q.s q.i q.a q.b))), 37)] w_ ∧ (p_.1 ≤ S.invites.length ∧ Own (b1 + 1) 40 w_ p_.2 64 Cipher.cells ((S.seats.map Seat.who) ++ (S.invites.take p_.1).map Invite.who))) (fun p_ => [(0, Value.agg (SRep.cells ((SRep.mk S.ver S.key q.t S.acc q.p q.s q.i q.a q.b)))), (1, Value.pointer (some ⟨b1, 0, none⟩)), (2, (Value.slice none 0 0)), (4, Value.int .i64 ((k0 : Nat) : Int)), (12, Value.bool (decide ((k0 : Nat) < S.seats.length))), (5, Value.int .i64 ((p_.1 : Nat) : Int)), (3, Sl.val p_.2)]) (fun p_ => S.invites.length - p_.1) (0, s0) ⟨hM9, Nat.zero_le _, by have := hl0; rw [List.take_of_length_le (by omega)] at this; simpa using this⟩ ⟨rfl, rfl, rfl, rfl, rfl, rfl, rfl, trivial⟩ ?_
   rintro ⟨k1, s1⟩ w26 ⟨hM27, hk1, hl1⟩
   change AT _ [(0, Value.agg (SRep.cells ((SRep.mk S.ver S.key q.t S.acc q.p q.s q.i q.a q.b)))), (1, Value.pointer (some ⟨b1, 0, none⟩)), (2, (Value.slice none 0 0)), (4, Value.int .i64 ((k0 : Nat) : Int)), (12, Value.bool (decide ((k0 : Nat) < S.seats.length))), (5, Value.int .i64 ((k1 : Nat) : Int)), (3, Sl.val s1)] _ _
   replace hM27 : Mem w [] [(b1, (SRep.cells ((SRep.mk S.ver S.key q.t S.acc q.p q.s q.i q.a q.b))), 37)] w26 := hM27
   refine c_seq ?_
   refine c_sr ?_
   refine l_v rfl (r_move rfl) ?_
   refine l_v rfl (r_fieldAddr SRep.fld_invites rfl) ?_
   refine l_v rfl (r_load1 (v := Sl.val q.i) Tryz.isAgg33 rfl (Holds.sub (hM27.base (i := 0) rfl) (SRep.sub_invites _))) ?_
   refine l_v rfl (r_lenR Tryz.underlying33 rfl (hS.invites.keep0 hM27.kp).len) ?_
   refine l_v rfl (r_lss (b := decide ((k1 : Nat) < S.invites.length)) rfl rfl (nlt k1 S.invites.length)) ?_
   refine l_nil ?_
   refine ways (decide ((k1 : Nat) < S.invites.length)) (fun h28 => ?_) (fun h28 => ?_)
   ·skip
    have hp29 : (k1 : Nat) < S.invites.length := of_decide_eq_true h28
    refine c_condT rfl h28 ?_
    refine c_skip ?_
    refine c_seq ?_
    refine c_block ?_
    refine c_reg ?_
    refine l_v rfl (r_move rfl) ?_
    refine l_v rfl (r_fieldAddr SRep.fld_invites rfl) ?_
    refine l_v rfl (r_load1 (v := Sl.val q.i) Tryz.isAgg33 rfl (Holds.sub (hM27.base (i := 0) rfl) (SRep.sub_invites _))) ?_
    refine l_v rfl (r_move rfl) ?_
    have hlt30 : k1 < S.invites.length := by first | assumption | omega
    obtain ⟨x30, hx30⟩ : ∃ x, S.invites[k1]? = some x := ⟨_, List.getElem?_eq_getElem hlt30⟩
    obtain ⟨p30, o30, ha30, hA30, -⟩ := (hS.invites.keep0 hM27.kp).at_ _ _ hx30
    refine l_v rfl (r_indexR Tryz.underlying33 Tryz.sizeOf82 ⟨_, (hS.invites.keep0 hM27.kp)⟩ rfl ha30 rfl hlt30) ?_
    refine l_v rfl (r_fieldAddr Invite.fld_who rfl) ?_
    refine l_v rfl (r_loadA Tryz.isAgg40 Tryz.sizeOf40 (Cipher.size _) rfl (Holds.sub ((hS.invites.keep0 hM27.kp).ix hx30 ha30) (Invite.sub_who _))) ?_
    refine l_slice1 (enc := Cipher.cells) (o := x30.who) (base := b1 + 1) hM27 elCipher enCipher rfl rfl rfl (by decide) (hM27.blk (i := 0) rfl).lt ?_
    intro sb31 w32 hM33 hK34 hO35
    refine l_append (l := ((S.seats.map Seat.who) ++ (S.invites.take k1).map Invite.who)) (m := [x30.who]) (s := s1) (s2 := sb31) (enc := Cipher.cells) hM33 elCipher enCipher rfl (gn rfl) rfl rfl (hl1.keep0 hK34) (hO35.row enCipher) (by simp; omega) (hM33.blk (i := 0) rfl).lt hBs6 (by simp) ?_
    intro sa36 w37 Y38 hM39 hK40 hY41 hO42
    refine l_v rfl (r_assign rfl) ?_
    refine l_nil ?_
    refine c_reg ?_
    refine l_v rfl (r_move rfl) ?_
    refine l_v rfl (r_add (r := ((k1 + 1 : Nat) : Int)) rfl rfl (nadd (i := k1) (k := 1) (m := k1 + 1) (by omega) (by omega))) ?_
    refine l_v rfl (r_assign rfl) ?_
    refine l_nil ?_
    intro a_ ha_
    refine ⟨(k1 + 1, sa36), ⟨hM39, ?_⟩, by omega, ha_.sub ⟨rfl, rfl, rfl, rfl, rfl, rfl, rfl, trivial⟩⟩
    exact ⟨by omega, by rw [map_step _ hx30]; simpa using hO42⟩
   ·skip
    have hp43 : ¬ ((k1 : Nat) < S.invites.length) := of_decide_eq_false h28
    refine c_condF rfl h28 ?_
    refine c_exit rfl ?_
    refine c_seq ?_
    refine c_sr ?_
    refine l_v rfl (r_assign rfl) ?_
    refine l_nil ?_
    refine c_block ?_
    refine c_loop (ι := Nat × Sl) (fun p_ w_ => Mem w [] [(b1, (SRep.cells ((SRep.mk S.ver S.key q.t S.acc q.p q.s q.i q.a q.b))), 37)] w_ ∧ (p_.1 ≤ S.asks.length ∧ Own (b1 + 1) 40 w_ p_.2 64 Cipher.cells ((S.seats.map Seat.who ++ S.invites.map Invite.who) ++ (S.asks.take p_.1).map Ask.who))) (fun p_ => [(0, Value.agg (SRep.cells ((SRep.mk S.ver S.key q.t S.acc q.p q.s q.i q.a q.b)))), (1, Value.pointer (some ⟨b1, 0, none⟩)), (2, (Value.slice none 0 0)), (4, Value.int .i64 ((k0 : Nat) : Int)), (12, Value.bool (decide ((k0 : Nat) < S.seats.length))), (5, Value.int .i64 ((k1 : Nat) : Int)), (28, Value.bool (decide ((k1 : Nat) < S.invites.length))), (6, Value.int .i64 ((p_.1 : Nat) : Int)), (3, Sl.val p_.2)]) (fun p_ => S.asks.length - p_.1) (0, s1) ⟨hM27, Nat.zero_le _, by have := hl1; rw [List.take_of_length_le (by omega)] at this; simpa using this⟩ ⟨rfl, rfl, rfl, rfl, rfl, rfl, rfl, rfl, rfl, trivial⟩ ?_
    rintro ⟨k2, s2⟩ w44 ⟨hM45, hk2, hl2⟩
    change AT _ [(0, Value.agg (SRep.cells ((SRep.mk S.ver S.key q.t S.acc q.p q.s q.i q.a q.b)))), (1, Value.pointer (some ⟨b1, 0, none⟩)), (2, (Value.slice none 0 0)), (4, Value.int .i64 ((k0 : Nat) : Int)), (12, Value.bool (decide ((k0 : Nat) < S.seats.length))), (5, Value.int .i64 ((k1 : Nat) : Int)), (28, Value.bool (decide ((k1 : Nat) < S.invites.length))), (6, Value.int .i64 ((k2 : Nat) : Int)), (3, Sl.val s2)] _ _
    replace hM45 : Mem w [] [(b1, (SRep.cells ((SRep.mk S.ver S.key q.t S.acc q.p q.s q.i q.a q.b))), 37)] w44 := hM45
    refine c_seq ?_
    refine c_sr ?_
    refine l_v rfl (r_move rfl) ?_
    refine l_v rfl (r_fieldAddr SRep.fld_asks rfl) ?_
    refine l_v rfl (r_load1 (v := Sl.val q.a) Tryz.isAgg34 rfl (Holds.sub (hM45.base (i := 0) rfl) (SRep.sub_asks _))) ?_
    refine l_v rfl (r_lenR Tryz.underlying34 rfl (hS.asks.keep0 hM45.kp).len) ?_
    refine l_v rfl (r_lss (b := decide ((k2 : Nat) < S.asks.length)) rfl rfl (nlt k2 S.asks.length)) ?_
    refine l_nil ?_
    refine ways (decide ((k2 : Nat) < S.asks.length)) (fun h46 => ?_) (fun h46 => ?_)
    ·skip
     have hp47 : (k2 : Nat) < S.asks.length := of_decide_eq_true h46
     refine c_condT rfl h46 ?_
     refine c_skip ?_
     refine c_seq ?_
     refine c_block ?_
     refine c_reg ?_
     refine l_v rfl (r_move rfl) ?_
     refine l_v rfl (r_fieldAddr SRep.fld_asks rfl) ?_
     refine l_v rfl (r_load1 (v := Sl.val q.a) Tryz.isAgg34 rfl (Holds.sub (hM45.base (i := 0) rfl) (SRep.sub_asks _))) ?_
     refine l_v rfl (r_move rfl) ?_
     have hlt48 : k2 < S.asks.length := by first | assumption | omega
     obtain ⟨x48, hx48⟩ : ∃ x, S.asks[k2]? = some x := ⟨_, List.getElem?_eq_getElem hlt48⟩
     obtain ⟨p48, o48, ha48, hA48, -⟩ := (hS.asks.keep0 hM45.kp).at_ _ _ hx48
     refine l_v rfl (r_indexR Tryz.underlying34 Tryz.sizeOf84 ⟨_, (hS.asks.keep0 hM45.kp)⟩ rfl ha48 rfl hlt48) ?_
     refine l_v rfl (r_fieldAddr Ask.fld_who rfl) ?_
     refine l_v rfl (r_loadA Tryz.isAgg40 Tryz.sizeOf40 (Cipher.size _) rfl (Holds.sub ((hS.asks.keep0 hM45.kp).ix hx48 ha48) (Ask.sub_who _))) ?_
     refine l_slice1 (enc := Cipher.cells) (o := x48.who) (base := b1 + 1) hM45 elCipher enCipher rfl rfl rfl (by decide) (hM45.blk (i := 0) rfl).lt ?_
     intro sb49 w50 hM51 hK52 hO53
     refine l_append (l := ((S.seats.map Seat.who ++ S.invites.map Invite.who) ++ (S.asks.take k2).map Ask.who)) (m := [x48.who]) (s := s2) (s2 := sb49) (enc := Cipher.cells) hM51 elCipher enCipher rfl (gn rfl) rfl rfl (hl2.keep0 hK52) (hO53.row enCipher) (by simp; omega) (hM51.blk (i := 0) rfl).lt hBs6 (by simp) ?_
     intro sa54 w55 Y56 hM57 hK58 hY59 hO60
     refine l_v rfl (r_assign rfl) ?_
     refine l_nil ?_
     refine c_reg ?_
     refine l_v rfl (r_move rfl) ?_
     refine l_v rfl (r_add (r := ((k2 + 1 : Nat) : Int)) rfl rfl (nadd (i := k2) (k := 1) (m := k2 + 1) (by omega) (by omega))) ?_
     refine l_v rfl (r_assign rfl) ?_
     refine l_nil ?_
     intro a_ ha_
     refine ⟨(k2 + 1, sa54), ⟨hM57, ?_⟩, by omega, ha_.sub ⟨rfl, rfl, rfl, rfl, rfl, rfl, rfl, rfl, rfl, trivial⟩⟩
     exact ⟨by omega, by rw [map_step _ hx48]; simpa using hO60⟩
    ·skip
     have hp61 : ¬ ((k2 : Nat) < S.asks.length) := of_decide_eq_false h46
     refine c_condF rfl h46 ?_
     refine c_exit rfl ?_
     refine c_seq ?_
     refine c_sr ?_
     refine l_v rfl (r_assign rfl) ?_
     refine l_nil ?_
     refine c_block ?_
     refine c_loop (ι := Nat × Sl) (fun p_ w_ => Mem w [] [(b1, (SRep.cells ((SRep.mk S.ver S.key q.t S.acc q.p q.s q.i q.a q.b))), 37)] w_ ∧ (p_.1 ≤ S.bans.length ∧ Own (b1 + 1) 40 w_ p_.2 64 Cipher.cells ((S.seats.map Seat.who ++ S.invites.map Invite.who ++ S.asks.map Ask.who) ++ (S.bans.take p_.1).map Ban.who))) (fun p_ => [(0, Value.agg (SRep.cells ((SRep.mk S.ver S.key q.t S.acc q.p q.s q.i q.a q.b)))), (1, Value.pointer (some ⟨b1, 0, none⟩)), (2, (Value.slice none 0 0)), (4, Value.int .i64 ((k0 : Nat) : Int)), (12, Value.bool (decide ((k0 : Nat) < S.seats.length))), (5, Value.int .i64 ((k1 : Nat) : Int)), (28, Value.bool (decide ((k1 : Nat) < S.invites.length))), (6, Value.int .i64 ((k2 : Nat) : Int)), (44, Value.bool (decide ((k2 : Nat) < S.asks.length))), (7, Value.int .i64 ((p_.1 : Nat) : Int)), (3, Sl.val p_.2)]) (fun p_ => S.bans.length - p_.1) (0, s2) ⟨hM45, Nat.zero_le _, by have := hl2; rw [List.take_of_length_le (by omega)] at this; simpa using this⟩ ⟨rfl, rfl, rfl, rfl, rfl, rfl, rfl, rfl, rfl, rfl, rfl, trivial⟩ ?_
     rintro ⟨k3, s3⟩ w62 ⟨hM63, hk3, hl3⟩
     change AT _ [(0, Value.agg (SRep.cells ((SRep.mk S.ver S.key q.t S.acc q.p q.s q.i q.a q.b)))), (1, Value.pointer (some ⟨b1, 0, none⟩)), (2, (Value.slice none 0 0)), (4, Value.int .i64 ((k0 : Nat) : Int)), (12, Value.bool (decide ((k0 : Nat) < S.seats.length))), (5, Value.int .i64 ((k1 : Nat) : Int)), (28, Value.bool (decide ((k1 : Nat) < S.invites.length))), (6, Value.int .i64 ((k2 : Nat) : Int)), (44, Value.bool (decide ((k2 : Nat) < S.asks.length))), (7, Value.int .i64 ((k3 : Nat) : Int)), (3, Sl.val s3)] _ _
     replace hM63 : Mem w [] [(b1, (SRep.cells ((SRep.mk S.ver S.key q.t S.acc q.p q.s q.i q.a q.b))), 37)] w62 := hM63
     refine c_seq ?_
     refine c_sr ?_
     refine l_v rfl (r_move rfl) ?_
     refine l_v rfl (r_fieldAddr SRep.fld_bans rfl) ?_
     refine l_v rfl (r_load1 (v := Sl.val q.b) Tryz.isAgg35 rfl (Holds.sub (hM63.base (i := 0) rfl) (SRep.sub_bans _))) ?_
     refine l_v rfl (r_lenR Tryz.underlying35 rfl (hS.bans.keep0 hM63.kp).len) ?_
     refine l_v rfl (r_lss (b := decide ((k3 : Nat) < S.bans.length)) rfl rfl (nlt k3 S.bans.length)) ?_
     refine l_nil ?_
     refine ways (decide ((k3 : Nat) < S.bans.length)) (fun h64 => ?_) (fun h64 => ?_)
     ·skip
      have hp65 : (k3 : Nat) < S.bans.length := of_decide_eq_true h64
      refine c_condT rfl h64 ?_
      refine c_skip ?_
      refine c_seq ?_
      refine c_block ?_
      refine c_reg ?_
      refine l_v rfl (r_move rfl) ?_
      refine l_v rfl (r_fieldAddr SRep.fld_bans rfl) ?_
      refine l_v rfl (r_load1 (v := Sl.val q.b) Tryz.isAgg35 rfl (Holds.sub (hM63.base (i := 0) rfl) (SRep.sub_bans _))) ?_
      refine l_v rfl (r_move rfl) ?_
      have hlt66 : k3 < S.bans.length := by first | assumption | omega
      obtain ⟨x66, hx66⟩ : ∃ x, S.bans[k3]? = some x := ⟨_, List.getElem?_eq_getElem hlt66⟩
      obtain ⟨p66, o66, ha66, hA66, -⟩ := (hS.bans.keep0 hM63.kp).at_ _ _ hx66
      refine l_v rfl (r_indexR Tryz.underlying35 Tryz.sizeOf86 ⟨_, (hS.bans.keep0 hM63.kp)⟩ rfl ha66 rfl hlt66) ?_
      refine l_v rfl (r_fieldAddr Ban.fld_who rfl) ?_
      refine l_v rfl (r_loadA Tryz.isAgg40 Tryz.sizeOf40 (Cipher.size _) rfl (Holds.sub ((hS.bans.keep0 hM63.kp).ix hx66 ha66) (Ban.sub_who _))) ?_
      refine l_slice1 (enc := Cipher.cells) (o := x66.who) (base := b1 + 1) hM63 elCipher enCipher rfl rfl rfl (by decide) (hM63.blk (i := 0) rfl).lt ?_
      intro sb67 w68 hM69 hK70 hO71
      refine l_append (l := ((S.seats.map Seat.who ++ S.invites.map Invite.who ++ S.asks.map Ask.who) ++ (S.bans.take k3).map Ban.who)) (m := [x66.who]) (s := s3) (s2 := sb67) (enc := Cipher.cells) hM69 elCipher enCipher rfl (gn rfl) rfl rfl (hl3.keep0 hK70) (hO71.row enCipher) (by simp; omega) (hM69.blk (i := 0) rfl).lt hBs6 (by simp) ?_
      intro sa72 w73 Y74 hM75 hK76 hY77 hO78
      refine l_v rfl (r_assign rfl) ?_
      refine l_nil ?_
      refine c_reg ?_
      refine l_v rfl (r_move rfl) ?_
      refine l_v rfl (r_add (r := ((k3 + 1 : Nat) : Int)) rfl rfl (nadd (i := k3) (k := 1) (m := k3 + 1) (by omega) (by omega))) ?_
      refine l_v rfl (r_assign rfl) ?_
      refine l_nil ?_
      intro a_ ha_
      refine ⟨(k3 + 1, sa72), ⟨hM75, ?_⟩, by omega, ha_.sub ⟨rfl, rfl, rfl, rfl, rfl, rfl, rfl, rfl, rfl, rfl, rfl, trivial⟩⟩
      exact ⟨by omega, by rw [map_step _ hx66]; simpa using hO78⟩
     ·skip
      have hp79 : ¬ ((k3 : Nat) < S.bans.length) := of_decide_eq_false h64
      refine c_condF rfl h64 ?_
      refine c_exit rfl ?_
      refine c_sr ?_
      refine l_v rfl (r_move rfl) ?_
      refine l_v rfl (r_assign rfl) ?_
      refine l_nil ?_
      refine c_ret ?_
      refine ret1 rfl rfl ?_
      exact ⟨s3, rfl, by have := hl3; rw [List.take_of_length_le (by omega)] at this; exact this.lower hBs6, hM63.kp⟩
end Go.Proofs.YtekhaogjmmmniaaGreat
namespace Go.Proofs.YtekhaogjmmmniaaGreat
open Go Go.RowKit

theorem f38 {A : Nat → Prop} {w : World} {s : Sl} {l : List Cipher} (hR : Row A w s 64 Cipher.cells l) (a b : Nat) (hab : a ≤ b) (hb : b ≤ l.length) :
    Ret 38 #[s.val, .int .i64 (a : Int), .int .i64 (b : Int)] w (fun v w' => ∃ r : Bool, v = .bool r ∧ (r = true ↔ RisesAt l a b) ∧ Keeps [] w w') := by
  have hn := hR.bd
  have hM0 := Mem.start w
  refine enter Tryz.func38 rfl rfl ?_
  refine c_sr ?_
  refine l_v rfl (r_assign rfl) ?_
  refine l_nil ?_
  refine c_seq ?_
  refine c_sr ?_
  refine l_v rfl (r_move rfl) ?_
  refine l_v rfl (r_add (r := ((a + 1 : Nat) : Int)) rfl rfl (nadd (i := a) (k := 1) (m := a + 1) (by omega) (by omega))) ?_
  refine l_v rfl (r_assign rfl) ?_
  refine l_nil ?_
  refine c_block ?_
  refine c_loop (ι := Nat) (fun i w_ => Mem w [] [] w_ ∧ (a + 1 ≤ i ∧ ∀ j x y, a < j → j < i → l[j - 1]? = some x → l[j]? = some y → ptLt x.E y.E = true)) (fun i => [(0, Sl.val s), (1, Value.int .i64 ((a : Nat) : Int)), (2, Value.int .i64 ((b : Nat) : Int)), (7, Value.int .i64 ((i : Nat) : Int))]) (fun i => b - i) (a + 1) ⟨hM0, Nat.le_refl _, fun j x y h1 h2 => absurd h2 (by omega)⟩ ⟨rfl, rfl, rfl, rfl, trivial⟩ ?_
  rintro i w1 ⟨hM2, hk, hup⟩
  refine c_seq ?_
  refine c_sr ?_
  refine l_v rfl (r_move rfl) ?_
  refine l_v rfl (r_move rfl) ?_
  refine l_v rfl (r_lss (b := decide ((i : Nat) < b)) rfl rfl (nlt i b)) ?_
  refine l_nil ?_
  refine ways (decide ((i : Nat) < b)) (fun h3 => ?_) (fun h3 => ?_)
  ·skip
   have hp4 : (i : Nat) < b := of_decide_eq_true h3
   refine c_condT rfl h3 ?_
   refine c_skip ?_
   refine c_seq ?_
   refine c_block ?_
   refine c_seq ?_
   refine c_regD (Mem w [] []) [] [(0, true), (1, true), (2, true), (3, true), (4, true), (5, true), (6, true), (7, true), (8, true), (9, true), (10, true), (11, false), (12, true)] (by kernel_rfl) ?_
   have hM5 := hM2.drew
   refine s_take hM5 rfl (gn rfl) rfl rfl (fun w h => r_move rfl) ?_
   refine s_take hM5 rfl (gn rfl) rfl rfl (fun w h => r_move rfl) ?_
   refine s_take hM5 rfl (gn rfl) rfl rfl (fun w h => r_sub (r := ((i - 1 : Nat) : Int)) rfl rfl (nsub (i := i) (k := 1) (m := i - 1) (by omega) (by omega))) ?_
   have hlt7 : i - 1 < l.length := by first | assumption | omega
   obtain ⟨x7, hx7⟩ : ∃ x, l[i - 1]? = some x := ⟨_, List.getElem?_eq_getElem hlt7⟩
   obtain ⟨p7, o7, ha7, hA7, -⟩ := (hR.keep0 hM5.kp).at_ _ _ hx7
   refine s_take hM5 rfl (gn rfl) rfl rfl (fun w h => r_indexR Tryz.underlying63 Tryz.sizeOf40 ⟨_, (hR.keep0 h.kp)⟩ rfl ha7 rfl hlt7) ?_
   refine s_take hM5 rfl (gn rfl) rfl rfl (fun w h => r_fieldAddr Cipher.fld_E rfl) ?_
   refine s_take hM5 rfl (gn rfl) rfl rfl (fun w h => r_loadA Tryz.isAgg24 Tryz.sizeOf24 (Pt.size _) rfl (Holds.sub ((hR.keep0 h.kp).ix hx7 ha7) (Cipher.sub_E _))) ?_
   refine s_take hM5 rfl (gn rfl) rfl rfl (fun w h => r_move rfl) ?_
   refine s_take hM5 rfl (gn rfl) rfl rfl (fun w h => r_move rfl) ?_
   have hlt8 : i < l.length := by first | assumption | omega
   obtain ⟨x8, hx8⟩ : ∃ x, l[i]? = some x := ⟨_, List.getElem?_eq_getElem hlt8⟩
   obtain ⟨p8, o8, ha8, hA8, -⟩ := (hR.keep0 hM5.kp).at_ _ _ hx8
   refine s_take hM5 rfl (gn rfl) rfl rfl (fun w h => r_indexR Tryz.underlying63 Tryz.sizeOf40 ⟨_, (hR.keep0 h.kp)⟩ rfl ha8 rfl hlt8) ?_
   refine s_take hM5 rfl (gn rfl) rfl rfl (fun w h => r_fieldAddr Cipher.fld_E rfl) ?_
   refine s_take hM5 rfl (gn rfl) rfl rfl (fun w h => r_loadA Tryz.isAgg24 Tryz.sizeOf24 (Pt.size _) rfl (Holds.sub ((hR.keep0 h.kp).ix hx8 ha8) (Cipher.sub_E _))) ?_
   refine s_call rfl (gn rfl) rfl rfl (r_call Tryz.call86 rfl) (f86 x7.E x8.E) ?_
   rintro v9 w10 ⟨rfl, hK11⟩
   have hM12 := hM5.keep hK11
   refine ⟨.inr hM12, ?_⟩
   refine s_take hM12 rfl (gn rfl) rfl rfl (fun w h => r_not rfl) ?_
   refine s_nil ?_
   refine ways (ptLt x7.E x8.E) (fun h13 => ?_) (fun h13 => ?_)
   ·skip
    refine c_condF rfl (congrArg Bool.not h13) ?_
    refine c_skip ?_
    refine c_reg ?_
    refine l_v rfl (r_move rfl) ?_
    refine l_v rfl (r_add (r := ((i + 1 : Nat) : Int)) rfl rfl (nadd (i := i) (k := 1) (m := i + 1) (by omega) (by omega))) ?_
    refine l_v rfl (r_assign rfl) ?_
    refine l_nil ?_
    intro a_ ha_
    refine ⟨i + 1, ⟨hM12, ?_⟩, by omega, ha_.sub ⟨rfl, rfl, rfl, rfl, trivial⟩⟩
    exact ⟨by omega, rise_step hx7 hx8 (by assumption) hup⟩
   ·skip
    refine c_condT rfl (congrArg Bool.not h13) ?_
    refine c_sr ?_
    refine l_v rfl (r_assign rfl) ?_
    refine l_nil ?_
    refine c_ret ?_
    refine ret1 rfl rfl ?_
    exact ⟨false, rfl, rise_no (by omega) (by assumption) hx7 hx8 (by assumption), hM12.kp⟩
  ·skip
   have hp14 : ¬ ((i : Nat) < b) := of_decide_eq_false h3
   refine c_condF rfl h3 ?_
   refine c_exit rfl ?_
   refine c_sr ?_
   refine l_v rfl (r_assign rfl) ?_
   refine l_nil ?_
   refine c_ret ?_
   refine ret1 rfl rfl ?_
   exact ⟨true, rfl, ⟨fun _ j x y h1 h2 hx hy => hup j x y h1 (by omega) hx hy, fun _ => rfl⟩, hM2.kp⟩
theorem f23 {A : Nat → Prop} {w : World} {S : State} {q : Six} (hS : StV A w q S) : Ret 23 #[.agg (S.rep q).cells] w (fun v w' => ∃ r : Bool, v = .bool r ∧ (r = true ↔ OkState S) ∧ Keeps [] w w') := by
  obtain ⟨hn1, hn2, hn3, hn4, hn5, hn6⟩ := hS.bd
  have hcl := ciphers_len S
  have hM0 := Mem.start w
  refine enter Tryz.func23 rfl rfl ?_
  refine c_sr ?_
  refine l_box hM0 rfl rfl ?_
  intro b1 w2 hM3 hK4 hB5
  replace hM3 : Mem w [] [(b1, (SRep.cells ((SRep.mk S.ver S.key q.t S.acc q.p q.s q.i q.a q.b))), 37)] w2 := hM3
  refine l_v rfl (r_assign rfl) ?_
  refine l_nil ?_
  refine c_seq ?_
  refine c_seq ?_
  refine c_join (ι := Unit) (fun _ w_ => Mem w [] [(b1, (SRep.cells ((SRep.mk S.ver S.key q.t S.acc q.p q.s q.i q.a q.b))), 37)] w_) (fun _ => [(0, Value.agg (SRep.cells ((SRep.mk S.ver S.key q.t S.acc q.p q.s q.i q.a q.b)))), (1, Value.pointer (some ⟨b1, 0, none⟩)), (2, Value.bool false), (33, Value.bool (badHead S))]) ?_ ?_
  ·skip
   refine c_reg ?_
   refine l_v rfl (r_fieldAddr SRep.fld_title rfl) ?_
   refine l_v rfl (r_load1 (v := Sl.val q.t) Tryz.isAgg27 rfl (Holds.sub (hM3.base (i := 0) rfl) (SRep.sub_title _))) ?_
   refine l_v rfl (r_lenR Tryz.underlying27 rfl (hS.title.keep0 hM3.kp).len) ?_
   refine l_v rfl (r_gtr (b := decide ((200 : Nat) < S.title.length)) rfl rfl (nlt 200 S.title.length)) ?_
   refine l_v rfl (r_move rfl) ?_
   refine ways (decide ((200 : Nat) < S.title.length)) (fun h6 => ?_) (fun h6 => ?_)
   ·skip
    have hp7 : (200 : Nat) < S.title.length := of_decide_eq_true h6
    refine l_off (gno rfl rfl rfl rfl h6) rfl rfl ?_
    refine l_off (gno rfl rfl rfl rfl h6) rfl rfl ?_
    refine l_off (gno rfl rfl rfl rfl h6) rfl rfl ?_
    refine l_off (gno rfl rfl rfl rfl h6) rfl rfl ?_
    refine l_off (gno rfl rfl rfl rfl h6) rfl rfl ?_
    refine l_off (gnu rfl rfl rfl rfl) rfl rfl ?_
    refine l_off (gnu rfl rfl rfl rfl) rfl rfl ?_
    refine l_off (gnu rfl rfl rfl rfl) rfl rfl ?_
    refine l_off (gnu rfl rfl rfl rfl) rfl rfl ?_
    refine l_off (gno rfl rfl rfl rfl h6) rfl rfl ?_
    refine l_v rfl (r_pickT rfl h6 rfl) ?_
    refine l_v rfl (r_move rfl) ?_
    refine l_off (gno rfl rfl rfl rfl rfl) rfl rfl ?_
    refine l_off (gno rfl rfl rfl rfl rfl) rfl rfl ?_
    refine l_off (gno rfl rfl rfl rfl rfl) rfl rfl ?_
    refine l_off (gno rfl rfl rfl rfl rfl) rfl rfl ?_
    refine l_v rfl (r_pickT rfl rfl rfl) ?_
    refine l_nil ?_
    exact jn () hM3 ⟨rfl, rfl, rfl, okB (by simp only [badHead, h6]; simp), trivial⟩
   ·skip
    have hp8 : ¬ ((200 : Nat) < S.title.length) := of_decide_eq_false h6
    refine l_val (gy rfl rfl rfl rfl h6) rfl rfl (r_fieldAddr SRep.fld_pass rfl) ?_
    refine l_val (gy rfl rfl rfl rfl h6) rfl rfl (r_load1 (v := Sl.val q.p) Tryz.isAgg27 rfl (Holds.sub (hM3.base (i := 0) rfl) (SRep.sub_pass _))) ?_
    refine l_val (gy rfl rfl rfl rfl h6) rfl rfl (r_lenR Tryz.underlying27 rfl (hS.pass.keep0 hM3.kp).len) ?_
    refine l_val (gy rfl rfl rfl rfl h6) rfl rfl (r_neq (b := (!(decide ((S.pass.length : Nat) = 0)))) rfl rfl (congrArg Bool.not (neq' S.pass.length 0))) ?_
    refine l_val (gy rfl rfl rfl rfl h6) rfl rfl (r_move rfl) ?_
    refine ways (decide ((S.pass.length : Nat) = 0)) (fun h9 => ?_) (fun h9 => ?_)
    ·skip
     have hp10 : (S.pass.length : Nat) = 0 := of_decide_eq_true h9
     refine l_off (gno rfl rfl rfl rfl (congrArg Bool.not h9)) rfl rfl ?_
     refine l_off (gno rfl rfl rfl rfl (congrArg Bool.not h9)) rfl rfl ?_
     refine l_off (gno rfl rfl rfl rfl (congrArg Bool.not h9)) rfl rfl ?_
     refine l_off (gno rfl rfl rfl rfl (congrArg Bool.not h9)) rfl rfl ?_
     refine l_val (gy rfl rfl rfl rfl h6) rfl rfl (r_pickF rfl (congrArg Bool.not h9) rfl) ?_
     refine l_v rfl (r_pickF rfl h6 rfl) ?_
     refine l_v rfl (r_move rfl) ?_
     refine l_val (gy rfl rfl rfl rfl rfl) rfl rfl (r_fieldAddr SRep.fld_acc rfl) ?_
     refine l_val (gy rfl rfl rfl rfl rfl) rfl rfl (r_loadA Tryz.isAgg31 Tryz.sizeOf31 (Access.size _) rfl (Holds.sub (hM3.base (i := 0) rfl) (SRep.sub_acc _))) ?_
     refine l_call (gy rfl rfl rfl rfl rfl) rfl rfl (r_call Tryz.call37 rfl) (f37 S.acc) ?_
     rintro v11 w12 ⟨rfl, hK13⟩
     have hM14 := hM3.keep hK13
     refine l_val (gy rfl rfl rfl rfl rfl) rfl rfl (r_not rfl) ?_
     refine l_v rfl (r_pickF rfl rfl rfl) ?_
     refine l_nil ?_
     exact jn () hM14 ⟨rfl, rfl, rfl, okB (by simp only [badHead, h6, h9]; simp), trivial⟩
    ·skip
     have hp15 : ¬ ((S.pass.length : Nat) = 0) := of_decide_eq_false h9
     refine l_val (gy rfl rfl rfl rfl (congrArg Bool.not h9)) rfl rfl (r_fieldAddr SRep.fld_pass rfl) ?_
     refine l_val (gy rfl rfl rfl rfl (congrArg Bool.not h9)) rfl rfl (r_load1 (v := Sl.val q.p) Tryz.isAgg27 rfl (Holds.sub (hM3.base (i := 0) rfl) (SRep.sub_pass _))) ?_
     refine l_val (gy rfl rfl rfl rfl (congrArg Bool.not h9)) rfl rfl (r_lenR Tryz.underlying27 rfl (hS.pass.keep0 hM3.kp).len) ?_
     refine l_val (gy rfl rfl rfl rfl (congrArg Bool.not h9)) rfl rfl (r_neq (b := (!(decide ((S.pass.length : Nat) = 16)))) rfl rfl (congrArg Bool.not (neq' S.pass.length 16))) ?_
     refine l_val (gy rfl rfl rfl rfl h6) rfl rfl (r_pickT rfl (congrArg Bool.not h9) rfl) ?_
     refine l_v rfl (r_pickF rfl h6 rfl) ?_
     refine l_v rfl (r_move rfl) ?_
     refine ways (decide ((S.pass.length : Nat) = 16)) (fun h16 => ?_) (fun h16 => ?_)
     ·skip
      have hp17 : (S.pass.length : Nat) = 16 := of_decide_eq_true h16
      refine l_val (gy rfl rfl rfl rfl (congrArg Bool.not h16)) rfl rfl (r_fieldAddr SRep.fld_acc rfl) ?_
      refine l_val (gy rfl rfl rfl rfl (congrArg Bool.not h16)) rfl rfl (r_loadA Tryz.isAgg31 Tryz.sizeOf31 (Access.size _) rfl (Holds.sub (hM3.base (i := 0) rfl) (SRep.sub_acc _))) ?_
      refine l_call (gy rfl rfl rfl rfl (congrArg Bool.not h16)) rfl rfl (r_call Tryz.call37 rfl) (f37 S.acc) ?_
      rintro v18 w19 ⟨rfl, hK20⟩
      have hM21 := hM3.keep hK20
      refine l_val (gy rfl rfl rfl rfl (congrArg Bool.not h16)) rfl rfl (r_not rfl) ?_
      refine l_v rfl (r_pickF rfl (congrArg Bool.not h16) rfl) ?_
      refine l_nil ?_
      exact jn () hM21 ⟨rfl, rfl, rfl, okB (by simp only [badHead, h6, h9, h16]; simp), trivial⟩
     ·skip
      have hp22 : ¬ ((S.pass.length : Nat) = 16) := of_decide_eq_false h16
      refine l_off (gno rfl rfl rfl rfl (congrArg Bool.not h16)) rfl rfl ?_
      refine l_off (gno rfl rfl rfl rfl (congrArg Bool.not h16)) rfl rfl ?_
      refine l_off (gno rfl rfl rfl rfl (congrArg Bool.not h16)) rfl rfl ?_
      refine l_off (gno rfl rfl rfl rfl (congrArg Bool.not h16)) rfl rfl ?_
      refine l_v rfl (r_pickT rfl (congrArg Bool.not h16) rfl) ?_
      refine l_nil ?_
      exact jn () hM3 ⟨rfl, rfl, rfl, okB (by simp only [badHead, h6, h9, h16]; simp), trivial⟩
  ·skip
   rintro - w23 hM24
   refine ways (badHead S) (fun h25 => ?_) (fun h25 => ?_)
   ·skip
    refine c_condT rfl h25 ?_
    refine c_sr ?_
    refine l_v rfl (r_assign rfl) ?_
    refine l_nil ?_
    refine c_ret ?_
    refine ret1 rfl rfl ?_
    refine ⟨false, rfl, ⟨fun e => (by cases e), fun hok => ?_⟩, hM24.kp⟩
    exact (head_bad h25 hok).elim
   ·skip
    refine c_condF rfl h25 ?_
    refine c_skip ?_
    refine c_seq ?_
    refine c_regD (Mem w [] [(b1, (SRep.cells ((SRep.mk S.ver S.key q.t S.acc q.p q.s q.i q.a q.b))), 37)]) [] [(0, true), (1, true), (2, true), (3, true), (4, true), (5, true), (6, true), (7, true), (8, true), (9, true), (10, true), (11, true), (12, true), (13, true), (14, true), (15, true)] (by kernel_rfl) ?_
    have hM26 := hM24.drew
    refine s_take hM26 rfl (gn rfl) rfl rfl (fun w h => r_fieldAddr SRep.fld_seats rfl) ?_
    refine s_take hM26 rfl (gn rfl) rfl rfl (fun w h => r_load1 (v := Sl.val q.s) Tryz.isAgg32 rfl (Holds.sub (h.base (i := 0) rfl) (SRep.sub_seats _))) ?_
    refine s_take hM26 rfl (gn rfl) rfl rfl (fun w h => r_lenR Tryz.underlying32 rfl (hS.seats.keep0 h.kp).len) ?_
    refine s_take hM26 rfl (gn rfl) rfl rfl (fun w h => r_fieldAddr SRep.fld_invites rfl) ?_
    refine s_take hM26 rfl (gn rfl) rfl rfl (fun w h => r_load1 (v := Sl.val q.i) Tryz.isAgg33 rfl (Holds.sub (h.base (i := 0) rfl) (SRep.sub_invites _))) ?_
    refine s_take hM26 rfl (gn rfl) rfl rfl (fun w h => r_lenR Tryz.underlying33 rfl (hS.invites.keep0 h.kp).len) ?_
    refine s_take hM26 rfl (gn rfl) rfl rfl (fun w h => r_fieldAddr SRep.fld_asks rfl) ?_
    refine s_take hM26 rfl (gn rfl) rfl rfl (fun w h => r_load1 (v := Sl.val q.a) Tryz.isAgg34 rfl (Holds.sub (h.base (i := 0) rfl) (SRep.sub_asks _))) ?_
    refine s_take hM26 rfl (gn rfl) rfl rfl (fun w h => r_lenR Tryz.underlying34 rfl (hS.asks.keep0 h.kp).len) ?_
    refine s_take hM26 rfl (gn rfl) rfl rfl (fun w h => r_fieldAddr SRep.fld_bans rfl) ?_
    refine s_take hM26 rfl (gn rfl) rfl rfl (fun w h => r_load1 (v := Sl.val q.b) Tryz.isAgg35 rfl (Holds.sub (h.base (i := 0) rfl) (SRep.sub_bans _))) ?_
    refine s_take hM26 rfl (gn rfl) rfl rfl (fun w h => r_lenR Tryz.underlying35 rfl (hS.bans.keep0 h.kp).len) ?_
    refine s_take hM26 rfl (gn rfl) rfl rfl (fun w h => r_assign rfl) ?_
    refine s_take hM26 rfl (gn rfl) rfl rfl (fun w h => r_assign rfl) ?_
    refine s_take hM26 rfl (gn rfl) rfl rfl (fun w h => r_assign rfl) ?_
    refine s_take hM26 rfl (gn rfl) rfl rfl (fun w h => r_assign rfl) ?_
    refine s_nil ?_
    refine c_seq ?_
    refine c_sr ?_
    refine l_v rfl (r_move rfl) ?_
    refine l_v rfl (r_gtr (b := decide ((40 : Nat) < S.seats.length)) rfl rfl (nlt 40 S.seats.length)) ?_
    refine l_v rfl (r_move rfl) ?_
    refine ways (decide ((40 : Nat) < S.seats.length)) (fun h28 => ?_) (fun h28 => ?_)
    ·skip
     have hp29 : (40 : Nat) < S.seats.length := of_decide_eq_true h28
     refine l_off (gno rfl rfl rfl rfl h28) rfl rfl ?_
     refine l_off (gno rfl rfl rfl rfl h28) rfl rfl ?_
     refine l_v rfl (r_pickT rfl h28 rfl) ?_
     refine l_v rfl (r_move rfl) ?_
     refine l_off (gno rfl rfl rfl rfl rfl) rfl rfl ?_
     refine l_off (gno rfl rfl rfl rfl rfl) rfl rfl ?_
     refine l_v rfl (r_pickT rfl rfl rfl) ?_
     refine l_v rfl (r_move rfl) ?_
     refine l_off (gno rfl rfl rfl rfl rfl) rfl rfl ?_
     refine l_off (gno rfl rfl rfl rfl rfl) rfl rfl ?_
     refine l_v rfl (r_pickT rfl rfl rfl) ?_
     refine l_nil ?_
     refine c_condT rfl rfl ?_
     refine c_sr ?_
     refine l_v rfl (r_assign rfl) ?_
     refine l_nil ?_
     refine c_ret ?_
     refine ret1 rfl rfl ?_
     refine ⟨false, rfl, ⟨fun e => (by cases e), fun hok => ?_⟩, hM26.kp⟩
     obtain ⟨h1, h2, -, h3, h4, h5, h6, -⟩ := hok
     omega
    ·skip
     have hp30 : ¬ ((40 : Nat) < S.seats.length) := of_decide_eq_false h28
     refine l_val (gy rfl rfl rfl rfl h28) rfl rfl (r_move rfl) ?_
     refine l_val (gy rfl rfl rfl rfl h28) rfl rfl (r_gtr (b := decide ((40 : Nat) < S.invites.length)) rfl rfl (nlt 40 S.invites.length)) ?_
     refine l_v rfl (r_pickF rfl h28 rfl) ?_
     refine l_v rfl (r_move rfl) ?_
     refine ways (decide ((40 : Nat) < S.invites.length)) (fun h31 => ?_) (fun h31 => ?_)
     ·skip
      have hp32 : (40 : Nat) < S.invites.length := of_decide_eq_true h31
      refine l_off (gno rfl rfl rfl rfl h31) rfl rfl ?_
      refine l_off (gno rfl rfl rfl rfl h31) rfl rfl ?_
      refine l_v rfl (r_pickT rfl h31 rfl) ?_
      refine l_v rfl (r_move rfl) ?_
      refine l_off (gno rfl rfl rfl rfl rfl) rfl rfl ?_
      refine l_off (gno rfl rfl rfl rfl rfl) rfl rfl ?_
      refine l_v rfl (r_pickT rfl rfl rfl) ?_
      refine l_nil ?_
      refine c_condT rfl rfl ?_
      refine c_sr ?_
      refine l_v rfl (r_assign rfl) ?_
      refine l_nil ?_
      refine c_ret ?_
      refine ret1 rfl rfl ?_
      refine ⟨false, rfl, ⟨fun e => (by cases e), fun hok => ?_⟩, hM26.kp⟩
      obtain ⟨h1, h2, -, h3, h4, h5, h6, -⟩ := hok
      omega
     ·skip
      have hp33 : ¬ ((40 : Nat) < S.invites.length) := of_decide_eq_false h31
      refine l_val (gy rfl rfl rfl rfl h31) rfl rfl (r_move rfl) ?_
      refine l_val (gy rfl rfl rfl rfl h31) rfl rfl (r_gtr (b := decide ((40 : Nat) < S.asks.length)) rfl rfl (nlt 40 S.asks.length)) ?_
      refine l_v rfl (r_pickF rfl h31 rfl) ?_
      refine l_v rfl (r_move rfl) ?_
      refine ways (decide ((40 : Nat) < S.asks.length)) (fun h34 => ?_) (fun h34 => ?_)
      ·skip
       have hp35 : (40 : Nat) < S.asks.length := of_decide_eq_true h34
       refine l_off (gno rfl rfl rfl rfl h34) rfl rfl ?_
       refine l_off (gno rfl rfl rfl rfl h34) rfl rfl ?_
       refine l_v rfl (r_pickT rfl h34 rfl) ?_
       refine l_nil ?_
       refine c_condT rfl rfl ?_
       refine c_sr ?_
       refine l_v rfl (r_assign rfl) ?_
       refine l_nil ?_
       refine c_ret ?_
       refine ret1 rfl rfl ?_
       refine ⟨false, rfl, ⟨fun e => (by cases e), fun hok => ?_⟩, hM26.kp⟩
       obtain ⟨h1, h2, -, h3, h4, h5, h6, -⟩ := hok
       omega
      ·skip
       have hp36 : ¬ ((40 : Nat) < S.asks.length) := of_decide_eq_false h34
       refine l_val (gy rfl rfl rfl rfl h34) rfl rfl (r_move rfl) ?_
       refine l_val (gy rfl rfl rfl rfl h34) rfl rfl (r_gtr (b := decide ((40 : Nat) < S.bans.length)) rfl rfl (nlt 40 S.bans.length)) ?_
       refine l_v rfl (r_pickF rfl h34 rfl) ?_
       refine l_nil ?_
       refine ways (decide ((40 : Nat) < S.bans.length)) (fun h37 => ?_) (fun h37 => ?_)
       ·skip
        have hp38 : (40 : Nat) < S.bans.length := of_decide_eq_true h37
        refine c_condT rfl h37 ?_
        refine c_sr ?_
        refine l_v rfl (r_assign rfl) ?_
        refine l_nil ?_
        refine c_ret ?_
        refine ret1 rfl rfl ?_
        refine ⟨false, rfl, ⟨fun e => (by cases e), fun hok => ?_⟩, hM26.kp⟩
        obtain ⟨h1, h2, -, h3, h4, h5, h6, -⟩ := hok
        omega
       ·skip
        have hp39 : ¬ ((40 : Nat) < S.bans.length) := of_decide_eq_false h37
        refine c_condF rfl h37 ?_
        refine c_skip ?_
        refine c_sr ?_
        refine l_v rfl (r_loadA Tryz.isAgg37 Tryz.sizeOf37 (SRep.size _) rfl (hM26.base (i := 0) rfl)) ?_
        refine l_call (gn rfl) rfl rfl (r_call Tryz.call25 rfl) (f25 (hS.keep0 hM26.kp) (by unfold total; omega)) ?_
        rintro v40 w41 ⟨sc44, rfl, hO45, hK42⟩
        have hM43 := hM26.keep hK42
        refine l_v rfl (r_assign rfl) ?_
        refine l_nil ?_
        refine c_seq ?_
        refine c_sr ?_
        refine l_v rfl (r_move rfl) ?_
        refine l_v rfl (r_move rfl) ?_
        refine l_call (gn rfl) rfl rfl (r_call Tryz.call38 rfl) (f38 (hO45.row enCipher) (0) (S.seats.length) (by omega) (by rw [ciphers_len]; omega)) ?_
        rintro v46 w47 ⟨r50, rfl, hr51, hK48⟩
        have hM49 := hM43.keep hK48
        refine l_v rfl (r_not rfl) ?_
        refine l_v rfl (r_move rfl) ?_
        refine ways r50 (fun h52 => ?_) (fun h52 => ?_)
        ·skip
         refine l_val (gy rfl rfl rfl rfl (congrArg Bool.not h52)) rfl rfl (r_move rfl) ?_
         refine l_val (gy rfl rfl rfl rfl (congrArg Bool.not h52)) rfl rfl (r_move rfl) ?_
         refine l_val (gy rfl rfl rfl rfl (congrArg Bool.not h52)) rfl rfl (r_move rfl) ?_
         refine l_val (gy rfl rfl rfl rfl (congrArg Bool.not h52)) rfl rfl (r_move rfl) ?_
         refine l_val (gy rfl rfl rfl rfl (congrArg Bool.not h52)) rfl rfl (r_add (r := ((S.seats.length + S.invites.length : Nat) : Int)) rfl rfl (nadd (i := S.seats.length) (k := S.invites.length) (m := S.seats.length + S.invites.length) (by omega) (by omega))) ?_
         refine l_call (gy rfl rfl rfl rfl (congrArg Bool.not h52)) rfl rfl (r_call Tryz.call38 rfl) (f38 ((hO45.keep0 hK48).row enCipher) (S.seats.length) (S.seats.length + S.invites.length) (by omega) (by rw [ciphers_len]; omega)) ?_
         rintro v53 w54 ⟨r57, rfl, hr58, hK55⟩
         have hM56 := hM49.keep hK55
         refine l_val (gy rfl rfl rfl rfl (congrArg Bool.not h52)) rfl rfl (r_not rfl) ?_
         refine l_v rfl (r_pickF rfl (congrArg Bool.not h52) rfl) ?_
         refine l_v rfl (r_move rfl) ?_
         refine ways r57 (fun h59 => ?_) (fun h59 => ?_)
         ·skip
          refine l_val (gy rfl rfl rfl rfl (congrArg Bool.not h59)) rfl rfl (r_move rfl) ?_
          refine l_val (gy rfl rfl rfl rfl (congrArg Bool.not h59)) rfl rfl (r_move rfl) ?_
          refine l_val (gy rfl rfl rfl rfl (congrArg Bool.not h59)) rfl rfl (r_move rfl) ?_
          refine l_val (gy rfl rfl rfl rfl (congrArg Bool.not h59)) rfl rfl (r_add (r := ((S.seats.length + S.invites.length : Nat) : Int)) rfl rfl (nadd (i := S.seats.length) (k := S.invites.length) (m := S.seats.length + S.invites.length) (by omega) (by omega))) ?_
          refine l_val (gy rfl rfl rfl rfl (congrArg Bool.not h59)) rfl rfl (r_move rfl) ?_
          refine l_val (gy rfl rfl rfl rfl (congrArg Bool.not h59)) rfl rfl (r_move rfl) ?_
          refine l_val (gy rfl rfl rfl rfl (congrArg Bool.not h59)) rfl rfl (r_add (r := ((S.seats.length + S.invites.length : Nat) : Int)) rfl rfl (nadd (i := S.seats.length) (k := S.invites.length) (m := S.seats.length + S.invites.length) (by omega) (by omega))) ?_
          refine l_val (gy rfl rfl rfl rfl (congrArg Bool.not h59)) rfl rfl (r_move rfl) ?_
          refine l_val (gy rfl rfl rfl rfl (congrArg Bool.not h59)) rfl rfl (r_add (r := (((S.seats.length + S.invites.length) + S.asks.length : Nat) : Int)) rfl rfl (nadd (i := S.seats.length + S.invites.length) (k := S.asks.length) (m := (S.seats.length + S.invites.length) + S.asks.length) (by omega) (by omega))) ?_
          refine l_call (gy rfl rfl rfl rfl (congrArg Bool.not h59)) rfl rfl (r_call Tryz.call38 rfl) (f38 (((hO45.keep0 hK48).keep0 hK55).row enCipher) (S.seats.length + S.invites.length) ((S.seats.length + S.invites.length) + S.asks.length) (by omega) (by rw [ciphers_len]; omega)) ?_
          rintro v60 w61 ⟨r64, rfl, hr65, hK62⟩
          have hM63 := hM56.keep hK62
          refine l_val (gy rfl rfl rfl rfl (congrArg Bool.not h59)) rfl rfl (r_not rfl) ?_
          refine l_v rfl (r_pickF rfl (congrArg Bool.not h59) rfl) ?_
          refine l_v rfl (r_move rfl) ?_
          refine ways r64 (fun h66 => ?_) (fun h66 => ?_)
          ·skip
           refine l_val (gy rfl rfl rfl rfl (congrArg Bool.not h66)) rfl rfl (r_move rfl) ?_
           refine l_val (gy rfl rfl rfl rfl (congrArg Bool.not h66)) rfl rfl (r_move rfl) ?_
           refine l_val (gy rfl rfl rfl rfl (congrArg Bool.not h66)) rfl rfl (r_move rfl) ?_
           refine l_val (gy rfl rfl rfl rfl (congrArg Bool.not h66)) rfl rfl (r_add (r := ((S.seats.length + S.invites.length : Nat) : Int)) rfl rfl (nadd (i := S.seats.length) (k := S.invites.length) (m := S.seats.length + S.invites.length) (by omega) (by omega))) ?_
           refine l_val (gy rfl rfl rfl rfl (congrArg Bool.not h66)) rfl rfl (r_move rfl) ?_
           refine l_val (gy rfl rfl rfl rfl (congrArg Bool.not h66)) rfl rfl (r_add (r := (((S.seats.length + S.invites.length) + S.asks.length : Nat) : Int)) rfl rfl (nadd (i := S.seats.length + S.invites.length) (k := S.asks.length) (m := (S.seats.length + S.invites.length) + S.asks.length) (by omega) (by omega))) ?_
           refine l_val (gy rfl rfl rfl rfl (congrArg Bool.not h66)) rfl rfl (r_move rfl) ?_
           refine l_val (gy rfl rfl rfl rfl (congrArg Bool.not h66)) rfl rfl (r_move rfl) ?_
           refine l_val (gy rfl rfl rfl rfl (congrArg Bool.not h66)) rfl rfl (r_add (r := ((S.seats.length + S.invites.length : Nat) : Int)) rfl rfl (nadd (i := S.seats.length) (k := S.invites.length) (m := S.seats.length + S.invites.length) (by omega) (by omega))) ?_
           refine l_val (gy rfl rfl rfl rfl (congrArg Bool.not h66)) rfl rfl (r_move rfl) ?_
           refine l_val (gy rfl rfl rfl rfl (congrArg Bool.not h66)) rfl rfl (r_add (r := (((S.seats.length + S.invites.length) + S.asks.length : Nat) : Int)) rfl rfl (nadd (i := S.seats.length + S.invites.length) (k := S.asks.length) (m := (S.seats.length + S.invites.length) + S.asks.length) (by omega) (by omega))) ?_
           refine l_val (gy rfl rfl rfl rfl (congrArg Bool.not h66)) rfl rfl (r_move rfl) ?_
           refine l_val (gy rfl rfl rfl rfl (congrArg Bool.not h66)) rfl rfl (r_add (r := ((((S.seats.length + S.invites.length) + S.asks.length) + S.bans.length : Nat) : Int)) rfl rfl (nadd (i := (S.seats.length + S.invites.length) + S.asks.length) (k := S.bans.length) (m := ((S.seats.length + S.invites.length) + S.asks.length) + S.bans.length) (by omega) (by omega))) ?_
           refine l_call (gy rfl rfl rfl rfl (congrArg Bool.not h66)) rfl rfl (r_call Tryz.call38 rfl) (f38 ((((hO45.keep0 hK48).keep0 hK55).keep0 hK62).row enCipher) ((S.seats.length + S.invites.length) + S.asks.length) (((S.seats.length + S.invites.length) + S.asks.length) + S.bans.length) (by omega) (by rw [ciphers_len]; omega)) ?_
           rintro v67 w68 ⟨r71, rfl, hr72, hK69⟩
           have hM70 := hM63.keep hK69
           refine l_val (gy rfl rfl rfl rfl (congrArg Bool.not h66)) rfl rfl (r_not rfl) ?_
           refine l_v rfl (r_pickF rfl (congrArg Bool.not h66) rfl) ?_
           refine l_nil ?_
           refine ways r71 (fun h73 => ?_) (fun h73 => ?_)
           ·skip
            refine c_condF rfl (congrArg Bool.not h73) ?_
            refine c_skip ?_
            refine c_seq ?_
            refine c_sr ?_
            refine l_v rfl (r_assign rfl) ?_
            refine l_nil ?_
            refine c_block ?_
            refine c_loop (ι := Nat) (fun i0 w_ => Mem w [] [(b1, (SRep.cells ((SRep.mk S.ver S.key q.t S.acc q.p q.s q.i q.a q.b))), 37)] w_ ∧ ((i0 ≤ (ciphers S).length ∧ ∀ (p q : Nat) (x y : Cipher), p < q → q < i0 → (ciphers S)[p]? = some x → (ciphers S)[q]? = some y → ¬ x.E = y.E) ∧ Own (w23.drew).heap.size 40 w_ sc44 64 Cipher.cells (ciphers S))) (fun i0 => [(0, Value.agg (SRep.cells ((SRep.mk S.ver S.key q.t S.acc q.p q.s q.i q.a q.b)))), (1, Value.pointer (some ⟨b1, 0, none⟩)), (33, Value.bool (badHead S)), (3, Value.int .i64 ((S.seats.length : Nat) : Int)), (4, Value.int .i64 ((S.invites.length : Nat) : Int)), (5, Value.int .i64 ((S.asks.length : Nat) : Int)), (6, Value.int .i64 ((S.bans.length : Nat) : Int)), (59, Value.bool (decide ((40 : Nat) < S.bans.length))), (7, Sl.val sc44), (104, Value.bool ((!r71))), (8, Value.int .i64 ((i0 : Nat) : Int))]) (fun i0 => (ciphers S).length - i0) 0 ⟨hM70, ⟨Nat.zero_le _, fun p q x y h1 h2 => absurd h2 (by omega)⟩, ((((hO45.keep0 hK48).keep0 hK55).keep0 hK62).keep0 hK69)⟩ ⟨rfl, rfl, rfl, rfl, rfl, rfl, rfl, rfl, rfl, rfl, rfl, trivial⟩ ?_
            rintro i0 w75 ⟨hM76, ⟨hk0, ho0⟩, hF74⟩
            refine c_seq ?_
            refine c_sr ?_
            refine l_v rfl (r_move rfl) ?_
            refine l_v rfl (r_move rfl) ?_
            refine l_v rfl (r_lenR Tryz.underlying63 rfl (hF74.row enCipher).len) ?_
            refine l_v rfl (r_lss (b := decide ((i0 : Nat) < ((ciphers S)).length)) rfl rfl (nlt i0 (((ciphers S)).length))) ?_
            refine l_nil ?_
            refine ways (decide ((i0 : Nat) < ((ciphers S)).length)) (fun h77 => ?_) (fun h77 => ?_)
            ·skip
             have hp78 : (i0 : Nat) < ((ciphers S)).length := of_decide_eq_true h77
             refine c_condT rfl h77 ?_
             refine c_skip ?_
             refine c_seq ?_
             refine c_block ?_
             refine c_sr ?_
             refine l_v rfl (r_assign rfl) ?_
             refine l_nil ?_
             refine c_block ?_
             refine c_loop (ι := Nat) (fun i1 w_ => Mem w [] [(b1, (SRep.cells ((SRep.mk S.ver S.key q.t S.acc q.p q.s q.i q.a q.b))), 37)] w_ ∧ ((i1 ≤ i0 ∧ ∀ (p : Nat) (x y : Cipher), p < i1 → (ciphers S)[p]? = some x → (ciphers S)[i0]? = some y → ¬ x.E = y.E) ∧ Own (w23.drew).heap.size 40 w_ sc44 64 Cipher.cells (ciphers S))) (fun i1 => [(0, Value.agg (SRep.cells ((SRep.mk S.ver S.key q.t S.acc q.p q.s q.i q.a q.b)))), (1, Value.pointer (some ⟨b1, 0, none⟩)), (33, Value.bool (badHead S)), (3, Value.int .i64 ((S.seats.length : Nat) : Int)), (4, Value.int .i64 ((S.invites.length : Nat) : Int)), (5, Value.int .i64 ((S.asks.length : Nat) : Int)), (6, Value.int .i64 ((S.bans.length : Nat) : Int)), (59, Value.bool (decide ((40 : Nat) < S.bans.length))), (7, Sl.val sc44), (104, Value.bool ((!r71))), (8, Value.int .i64 ((i0 : Nat) : Int)), (108, Value.bool (decide ((i0 : Nat) < ((ciphers S)).length))), (9, Value.int .i64 ((i1 : Nat) : Int))]) (fun i1 => i0 - i1) 0 ⟨hM76, ⟨Nat.zero_le _, fun p x y h1 => absurd h1 (by omega)⟩, hF74⟩ ⟨rfl, rfl, rfl, rfl, rfl, rfl, rfl, rfl, rfl, rfl, rfl, rfl, rfl, trivial⟩ ?_
             rintro i1 w80 ⟨hM81, ⟨hk1, hi1⟩, hF79⟩
             refine c_seq ?_
             refine c_sr ?_
             refine l_v rfl (r_move rfl) ?_
             refine l_v rfl (r_move rfl) ?_
             refine l_v rfl (r_lss (b := decide ((i1 : Nat) < i0)) rfl rfl (nlt i1 i0)) ?_
             refine l_nil ?_
             refine ways (decide ((i1 : Nat) < i0)) (fun h82 => ?_) (fun h82 => ?_)
             ·skip
              have hp83 : (i1 : Nat) < i0 := of_decide_eq_true h82
              refine c_condT rfl h82 ?_
              refine c_skip ?_
              refine c_seq ?_
              refine c_block ?_
              refine c_seq ?_
              refine c_regD (fun w_ => Mem w [] [(b1, (SRep.cells ((SRep.mk S.ver S.key q.t S.acc q.p q.s q.i q.a q.b))), 37)] w_ ∧ Own (w23.drew).heap.size 40 w_ sc44 64 Cipher.cells (ciphers S)) [] [(0, true), (1, true), (2, true), (3, true), (4, true), (5, true), (6, true), (7, true), (8, true), (9, true), (10, true)] (by kernel_rfl) ?_
              have hM84 := hM81.drew
              refine s_take ⟨hM84, (hF79.keep0 (Keeps.drew _))⟩ rfl (gn rfl) rfl rfl (fun w h => r_move rfl) ?_
              refine s_take ⟨hM84, (hF79.keep0 (Keeps.drew _))⟩ rfl (gn rfl) rfl rfl (fun w h => r_move rfl) ?_
              have hlt86 : i0 < ((ciphers S)).length := by first | assumption | omega
              obtain ⟨x86, hx86⟩ : ∃ x, ((ciphers S))[i0]? = some x := ⟨_, List.getElem?_eq_getElem hlt86⟩
              obtain ⟨p86, o86, ha86, hA86, -⟩ := ((hF79.keep0 (Keeps.drew _)).row enCipher).at_ _ _ hx86
              refine s_take ⟨hM84, (hF79.keep0 (Keeps.drew _))⟩ rfl (gn rfl) rfl rfl (fun w h => r_indexR Tryz.underlying63 Tryz.sizeOf40 ⟨_, (h.2.row enCipher)⟩ rfl ha86 rfl hlt86) ?_
              refine s_take ⟨hM84, (hF79.keep0 (Keeps.drew _))⟩ rfl (gn rfl) rfl rfl (fun w h => r_fieldAddr Cipher.fld_E rfl) ?_
              refine s_take ⟨hM84, (hF79.keep0 (Keeps.drew _))⟩ rfl (gn rfl) rfl rfl (fun w h => r_loadA Tryz.isAgg24 Tryz.sizeOf24 (Pt.size _) rfl (Holds.sub ((h.2.row enCipher).ix hx86 ha86) (Cipher.sub_E _))) ?_
              refine s_take ⟨hM84, (hF79.keep0 (Keeps.drew _))⟩ rfl (gn rfl) rfl rfl (fun w h => r_move rfl) ?_
              refine s_take ⟨hM84, (hF79.keep0 (Keeps.drew _))⟩ rfl (gn rfl) rfl rfl (fun w h => r_move rfl) ?_
              have hlt87 : i1 < ((ciphers S)).length := by first | assumption | omega
              obtain ⟨x87, hx87⟩ : ∃ x, ((ciphers S))[i1]? = some x := ⟨_, List.getElem?_eq_getElem hlt87⟩
              obtain ⟨p87, o87, ha87, hA87, -⟩ := ((hF79.keep0 (Keeps.drew _)).row enCipher).at_ _ _ hx87
              refine s_take ⟨hM84, (hF79.keep0 (Keeps.drew _))⟩ rfl (gn rfl) rfl rfl (fun w h => r_indexR Tryz.underlying63 Tryz.sizeOf40 ⟨_, (h.2.row enCipher)⟩ rfl ha87 rfl hlt87) ?_
              refine s_take ⟨hM84, (hF79.keep0 (Keeps.drew _))⟩ rfl (gn rfl) rfl rfl (fun w h => r_fieldAddr Cipher.fld_E rfl) ?_
              refine s_take ⟨hM84, (hF79.keep0 (Keeps.drew _))⟩ rfl (gn rfl) rfl rfl (fun w h => r_loadA Tryz.isAgg24 Tryz.sizeOf24 (Pt.size _) rfl (Holds.sub ((h.2.row enCipher).ix hx87 ha87) (Cipher.sub_E _))) ?_
              refine s_take ⟨hM84, (hF79.keep0 (Keeps.drew _))⟩ rfl (gn rfl) rfl rfl (fun w h => r_eqPt Tryz.eqGuardType24 Tryz.underlying24 rfl rfl) ?_
              refine s_nil ?_
              refine ways (decide (x86.E = x87.E)) (fun h88 => ?_) (fun h88 => ?_)
              ·skip
               have hp89 : x86.E = x87.E := of_decide_eq_true h88
               refine c_condT rfl h88 ?_
               refine c_sr ?_
               refine l_v rfl (r_assign rfl) ?_
               refine l_nil ?_
               refine c_ret ?_
               refine ret1 rfl rfl ?_
               refine ⟨false, rfl, ⟨fun e => (by cases e), fun hok => ?_⟩, hM84.kp⟩
               exact (hok.nd _ _ _ _ (by assumption) hx87 hx86 (of_decide_eq_true h88).symm).elim
              ·skip
               have hp90 : ¬ (x86.E = x87.E) := of_decide_eq_false h88
               refine c_condF rfl h88 ?_
               refine c_skip ?_
               refine c_reg ?_
               refine l_v rfl (r_move rfl) ?_
               refine l_v rfl (r_add (r := ((i1 + 1 : Nat) : Int)) rfl rfl (nadd (i := i1) (k := 1) (m := i1 + 1) (by omega) (by omega))) ?_
               refine l_v rfl (r_assign rfl) ?_
               refine l_nil ?_
               intro a_ ha_
               refine ⟨i1 + 1, ⟨hM84, ?_, (hF79.keep0 (Keeps.drew _))⟩, by omega, ha_.sub ⟨rfl, rfl, rfl, rfl, rfl, rfl, rfl, rfl, rfl, rfl, rfl, rfl, rfl, trivial⟩⟩
               exact ⟨by omega, in_step hx86 hx87 (by assumption) hi1⟩
             ·skip
              have hp91 : ¬ ((i1 : Nat) < i0) := of_decide_eq_false h82
              refine c_condF rfl h82 ?_
              refine c_exit rfl ?_
              refine c_reg ?_
              refine l_v rfl (r_move rfl) ?_
              refine l_v rfl (r_add (r := ((i0 + 1 : Nat) : Int)) rfl rfl (nadd (i := i0) (k := 1) (m := i0 + 1) (by omega) (by omega))) ?_
              refine l_v rfl (r_assign rfl) ?_
              refine l_nil ?_
              intro a_ ha_
              refine ⟨i0 + 1, ⟨hM81, ?_, hF79⟩, by omega, ha_.sub ⟨rfl, rfl, rfl, rfl, rfl, rfl, rfl, rfl, rfl, rfl, rfl, trivial⟩⟩
              exact ⟨by omega, out_step ho0 hi1 (by assumption)⟩
            ·skip
             have hp92 : ¬ ((i0 : Nat) < ((ciphers S)).length) := of_decide_eq_false h77
             refine c_condF rfl h77 ?_
             refine c_exit rfl ?_
             refine c_seq ?_
             refine c_sr ?_
             refine l_v rfl (r_assign rfl) ?_
             refine l_nil ?_
             refine c_block ?_
             refine c_loop (ι := Nat) (fun i2 w_ => Mem w [] [(b1, (SRep.cells ((SRep.mk S.ver S.key q.t S.acc q.p q.s q.i q.a q.b))), 37)] w_ ∧ ((i2 ≤ S.seats.length ∧ ∀ (j : Nat) (x : Seat), j < i2 → S.seats[j]? = some x → isRole x.role = true) ∧ Own (w23.drew).heap.size 40 w_ sc44 64 Cipher.cells (ciphers S))) (fun i2 => [(0, Value.agg (SRep.cells ((SRep.mk S.ver S.key q.t S.acc q.p q.s q.i q.a q.b)))), (1, Value.pointer (some ⟨b1, 0, none⟩)), (33, Value.bool (badHead S)), (3, Value.int .i64 ((S.seats.length : Nat) : Int)), (4, Value.int .i64 ((S.invites.length : Nat) : Int)), (5, Value.int .i64 ((S.asks.length : Nat) : Int)), (6, Value.int .i64 ((S.bans.length : Nat) : Int)), (59, Value.bool (decide ((40 : Nat) < S.bans.length))), (7, Sl.val sc44), (104, Value.bool ((!r71))), (8, Value.int .i64 ((i0 : Nat) : Int)), (108, Value.bool (decide ((i0 : Nat) < ((ciphers S)).length))), (10, Value.int .i64 ((i2 : Nat) : Int))]) (fun i2 => S.seats.length - i2) 0 ⟨hM76, ⟨Nat.zero_le _, fun j x h1 => absurd h1 (by omega)⟩, hF74⟩ ⟨rfl, rfl, rfl, rfl, rfl, rfl, rfl, rfl, rfl, rfl, rfl, rfl, rfl, trivial⟩ ?_
             rintro i2 w94 ⟨hM95, ⟨hk2, hq2⟩, hF93⟩
             refine c_seq ?_
             refine c_sr ?_
             refine l_v rfl (r_move rfl) ?_
             refine l_v rfl (r_move rfl) ?_
             refine l_v rfl (r_lss (b := decide ((i2 : Nat) < S.seats.length)) rfl rfl (nlt i2 S.seats.length)) ?_
             refine l_nil ?_
             refine ways (decide ((i2 : Nat) < S.seats.length)) (fun h96 => ?_) (fun h96 => ?_)
             ·skip
              have hp97 : (i2 : Nat) < S.seats.length := of_decide_eq_true h96
              refine c_condT rfl h96 ?_
              refine c_skip ?_
              refine c_seq ?_
              refine c_block ?_
              refine c_sr ?_
              refine l_v rfl (r_fieldAddr SRep.fld_seats rfl) ?_
              refine l_v rfl (r_load1 (v := Sl.val q.s) Tryz.isAgg32 rfl (Holds.sub (hM95.base (i := 0) rfl) (SRep.sub_seats _))) ?_
              refine l_v rfl (r_move rfl) ?_
              have hlt98 : i2 < S.seats.length := by first | assumption | omega
              obtain ⟨x98, hx98⟩ : ∃ x, S.seats[i2]? = some x := ⟨_, List.getElem?_eq_getElem hlt98⟩
              obtain ⟨p98, o98, ha98, hA98, -⟩ := (hS.seats.keep0 hM95.kp).at_ _ _ hx98
              refine l_v rfl (r_indexR Tryz.underlying32 Tryz.sizeOf73 ⟨_, (hS.seats.keep0 hM95.kp)⟩ rfl ha98 rfl hlt98) ?_
              refine l_v rfl (r_fieldAddr Seat.fld_role rfl) ?_
              refine l_v rfl (r_load1 (v := vU8 x98.role) Tryz.isAgg28 rfl (Holds.sub ((hS.seats.keep0 hM95.kp).ix hx98 ha98) (Seat.sub_role _))) ?_
              refine l_call (gn rfl) rfl rfl (r_call Tryz.call39 rfl) (f39 x98.role) ?_
              rintro v99 w100 ⟨rfl, hK101⟩
              have hM102 := hM95.keep hK101
              refine l_v rfl (r_not rfl) ?_
              refine l_nil ?_
              refine ways (isRole x98.role) (fun h103 => ?_) (fun h103 => ?_)
              ·skip
               refine c_condF rfl (congrArg Bool.not h103) ?_
               refine c_skip ?_
               refine c_reg ?_
               refine l_v rfl (r_move rfl) ?_
               refine l_v rfl (r_add (r := ((i2 + 1 : Nat) : Int)) rfl rfl (nadd (i := i2) (k := 1) (m := i2 + 1) (by omega) (by omega))) ?_
               refine l_v rfl (r_assign rfl) ?_
               refine l_nil ?_
               intro a_ ha_
               refine ⟨i2 + 1, ⟨hM102, ?_, (hF93.keep0 hK101)⟩, by omega, ha_.sub ⟨rfl, rfl, rfl, rfl, rfl, rfl, rfl, rfl, rfl, rfl, rfl, rfl, rfl, trivial⟩⟩
               exact ⟨by omega, all_step (P := fun x : Seat => isRole x.role = true) hx98 (by assumption) hq2⟩
              ·skip
               refine c_condT rfl (congrArg Bool.not h103) ?_
               refine c_sr ?_
               refine l_v rfl (r_assign rfl) ?_
               refine l_nil ?_
               refine c_ret ?_
               refine ret1 rfl rfl ?_
               refine ⟨false, rfl, ⟨fun e => (by cases e), fun hok => ?_⟩, hM102.kp⟩
               have hu := hok.r1 _ (List.mem_of_getElem? hx98)
               rw [h103] at hu; cases hu
             ·skip
              have hp104 : ¬ ((i2 : Nat) < S.seats.length) := of_decide_eq_false h96
              refine c_condF rfl h96 ?_
              refine c_exit rfl ?_
              refine c_seq ?_
              refine c_sr ?_
              refine l_v rfl (r_assign rfl) ?_
              refine l_nil ?_
              refine c_block ?_
              refine c_loop (ι := Nat) (fun i3 w_ => Mem w [] [(b1, (SRep.cells ((SRep.mk S.ver S.key q.t S.acc q.p q.s q.i q.a q.b))), 37)] w_ ∧ ((i3 ≤ S.invites.length ∧ ∀ (j : Nat) (x : Invite), j < i3 → S.invites[j]? = some x → isRole x.role = true) ∧ Own (w23.drew).heap.size 40 w_ sc44 64 Cipher.cells (ciphers S))) (fun i3 => [(0, Value.agg (SRep.cells ((SRep.mk S.ver S.key q.t S.acc q.p q.s q.i q.a q.b)))), (1, Value.pointer (some ⟨b1, 0, none⟩)), (33, Value.bool (badHead S)), (3, Value.int .i64 ((S.seats.length : Nat) : Int)), (4, Value.int .i64 ((S.invites.length : Nat) : Int)), (5, Value.int .i64 ((S.asks.length : Nat) : Int)), (6, Value.int .i64 ((S.bans.length : Nat) : Int)), (59, Value.bool (decide ((40 : Nat) < S.bans.length))), (7, Sl.val sc44), (104, Value.bool ((!r71))), (8, Value.int .i64 ((i0 : Nat) : Int)), (108, Value.bool (decide ((i0 : Nat) < ((ciphers S)).length))), (10, Value.int .i64 ((i2 : Nat) : Int)), (129, Value.bool (decide ((i2 : Nat) < S.seats.length))), (11, Value.int .i64 ((i3 : Nat) : Int))]) (fun i3 => S.invites.length - i3) 0 ⟨hM95, ⟨Nat.zero_le _, fun j x h1 => absurd h1 (by omega)⟩, hF93⟩ ⟨rfl, rfl, rfl, rfl, rfl, rfl, rfl, rfl, rfl, rfl, rfl, rfl, rfl, rfl, rfl, trivial⟩ ?_
              rintro i3 w106 ⟨hM107, ⟨hk3, hq3⟩, hF105⟩
              refine c_seq ?_
              refine c_sr ?_
              refine l_v rfl (r_move rfl) ?_
              refine l_v rfl (r_move rfl) ?_
              refine l_v rfl (r_lss (b := decide ((i3 : Nat) < S.invites.length)) rfl rfl (nlt i3 S.invites.length)) ?_
              refine l_nil ?_
              refine ways (decide ((i3 : Nat) < S.invites.length)) (fun h108 => ?_) (fun h108 => ?_)
              ·skip
               have hp109 : (i3 : Nat) < S.invites.length := of_decide_eq_true h108
               refine c_condT rfl h108 ?_
               refine c_skip ?_
               refine c_seq ?_
               refine c_block ?_
               refine c_sr ?_
               refine l_v rfl (r_fieldAddr SRep.fld_invites rfl) ?_
               refine l_v rfl (r_load1 (v := Sl.val q.i) Tryz.isAgg33 rfl (Holds.sub (hM107.base (i := 0) rfl) (SRep.sub_invites _))) ?_
               refine l_v rfl (r_move rfl) ?_
               have hlt110 : i3 < S.invites.length := by first | assumption | omega
               obtain ⟨x110, hx110⟩ : ∃ x, S.invites[i3]? = some x := ⟨_, List.getElem?_eq_getElem hlt110⟩
               obtain ⟨p110, o110, ha110, hA110, -⟩ := (hS.invites.keep0 hM107.kp).at_ _ _ hx110
               refine l_v rfl (r_indexR Tryz.underlying33 Tryz.sizeOf82 ⟨_, (hS.invites.keep0 hM107.kp)⟩ rfl ha110 rfl hlt110) ?_
               refine l_v rfl (r_fieldAddr Invite.fld_role rfl) ?_
               refine l_v rfl (r_load1 (v := vU8 x110.role) Tryz.isAgg28 rfl (Holds.sub ((hS.invites.keep0 hM107.kp).ix hx110 ha110) (Invite.sub_role _))) ?_
               refine l_call (gn rfl) rfl rfl (r_call Tryz.call39 rfl) (f39 x110.role) ?_
               rintro v111 w112 ⟨rfl, hK113⟩
               have hM114 := hM107.keep hK113
               refine l_v rfl (r_not rfl) ?_
               refine l_nil ?_
               refine ways (isRole x110.role) (fun h115 => ?_) (fun h115 => ?_)
               ·skip
                refine c_condF rfl (congrArg Bool.not h115) ?_
                refine c_skip ?_
                refine c_reg ?_
                refine l_v rfl (r_move rfl) ?_
                refine l_v rfl (r_add (r := ((i3 + 1 : Nat) : Int)) rfl rfl (nadd (i := i3) (k := 1) (m := i3 + 1) (by omega) (by omega))) ?_
                refine l_v rfl (r_assign rfl) ?_
                refine l_nil ?_
                intro a_ ha_
                refine ⟨i3 + 1, ⟨hM114, ?_, (hF105.keep0 hK113)⟩, by omega, ha_.sub ⟨rfl, rfl, rfl, rfl, rfl, rfl, rfl, rfl, rfl, rfl, rfl, rfl, rfl, rfl, rfl, trivial⟩⟩
                exact ⟨by omega, all_step (P := fun x : Invite => isRole x.role = true) hx110 (by assumption) hq3⟩
               ·skip
                refine c_condT rfl (congrArg Bool.not h115) ?_
                refine c_sr ?_
                refine l_v rfl (r_assign rfl) ?_
                refine l_nil ?_
                refine c_ret ?_
                refine ret1 rfl rfl ?_
                refine ⟨false, rfl, ⟨fun e => (by cases e), fun hok => ?_⟩, hM114.kp⟩
                have hu := hok.r2 _ (List.mem_of_getElem? hx110)
                rw [h115] at hu; cases hu
              ·skip
               have hp116 : ¬ ((i3 : Nat) < S.invites.length) := of_decide_eq_false h108
               refine c_condF rfl h108 ?_
               refine c_exit rfl ?_
               refine c_sr ?_
               refine l_v rfl (r_assign rfl) ?_
               refine l_nil ?_
               refine c_ret ?_
               refine ret1 rfl rfl ?_
               obtain ⟨hh1, hh2, hh3⟩ := head_ok h25
               refine ⟨true, rfl, ⟨fun _ => ⟨hh1, hh2, hh3, by omega, by omega, by omega, by omega, (rises1 S).1 (hr51.1 h52), (rises2 S).1 (hr58.1 h59), (rises3 S).1 (hr65.1 h66), (rises4 S).1 (hr72.1 h73), out_end ho0 (by assumption), all_end hq2 (by assumption), all_end hq3 (by assumption)⟩, fun _ => rfl⟩, hM107.kp⟩
           ·skip
            refine c_condT rfl (congrArg Bool.not h73) ?_
            refine c_sr ?_
            refine l_v rfl (r_assign rfl) ?_
            refine l_nil ?_
            refine c_ret ?_
            refine ret1 rfl rfl ?_
            refine ⟨false, rfl, ⟨fun e => (by cases e), fun hok => ?_⟩, hM70.kp⟩
            have hu := hr72.2 ((rises4 S).2 hok.u4)
            rw [h73] at hu; cases hu
          ·skip
           refine l_off (gno rfl rfl rfl rfl (congrArg Bool.not h66)) rfl rfl ?_
           refine l_off (gno rfl rfl rfl rfl (congrArg Bool.not h66)) rfl rfl ?_
           refine l_off (gno rfl rfl rfl rfl (congrArg Bool.not h66)) rfl rfl ?_
           refine l_off (gno rfl rfl rfl rfl (congrArg Bool.not h66)) rfl rfl ?_
           refine l_off (gno rfl rfl rfl rfl (congrArg Bool.not h66)) rfl rfl ?_
           refine l_off (gno rfl rfl rfl rfl (congrArg Bool.not h66)) rfl rfl ?_
           refine l_off (gno rfl rfl rfl rfl (congrArg Bool.not h66)) rfl rfl ?_
           refine l_off (gno rfl rfl rfl rfl (congrArg Bool.not h66)) rfl rfl ?_
           refine l_off (gno rfl rfl rfl rfl (congrArg Bool.not h66)) rfl rfl ?_
           refine l_off (gno rfl rfl rfl rfl (congrArg Bool.not h66)) rfl rfl ?_
           refine l_off (gno rfl rfl rfl rfl (congrArg Bool.not h66)) rfl rfl ?_
           refine l_off (gno rfl rfl rfl rfl (congrArg Bool.not h66)) rfl rfl ?_
           refine l_off (gno rfl rfl rfl rfl (congrArg Bool.not h66)) rfl rfl ?_
           refine l_off (gno rfl rfl rfl rfl (congrArg Bool.not h66)) rfl rfl ?_
           refine l_off (gno rfl rfl rfl rfl (congrArg Bool.not h66)) rfl rfl ?_
           refine l_v rfl (r_pickT rfl (congrArg Bool.not h66) rfl) ?_
           refine l_nil ?_
           refine c_condT rfl rfl ?_
           refine c_sr ?_
           refine l_v rfl (r_assign rfl) ?_
           refine l_nil ?_
           refine c_ret ?_
           refine ret1 rfl rfl ?_
           refine ⟨false, rfl, ⟨fun e => (by cases e), fun hok => ?_⟩, hM63.kp⟩
           have hu := hr65.2 ((rises3 S).2 hok.u3)
           rw [h66] at hu; cases hu
         ·skip
          refine l_off (gno rfl rfl rfl rfl (congrArg Bool.not h59)) rfl rfl ?_
          refine l_off (gno rfl rfl rfl rfl (congrArg Bool.not h59)) rfl rfl ?_
          refine l_off (gno rfl rfl rfl rfl (congrArg Bool.not h59)) rfl rfl ?_
          refine l_off (gno rfl rfl rfl rfl (congrArg Bool.not h59)) rfl rfl ?_
          refine l_off (gno rfl rfl rfl rfl (congrArg Bool.not h59)) rfl rfl ?_
          refine l_off (gno rfl rfl rfl rfl (congrArg Bool.not h59)) rfl rfl ?_
          refine l_off (gno rfl rfl rfl rfl (congrArg Bool.not h59)) rfl rfl ?_
          refine l_off (gno rfl rfl rfl rfl (congrArg Bool.not h59)) rfl rfl ?_
          refine l_off (gno rfl rfl rfl rfl (congrArg Bool.not h59)) rfl rfl ?_
          refine l_off (gno rfl rfl rfl rfl (congrArg Bool.not h59)) rfl rfl ?_
          refine l_off (gno rfl rfl rfl rfl (congrArg Bool.not h59)) rfl rfl ?_
          refine l_v rfl (r_pickT rfl (congrArg Bool.not h59) rfl) ?_
          refine l_v rfl (r_move rfl) ?_
          refine l_off (gno rfl rfl rfl rfl rfl) rfl rfl ?_
          refine l_off (gno rfl rfl rfl rfl rfl) rfl rfl ?_
          refine l_off (gno rfl rfl rfl rfl rfl) rfl rfl ?_
          refine l_off (gno rfl rfl rfl rfl rfl) rfl rfl ?_
          refine l_off (gno rfl rfl rfl rfl rfl) rfl rfl ?_
          refine l_off (gno rfl rfl rfl rfl rfl) rfl rfl ?_
          refine l_off (gno rfl rfl rfl rfl rfl) rfl rfl ?_
          refine l_off (gno rfl rfl rfl rfl rfl) rfl rfl ?_
          refine l_off (gno rfl rfl rfl rfl rfl) rfl rfl ?_
          refine l_off (gno rfl rfl rfl rfl rfl) rfl rfl ?_
          refine l_off (gno rfl rfl rfl rfl rfl) rfl rfl ?_
          refine l_off (gno rfl rfl rfl rfl rfl) rfl rfl ?_
          refine l_off (gno rfl rfl rfl rfl rfl) rfl rfl ?_
          refine l_off (gno rfl rfl rfl rfl rfl) rfl rfl ?_
          refine l_off (gno rfl rfl rfl rfl rfl) rfl rfl ?_
          refine l_v rfl (r_pickT rfl rfl rfl) ?_
          refine l_nil ?_
          refine c_condT rfl rfl ?_
          refine c_sr ?_
          refine l_v rfl (r_assign rfl) ?_
          refine l_nil ?_
          refine c_ret ?_
          refine ret1 rfl rfl ?_
          refine ⟨false, rfl, ⟨fun e => (by cases e), fun hok => ?_⟩, hM56.kp⟩
          have hu := hr58.2 ((rises2 S).2 hok.u2)
          rw [h59] at hu; cases hu
        ·skip
         refine l_off (gno rfl rfl rfl rfl (congrArg Bool.not h52)) rfl rfl ?_
         refine l_off (gno rfl rfl rfl rfl (congrArg Bool.not h52)) rfl rfl ?_
         refine l_off (gno rfl rfl rfl rfl (congrArg Bool.not h52)) rfl rfl ?_
         refine l_off (gno rfl rfl rfl rfl (congrArg Bool.not h52)) rfl rfl ?_
         refine l_off (gno rfl rfl rfl rfl (congrArg Bool.not h52)) rfl rfl ?_
         refine l_off (gno rfl rfl rfl rfl (congrArg Bool.not h52)) rfl rfl ?_
         refine l_off (gno rfl rfl rfl rfl (congrArg Bool.not h52)) rfl rfl ?_
         refine l_v rfl (r_pickT rfl (congrArg Bool.not h52) rfl) ?_
         refine l_v rfl (r_move rfl) ?_
         refine l_off (gno rfl rfl rfl rfl rfl) rfl rfl ?_
         refine l_off (gno rfl rfl rfl rfl rfl) rfl rfl ?_
         refine l_off (gno rfl rfl rfl rfl rfl) rfl rfl ?_
         refine l_off (gno rfl rfl rfl rfl rfl) rfl rfl ?_
         refine l_off (gno rfl rfl rfl rfl rfl) rfl rfl ?_
         refine l_off (gno rfl rfl rfl rfl rfl) rfl rfl ?_
         refine l_off (gno rfl rfl rfl rfl rfl) rfl rfl ?_
         refine l_off (gno rfl rfl rfl rfl rfl) rfl rfl ?_
         refine l_off (gno rfl rfl rfl rfl rfl) rfl rfl ?_
         refine l_off (gno rfl rfl rfl rfl rfl) rfl rfl ?_
         refine l_off (gno rfl rfl rfl rfl rfl) rfl rfl ?_
         refine l_v rfl (r_pickT rfl rfl rfl) ?_
         refine l_v rfl (r_move rfl) ?_
         refine l_off (gno rfl rfl rfl rfl rfl) rfl rfl ?_
         refine l_off (gno rfl rfl rfl rfl rfl) rfl rfl ?_
         refine l_off (gno rfl rfl rfl rfl rfl) rfl rfl ?_
         refine l_off (gno rfl rfl rfl rfl rfl) rfl rfl ?_
         refine l_off (gno rfl rfl rfl rfl rfl) rfl rfl ?_
         refine l_off (gno rfl rfl rfl rfl rfl) rfl rfl ?_
         refine l_off (gno rfl rfl rfl rfl rfl) rfl rfl ?_
         refine l_off (gno rfl rfl rfl rfl rfl) rfl rfl ?_
         refine l_off (gno rfl rfl rfl rfl rfl) rfl rfl ?_
         refine l_off (gno rfl rfl rfl rfl rfl) rfl rfl ?_
         refine l_off (gno rfl rfl rfl rfl rfl) rfl rfl ?_
         refine l_off (gno rfl rfl rfl rfl rfl) rfl rfl ?_
         refine l_off (gno rfl rfl rfl rfl rfl) rfl rfl ?_
         refine l_off (gno rfl rfl rfl rfl rfl) rfl rfl ?_
         refine l_off (gno rfl rfl rfl rfl rfl) rfl rfl ?_
         refine l_v rfl (r_pickT rfl rfl rfl) ?_
         refine l_nil ?_
         refine c_condT rfl rfl ?_
         refine c_sr ?_
         refine l_v rfl (r_assign rfl) ?_
         refine l_nil ?_
         refine c_ret ?_
         refine ret1 rfl rfl ?_
         refine ⟨false, rfl, ⟨fun e => (by cases e), fun hok => ?_⟩, hM49.kp⟩
         have hu := hr51.2 ((rises1 S).2 hok.u1)
         rw [h52] at hu; cases hu
end Go.Proofs.YtekhaogjmmmniaaGreat
