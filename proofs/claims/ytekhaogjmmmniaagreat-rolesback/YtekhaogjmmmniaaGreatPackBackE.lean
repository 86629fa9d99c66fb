/- Part 5 of the proof of RolesBackSaid: what the functions reached compute, in plain words and by walks through their code. No statement of the rows is proved here. -/
import Derived.Test.YtekhaogjmmmniaaGreatPackBackD
namespace Go.Proofs.YtekhaogjmmmniaaGreat
open Go Go.RowKit

/-- The lists' handles rise; none is too long. -/
structure Ups (S : State) : Prop where
  u1 : UpK Seat.key S.seats
  u2 : UpK Invite.key S.invites
  u3 : UpK Ask.key S.asks
  u4 : UpK Ban.key S.bans
  l1 : S.seats.length ≤ 40
  l2 : S.invites.length ≤ 40
  l3 : S.asks.length ≤ 40
  l4 : S.bans.length ≤ 40
theorem Ups.of {S : State} (h : OkState S) : Ups S := ⟨rising_up h.u1, rising_up h.u2, rising_up h.u3, rising_up h.u4, h.l1, h.l2, h.l3, h.l4⟩

/-- The cipher of somebody who has a seat. -/
def meOf (l : List Seat) (e : Pt) : Cipher := (getK Seat.key Seat.zero l e).who
def aloneB (l : List Seat) : Bool := decide (admins l = 1)
/-- Why somebody can't come in. -/
def newcE (S : State) (a : Action) (link : UInt8) (inv asked : Bool) : Nat :=
  cond (hasK Ban.key S.bans a.who.E) 193 (cond (hasK Seat.key S.seats a.who.E || (inv && hasK Invite.key S.invites a.who.E) || (asked && hasK Ask.key S.asks a.who.E)) 8
    (cond (!decide (link = 0) && !decide (S.acc.link = link)) 196 (cond (!decide (link = 0) && (decide (S.pass.length = 0) || !decide (S.pass = a.pass))) 194 0)))
def rightE (mine least : UInt8) : Nat := cond (decide (mine = 0) || decide (mine < least)) 191 0
/-- Has who asks the right? -/
def mayE (S : State) (by_ : Pt) (a : Action) (mine : UInt8) : Nat :=
  cond (decide (a.kind = 1) || decide (a.kind = 5) || decide (a.kind = 12)) (cond (decide (a.role = 2) && !decide (mine = 2)) 191 (rightE mine S.acc.members))
    (cond (decide (a.kind = 16)) (rightE mine S.acc.title)
      (cond (decide (a.kind = 4) || decide (a.kind = 6)) (rightE mine 1)
        (cond (decide (a.kind = 7) || decide (a.kind = 8) || decide (a.kind = 11)) 0
          (cond (decide (a.kind = 9) || decide (a.kind = 10)) (cond (decide (a.who.E = by_)) 0 195) (rightE mine 2)))))
def outS (S : State) (e : Pt) : State := { S with seats := outK Seat.key S.seats e }
def outI (S : State) (e : Pt) : State := { S with invites := outK Invite.key S.invites e }
def outA (S : State) (e : Pt) : State := { S with asks := outK Ask.key S.asks e }
def outB (S : State) (e : Pt) : State := { S with bans := outK Ban.key S.bans e }
def putS (S : State) (x : Seat) : State := { S with seats := putK Seat.key S.seats x }
def putI (S : State) (x : Invite) : State := { S with invites := putK Invite.key S.invites x }
def putA (S : State) (x : Ask) : State := { S with asks := putK Ask.key S.asks x }
def putB (S : State) (x : Ban) : State := { S with bans := putK Ban.key S.bans x }
/-- Their seat has another role. -/
def roleS (S : State) (e : Pt) (r : UInt8) : State := { S with seats := S.seats.set (posK Seat.key S.seats e) { getK Seat.key Seat.zero S.seats e with role := r } }
/-- Whom a ban takes out, and from where. -/
def banSt (S : State) (e : Pt) : State := cond (hasK Seat.key S.seats e) (outS S e) (cond (hasK Invite.key S.invites e) (outI (outS S e) e) (outA (outI (outS S e) e) e))
def banWho (S : State) (e : Pt) : Cipher :=
  cond (hasK Seat.key S.seats e) (getK Seat.key Seat.zero S.seats e).who (cond (hasK Invite.key S.invites e) (getK Invite.key Invite.zero S.invites e).who (getK Ask.key Ask.zero S.asks e).who)
/-- What is done by oneself, or to what waits, and to what a group is. -/
def moreS (S : State) (by_ : Pt) (a : Action) (mine : UInt8) : Nat × State :=
  cond (decide (a.kind = 4)) (cond (decide (mine = 2) && aloneB S.seats && decide (1 < S.seats.length)) (192, S) (0, outS S by_))
  (cond (decide (a.kind = 6)) (cond (hasK Invite.key S.invites a.E) (cond (!decide (mine = 2) && !decide ((getK Invite.key Invite.zero S.invites a.E).by_.E = by_)) (191, S) (0, outI S a.E)) (7, S))
  (cond (decide (a.kind = 7)) (cond (hasK Invite.key S.invites by_) (cond (decide (40 ≤ S.seats.length)) (9, outI S by_) (0, putS (outI S by_) ⟨(getK Invite.key Invite.zero S.invites by_).who, (getK Invite.key Invite.zero S.invites by_).role, a.ver⟩)) (7, outI S by_))
  (cond (decide (a.kind = 12)) (cond (hasK Ask.key S.asks a.E) (cond (decide (40 ≤ S.seats.length)) (9, outA S a.E) (0, putS (outA S a.E) ⟨(getK Ask.key Ask.zero S.asks a.E).who, a.role, a.ver⟩)) (7, outA S a.E))
  (cond (decide (a.kind = 8)) (cond (hasK Invite.key S.invites by_) 0 7, outI S by_)
  (cond (decide (a.kind = 11)) (cond (hasK Ask.key S.asks by_) 0 7, outA S by_)
  (cond (decide (a.kind = 13)) (cond (hasK Ask.key S.asks a.E) 0 7, outA S a.E)
  (cond (decide (a.kind = 15)) (cond (hasK Ban.key S.bans a.E) 0 7, outB S a.E)
  (cond (decide (a.kind = 14)) (cond (decide (a.E = by_)) (195, S) (cond (hasK Ban.key S.bans a.E) (8, S)
      (cond (hasK Seat.key S.seats a.E || hasK Invite.key S.invites a.E || hasK Ask.key S.asks a.E) (cond (decide (40 ≤ S.bans.length)) (9, banSt S a.E) (0, putB (banSt S a.E) ⟨banWho S a.E, meOf S.seats by_⟩)) (7, banSt S a.E))))
  (cond (decide (a.kind = 16)) (0, { S with title := a.title })
  (cond (decide (a.kind = 17)) (0, { S with acc := a.acc })
  (cond (decide (a.kind = 18)) (0, { S with pass := a.pass }) (0, S))))))))))))
def doS (S : State) (by_ : Pt) (a : Action) (mine : UInt8) : Nat × State :=
  cond (decide (a.kind = 1) || decide (a.kind = 9))
    (cond (decide (newcE S a (cond (decide (a.kind = 9)) 1 0) false false = 0)) (cond (decide (40 ≤ S.seats.length)) (9, S) (0, putS (outA (outI S a.who.E) a.who.E) ⟨a.who, cond (decide (a.kind = 9)) 1 a.role, a.ver⟩))
      (newcE S a (cond (decide (a.kind = 9)) 1 0) false false, S))
  (cond (decide (a.kind = 5)) (cond (decide (newcE S a 0 true false = 0)) (cond (decide (40 ≤ S.invites.length)) (9, S) (0, putI (outA S a.who.E) ⟨a.who, a.role, meOf S.seats by_⟩)) (newcE S a 0 true false, S))
  (cond (decide (a.kind = 10)) (cond (decide (newcE S a 2 true true = 0)) (cond (decide (40 ≤ S.asks.length)) (9, S) (0, putA S ⟨a.who, a.ver⟩)) (newcE S a 2 true true, S))
  (cond (decide (a.kind = 2)) (cond (hasK Seat.key S.seats a.E) (cond (decide (a.E = by_)) (195, S) (0, outS S a.E)) (7, S))
  (cond (decide (a.kind = 3)) (cond (hasK Seat.key S.seats a.E) (cond (decide ((getK Seat.key Seat.zero S.seats a.E).role = a.role)) (8, S)
      (cond (decide ((getK Seat.key Seat.zero S.seats a.E).role = 2) && aloneB S.seats) (192, S) (0, roleS S a.E a.role))) (7, S))
  (moreS S by_ a mine)))))
end Go.Proofs.YtekhaogjmmmniaaGreat
namespace Go.Proofs.YtekhaogjmmmniaaGreat
open Go Go.RowKit

theorem f109 {w : World} (x : Invite) (ok : Bool) : Ret 109 #[.agg x.cells, .bool ok] w (fun v w' => v = .int .i64 ((cond ok 0 7 : Nat) : Int) ∧ Keeps [] w w') := by
  have hM0 := Mem.start w
  refine enter Tryz.func109 rfl rfl ?_
  refine c_seq ?_
  refine c_reg ?_
  refine l_box hM0 rfl rfl ?_
  intro b1 w2 hM3 hK4 hB5
  replace hM3 : Mem w [] [(b1, (Invite.cells x), 82)] w2 := hM3
  refine l_val (gn rfl) rfl rfl (r_assign rfl) ?_
  refine l_nil ?_
  refine c_seq ?_
  refine c_seq ?_
  refine c_reg ?_
  refine l_val (gn rfl) rfl rfl (r_move rfl) ?_
  refine l_val (gn rfl) rfl rfl (r_not rfl) ?_
  refine l_nil ?_
  refine ways ok (fun h6 => ?_) (fun h6 => ?_)
  ·skip
   refine c_condF rfl (congrArg Bool.not h6) ?_
   refine c_skip ?_
   refine c_seq ?_
   refine c_reg ?_
   refine l_val (gn rfl) rfl rfl (r_assign rfl) ?_
   refine l_nil ?_
   refine c_ret ?_
   refine ret1 rfl rfl ?_
   exact ⟨by simp [*], hM3.kp⟩
  ·skip
   refine c_condT rfl (congrArg Bool.not h6) ?_
   refine c_seq ?_
   refine c_reg ?_
   refine l_val (gn rfl) rfl rfl (r_assign rfl) ?_
   refine l_nil ?_
   refine c_ret ?_
   refine ret1 rfl rfl ?_
   exact ⟨by simp [*], hM3.kp⟩
theorem f110 {w : World} (x : Ask) (ok : Bool) : Ret 110 #[.agg x.cells, .bool ok] w (fun v w' => v = .int .i64 ((cond ok 0 7 : Nat) : Int) ∧ Keeps [] w w') := by
  have hM0 := Mem.start w
  refine enter Tryz.func110 rfl rfl ?_
  refine c_seq ?_
  refine c_reg ?_
  refine l_box hM0 rfl rfl ?_
  intro b1 w2 hM3 hK4 hB5
  replace hM3 : Mem w [] [(b1, (Ask.cells x), 84)] w2 := hM3
  refine l_val (gn rfl) rfl rfl (r_assign rfl) ?_
  refine l_nil ?_
  refine c_seq ?_
  refine c_seq ?_
  refine c_reg ?_
  refine l_val (gn rfl) rfl rfl (r_move rfl) ?_
  refine l_val (gn rfl) rfl rfl (r_not rfl) ?_
  refine l_nil ?_
  refine ways ok (fun h6 => ?_) (fun h6 => ?_)
  ·skip
   refine c_condF rfl (congrArg Bool.not h6) ?_
   refine c_skip ?_
   refine c_seq ?_
   refine c_reg ?_
   refine l_val (gn rfl) rfl rfl (r_assign rfl) ?_
   refine l_nil ?_
   refine c_ret ?_
   refine ret1 rfl rfl ?_
   exact ⟨by simp [*], hM3.kp⟩
  ·skip
   refine c_condT rfl (congrArg Bool.not h6) ?_
   refine c_seq ?_
   refine c_reg ?_
   refine l_val (gn rfl) rfl rfl (r_assign rfl) ?_
   refine l_nil ?_
   refine c_ret ?_
   refine ret1 rfl rfl ?_
   exact ⟨by simp [*], hM3.kp⟩
theorem f111 {w : World} (x : Ban) (ok : Bool) : Ret 111 #[.agg x.cells, .bool ok] w (fun v w' => v = .int .i64 ((cond ok 0 7 : Nat) : Int) ∧ Keeps [] w w') := by
  have hM0 := Mem.start w
  refine enter Tryz.func111 rfl rfl ?_
  refine c_seq ?_
  refine c_reg ?_
  refine l_box hM0 rfl rfl ?_
  intro b1 w2 hM3 hK4 hB5
  replace hM3 : Mem w [] [(b1, (Ban.cells x), 86)] w2 := hM3
  refine l_val (gn rfl) rfl rfl (r_assign rfl) ?_
  refine l_nil ?_
  refine c_seq ?_
  refine c_seq ?_
  refine c_reg ?_
  refine l_val (gn rfl) rfl rfl (r_move rfl) ?_
  refine l_val (gn rfl) rfl rfl (r_not rfl) ?_
  refine l_nil ?_
  refine ways ok (fun h6 => ?_) (fun h6 => ?_)
  ·skip
   refine c_condF rfl (congrArg Bool.not h6) ?_
   refine c_skip ?_
   refine c_seq ?_
   refine c_reg ?_
   refine l_val (gn rfl) rfl rfl (r_assign rfl) ?_
   refine l_nil ?_
   refine c_ret ?_
   refine ret1 rfl rfl ?_
   exact ⟨by simp [*], hM3.kp⟩
  ·skip
   refine c_condT rfl (congrArg Bool.not h6) ?_
   refine c_seq ?_
   refine c_reg ?_
   refine l_val (gn rfl) rfl rfl (r_assign rfl) ?_
   refine l_nil ?_
   refine c_ret ?_
   refine ret1 rfl rfl ?_
   exact ⟨by simp [*], hM3.kp⟩
theorem f73 {w : World} {base b bx : Nat} {q : Six} {S : State} {qa : Two} {a : Action} {by_ : Pt} {mine : UInt8} (hx : Holds w bx 0 (StepR.cells ⟨b, by_, a.rep qa, mine⟩)) (hB : StB base w b q S) (hu : UpK Seat.key S.seats) (hh : hasK Seat.key S.seats by_ = true) : Ret 73 #[.pointer (some ⟨bx, 0, none⟩)] w (fun v w' => v = .agg (meOf S.seats by_).cells ∧ Keeps [] w w') := by
  obtain ⟨xm, hxm, hkm, hfm⟩ := has_find hu hh
  have hgm : getK Seat.key Seat.zero S.seats by_ = xm := getK_of hfm
  have hM0 := Mem.start w
  refine enter Tryz.func73 rfl rfl ?_
  refine c_seq ?_
  refine c_reg ?_
  refine l_alloc hM0 rfl Cipher.zv ?_
  intro b1 w2 hM3 hK4 hB5
  replace hM3 : Mem w [] [(b1, (Cipher.cells Cipher.zero), 40)] w2 := hM3
  refine l_nil ?_
  refine c_seq ?_
  refine c_regD (Mem w [] [(b1, (Cipher.cells Cipher.zero), 40)]) [] [(0, true), (1, true), (2, true), (3, true), (5, true), (6, true), (7, true), (8, true), (4, false), (9, false), (10, true), (11, true), (12, true), (13, true), (14, true)] (by kernel_rfl) ?_
  have hM6 := hM3.drew
  refine s_take hM6 rfl (gn rfl) rfl rfl (fun w h => r_move rfl) ?_
  refine s_take hM6 rfl (gn rfl) rfl rfl (fun w h => r_nilCheck rfl) ?_
  refine s_take hM6 rfl (gn rfl) rfl rfl (fun w h => r_fieldAddr StepR.fld_b rfl) ?_
  refine s_take hM6 rfl (gn rfl) rfl rfl (fun w h => r_load1 (v := Value.pointer (some ⟨b, 0, none⟩)) Tryz.isAgg77 rfl (Holds.sub (hx.keep h.kp (by simp)) (StepR.sub_b _))) ?_
  refine s_take hM6 rfl (gn rfl) rfl rfl (fun w h => r_move rfl) ?_
  refine s_take hM6 rfl (gn rfl) rfl rfl (fun w h => r_nilCheck rfl) ?_
  refine s_take hM6 rfl (gn rfl) rfl rfl (fun w h => r_fieldAddr StepR.fld_by_ rfl) ?_
  refine s_take hM6 rfl (gn rfl) rfl rfl (fun w h => r_loadA Tryz.isAgg24 Tryz.sizeOf24 (Pt.size _) rfl (Holds.sub (hx.keep h.kp (by simp)) (StepR.sub_by_ _))) ?_
  refine s_call rfl (gn rfl) rfl rfl (r_call Tryz.call63 rfl) (f63 _) ?_
  rintro v8 w9 ⟨rfl, hK10⟩
  have hM11 := hM6.keep hK10
  refine ⟨.inr hM11, ?_⟩
  refine s_call rfl (gn rfl) rfl rfl (r_call Tryz.call78 rfl) (f78 (Holds.sub (hB.keep0 hM11.kp).hd (SRep.sub_seats _)) (hB.keep0 hM11.kp).own.stv.seats hu by_) ?_
  rintro v12 w13 ⟨rfl, hK14⟩
  have hM15 := hM11.keep hK14
  refine ⟨.inr hM15, ?_⟩
  refine s_take hM15 rfl (gn rfl) rfl rfl (fun w h => r_move rfl) ?_
  refine s_take hM15 rfl (gn rfl) rfl rfl (fun w h => r_extract rfl rfl) ?_
  refine s_take hM15 rfl (gn rfl) rfl rfl (fun w h => r_extract rfl rfl) ?_
  refine s_take hM15 rfl (gn rfl) rfl rfl (fun w h => r_assign rfl) ?_
  refine s_take hM15 rfl (gn rfl) rfl rfl (fun w h => r_assign rfl) ?_
  refine s_nil ?_
  refine c_seq ?_
  refine c_reg ?_
  refine l_val (gn rfl) rfl rfl (r_move rfl) ?_
  refine l_val (gn rfl) rfl rfl (r_nilCheck rfl) ?_
  refine l_val (gn rfl) rfl rfl (r_fieldAddr StepR.fld_b rfl) ?_
  refine l_val (gn rfl) rfl rfl (r_load1 (v := Value.pointer (some ⟨b, 0, none⟩)) Tryz.isAgg77 rfl (Holds.sub (hx.keep hM15.kp (by simp)) (StepR.sub_b _))) ?_
  refine l_val (gn rfl) rfl rfl (r_nilCheck rfl) ?_
  refine l_val (gn rfl) rfl rfl (r_fieldAddr SRep.fld_seats rfl) ?_
  refine l_val (gn rfl) rfl rfl (r_load1 (v := Sl.val q.s) Tryz.isAgg32 rfl (Holds.sub (hB.keep0 hM15.kp).hd (SRep.sub_seats _))) ?_
  refine l_val (gn rfl) rfl rfl (r_move rfl) ?_
  have hlt16 : (posK Seat.key S.seats by_) < S.seats.length := (List.getElem?_eq_some_iff.1 hxm).1
  obtain ⟨p16, o16, ha16, hA16, -⟩ := (hB.keep0 hM15.kp).own.stv.seats.at_ _ _ hxm
  refine l_val (gn rfl) rfl rfl (r_indexR Tryz.underlying32 Tryz.sizeOf73 ⟨_, (hB.keep0 hM15.kp).own.stv.seats⟩ rfl ha16 rfl hlt16) ?_
  refine l_val (gn rfl) rfl rfl (r_fieldAddr Seat.fld_who rfl) ?_
  refine l_val (gn rfl) rfl rfl (r_loadA Tryz.isAgg40 Tryz.sizeOf40 (Cipher.size _) rfl (Holds.sub ((hB.keep0 hM15.kp).own.stv.seats.ix hxm ha16) (Seat.sub_who _))) ?_
  refine l_store hM15 (i := 0) rfl Tryz.sizeOf40 rfl rfl (Cipher.size _) (by rw [Cipher.size]; decide) (Cipher.one _) (put_whole _ _ ((Cipher.size _).trans (Cipher.size _).symm)) ?_
  intro w17 hM18 hK19
  replace hM18 : Mem w [] [(b1, (Cipher.cells xm.who), 40)] w17 := hM18
  refine l_nil ?_
  refine c_ret ?_
  refine retC rfl Tryz.isAgg40 Tryz.sizeOf40 (Cipher.size _) rfl (hM18.base (i := 0) rfl) ?_
  exact ⟨by rw [meOf, hgm], hM18.kp⟩
theorem f79 {w : World} {base b bx : Nat} {q : Six} {S : State} {qa : Two} {a : Action} {by_ : Pt} {mine : UInt8} (hx : Holds w bx 0 (StepR.cells ⟨b, by_, a.rep qa, mine⟩)) (hB : StB base w b q S) : Ret 79 #[.pointer (some ⟨bx, 0, none⟩)] w (fun v w' => v = .bool (aloneB S.seats) ∧ Keeps [] w w') := by
  have hn : S.seats.length ≤ 140737488355328 := hB.own.stv.seats.bd
  have hM0 := Mem.start w
  refine enter Tryz.func79 rfl rfl ?_
  refine c_seq ?_
  refine c_reg ?_
  refine l_val (gn rfl) rfl rfl (r_assign rfl) ?_
  refine l_nil ?_
  refine c_seq ?_
  refine c_reg ?_
  refine l_val (gn rfl) rfl rfl (r_assign rfl) ?_
  refine l_nil ?_
  refine c_seq ?_
  refine c_seq ?_
  refine c_reg ?_
  refine l_val (gn rfl) rfl rfl (r_move rfl) ?_
  refine l_val (gn rfl) rfl rfl (r_nilCheck rfl) ?_
  refine l_val (gn rfl) rfl rfl (r_fieldAddr StepR.fld_b rfl) ?_
  refine l_val (gn rfl) rfl rfl (r_load1 (v := Value.pointer (some ⟨b, 0, none⟩)) Tryz.isAgg77 rfl (Holds.sub (hx.keep hM0.kp (by simp)) (StepR.sub_b _))) ?_
  refine l_val (gn rfl) rfl rfl (r_nilCheck rfl) ?_
  refine l_val (gn rfl) rfl rfl (r_fieldAddr SRep.fld_seats rfl) ?_
  refine l_val (gn rfl) rfl rfl (r_load1 (v := Sl.val q.s) Tryz.isAgg32 rfl (Holds.sub (hB.keep0 hM0.kp).hd (SRep.sub_seats _))) ?_
  refine l_val (gn rfl) rfl rfl (r_lenR Tryz.underlying32 rfl (hB.keep0 hM0.kp).own.stv.seats.len) ?_
  refine l_val (gn rfl) rfl rfl (r_move rfl) ?_
  refine l_nil ?_
  refine c_block ?_
  refine c_loop (ι := Nat) (fun k w_ => Mem w [] [] w_ ∧ (k ≤ S.seats.length ∧ admins (S.seats.take k) ≤ k)) (fun k => [(0, Value.pointer (some ⟨bx, 0, none⟩)), (2, Value.bool false), (12, Sl.val q.s), (13, Value.int .i64 ((S.seats.length : Nat) : Int)), (14, Value.int .i64 ((k : Nat) : Int)), (3, Value.int .i64 ((admins (S.seats.take k) : Nat) : Int))]) (fun k => S.seats.length - k) 0 ⟨hM0, Nat.zero_le _, by simp [admins]⟩ ⟨rfl, rfl, rfl, rfl, rfl, rfl, trivial⟩ ?_
  rintro k w1 ⟨hM2, hk, hc⟩
  refine c_seq ?_
  refine c_reg ?_
  refine l_val (gn rfl) rfl rfl (r_lss (b := decide ((k : Nat) < S.seats.length)) rfl rfl (nlt k S.seats.length)) ?_
  refine l_nil ?_
  refine c_seq ?_
  refine ways (decide ((k : Nat) < S.seats.length)) (fun h3 => ?_) (fun h3 => ?_)
  ·skip
   have hp4 : (k : Nat) < S.seats.length := of_decide_eq_true h3
   refine c_condT rfl h3 ?_
   refine c_skip ?_
   refine c_seq ?_
   refine c_block ?_
   refine c_seq ?_
   refine c_reg ?_
   have hlt5 : k < S.seats.length := by first | assumption | omega
   obtain ⟨x5, hx5⟩ : ∃ x, S.seats[k]? = some x := ⟨_, List.getElem?_eq_getElem hlt5⟩
   obtain ⟨p5, o5, ha5, hA5, -⟩ := (hB.keep0 hM2.kp).own.stv.seats.at_ _ _ hx5
   refine l_val (gn rfl) rfl rfl (r_indexR Tryz.underlying32 Tryz.sizeOf73 ⟨_, (hB.keep0 hM2.kp).own.stv.seats⟩ rfl ha5 rfl hlt5) ?_
   refine l_val (gn rfl) rfl rfl (r_loadA Tryz.isAgg73 Tryz.sizeOf73 (Seat.size _) rfl ((hB.keep0 hM2.kp).own.stv.seats.ix hx5 ha5)) ?_
   refine l_alloc hM2 rfl Seat.zv ?_
   intro b6 w7 hM8 hK9 hB10
   replace hM8 : Mem w [] [(b6, (Seat.cells Seat.zero), 73)] w7 := hM8
   refine l_store hM8 (i := 0) rfl Tryz.sizeOf73 rfl rfl (Seat.size _) (by rw [Seat.size]; decide) (Seat.one _) (put_whole _ _ ((Seat.size _).trans (Seat.size _).symm)) ?_
   intro w11 hM12 hK13
   replace hM12 : Mem w [] [(b6, (Seat.cells x5), 73)] w11 := hM12
   refine l_nil ?_
   refine c_seq ?_
   refine c_reg ?_
   refine l_val (gn rfl) rfl rfl (r_fieldAddr Seat.fld_role rfl) ?_
   refine l_val (gn rfl) rfl rfl (r_load1 (v := vU8 x5.role) Tryz.isAgg28 rfl (Holds.sub (hM12.base (i := 0) rfl) (Seat.sub_role _))) ?_
   refine l_val (gn rfl) rfl rfl (r_eql (b := decide ((x5.role : UInt8) = 2)) rfl rfl (u8eq x5.role 2)) ?_
   refine l_nil ?_
   refine ways (decide ((x5.role : UInt8) = 2)) (fun h14 => ?_) (fun h14 => ?_)
   ·skip
    have hp15 : (x5.role : UInt8) = 2 := of_decide_eq_true h14
    refine c_condT rfl h14 ?_
    refine c_reg ?_
    refine l_val (gn rfl) rfl rfl (r_move rfl) ?_
    refine l_val (gn rfl) rfl rfl (r_add (r := (((admins (S.seats.take k)) + 1 : Nat) : Int)) rfl rfl (nadd (i := admins (S.seats.take k)) (k := 1) (m := (admins (S.seats.take k)) + 1) (by omega) (by omega))) ?_
    refine l_val (gn rfl) rfl rfl (r_assign rfl) ?_
    refine l_nil ?_
    refine c_reg ?_
    refine l_val (gn rfl) rfl rfl (r_add (r := ((k + 1 : Nat) : Int)) rfl rfl (nadd (i := k) (k := 1) (m := k + 1) (by omega) (by omega))) ?_
    refine l_val (gn rfl) rfl rfl (r_move rfl) ?_
    refine l_nil ?_
    intro a_ ha_
    refine ⟨k + 1, ⟨(hM12.forget (.cons _ (.refl _))), ?_⟩, by omega, ha_.sub ⟨rfl, rfl, rfl, rfl, rfl, (show some (Value.int .i64 (((admins (S.seats.take k)) + 1 : Nat) : Int)) = some (Value.int .i64 ((admins (S.seats.take (k + 1)) : Nat) : Int)) from by rw [admins_step hx5]; simp [isAdmin, *]), trivial⟩⟩
    exact ⟨by omega, by rw [admins_step hx5]; split <;> omega⟩
   ·skip
    have hp16 : ¬ ((x5.role : UInt8) = 2) := of_decide_eq_false h14
    refine c_condF rfl h14 ?_
    refine c_skip ?_
    refine c_reg ?_
    refine l_val (gn rfl) rfl rfl (r_add (r := ((k + 1 : Nat) : Int)) rfl rfl (nadd (i := k) (k := 1) (m := k + 1) (by omega) (by omega))) ?_
    refine l_val (gn rfl) rfl rfl (r_move rfl) ?_
    refine l_nil ?_
    intro a_ ha_
    refine ⟨k + 1, ⟨(hM12.forget (.cons _ (.refl _))), ?_⟩, by omega, ha_.sub ⟨rfl, rfl, rfl, rfl, rfl, (show some (Value.int .i64 ((admins (S.seats.take k) : Nat) : Int)) = some (Value.int .i64 ((admins (S.seats.take (k + 1)) : Nat) : Int)) from by rw [admins_step hx5]; simp [isAdmin, *]), trivial⟩⟩
    exact ⟨by omega, by rw [admins_step hx5]; split <;> omega⟩
  ·skip
   have hp17 : ¬ ((k : Nat) < S.seats.length) := of_decide_eq_false h3
   refine c_condF rfl h3 ?_
   refine c_exit rfl ?_
   refine c_seq ?_
   refine c_reg ?_
   refine l_val (gn rfl) rfl rfl (r_move rfl) ?_
   refine l_val (gn rfl) rfl rfl (r_eql (b := decide ((admins (S.seats.take k) : Nat) = 1)) rfl rfl (neq' (admins (S.seats.take k)) 1)) ?_
   refine l_val (gn rfl) rfl rfl (r_assign rfl) ?_
   refine l_nil ?_
   refine c_ret ?_
   refine ret1 rfl rfl ?_
   exact ⟨by rw [List.take_of_length_le (by omega)]; rfl, hM2.kp⟩
theorem f66 {w : World} {base b bx : Nat} {q : Six} {S : State} {qa : Two} {a : Action} {by_ : Pt} {mine : UInt8} (hx : Holds w bx 0 (StepR.cells ⟨b, by_, a.rep qa, mine⟩)) (hB : StB base w b q S) {A : Nat → Prop} (hA : AcV A w qa a) (hU : Ups S) (link : UInt8) (inv asked : Bool) : Ret 66 #[.pointer (some ⟨bx, 0, none⟩), vU8 link, .bool inv, .bool asked] w (fun v w' => v = .int .i64 ((newcE S a link inv asked : Nat) : Int) ∧ Keeps [] w w') := by
  have hM0 := Mem.start w
  refine enter Tryz.func66 rfl rfl ?_
  refine c_seq ?_
  refine c_reg ?_
  refine l_val (gn rfl) rfl rfl (r_assign rfl) ?_
  refine l_nil ?_
  refine c_seq ?_
  refine c_reg ?_
  refine l_val (gn rfl) rfl rfl (r_move rfl) ?_
  refine l_val (gn rfl) rfl rfl (r_nilCheck rfl) ?_
  refine l_val (gn rfl) rfl rfl (r_fieldAddr StepR.fld_a rfl) ?_
  refine l_val (gn rfl) rfl rfl (r_fieldAddr ARep.fld_who rfl) ?_
  refine l_val (gn rfl) rfl rfl (r_fieldAddr Cipher.fld_E rfl) ?_
  refine l_val (gn rfl) rfl rfl (r_loadA Tryz.isAgg24 Tryz.sizeOf24 (Pt.size _) rfl (Holds.sub (Holds.sub (Holds.sub (hx.keep hM0.kp (by simp)) (StepR.sub_a _)) (ARep.sub_who _)) (Cipher.sub_E _))) ?_
  refine l_alloc hM0 rfl zv_Pt ?_
  intro b1 w2 hM3 hK4 hB5
  replace hM3 : Mem w [] [(b1, (Pt.cells Pt.zero), 24)] w2 := hM3
  refine l_store hM3 (i := 0) rfl Tryz.sizeOf24 rfl rfl (Pt.size _) (by rw [Pt.size]; decide) (Pt.one _) (put_whole _ _ ((Pt.size _).trans (Pt.size _).symm)) ?_
  intro w6 hM7 hK8
  replace hM7 : Mem w [] [(b1, (Pt.cells a.who.E), 24)] w6 := hM7
  refine l_nil ?_
  refine c_seq ?_
  refine c_block ?_
  refine c_seq ?_
  refine c_regD (Mem w [] [(b1, (Pt.cells a.who.E), 24)]) [] [(0, true), (1, true), (2, true), (3, true), (5, true), (4, false), (6, false), (7, true)] (by kernel_rfl) ?_
  have hM9 := hM7.drew
  refine s_take hM9 rfl (gn rfl) rfl rfl (fun w h => r_move rfl) ?_
  refine s_take hM9 rfl (gn rfl) rfl rfl (fun w h => r_nilCheck rfl) ?_
  refine s_take hM9 rfl (gn rfl) rfl rfl (fun w h => r_fieldAddr StepR.fld_b rfl) ?_
  refine s_take hM9 rfl (gn rfl) rfl rfl (fun w h => r_load1 (v := Value.pointer (some ⟨b, 0, none⟩)) Tryz.isAgg77 rfl (Holds.sub (hx.keep h.kp (by simp)) (StepR.sub_b _))) ?_
  refine s_take hM9 rfl (gn rfl) rfl rfl (fun w h => r_loadA Tryz.isAgg24 Tryz.sizeOf24 (Pt.size _) rfl (h.base (i := 0) rfl)) ?_
  refine s_call rfl (gn rfl) rfl rfl (r_call Tryz.call94 rfl) (f94 _) ?_
  rintro v11 w12 ⟨rfl, hK13⟩
  have hM14 := hM9.keep hK13
  refine ⟨.inr hM14, ?_⟩
  refine s_call rfl (gn rfl) rfl rfl (r_call Tryz.call95 rfl) (f95 (Holds.sub (hB.keep0 hM14.kp).hd (SRep.sub_bans _)) (hB.keep0 hM14.kp).own.stv.bans hU.u4 a.who.E) ?_
  rintro v15 w16 ⟨rfl, hK17⟩
  have hM18 := hM14.keep hK17
  refine ⟨.inr hM18, ?_⟩
  refine s_take hM18 rfl (gn rfl) rfl rfl (fun w h => r_assign rfl) ?_
  refine s_nil ?_
  refine ways (hasK Ban.key S.bans a.who.E) (fun h19 => ?_) (fun h19 => ?_)
  ·skip
   refine c_condT rfl h19 ?_
   refine c_seq ?_
   refine c_reg ?_
   refine l_val (gn rfl) rfl rfl (r_assign rfl) ?_
   refine l_nil ?_
   refine c_ret ?_
   refine ret1 rfl rfl ?_
   exact ⟨by simp only [newcE, h19, cond_true] <;> rfl, hM18.kp⟩
  ·skip
   refine c_condF rfl h19 ?_
   refine c_seq ?_
   refine c_seq ?_
   refine c_regD (Mem w [] [(b1, (Pt.cells a.who.E), 24)]) [] [(0, true), (1, true), (2, true), (3, true), (5, true), (4, false), (6, false), (7, true)] (by kernel_rfl) ?_
   have hM20 := hM18.drew
   refine s_take hM20 rfl (gn rfl) rfl rfl (fun w h => r_move rfl) ?_
   refine s_take hM20 rfl (gn rfl) rfl rfl (fun w h => r_nilCheck rfl) ?_
   refine s_take hM20 rfl (gn rfl) rfl rfl (fun w h => r_fieldAddr StepR.fld_b rfl) ?_
   refine s_take hM20 rfl (gn rfl) rfl rfl (fun w h => r_load1 (v := Value.pointer (some ⟨b, 0, none⟩)) Tryz.isAgg77 rfl (Holds.sub (hx.keep h.kp (by simp)) (StepR.sub_b _))) ?_
   refine s_take hM20 rfl (gn rfl) rfl rfl (fun w h => r_loadA Tryz.isAgg24 Tryz.sizeOf24 (Pt.size _) rfl (h.base (i := 0) rfl)) ?_
   refine s_call rfl (gn rfl) rfl rfl (r_call Tryz.call63 rfl) (f63 _) ?_
   rintro v22 w23 ⟨rfl, hK24⟩
   have hM25 := hM20.keep hK24
   refine ⟨.inr hM25, ?_⟩
   refine s_call rfl (gn rfl) rfl rfl (r_call Tryz.call76 rfl) (f76 (Holds.sub (hB.keep0 hM25.kp).hd (SRep.sub_seats _)) (hB.keep0 hM25.kp).own.stv.seats hU.u1 a.who.E) ?_
   rintro v26 w27 ⟨rfl, hK28⟩
   have hM29 := hM25.keep hK28
   refine ⟨.inr hM29, ?_⟩
   refine s_take hM29 rfl (gn rfl) rfl rfl (fun w h => r_assign rfl) ?_
   refine s_nil ?_
   refine c_join (ι := Unit) (fun _ w_ => Mem w [] [(b1, (Pt.cells a.who.E), 24)] w_) (fun _ => [(0, Value.pointer (some ⟨bx, 0, none⟩)), (1, vU8 link), (2, Value.bool inv), (3, Value.bool asked), (8, Value.int .i64 ((0 : Nat) : Int)), (9, Value.pointer (some ⟨b1, 0, none⟩)), (16, Value.bool (hasK Ban.key S.bans a.who.E)), (24, Value.bool ((hasK Seat.key S.seats a.who.E || (inv && hasK Invite.key S.invites a.who.E) || (asked && hasK Ask.key S.asks a.who.E))))]) ?_ ?_
   ·skip
    refine ways (hasK Seat.key S.seats a.who.E) (fun h30 => ?_) (fun h30 => ?_)
    ·skip
     refine c_condT rfl h30 ?_
     refine c_skip ?_
     exact jn () hM29 ⟨rfl, rfl, rfl, rfl, rfl, rfl, rfl, okB (by simp only [h30, Bool.true_or]), trivial⟩
    ·skip
     refine c_condF rfl h30 ?_
     refine c_seq ?_
     refine c_regD (Mem w [] [(b1, (Pt.cells a.who.E), 24)]) [] [(0, true), (1, true), (2, true), (3, true), (4, true), (5, true), (7, true), (6, false), (8, false), (9, true), (10, true)] (by kernel_rfl) ?_
     have hM31 := hM29.drew
     refine s_take hM31 rfl (gn rfl) rfl rfl (fun w h => r_move rfl) ?_
     refine s_take hM31 rfl (gn rfl) rfl rfl (fun w h => r_move rfl) ?_
     refine ways inv (fun h33 => ?_) (fun h33 => ?_)
     ·skip
      refine s_take hM31 rfl (gy rfl rfl rfl rfl h33) rfl rfl (fun w h => r_move rfl) ?_
      refine s_take hM31 rfl (gy rfl rfl rfl rfl h33) rfl rfl (fun w h => r_nilCheck rfl) ?_
      refine s_take hM31 rfl (gy rfl rfl rfl rfl h33) rfl rfl (fun w h => r_fieldAddr StepR.fld_b rfl) ?_
      refine s_take hM31 rfl (gy rfl rfl rfl rfl h33) rfl rfl (fun w h => r_load1 (v := Value.pointer (some ⟨b, 0, none⟩)) Tryz.isAgg77 rfl (Holds.sub (hx.keep h.kp (by simp)) (StepR.sub_b _))) ?_
      refine s_take hM31 rfl (gy rfl rfl rfl rfl h33) rfl rfl (fun w h => r_loadA Tryz.isAgg24 Tryz.sizeOf24 (Pt.size _) rfl (h.base (i := 0) rfl)) ?_
      refine s_call rfl (gy rfl rfl rfl rfl h33) rfl rfl (r_call Tryz.call64 rfl) (f64 _) ?_
      rintro v34 w35 ⟨rfl, hK36⟩
      have hM37 := hM31.keep hK36
      refine ⟨.inr hM37, ?_⟩
      refine s_call rfl (gy rfl rfl rfl rfl h33) rfl rfl (r_call Tryz.call96 rfl) (f96 (Holds.sub (hB.keep0 hM37.kp).hd (SRep.sub_invites _)) (hB.keep0 hM37.kp).own.stv.invites hU.u2 a.who.E) ?_
      rintro v38 w39 ⟨rfl, hK40⟩
      have hM41 := hM37.keep hK40
      refine ⟨.inr hM41, ?_⟩
      refine s_take hM41 rfl (gn rfl) rfl rfl (fun w h => r_pickT rfl h33 rfl) ?_
      refine s_take hM41 rfl (gn rfl) rfl rfl (fun w h => r_assign rfl) ?_
      refine s_nil ?_
      refine ways (hasK Invite.key S.invites a.who.E) (fun h42 => ?_) (fun h42 => ?_)
      ·skip
       refine c_condT rfl h42 ?_
       refine c_skip ?_
       exact jn () hM41 ⟨rfl, rfl, rfl, rfl, rfl, rfl, rfl, okB (by simp only [h30, h33, h42, Bool.and_true, Bool.true_or, Bool.or_true]), trivial⟩
      ·skip
       refine c_condF rfl h42 ?_
       refine c_regD (Mem w [] [(b1, (Pt.cells a.who.E), 24)]) [] [(0, true), (1, true), (2, true), (3, true), (4, true), (5, true), (7, true), (6, false), (8, false), (9, true), (10, true)] (by kernel_rfl) ?_
       have hM43 := hM41.drew
       refine s_take hM43 rfl (gn rfl) rfl rfl (fun w h => r_move rfl) ?_
       refine s_take hM43 rfl (gn rfl) rfl rfl (fun w h => r_move rfl) ?_
       refine ways asked (fun h45 => ?_) (fun h45 => ?_)
       ·skip
        refine s_take hM43 rfl (gy rfl rfl rfl rfl h45) rfl rfl (fun w h => r_move rfl) ?_
        refine s_take hM43 rfl (gy rfl rfl rfl rfl h45) rfl rfl (fun w h => r_nilCheck rfl) ?_
        refine s_take hM43 rfl (gy rfl rfl rfl rfl h45) rfl rfl (fun w h => r_fieldAddr StepR.fld_b rfl) ?_
        refine s_take hM43 rfl (gy rfl rfl rfl rfl h45) rfl rfl (fun w h => r_load1 (v := Value.pointer (some ⟨b, 0, none⟩)) Tryz.isAgg77 rfl (Holds.sub (hx.keep h.kp (by simp)) (StepR.sub_b _))) ?_
        refine s_take hM43 rfl (gy rfl rfl rfl rfl h45) rfl rfl (fun w h => r_loadA Tryz.isAgg24 Tryz.sizeOf24 (Pt.size _) rfl (h.base (i := 0) rfl)) ?_
        refine s_call rfl (gy rfl rfl rfl rfl h45) rfl rfl (r_call Tryz.call65 rfl) (f65 _) ?_
        rintro v46 w47 ⟨rfl, hK48⟩
        have hM49 := hM43.keep hK48
        refine ⟨.inr hM49, ?_⟩
        refine s_call rfl (gy rfl rfl rfl rfl h45) rfl rfl (r_call Tryz.call97 rfl) (f97 (Holds.sub (hB.keep0 hM49.kp).hd (SRep.sub_asks _)) (hB.keep0 hM49.kp).own.stv.asks hU.u3 a.who.E) ?_
        rintro v50 w51 ⟨rfl, hK52⟩
        have hM53 := hM49.keep hK52
        refine ⟨.inr hM53, ?_⟩
        refine s_take hM53 rfl (gn rfl) rfl rfl (fun w h => r_pickT rfl h45 rfl) ?_
        refine s_take hM53 rfl (gn rfl) rfl rfl (fun w h => r_assign rfl) ?_
        refine s_nil ?_
        exact jn () hM53 ⟨rfl, rfl, rfl, rfl, rfl, rfl, rfl, okB (by simp only [h30, h33, h42, h45, Bool.true_and, Bool.and_false, Bool.false_or, Bool.or_false]), trivial⟩
       ·skip
        refine s_off hM43 rfl (gno rfl rfl rfl rfl h45) rfl rfl ?_
        refine s_off hM43 rfl (gno rfl rfl rfl rfl h45) rfl rfl ?_
        refine s_off hM43 rfl (gno rfl rfl rfl rfl h45) rfl rfl ?_
        refine s_off hM43 rfl (gno rfl rfl rfl rfl h45) rfl rfl ?_
        refine s_off hM43 rfl (gno rfl rfl rfl rfl h45) rfl rfl ?_
        refine s_offx (.inr hM43) rfl (gno rfl rfl rfl rfl h45) rfl rfl ?_
        refine s_offx (.inr hM43) rfl (gno rfl rfl rfl rfl h45) rfl rfl ?_
        refine s_take hM43 rfl (gn rfl) rfl rfl (fun w h => r_pickF rfl h45 rfl) ?_
        refine s_take hM43 rfl (gn rfl) rfl rfl (fun w h => r_assign rfl) ?_
        refine s_nil ?_
        exact jn () hM43 ⟨rfl, rfl, rfl, rfl, rfl, rfl, rfl, okB (by simp only [h30, h33, h42, h45, Bool.false_and, Bool.and_false, Bool.or_false]), trivial⟩
     ·skip
      refine s_off hM31 rfl (gno rfl rfl rfl rfl h33) rfl rfl ?_
      refine s_off hM31 rfl (gno rfl rfl rfl rfl h33) rfl rfl ?_
      refine s_off hM31 rfl (gno rfl rfl rfl rfl h33) rfl rfl ?_
      refine s_off hM31 rfl (gno rfl rfl rfl rfl h33) rfl rfl ?_
      refine s_off hM31 rfl (gno rfl rfl rfl rfl h33) rfl rfl ?_
      refine s_offx (.inr hM31) rfl (gno rfl rfl rfl rfl h33) rfl rfl ?_
      refine s_offx (.inr hM31) rfl (gno rfl rfl rfl rfl h33) rfl rfl ?_
      refine s_take hM31 rfl (gn rfl) rfl rfl (fun w h => r_pickF rfl h33 rfl) ?_
      refine s_take hM31 rfl (gn rfl) rfl rfl (fun w h => r_assign rfl) ?_
      refine s_nil ?_
      refine c_condF rfl rfl ?_
      refine c_regD (Mem w [] [(b1, (Pt.cells a.who.E), 24)]) [] [(0, true), (1, true), (2, true), (3, true), (4, true), (5, true), (7, true), (6, false), (8, false), (9, true), (10, true)] (by kernel_rfl) ?_
      have hM54 := hM31.drew
      refine s_take hM54 rfl (gn rfl) rfl rfl (fun w h => r_move rfl) ?_
      refine s_take hM54 rfl (gn rfl) rfl rfl (fun w h => r_move rfl) ?_
      refine ways asked (fun h56 => ?_) (fun h56 => ?_)
      ·skip
       refine s_take hM54 rfl (gy rfl rfl rfl rfl h56) rfl rfl (fun w h => r_move rfl) ?_
       refine s_take hM54 rfl (gy rfl rfl rfl rfl h56) rfl rfl (fun w h => r_nilCheck rfl) ?_
       refine s_take hM54 rfl (gy rfl rfl rfl rfl h56) rfl rfl (fun w h => r_fieldAddr StepR.fld_b rfl) ?_
       refine s_take hM54 rfl (gy rfl rfl rfl rfl h56) rfl rfl (fun w h => r_load1 (v := Value.pointer (some ⟨b, 0, none⟩)) Tryz.isAgg77 rfl (Holds.sub (hx.keep h.kp (by simp)) (StepR.sub_b _))) ?_
       refine s_take hM54 rfl (gy rfl rfl rfl rfl h56) rfl rfl (fun w h => r_loadA Tryz.isAgg24 Tryz.sizeOf24 (Pt.size _) rfl (h.base (i := 0) rfl)) ?_
       refine s_call rfl (gy rfl rfl rfl rfl h56) rfl rfl (r_call Tryz.call65 rfl) (f65 _) ?_
       rintro v57 w58 ⟨rfl, hK59⟩
       have hM60 := hM54.keep hK59
       refine ⟨.inr hM60, ?_⟩
       refine s_call rfl (gy rfl rfl rfl rfl h56) rfl rfl (r_call Tryz.call97 rfl) (f97 (Holds.sub (hB.keep0 hM60.kp).hd (SRep.sub_asks _)) (hB.keep0 hM60.kp).own.stv.asks hU.u3 a.who.E) ?_
       rintro v61 w62 ⟨rfl, hK63⟩
       have hM64 := hM60.keep hK63
       refine ⟨.inr hM64, ?_⟩
       refine s_take hM64 rfl (gn rfl) rfl rfl (fun w h => r_pickT rfl h56 rfl) ?_
       refine s_take hM64 rfl (gn rfl) rfl rfl (fun w h => r_assign rfl) ?_
       refine s_nil ?_
       exact jn () hM64 ⟨rfl, rfl, rfl, rfl, rfl, rfl, rfl, okB (by simp only [h30, h33, h56, Bool.true_and, Bool.false_and, Bool.false_or, Bool.or_false]), trivial⟩
      ·skip
       refine s_off hM54 rfl (gno rfl rfl rfl rfl h56) rfl rfl ?_
       refine s_off hM54 rfl (gno rfl rfl rfl rfl h56) rfl rfl ?_
       refine s_off hM54 rfl (gno rfl rfl rfl rfl h56) rfl rfl ?_
       refine s_off hM54 rfl (gno rfl rfl rfl rfl h56) rfl rfl ?_
       refine s_off hM54 rfl (gno rfl rfl rfl rfl h56) rfl rfl ?_
       refine s_offx (.inr hM54) rfl (gno rfl rfl rfl rfl h56) rfl rfl ?_
       refine s_offx (.inr hM54) rfl (gno rfl rfl rfl rfl h56) rfl rfl ?_
       refine s_take hM54 rfl (gn rfl) rfl rfl (fun w h => r_pickF rfl h56 rfl) ?_
       refine s_take hM54 rfl (gn rfl) rfl rfl (fun w h => r_assign rfl) ?_
       refine s_nil ?_
       exact jn () hM54 ⟨rfl, rfl, rfl, rfl, rfl, rfl, rfl, okB (by simp only [h30, h33, h56, Bool.false_and, Bool.or_false]), trivial⟩
   ·skip
    rintro - w65 hM66
    refine ways ((hasK Seat.key S.seats a.who.E || (inv && hasK Invite.key S.invites a.who.E) || (asked && hasK Ask.key S.asks a.who.E))) (fun h67 => ?_) (fun h67 => ?_)
    ·skip
     refine c_condT rfl h67 ?_
     refine c_seq ?_
     refine c_reg ?_
     refine l_val (gn rfl) rfl rfl (r_assign rfl) ?_
     refine l_nil ?_
     refine c_ret ?_
     refine ret1 rfl rfl ?_
     exact ⟨by simp only [newcE, h19, h67, cond_true, cond_false] <;> rfl, hM66.kp⟩
    ·skip
     refine c_condF rfl h67 ?_
     refine c_seq ?_
     refine c_reg ?_
     refine l_val (gn rfl) rfl rfl (r_move rfl) ?_
     refine l_val (gn rfl) rfl rfl (r_neq (b := (!(decide ((link : UInt8) = 0)))) rfl rfl (congrArg Bool.not (u8eq link 0))) ?_
     refine l_val (gn rfl) rfl rfl (r_move rfl) ?_
     refine ways (decide ((link : UInt8) = 0)) (fun h68 => ?_) (fun h68 => ?_)
     ·skip
      have hp69 : (link : UInt8) = 0 := of_decide_eq_true h68
      refine l_off (gno rfl rfl rfl rfl (congrArg Bool.not h68)) rfl rfl ?_
      refine l_off (gno rfl rfl rfl rfl (congrArg Bool.not h68)) rfl rfl ?_
      refine l_off (gno rfl rfl rfl rfl (congrArg Bool.not h68)) rfl rfl ?_
      refine l_off (gno rfl rfl rfl rfl (congrArg Bool.not h68)) rfl rfl ?_
      refine l_off (gno rfl rfl rfl rfl (congrArg Bool.not h68)) rfl rfl ?_
      refine l_off (gno rfl rfl rfl rfl (congrArg Bool.not h68)) rfl rfl ?_
      refine l_off (gno rfl rfl rfl rfl (congrArg Bool.not h68)) rfl rfl ?_
      refine l_off (gno rfl rfl rfl rfl (congrArg Bool.not h68)) rfl rfl ?_
      refine l_off (gno rfl rfl rfl rfl (congrArg Bool.not h68)) rfl rfl ?_
      refine l_off (gno rfl rfl rfl rfl (congrArg Bool.not h68)) rfl rfl ?_
      refine l_val (gn rfl) rfl rfl (r_pickF rfl (congrArg Bool.not h68) rfl) ?_
      refine l_val (gn rfl) rfl rfl (r_assign rfl) ?_
      refine l_nil ?_
      refine c_condF rfl rfl ?_
      refine c_seq ?_
      refine c_regD (Mem w [] [(b1, (Pt.cells a.who.E), 24)]) [] [(0, true), (1, true), (2, true), (3, true), (4, true), (5, true), (6, true), (7, true), (8, true), (9, true), (10, true), (11, true), (12, true), (13, true), (14, true), (15, true), (16, true), (17, true), (18, true), (19, true), (20, true), (21, true), (22, true), (23, true), (24, true), (25, false), (26, true), (27, true), (28, true), (29, true)] (by kernel_rfl) ?_
      have hM70 := hM66.drew
      refine s_take hM70 rfl (gn rfl) rfl rfl (fun w h => r_move rfl) ?_
      refine s_take hM70 rfl (gn rfl) rfl rfl (fun w h => r_neq (b := (!(decide ((link : UInt8) = 0)))) rfl rfl (congrArg Bool.not (u8eq link 0))) ?_
      refine s_take hM70 rfl (gn rfl) rfl rfl (fun w h => r_move rfl) ?_
      refine s_off hM70 rfl (gno rfl rfl rfl rfl (congrArg Bool.not h68)) rfl rfl ?_
      refine s_off hM70 rfl (gno rfl rfl rfl rfl (congrArg Bool.not h68)) rfl rfl ?_
      refine s_off hM70 rfl (gno rfl rfl rfl rfl (congrArg Bool.not h68)) rfl rfl ?_
      refine s_off hM70 rfl (gno rfl rfl rfl rfl (congrArg Bool.not h68)) rfl rfl ?_
      refine s_off hM70 rfl (gno rfl rfl rfl rfl (congrArg Bool.not h68)) rfl rfl ?_
      refine s_off hM70 rfl (gno rfl rfl rfl rfl (congrArg Bool.not h68)) rfl rfl ?_
      refine s_off hM70 rfl (gno rfl rfl rfl rfl (congrArg Bool.not h68)) rfl rfl ?_
      refine s_off hM70 rfl (gno rfl rfl rfl rfl (congrArg Bool.not h68)) rfl rfl ?_
      refine s_off hM70 rfl (gno rfl rfl rfl rfl (congrArg Bool.not h68)) rfl rfl ?_
      refine s_off hM70 rfl (gno rfl rfl rfl rfl (congrArg Bool.not h68)) rfl rfl ?_
      refine s_off hM70 rfl (gnu rfl rfl rfl rfl) rfl rfl ?_
      refine s_off hM70 rfl (gnu rfl rfl rfl rfl) rfl rfl ?_
      refine s_off hM70 rfl (gnu rfl rfl rfl rfl) rfl rfl ?_
      refine s_off hM70 rfl (gnu rfl rfl rfl rfl) rfl rfl ?_
      refine s_off hM70 rfl (gnu rfl rfl rfl rfl) rfl rfl ?_
      refine s_off hM70 rfl (gnu rfl rfl rfl rfl) rfl rfl ?_
      refine s_off hM70 rfl (gnu rfl rfl rfl rfl) rfl rfl ?_
      refine s_off hM70 rfl (gnu rfl rfl rfl rfl) rfl rfl ?_
      refine s_off hM70 rfl (gnu rfl rfl rfl rfl) rfl rfl ?_
      refine s_off hM70 rfl (gnu rfl rfl rfl rfl) rfl rfl ?_
      refine s_off hM70 rfl (gnu rfl rfl rfl rfl) rfl rfl ?_
      refine s_off hM70 rfl (gnu rfl rfl rfl rfl) rfl rfl ?_
      refine s_offx (.inr hM70) rfl (gnu rfl rfl rfl rfl) rfl rfl ?_
      refine s_off hM70 rfl (gnu rfl rfl rfl rfl) rfl rfl ?_
      refine s_off hM70 rfl (gno rfl rfl rfl rfl (congrArg Bool.not h68)) rfl rfl ?_
      refine s_take hM70 rfl (gn rfl) rfl rfl (fun w h => r_pickF rfl (congrArg Bool.not h68) rfl) ?_
      refine s_take hM70 rfl (gn rfl) rfl rfl (fun w h => r_assign rfl) ?_
      refine s_nil ?_
      refine c_condF rfl rfl ?_
      refine c_skip ?_
      refine c_seq ?_
      refine c_reg ?_
      refine l_val (gn rfl) rfl rfl (r_assign rfl) ?_
      refine l_nil ?_
      refine c_ret ?_
      refine ret1 rfl rfl ?_
      exact ⟨by simp only [newcE, h19, h67, h68, Bool.not_true, Bool.false_and, cond_false] <;> rfl, hM70.kp⟩
     ·skip
      have hp72 : ¬ ((link : UInt8) = 0) := of_decide_eq_false h68
      refine l_val (gy rfl rfl rfl rfl (congrArg Bool.not h68)) rfl rfl (r_move rfl) ?_
      refine l_val (gy rfl rfl rfl rfl (congrArg Bool.not h68)) rfl rfl (r_nilCheck rfl) ?_
      refine l_val (gy rfl rfl rfl rfl (congrArg Bool.not h68)) rfl rfl (r_fieldAddr StepR.fld_b rfl) ?_
      refine l_val (gy rfl rfl rfl rfl (congrArg Bool.not h68)) rfl rfl (r_load1 (v := Value.pointer (some ⟨b, 0, none⟩)) Tryz.isAgg77 rfl (Holds.sub (hx.keep hM66.kp (by simp)) (StepR.sub_b _))) ?_
      refine l_val (gy rfl rfl rfl rfl (congrArg Bool.not h68)) rfl rfl (r_nilCheck rfl) ?_
      refine l_val (gy rfl rfl rfl rfl (congrArg Bool.not h68)) rfl rfl (r_fieldAddr SRep.fld_acc rfl) ?_
      refine l_val (gy rfl rfl rfl rfl (congrArg Bool.not h68)) rfl rfl (r_fieldAddr Access.fld_link rfl) ?_
      refine l_val (gy rfl rfl rfl rfl (congrArg Bool.not h68)) rfl rfl (r_load1 (v := vU8 S.acc.link) Tryz.isAgg29 rfl (Holds.sub (Holds.sub (hB.keep0 hM66.kp).hd (SRep.sub_acc _)) (Access.sub_link _))) ?_
      refine l_val (gy rfl rfl rfl rfl (congrArg Bool.not h68)) rfl rfl (r_move rfl) ?_
      refine l_val (gy rfl rfl rfl rfl (congrArg Bool.not h68)) rfl rfl (r_neq (b := (!(decide ((S.acc.link : UInt8) = link)))) rfl rfl (congrArg Bool.not (u8eq S.acc.link link))) ?_
      refine l_val (gn rfl) rfl rfl (r_pickT rfl (congrArg Bool.not h68) rfl) ?_
      refine l_val (gn rfl) rfl rfl (r_assign rfl) ?_
      refine l_nil ?_
      refine ways (decide ((S.acc.link : UInt8) = link)) (fun h73 => ?_) (fun h73 => ?_)
      ·skip
       have hp74 : (S.acc.link : UInt8) = link := of_decide_eq_true h73
       refine c_condF rfl (congrArg Bool.not h73) ?_
       refine c_seq ?_
       refine c_regD (Mem w [] [(b1, (Pt.cells a.who.E), 24)]) [] [(0, true), (1, true), (2, true), (3, true), (4, true), (5, true), (6, true), (7, true), (8, true), (9, true), (10, true), (11, true), (12, true), (13, true), (14, true), (15, true), (16, true), (17, true), (18, true), (19, true), (20, true), (21, true), (22, true), (23, true), (24, true), (25, false), (26, true), (27, true), (28, true), (29, true)] (by kernel_rfl) ?_
       have hM75 := hM66.drew
       refine s_take hM75 rfl (gn rfl) rfl rfl (fun w h => r_move rfl) ?_
       refine s_take hM75 rfl (gn rfl) rfl rfl (fun w h => r_neq (b := (!(decide ((link : UInt8) = 0)))) rfl rfl (congrArg Bool.not (u8eq link 0))) ?_
       refine s_take hM75 rfl (gn rfl) rfl rfl (fun w h => r_move rfl) ?_
       refine s_take hM75 rfl (gy rfl rfl rfl rfl (congrArg Bool.not h68)) rfl rfl (fun w h => r_move rfl) ?_
       refine s_take hM75 rfl (gy rfl rfl rfl rfl (congrArg Bool.not h68)) rfl rfl (fun w h => r_nilCheck rfl) ?_
       refine s_take hM75 rfl (gy rfl rfl rfl rfl (congrArg Bool.not h68)) rfl rfl (fun w h => r_fieldAddr StepR.fld_b rfl) ?_
       refine s_take hM75 rfl (gy rfl rfl rfl rfl (congrArg Bool.not h68)) rfl rfl (fun w h => r_load1 (v := Value.pointer (some ⟨b, 0, none⟩)) Tryz.isAgg77 rfl (Holds.sub (hx.keep h.kp (by simp)) (StepR.sub_b _))) ?_
       refine s_take hM75 rfl (gy rfl rfl rfl rfl (congrArg Bool.not h68)) rfl rfl (fun w h => r_nilCheck rfl) ?_
       refine s_take hM75 rfl (gy rfl rfl rfl rfl (congrArg Bool.not h68)) rfl rfl (fun w h => r_fieldAddr SRep.fld_pass rfl) ?_
       refine s_take hM75 rfl (gy rfl rfl rfl rfl (congrArg Bool.not h68)) rfl rfl (fun w h => r_load1 (v := Sl.val q.p) Tryz.isAgg27 rfl (Holds.sub (hB.keep0 h.kp).hd (SRep.sub_pass _))) ?_
       refine s_take hM75 rfl (gy rfl rfl rfl rfl (congrArg Bool.not h68)) rfl rfl (fun w h => r_lenR Tryz.underlying27 rfl (hB.keep0 h.kp).own.stv.pass.len) ?_
       refine s_take hM75 rfl (gy rfl rfl rfl rfl (congrArg Bool.not h68)) rfl rfl (fun w h => r_eql (b := decide ((S.pass.length : Nat) = 0)) rfl rfl (neq' S.pass.length 0)) ?_
       refine s_take hM75 rfl (gy rfl rfl rfl rfl (congrArg Bool.not h68)) rfl rfl (fun w h => r_move rfl) ?_
       refine ways (decide ((S.pass.length : Nat) = 0)) (fun h77 => ?_) (fun h77 => ?_)
       ·skip
        have hp78 : (S.pass.length : Nat) = 0 := of_decide_eq_true h77
        refine s_off hM75 rfl (gno rfl rfl rfl rfl h77) rfl rfl ?_
        refine s_off hM75 rfl (gno rfl rfl rfl rfl h77) rfl rfl ?_
        refine s_off hM75 rfl (gno rfl rfl rfl rfl h77) rfl rfl ?_
        refine s_off hM75 rfl (gno rfl rfl rfl rfl h77) rfl rfl ?_
        refine s_off hM75 rfl (gno rfl rfl rfl rfl h77) rfl rfl ?_
        refine s_off hM75 rfl (gno rfl rfl rfl rfl h77) rfl rfl ?_
        refine s_off hM75 rfl (gno rfl rfl rfl rfl h77) rfl rfl ?_
        refine s_off hM75 rfl (gno rfl rfl rfl rfl h77) rfl rfl ?_
        refine s_off hM75 rfl (gno rfl rfl rfl rfl h77) rfl rfl ?_
        refine s_off hM75 rfl (gno rfl rfl rfl rfl h77) rfl rfl ?_
        refine s_off hM75 rfl (gno rfl rfl rfl rfl h77) rfl rfl ?_
        refine s_off hM75 rfl (gno rfl rfl rfl rfl h77) rfl rfl ?_
        refine s_offx (.inr hM75) rfl (gno rfl rfl rfl rfl h77) rfl rfl ?_
        refine s_off hM75 rfl (gno rfl rfl rfl rfl h77) rfl rfl ?_
        refine s_take hM75 rfl (gy rfl rfl rfl rfl (congrArg Bool.not h68)) rfl rfl (fun w h => r_pickT rfl h77 rfl) ?_
        refine s_take hM75 rfl (gn rfl) rfl rfl (fun w h => r_pickT rfl (congrArg Bool.not h68) rfl) ?_
        refine s_take hM75 rfl (gn rfl) rfl rfl (fun w h => r_assign rfl) ?_
        refine s_nil ?_
        refine c_condT rfl rfl ?_
        refine c_seq ?_
        refine c_reg ?_
        refine l_val (gn rfl) rfl rfl (r_assign rfl) ?_
        refine l_nil ?_
        refine c_ret ?_
        refine ret1 rfl rfl ?_
        exact ⟨by simp only [newcE, h19, h67, h68, h73, h77, Bool.not_true, Bool.not_false, Bool.and_true, Bool.and_false, Bool.true_or, cond_true, cond_false] <;> rfl, hM75.kp⟩
       ·skip
        have hp79 : ¬ ((S.pass.length : Nat) = 0) := of_decide_eq_false h77
        refine s_take hM75 rfl (gy rfl rfl rfl rfl h77) rfl rfl (fun w h => r_move rfl) ?_
        refine s_take hM75 rfl (gy rfl rfl rfl rfl h77) rfl rfl (fun w h => r_nilCheck rfl) ?_
        refine s_take hM75 rfl (gy rfl rfl rfl rfl h77) rfl rfl (fun w h => r_fieldAddr StepR.fld_b rfl) ?_
        refine s_take hM75 rfl (gy rfl rfl rfl rfl h77) rfl rfl (fun w h => r_load1 (v := Value.pointer (some ⟨b, 0, none⟩)) Tryz.isAgg77 rfl (Holds.sub (hx.keep h.kp (by simp)) (StepR.sub_b _))) ?_
        refine s_take hM75 rfl (gy rfl rfl rfl rfl h77) rfl rfl (fun w h => r_nilCheck rfl) ?_
        refine s_take hM75 rfl (gy rfl rfl rfl rfl h77) rfl rfl (fun w h => r_fieldAddr SRep.fld_pass rfl) ?_
        refine s_take hM75 rfl (gy rfl rfl rfl rfl h77) rfl rfl (fun w h => r_load1 (v := Sl.val q.p) Tryz.isAgg27 rfl (Holds.sub (hB.keep0 h.kp).hd (SRep.sub_pass _))) ?_
        refine s_take hM75 rfl (gy rfl rfl rfl rfl h77) rfl rfl (fun w h => r_move rfl) ?_
        refine s_take hM75 rfl (gy rfl rfl rfl rfl h77) rfl rfl (fun w h => r_nilCheck rfl) ?_
        refine s_take hM75 rfl (gy rfl rfl rfl rfl h77) rfl rfl (fun w h => r_fieldAddr StepR.fld_a rfl) ?_
        refine s_take hM75 rfl (gy rfl rfl rfl rfl h77) rfl rfl (fun w h => r_fieldAddr ARep.fld_pass rfl) ?_
        refine s_take hM75 rfl (gy rfl rfl rfl rfl h77) rfl rfl (fun w h => r_load1 (v := Sl.val qa.p) Tryz.isAgg27 rfl (Holds.sub (Holds.sub (hx.keep h.kp (by simp)) (StepR.sub_a _)) (ARep.sub_pass _))) ?_
        refine s_call rfl (gy rfl rfl rfl rfl h77) rfl rfl (r_call Tryz.call98 rfl) (f98 (hB.keep0 hM75.kp).own.stv.pass (hA.pass.keep0 hM75.kp)) ?_
        rintro v80 w81 ⟨rfl, hK82⟩
        have hM83 := hM75.keep hK82
        refine ⟨.inr hM83, ?_⟩
        refine s_take hM83 rfl (gy rfl rfl rfl rfl h77) rfl rfl (fun w h => r_not rfl) ?_
        refine s_take hM83 rfl (gy rfl rfl rfl rfl (congrArg Bool.not h68)) rfl rfl (fun w h => r_pickF rfl h77 rfl) ?_
        refine s_take hM83 rfl (gn rfl) rfl rfl (fun w h => r_pickT rfl (congrArg Bool.not h68) rfl) ?_
        refine s_take hM83 rfl (gn rfl) rfl rfl (fun w h => r_assign rfl) ?_
        refine s_nil ?_
        refine ways (decide (S.pass = a.pass)) (fun h84 => ?_) (fun h84 => ?_)
        ·skip
         have hp85 : S.pass = a.pass := of_decide_eq_true h84
         refine c_condF rfl (congrArg Bool.not h84) ?_
         refine c_skip ?_
         refine c_seq ?_
         refine c_reg ?_
         refine l_val (gn rfl) rfl rfl (r_assign rfl) ?_
         refine l_nil ?_
         refine c_ret ?_
         refine ret1 rfl rfl ?_
         exact ⟨by simp only [newcE, h19, h67, h68, h73, h77, h84, Bool.not_true, Bool.not_false, Bool.and_false, Bool.or_false, cond_false] <;> rfl, hM83.kp⟩
        ·skip
         have hp86 : ¬ (S.pass = a.pass) := of_decide_eq_false h84
         refine c_condT rfl (congrArg Bool.not h84) ?_
         refine c_seq ?_
         refine c_reg ?_
         refine l_val (gn rfl) rfl rfl (r_assign rfl) ?_
         refine l_nil ?_
         refine c_ret ?_
         refine ret1 rfl rfl ?_
         exact ⟨by simp only [newcE, h19, h67, h68, h73, h77, h84, Bool.not_true, Bool.not_false, Bool.and_true, Bool.and_false, Bool.or_true, cond_true, cond_false] <;> rfl, hM83.kp⟩
      ·skip
       have hp87 : ¬ ((S.acc.link : UInt8) = link) := of_decide_eq_false h73
       refine c_condT rfl (congrArg Bool.not h73) ?_
       refine c_seq ?_
       refine c_reg ?_
       refine l_val (gn rfl) rfl rfl (r_assign rfl) ?_
       refine l_nil ?_
       refine c_ret ?_
       refine ret1 rfl rfl ?_
       exact ⟨by simp only [newcE, h19, h67, h68, h73, Bool.not_false, Bool.true_and, Bool.and_true, cond_true, cond_false] <;> rfl, hM66.kp⟩
theorem f32 {w : World} {base b bx : Nat} {q : Six} {S : State} {qa : Two} {a : Action} {by_ : Pt} {mine : UInt8} (hx : Holds w bx 0 (StepR.cells ⟨b, by_, a.rep qa, mine⟩)) (hB : StB base w b q S) : Ret 32 #[.pointer (some ⟨bx, 0, none⟩)] w (fun v w' => v = .int .i64 ((mayE S by_ a mine : Nat) : Int) ∧ Keeps [] w w') := by
  have hM0 := Mem.start w
  refine enter Tryz.func32 rfl rfl ?_
  refine c_seq ?_
  refine c_reg ?_
  refine l_val (gn rfl) rfl rfl (r_assign rfl) ?_
  refine l_nil ?_
  refine c_seq ?_
  refine c_reg ?_
  refine l_val (gn rfl) rfl rfl (r_assign rfl) ?_
  refine l_nil ?_
  refine c_seq ?_
  refine c_seq ?_
  refine c_reg ?_
  refine l_val (gn rfl) rfl rfl (r_move rfl) ?_
  refine l_val (gn rfl) rfl rfl (r_nilCheck rfl) ?_
  refine l_val (gn rfl) rfl rfl (r_fieldAddr StepR.fld_a rfl) ?_
  refine l_val (gn rfl) rfl rfl (r_fieldAddr ARep.fld_kind rfl) ?_
  refine l_val (gn rfl) rfl rfl (r_load1 (v := vU8 a.kind) Tryz.isAgg38 rfl (Holds.sub (Holds.sub (hx.keep hM0.kp (by simp)) (StepR.sub_a _)) (ARep.sub_kind _))) ?_
  refine l_nil ?_
  refine c_block ?_
  refine c_seq ?_
  refine c_seq ?_
  refine c_reg ?_
  refine l_val (gn rfl) rfl rfl (r_eql (b := decide ((a.kind : UInt8) = 1)) rfl rfl (u8eq a.kind 1)) ?_
  refine l_val (gn rfl) rfl rfl (r_assign rfl) ?_
  refine l_nil ?_
  refine c_join (ι := Unit) (fun _ w_ => Mem w [] [] w_) (fun _ => [(0, Value.pointer (some ⟨bx, 0, none⟩)), (2, Value.int .i64 ((0 : Nat) : Int)), (3, vU8 2), (8, vU8 a.kind), (9, Value.bool ((decide ((a.kind : UInt8) = 1) || decide ((a.kind : UInt8) = 5) || decide ((a.kind : UInt8) = 12))))]) ?_ ?_
  ·skip
   refine ways (decide ((a.kind : UInt8) = 1)) (fun h1 => ?_) (fun h1 => ?_)
   ·skip
    have hp2 : (a.kind : UInt8) = 1 := of_decide_eq_true h1
    refine c_condT rfl h1 ?_
    refine c_skip ?_
    exact jn () hM0 ⟨rfl, rfl, rfl, rfl, okB (by simp only [h1, Bool.true_or]), trivial⟩
   ·skip
    have hp3 : ¬ ((a.kind : UInt8) = 1) := of_decide_eq_false h1
    refine c_condF rfl h1 ?_
    refine c_seq ?_
    refine c_reg ?_
    refine l_val (gn rfl) rfl rfl (r_eql (b := decide ((a.kind : UInt8) = 5)) rfl rfl (u8eq a.kind 5)) ?_
    refine l_val (gn rfl) rfl rfl (r_assign rfl) ?_
    refine l_nil ?_
    refine ways (decide ((a.kind : UInt8) = 5)) (fun h4 => ?_) (fun h4 => ?_)
    ·skip
     have hp5 : (a.kind : UInt8) = 5 := of_decide_eq_true h4
     refine c_condT rfl h4 ?_
     refine c_skip ?_
     exact jn () hM0 ⟨rfl, rfl, rfl, rfl, okB (by simp only [h1, h4, Bool.true_or, Bool.or_true]), trivial⟩
    ·skip
     have hp6 : ¬ ((a.kind : UInt8) = 5) := of_decide_eq_false h4
     refine c_condF rfl h4 ?_
     refine c_reg ?_
     refine l_val (gn rfl) rfl rfl (r_eql (b := decide ((a.kind : UInt8) = 12)) rfl rfl (u8eq a.kind 12)) ?_
     refine l_val (gn rfl) rfl rfl (r_assign rfl) ?_
     refine l_nil ?_
     exact jn () hM0 ⟨rfl, rfl, rfl, rfl, okB (by simp only [h1, h4, Bool.false_or, Bool.or_false]), trivial⟩
  ·skip
   rintro - w7 hM8
   refine ways ((decide ((a.kind : UInt8) = 1) || decide ((a.kind : UInt8) = 5) || decide ((a.kind : UInt8) = 12))) (fun h9 => ?_) (fun h9 => ?_)
   ·skip
    refine c_condT rfl h9 ?_
    refine c_seq ?_
    refine c_seq ?_
    refine c_reg ?_
    refine l_val (gn rfl) rfl rfl (r_move rfl) ?_
    refine l_val (gn rfl) rfl rfl (r_nilCheck rfl) ?_
    refine l_val (gn rfl) rfl rfl (r_fieldAddr StepR.fld_a rfl) ?_
    refine l_val (gn rfl) rfl rfl (r_fieldAddr ARep.fld_role rfl) ?_
    refine l_val (gn rfl) rfl rfl (r_load1 (v := vU8 a.role) Tryz.isAgg28 rfl (Holds.sub (Holds.sub (hx.keep hM8.kp (by simp)) (StepR.sub_a _)) (ARep.sub_role _))) ?_
    refine l_val (gn rfl) rfl rfl (r_eql (b := decide ((a.role : UInt8) = 2)) rfl rfl (u8eq a.role 2)) ?_
    refine l_val (gn rfl) rfl rfl (r_move rfl) ?_
    refine ways (decide ((a.role : UInt8) = 2)) (fun h10 => ?_) (fun h10 => ?_)
    ·skip
     have hp11 : (a.role : UInt8) = 2 := of_decide_eq_true h10
     refine l_val (gy rfl rfl rfl rfl h10) rfl rfl (r_move rfl) ?_
     refine l_val (gy rfl rfl rfl rfl h10) rfl rfl (r_nilCheck rfl) ?_
     refine l_val (gy rfl rfl rfl rfl h10) rfl rfl (r_fieldAddr StepR.fld_mine rfl) ?_
     refine l_val (gy rfl rfl rfl rfl h10) rfl rfl (r_load1 (v := vU8 mine) Tryz.isAgg28 rfl (Holds.sub (hx.keep hM8.kp (by simp)) (StepR.sub_mine _))) ?_
     refine l_val (gy rfl rfl rfl rfl h10) rfl rfl (r_neq (b := (!(decide ((mine : UInt8) = 2)))) rfl rfl (congrArg Bool.not (u8eq mine 2))) ?_
     refine l_val (gn rfl) rfl rfl (r_pickT rfl h10 rfl) ?_
     refine l_nil ?_
     refine ways (decide ((mine : UInt8) = 2)) (fun h12 => ?_) (fun h12 => ?_)
     ·skip
      have hp13 : (mine : UInt8) = 2 := of_decide_eq_true h12
      refine c_condF rfl (congrArg Bool.not h12) ?_
      refine c_skip ?_
      refine c_reg ?_
      refine l_val (gn rfl) rfl rfl (r_move rfl) ?_
      refine l_val (gn rfl) rfl rfl (r_nilCheck rfl) ?_
      refine l_val (gn rfl) rfl rfl (r_fieldAddr StepR.fld_b rfl) ?_
      refine l_val (gn rfl) rfl rfl (r_load1 (v := Value.pointer (some ⟨b, 0, none⟩)) Tryz.isAgg77 rfl (Holds.sub (hx.keep hM8.kp (by simp)) (StepR.sub_b _))) ?_
      refine l_val (gn rfl) rfl rfl (r_nilCheck rfl) ?_
      refine l_val (gn rfl) rfl rfl (r_fieldAddr SRep.fld_acc rfl) ?_
      refine l_val (gn rfl) rfl rfl (r_fieldAddr Access.fld_members rfl) ?_
      refine l_val (gn rfl) rfl rfl (r_load1 (v := vU8 S.acc.members) Tryz.isAgg28 rfl (Holds.sub (Holds.sub (hB.keep0 hM8.kp).hd (SRep.sub_acc _)) (Access.sub_members _))) ?_
      refine l_val (gn rfl) rfl rfl (r_assign rfl) ?_
      refine l_nil ?_
      refine c_seq ?_
      refine c_seq ?_
      refine c_reg ?_
      refine l_val (gn rfl) rfl rfl (r_move rfl) ?_
      refine l_val (gn rfl) rfl rfl (r_nilCheck rfl) ?_
      refine l_val (gn rfl) rfl rfl (r_fieldAddr StepR.fld_mine rfl) ?_
      refine l_val (gn rfl) rfl rfl (r_load1 (v := vU8 mine) Tryz.isAgg28 rfl (Holds.sub (hx.keep hM8.kp (by simp)) (StepR.sub_mine _))) ?_
      refine l_val (gn rfl) rfl rfl (r_eql (b := decide ((mine : UInt8) = 0)) rfl rfl (u8eq mine 0)) ?_
      refine l_val (gn rfl) rfl rfl (r_move rfl) ?_
      refine ways (decide ((mine : UInt8) = 0)) (fun h14 => ?_) (fun h14 => ?_)
      ·skip
       have hp15 : (mine : UInt8) = 0 := of_decide_eq_true h14
       refine l_off (gno rfl rfl rfl rfl h14) rfl rfl ?_
       refine l_off (gno rfl rfl rfl rfl h14) rfl rfl ?_
       refine l_off (gno rfl rfl rfl rfl h14) rfl rfl ?_
       refine l_off (gno rfl rfl rfl rfl h14) rfl rfl ?_
       refine l_off (gno rfl rfl rfl rfl h14) rfl rfl ?_
       refine l_off (gno rfl rfl rfl rfl h14) rfl rfl ?_
       refine l_val (gn rfl) rfl rfl (r_pickT rfl h14 rfl) ?_
       refine l_nil ?_
       refine c_condT rfl rfl ?_
       refine c_seq ?_
       refine c_reg ?_
       refine l_val (gn rfl) rfl rfl (r_assign rfl) ?_
       refine l_nil ?_
       refine c_ret ?_
       refine ret1 rfl rfl ?_
       exact ⟨by simp only [mayE, rightE, h9, h10, h12, h14, Bool.not_true, Bool.and_false, Bool.true_or, cond_true, cond_false] <;> rfl, hM8.kp⟩
      ·skip
       have hp16 : ¬ ((mine : UInt8) = 0) := of_decide_eq_false h14
       refine l_val (gy rfl rfl rfl rfl h14) rfl rfl (r_move rfl) ?_
       refine l_val (gy rfl rfl rfl rfl h14) rfl rfl (r_nilCheck rfl) ?_
       refine l_val (gy rfl rfl rfl rfl h14) rfl rfl (r_fieldAddr StepR.fld_mine rfl) ?_
       refine l_val (gy rfl rfl rfl rfl h14) rfl rfl (r_load1 (v := vU8 mine) Tryz.isAgg28 rfl (Holds.sub (hx.keep hM8.kp (by simp)) (StepR.sub_mine _))) ?_
       refine l_val (gy rfl rfl rfl rfl h14) rfl rfl (r_move rfl) ?_
       refine l_val (gy rfl rfl rfl rfl h14) rfl rfl (r_lss (b := decide ((mine : UInt8) < S.acc.members)) rfl rfl (u8lt mine S.acc.members)) ?_
       refine l_val (gn rfl) rfl rfl (r_pickF rfl h14 rfl) ?_
       refine l_nil ?_
       refine ways (decide ((mine : UInt8) < S.acc.members)) (fun h17 => ?_) (fun h17 => ?_)
       ·skip
        have hp18 : (mine : UInt8) < S.acc.members := of_decide_eq_true h17
        refine c_condT rfl h17 ?_
        refine c_seq ?_
        refine c_reg ?_
        refine l_val (gn rfl) rfl rfl (r_assign rfl) ?_
        refine l_nil ?_
        refine c_ret ?_
        refine ret1 rfl rfl ?_
        exact ⟨by simp only [mayE, rightE, h9, h10, h12, h14, h17, Bool.not_true, Bool.and_false, Bool.or_true, Bool.false_or, cond_true, cond_false] <;> rfl, hM8.kp⟩
       ·skip
        have hp19 : ¬ ((mine : UInt8) < S.acc.members) := of_decide_eq_false h17
        refine c_condF rfl h17 ?_
        refine c_skip ?_
        refine c_seq ?_
        refine c_reg ?_
        refine l_val (gn rfl) rfl rfl (r_assign rfl) ?_
        refine l_nil ?_
        refine c_ret ?_
        refine ret1 rfl rfl ?_
        exact ⟨by simp only [mayE, rightE, h9, h10, h12, h14, h17, Bool.not_true, Bool.and_false, Bool.false_or, Bool.or_false, cond_true, cond_false] <;> rfl, hM8.kp⟩
     ·skip
      have hp20 : ¬ ((mine : UInt8) = 2) := of_decide_eq_false h12
      refine c_condT rfl (congrArg Bool.not h12) ?_
      refine c_seq ?_
      refine c_reg ?_
      refine l_val (gn rfl) rfl rfl (r_assign rfl) ?_
      refine l_nil ?_
      refine c_ret ?_
      refine ret1 rfl rfl ?_
      exact ⟨by simp only [mayE, rightE, h9, h10, h12, Bool.not_false, Bool.and_true, cond_true] <;> rfl, hM8.kp⟩
    ·skip
     have hp21 : ¬ ((a.role : UInt8) = 2) := of_decide_eq_false h10
     refine l_off (gno rfl rfl rfl rfl h10) rfl rfl ?_
     refine l_off (gno rfl rfl rfl rfl h10) rfl rfl ?_
     refine l_off (gno rfl rfl rfl rfl h10) rfl rfl ?_
     refine l_off (gno rfl rfl rfl rfl h10) rfl rfl ?_
     refine l_off (gno rfl rfl rfl rfl h10) rfl rfl ?_
     refine l_val (gn rfl) rfl rfl (r_pickF rfl h10 rfl) ?_
     refine l_nil ?_
     refine c_condF rfl rfl ?_
     refine c_skip ?_
     refine c_reg ?_
     refine l_val (gn rfl) rfl rfl (r_move rfl) ?_
     refine l_val (gn rfl) rfl rfl (r_nilCheck rfl) ?_
     refine l_val (gn rfl) rfl rfl (r_fieldAddr StepR.fld_b rfl) ?_
     refine l_val (gn rfl) rfl rfl (r_load1 (v := Value.pointer (some ⟨b, 0, none⟩)) Tryz.isAgg77 rfl (Holds.sub (hx.keep hM8.kp (by simp)) (StepR.sub_b _))) ?_
     refine l_val (gn rfl) rfl rfl (r_nilCheck rfl) ?_
     refine l_val (gn rfl) rfl rfl (r_fieldAddr SRep.fld_acc rfl) ?_
     refine l_val (gn rfl) rfl rfl (r_fieldAddr Access.fld_members rfl) ?_
     refine l_val (gn rfl) rfl rfl (r_load1 (v := vU8 S.acc.members) Tryz.isAgg28 rfl (Holds.sub (Holds.sub (hB.keep0 hM8.kp).hd (SRep.sub_acc _)) (Access.sub_members _))) ?_
     refine l_val (gn rfl) rfl rfl (r_assign rfl) ?_
     refine l_nil ?_
     refine c_seq ?_
     refine c_seq ?_
     refine c_reg ?_
     refine l_val (gn rfl) rfl rfl (r_move rfl) ?_
     refine l_val (gn rfl) rfl rfl (r_nilCheck rfl) ?_
     refine l_val (gn rfl) rfl rfl (r_fieldAddr StepR.fld_mine rfl) ?_
     refine l_val (gn rfl) rfl rfl (r_load1 (v := vU8 mine) Tryz.isAgg28 rfl (Holds.sub (hx.keep hM8.kp (by simp)) (StepR.sub_mine _))) ?_
     refine l_val (gn rfl) rfl rfl (r_eql (b := decide ((mine : UInt8) = 0)) rfl rfl (u8eq mine 0)) ?_
     refine l_val (gn rfl) rfl rfl (r_move rfl) ?_
     refine ways (decide ((mine : UInt8) = 0)) (fun h22 => ?_) (fun h22 => ?_)
     ·skip
      have hp23 : (mine : UInt8) = 0 := of_decide_eq_true h22
      refine l_off (gno rfl rfl rfl rfl h22) rfl rfl ?_
      refine l_off (gno rfl rfl rfl rfl h22) rfl rfl ?_
      refine l_off (gno rfl rfl rfl rfl h22) rfl rfl ?_
      refine l_off (gno rfl rfl rfl rfl h22) rfl rfl ?_
      refine l_off (gno rfl rfl rfl rfl h22) rfl rfl ?_
      refine l_off (gno rfl rfl rfl rfl h22) rfl rfl ?_
      refine l_val (gn rfl) rfl rfl (r_pickT rfl h22 rfl) ?_
      refine l_nil ?_
      refine c_condT rfl rfl ?_
      refine c_seq ?_
      refine c_reg ?_
      refine l_val (gn rfl) rfl rfl (r_assign rfl) ?_
      refine l_nil ?_
      refine c_ret ?_
      refine ret1 rfl rfl ?_
      exact ⟨by simp only [mayE, rightE, h9, h10, h22, Bool.false_and, Bool.true_or, cond_true, cond_false] <;> rfl, hM8.kp⟩
     ·skip
      have hp24 : ¬ ((mine : UInt8) = 0) := of_decide_eq_false h22
      refine l_val (gy rfl rfl rfl rfl h22) rfl rfl (r_move rfl) ?_
      refine l_val (gy rfl rfl rfl rfl h22) rfl rfl (r_nilCheck rfl) ?_
      refine l_val (gy rfl rfl rfl rfl h22) rfl rfl (r_fieldAddr StepR.fld_mine rfl) ?_
      refine l_val (gy rfl rfl rfl rfl h22) rfl rfl (r_load1 (v := vU8 mine) Tryz.isAgg28 rfl (Holds.sub (hx.keep hM8.kp (by simp)) (StepR.sub_mine _))) ?_
      refine l_val (gy rfl rfl rfl rfl h22) rfl rfl (r_move rfl) ?_
      refine l_val (gy rfl rfl rfl rfl h22) rfl rfl (r_lss (b := decide ((mine : UInt8) < S.acc.members)) rfl rfl (u8lt mine S.acc.members)) ?_
      refine l_val (gn rfl) rfl rfl (r_pickF rfl h22 rfl) ?_
      refine l_nil ?_
      refine ways (decide ((mine : UInt8) < S.acc.members)) (fun h25 => ?_) (fun h25 => ?_)
      ·skip
       have hp26 : (mine : UInt8) < S.acc.members := of_decide_eq_true h25
       refine c_condT rfl h25 ?_
       refine c_seq ?_
       refine c_reg ?_
       refine l_val (gn rfl) rfl rfl (r_assign rfl) ?_
       refine l_nil ?_
       refine c_ret ?_
       refine ret1 rfl rfl ?_
       exact ⟨by simp only [mayE, rightE, h9, h10, h22, h25, Bool.false_and, Bool.or_true, Bool.false_or, cond_true, cond_false] <;> rfl, hM8.kp⟩
      ·skip
       have hp27 : ¬ ((mine : UInt8) < S.acc.members) := of_decide_eq_false h25
       refine c_condF rfl h25 ?_
       refine c_skip ?_
       refine c_seq ?_
       refine c_reg ?_
       refine l_val (gn rfl) rfl rfl (r_assign rfl) ?_
       refine l_nil ?_
       refine c_ret ?_
       refine ret1 rfl rfl ?_
       exact ⟨by simp only [mayE, rightE, h9, h10, h22, h25, Bool.false_and, Bool.false_or, Bool.or_false, cond_true, cond_false] <;> rfl, hM8.kp⟩
   ·skip
    refine c_condF rfl h9 ?_
    refine c_seq ?_
    refine c_reg ?_
    refine l_val (gn rfl) rfl rfl (r_eql (b := decide ((a.kind : UInt8) = 16)) rfl rfl (u8eq a.kind 16)) ?_
    refine l_val (gn rfl) rfl rfl (r_assign rfl) ?_
    refine l_nil ?_
    refine ways (decide ((a.kind : UInt8) = 16)) (fun h28 => ?_) (fun h28 => ?_)
    ·skip
     have hp29 : (a.kind : UInt8) = 16 := of_decide_eq_true h28
     refine c_condT rfl h28 ?_
     refine c_reg ?_
     refine l_val (gn rfl) rfl rfl (r_move rfl) ?_
     refine l_val (gn rfl) rfl rfl (r_nilCheck rfl) ?_
     refine l_val (gn rfl) rfl rfl (r_fieldAddr StepR.fld_b rfl) ?_
     refine l_val (gn rfl) rfl rfl (r_load1 (v := Value.pointer (some ⟨b, 0, none⟩)) Tryz.isAgg77 rfl (Holds.sub (hx.keep hM8.kp (by simp)) (StepR.sub_b _))) ?_
     refine l_val (gn rfl) rfl rfl (r_nilCheck rfl) ?_
     refine l_val (gn rfl) rfl rfl (r_fieldAddr SRep.fld_acc rfl) ?_
     refine l_val (gn rfl) rfl rfl (r_fieldAddr Access.fld_title rfl) ?_
     refine l_val (gn rfl) rfl rfl (r_load1 (v := vU8 S.acc.title) Tryz.isAgg28 rfl (Holds.sub (Holds.sub (hB.keep0 hM8.kp).hd (SRep.sub_acc _)) (Access.sub_title _))) ?_
     refine l_val (gn rfl) rfl rfl (r_assign rfl) ?_
     refine l_nil ?_
     refine c_seq ?_
     refine c_seq ?_
     refine c_reg ?_
     refine l_val (gn rfl) rfl rfl (r_move rfl) ?_
     refine l_val (gn rfl) rfl rfl (r_nilCheck rfl) ?_
     refine l_val (gn rfl) rfl rfl (r_fieldAddr StepR.fld_mine rfl) ?_
     refine l_val (gn rfl) rfl rfl (r_load1 (v := vU8 mine) Tryz.isAgg28 rfl (Holds.sub (hx.keep hM8.kp (by simp)) (StepR.sub_mine _))) ?_
     refine l_val (gn rfl) rfl rfl (r_eql (b := decide ((mine : UInt8) = 0)) rfl rfl (u8eq mine 0)) ?_
     refine l_val (gn rfl) rfl rfl (r_move rfl) ?_
     refine ways (decide ((mine : UInt8) = 0)) (fun h30 => ?_) (fun h30 => ?_)
     ·skip
      have hp31 : (mine : UInt8) = 0 := of_decide_eq_true h30
      refine l_off (gno rfl rfl rfl rfl h30) rfl rfl ?_
      refine l_off (gno rfl rfl rfl rfl h30) rfl rfl ?_
      refine l_off (gno rfl rfl rfl rfl h30) rfl rfl ?_
      refine l_off (gno rfl rfl rfl rfl h30) rfl rfl ?_
      refine l_off (gno rfl rfl rfl rfl h30) rfl rfl ?_
      refine l_off (gno rfl rfl rfl rfl h30) rfl rfl ?_
      refine l_val (gn rfl) rfl rfl (r_pickT rfl h30 rfl) ?_
      refine l_nil ?_
      refine c_condT rfl rfl ?_
      refine c_seq ?_
      refine c_reg ?_
      refine l_val (gn rfl) rfl rfl (r_assign rfl) ?_
      refine l_nil ?_
      refine c_ret ?_
      refine ret1 rfl rfl ?_
      exact ⟨by simp only [mayE, rightE, h9, h28, h30, Bool.true_or, cond_true, cond_false] <;> rfl, hM8.kp⟩
     ·skip
      have hp32 : ¬ ((mine : UInt8) = 0) := of_decide_eq_false h30
      refine l_val (gy rfl rfl rfl rfl h30) rfl rfl (r_move rfl) ?_
      refine l_val (gy rfl rfl rfl rfl h30) rfl rfl (r_nilCheck rfl) ?_
      refine l_val (gy rfl rfl rfl rfl h30) rfl rfl (r_fieldAddr StepR.fld_mine rfl) ?_
      refine l_val (gy rfl rfl rfl rfl h30) rfl rfl (r_load1 (v := vU8 mine) Tryz.isAgg28 rfl (Holds.sub (hx.keep hM8.kp (by simp)) (StepR.sub_mine _))) ?_
      refine l_val (gy rfl rfl rfl rfl h30) rfl rfl (r_move rfl) ?_
      refine l_val (gy rfl rfl rfl rfl h30) rfl rfl (r_lss (b := decide ((mine : UInt8) < S.acc.title)) rfl rfl (u8lt mine S.acc.title)) ?_
      refine l_val (gn rfl) rfl rfl (r_pickF rfl h30 rfl) ?_
      refine l_nil ?_
      refine ways (decide ((mine : UInt8) < S.acc.title)) (fun h33 => ?_) (fun h33 => ?_)
      ·skip
       have hp34 : (mine : UInt8) < S.acc.title := of_decide_eq_true h33
       refine c_condT rfl h33 ?_
       refine c_seq ?_
       refine c_reg ?_
       refine l_val (gn rfl) rfl rfl (r_assign rfl) ?_
       refine l_nil ?_
       refine c_ret ?_
       refine ret1 rfl rfl ?_
       exact ⟨by simp only [mayE, rightE, h9, h28, h30, h33, Bool.or_true, Bool.false_or, cond_true, cond_false] <;> rfl, hM8.kp⟩
      ·skip
       have hp35 : ¬ ((mine : UInt8) < S.acc.title) := of_decide_eq_false h33
       refine c_condF rfl h33 ?_
       refine c_skip ?_
       refine c_seq ?_
       refine c_reg ?_
       refine l_val (gn rfl) rfl rfl (r_assign rfl) ?_
       refine l_nil ?_
       refine c_ret ?_
       refine ret1 rfl rfl ?_
       exact ⟨by simp only [mayE, rightE, h9, h28, h30, h33, Bool.false_or, Bool.or_false, cond_true, cond_false] <;> rfl, hM8.kp⟩
    ·skip
     have hp36 : ¬ ((a.kind : UInt8) = 16) := of_decide_eq_false h28
     refine c_condF rfl h28 ?_
     refine c_seq ?_
     refine c_seq ?_
     refine c_reg ?_
     refine l_val (gn rfl) rfl rfl (r_eql (b := decide ((a.kind : UInt8) = 4)) rfl rfl (u8eq a.kind 4)) ?_
     refine l_val (gn rfl) rfl rfl (r_assign rfl) ?_
     refine l_nil ?_
     refine c_join (ι := Unit) (fun _ w_ => Mem w [] [] w_) (fun _ => [(0, Value.pointer (some ⟨bx, 0, none⟩)), (2, Value.int .i64 ((0 : Nat) : Int)), (3, vU8 2), (8, vU8 a.kind), (9, Value.bool ((decide ((a.kind : UInt8) = 1) || decide ((a.kind : UInt8) = 5) || decide ((a.kind : UInt8) = 12)))), (34, Value.bool (decide ((a.kind : UInt8) = 16))), (44, Value.bool ((decide ((a.kind : UInt8) = 4) || decide ((a.kind : UInt8) = 6))))]) ?_ ?_
     ·skip
      refine ways (decide ((a.kind : UInt8) = 4)) (fun h37 => ?_) (fun h37 => ?_)
      ·skip
       have hp38 : (a.kind : UInt8) = 4 := of_decide_eq_true h37
       refine c_condT rfl h37 ?_
       refine c_skip ?_
       exact jn () hM8 ⟨rfl, rfl, rfl, rfl, rfl, rfl, okB (by simp only [h37, Bool.true_or]), trivial⟩
      ·skip
       have hp39 : ¬ ((a.kind : UInt8) = 4) := of_decide_eq_false h37
       refine c_condF rfl h37 ?_
       refine c_reg ?_
       refine l_val (gn rfl) rfl rfl (r_eql (b := decide ((a.kind : UInt8) = 6)) rfl rfl (u8eq a.kind 6)) ?_
       refine l_val (gn rfl) rfl rfl (r_assign rfl) ?_
       refine l_nil ?_
       exact jn () hM8 ⟨rfl, rfl, rfl, rfl, rfl, rfl, okB (by simp only [h37, Bool.false_or]), trivial⟩
     ·skip
      rintro - w40 hM41
      refine ways ((decide ((a.kind : UInt8) = 4) || decide ((a.kind : UInt8) = 6))) (fun h42 => ?_) (fun h42 => ?_)
      ·skip
       refine c_condT rfl h42 ?_
       refine c_reg ?_
       refine l_val (gn rfl) rfl rfl (r_assign rfl) ?_
       refine l_nil ?_
       refine c_seq ?_
       refine c_seq ?_
       refine c_reg ?_
       refine l_val (gn rfl) rfl rfl (r_move rfl) ?_
       refine l_val (gn rfl) rfl rfl (r_nilCheck rfl) ?_
       refine l_val (gn rfl) rfl rfl (r_fieldAddr StepR.fld_mine rfl) ?_
       refine l_val (gn rfl) rfl rfl (r_load1 (v := vU8 mine) Tryz.isAgg28 rfl (Holds.sub (hx.keep hM41.kp (by simp)) (StepR.sub_mine _))) ?_
       refine l_val (gn rfl) rfl rfl (r_eql (b := decide ((mine : UInt8) = 0)) rfl rfl (u8eq mine 0)) ?_
       refine l_val (gn rfl) rfl rfl (r_move rfl) ?_
       refine ways (decide ((mine : UInt8) = 0)) (fun h43 => ?_) (fun h43 => ?_)
       ·skip
        have hp44 : (mine : UInt8) = 0 := of_decide_eq_true h43
        refine l_off (gno rfl rfl rfl rfl h43) rfl rfl ?_
        refine l_off (gno rfl rfl rfl rfl h43) rfl rfl ?_
        refine l_off (gno rfl rfl rfl rfl h43) rfl rfl ?_
        refine l_off (gno rfl rfl rfl rfl h43) rfl rfl ?_
        refine l_off (gno rfl rfl rfl rfl h43) rfl rfl ?_
        refine l_off (gno rfl rfl rfl rfl h43) rfl rfl ?_
        refine l_val (gn rfl) rfl rfl (r_pickT rfl h43 rfl) ?_
        refine l_nil ?_
        refine c_condT rfl rfl ?_
        refine c_seq ?_
        refine c_reg ?_
        refine l_val (gn rfl) rfl rfl (r_assign rfl) ?_
        refine l_nil ?_
        refine c_ret ?_
        refine ret1 rfl rfl ?_
        exact ⟨by simp only [mayE, rightE, h9, h28, h42, h43, Bool.true_or, cond_true, cond_false] <;> rfl, hM41.kp⟩
       ·skip
        have hp45 : ¬ ((mine : UInt8) = 0) := of_decide_eq_false h43
        refine l_val (gy rfl rfl rfl rfl h43) rfl rfl (r_move rfl) ?_
        refine l_val (gy rfl rfl rfl rfl h43) rfl rfl (r_nilCheck rfl) ?_
        refine l_val (gy rfl rfl rfl rfl h43) rfl rfl (r_fieldAddr StepR.fld_mine rfl) ?_
        refine l_val (gy rfl rfl rfl rfl h43) rfl rfl (r_load1 (v := vU8 mine) Tryz.isAgg28 rfl (Holds.sub (hx.keep hM41.kp (by simp)) (StepR.sub_mine _))) ?_
        refine l_val (gy rfl rfl rfl rfl h43) rfl rfl (r_move rfl) ?_
        refine l_val (gy rfl rfl rfl rfl h43) rfl rfl (r_lss (b := decide ((mine : UInt8) < 1)) rfl rfl (u8lt mine 1)) ?_
        refine l_val (gn rfl) rfl rfl (r_pickF rfl h43 rfl) ?_
        refine l_nil ?_
        refine ways (decide ((mine : UInt8) < 1)) (fun h46 => ?_) (fun h46 => ?_)
        ·skip
         have hp47 : (mine : UInt8) < 1 := of_decide_eq_true h46
         refine c_condT rfl h46 ?_
         refine c_seq ?_
         refine c_reg ?_
         refine l_val (gn rfl) rfl rfl (r_assign rfl) ?_
         refine l_nil ?_
         refine c_ret ?_
         refine ret1 rfl rfl ?_
         exact ⟨by simp only [mayE, rightE, h9, h28, h42, h43, h46, Bool.or_true, Bool.false_or, cond_true, cond_false] <;> rfl, hM41.kp⟩
        ·skip
         have hp48 : ¬ ((mine : UInt8) < 1) := of_decide_eq_false h46
         refine c_condF rfl h46 ?_
         refine c_skip ?_
         refine c_seq ?_
         refine c_reg ?_
         refine l_val (gn rfl) rfl rfl (r_assign rfl) ?_
         refine l_nil ?_
         refine c_ret ?_
         refine ret1 rfl rfl ?_
         exact ⟨by simp only [mayE, rightE, h9, h28, h42, h43, h46, Bool.false_or, Bool.or_false, cond_true, cond_false] <;> rfl, hM41.kp⟩
      ·skip
       refine c_condF rfl h42 ?_
       refine c_seq ?_
       refine c_seq ?_
       refine c_reg ?_
       refine l_val (gn rfl) rfl rfl (r_eql (b := decide ((a.kind : UInt8) = 7)) rfl rfl (u8eq a.kind 7)) ?_
       refine l_val (gn rfl) rfl rfl (r_assign rfl) ?_
       refine l_nil ?_
       refine c_join (ι := Unit) (fun _ w_ => Mem w [] [] w_) (fun _ => [(0, Value.pointer (some ⟨bx, 0, none⟩)), (2, Value.int .i64 ((0 : Nat) : Int)), (3, vU8 2), (8, vU8 a.kind), (9, Value.bool ((decide ((a.kind : UInt8) = 1) || decide ((a.kind : UInt8) = 5) || decide ((a.kind : UInt8) = 12)))), (34, Value.bool (decide ((a.kind : UInt8) = 16))), (44, Value.bool ((decide ((a.kind : UInt8) = 4) || decide ((a.kind : UInt8) = 6)))), (47, Value.bool ((decide ((a.kind : UInt8) = 7) || decide ((a.kind : UInt8) = 8) || decide ((a.kind : UInt8) = 11))))]) ?_ ?_
       ·skip
        refine ways (decide ((a.kind : UInt8) = 7)) (fun h49 => ?_) (fun h49 => ?_)
        ·skip
         have hp50 : (a.kind : UInt8) = 7 := of_decide_eq_true h49
         refine c_condT rfl h49 ?_
         refine c_skip ?_
         exact jn () hM41 ⟨rfl, rfl, rfl, rfl, rfl, rfl, rfl, okB (by simp only [h49, Bool.true_or]), trivial⟩
        ·skip
         have hp51 : ¬ ((a.kind : UInt8) = 7) := of_decide_eq_false h49
         refine c_condF rfl h49 ?_
         refine c_seq ?_
         refine c_reg ?_
         refine l_val (gn rfl) rfl rfl (r_eql (b := decide ((a.kind : UInt8) = 8)) rfl rfl (u8eq a.kind 8)) ?_
         refine l_val (gn rfl) rfl rfl (r_assign rfl) ?_
         refine l_nil ?_
         refine ways (decide ((a.kind : UInt8) = 8)) (fun h52 => ?_) (fun h52 => ?_)
         ·skip
          have hp53 : (a.kind : UInt8) = 8 := of_decide_eq_true h52
          refine c_condT rfl h52 ?_
          refine c_skip ?_
          exact jn () hM41 ⟨rfl, rfl, rfl, rfl, rfl, rfl, rfl, okB (by simp only [h49, h52, Bool.true_or, Bool.or_true]), trivial⟩
         ·skip
          have hp54 : ¬ ((a.kind : UInt8) = 8) := of_decide_eq_false h52
          refine c_condF rfl h52 ?_
          refine c_reg ?_
          refine l_val (gn rfl) rfl rfl (r_eql (b := decide ((a.kind : UInt8) = 11)) rfl rfl (u8eq a.kind 11)) ?_
          refine l_val (gn rfl) rfl rfl (r_assign rfl) ?_
          refine l_nil ?_
          exact jn () hM41 ⟨rfl, rfl, rfl, rfl, rfl, rfl, rfl, okB (by simp only [h49, h52, Bool.false_or, Bool.or_false]), trivial⟩
       ·skip
        rintro - w55 hM56
        refine ways ((decide ((a.kind : UInt8) = 7) || decide ((a.kind : UInt8) = 8) || decide ((a.kind : UInt8) = 11))) (fun h57 => ?_) (fun h57 => ?_)
        ·skip
         refine c_condT rfl h57 ?_
         refine c_seq ?_
         refine c_reg ?_
         refine l_val (gn rfl) rfl rfl (r_assign rfl) ?_
         refine l_nil ?_
         refine c_ret ?_
         refine ret1 rfl rfl ?_
         exact ⟨by simp only [mayE, rightE, h9, h28, h42, h57, cond_true, cond_false] <;> rfl, hM56.kp⟩
        ·skip
         refine c_condF rfl h57 ?_
         refine c_seq ?_
         refine c_seq ?_
         refine c_reg ?_
         refine l_val (gn rfl) rfl rfl (r_eql (b := decide ((a.kind : UInt8) = 9)) rfl rfl (u8eq a.kind 9)) ?_
         refine l_val (gn rfl) rfl rfl (r_assign rfl) ?_
         refine l_nil ?_
         refine c_join (ι := Unit) (fun _ w_ => Mem w [] [] w_) (fun _ => [(0, Value.pointer (some ⟨bx, 0, none⟩)), (2, Value.int .i64 ((0 : Nat) : Int)), (3, vU8 2), (8, vU8 a.kind), (9, Value.bool ((decide ((a.kind : UInt8) = 1) || decide ((a.kind : UInt8) = 5) || decide ((a.kind : UInt8) = 12)))), (34, Value.bool (decide ((a.kind : UInt8) = 16))), (44, Value.bool ((decide ((a.kind : UInt8) = 4) || decide ((a.kind : UInt8) = 6)))), (47, Value.bool ((decide ((a.kind : UInt8) = 7) || decide ((a.kind : UInt8) = 8) || decide ((a.kind : UInt8) = 11)))), (51, Value.bool ((decide ((a.kind : UInt8) = 9) || decide ((a.kind : UInt8) = 10))))]) ?_ ?_
         ·skip
          refine ways (decide ((a.kind : UInt8) = 9)) (fun h58 => ?_) (fun h58 => ?_)
          ·skip
           have hp59 : (a.kind : UInt8) = 9 := of_decide_eq_true h58
           refine c_condT rfl h58 ?_
           refine c_skip ?_
           exact jn () hM56 ⟨rfl, rfl, rfl, rfl, rfl, rfl, rfl, rfl, okB (by simp only [h58, Bool.true_or]), trivial⟩
          ·skip
           have hp60 : ¬ ((a.kind : UInt8) = 9) := of_decide_eq_false h58
           refine c_condF rfl h58 ?_
           refine c_reg ?_
           refine l_val (gn rfl) rfl rfl (r_eql (b := decide ((a.kind : UInt8) = 10)) rfl rfl (u8eq a.kind 10)) ?_
           refine l_val (gn rfl) rfl rfl (r_assign rfl) ?_
           refine l_nil ?_
           exact jn () hM56 ⟨rfl, rfl, rfl, rfl, rfl, rfl, rfl, rfl, okB (by simp only [h58, Bool.false_or]), trivial⟩
         ·skip
          rintro - w61 hM62
          refine ways ((decide ((a.kind : UInt8) = 9) || decide ((a.kind : UInt8) = 10))) (fun h63 => ?_) (fun h63 => ?_)
          ·skip
           refine c_condT rfl h63 ?_
           refine c_seq ?_
           refine c_seq ?_
           refine c_regD (Mem w [] []) [] [(0, true), (1, true), (2, true), (3, true), (4, true), (5, true), (6, true), (7, true), (8, true), (9, true), (10, true)] (by kernel_rfl) ?_
           have hM64 := hM62.drew
           refine s_take hM64 rfl (gn rfl) rfl rfl (fun w h => r_move rfl) ?_
           refine s_take hM64 rfl (gn rfl) rfl rfl (fun w h => r_nilCheck rfl) ?_
           refine s_take hM64 rfl (gn rfl) rfl rfl (fun w h => r_fieldAddr StepR.fld_a rfl) ?_
           refine s_take hM64 rfl (gn rfl) rfl rfl (fun w h => r_fieldAddr ARep.fld_who rfl) ?_
           refine s_take hM64 rfl (gn rfl) rfl rfl (fun w h => r_fieldAddr Cipher.fld_E rfl) ?_
           refine s_take hM64 rfl (gn rfl) rfl rfl (fun w h => r_loadA Tryz.isAgg24 Tryz.sizeOf24 (Pt.size _) rfl (Holds.sub (Holds.sub (Holds.sub (hx.keep h.kp (by simp)) (StepR.sub_a _)) (ARep.sub_who _)) (Cipher.sub_E _))) ?_
           refine s_take hM64 rfl (gn rfl) rfl rfl (fun w h => r_move rfl) ?_
           refine s_take hM64 rfl (gn rfl) rfl rfl (fun w h => r_nilCheck rfl) ?_
           refine s_take hM64 rfl (gn rfl) rfl rfl (fun w h => r_fieldAddr StepR.fld_by_ rfl) ?_
           refine s_take hM64 rfl (gn rfl) rfl rfl (fun w h => r_loadA Tryz.isAgg24 Tryz.sizeOf24 (Pt.size _) rfl (Holds.sub (hx.keep h.kp (by simp)) (StepR.sub_by_ _))) ?_
           refine s_take hM64 rfl (gn rfl) rfl rfl (fun w h => r_nePt Tryz.eqGuardType24 Tryz.underlying24 rfl rfl) ?_
           refine s_nil ?_
           refine ways (decide (a.who.E = by_)) (fun h66 => ?_) (fun h66 => ?_)
           ·skip
            have hp67 : a.who.E = by_ := of_decide_eq_true h66
            refine c_condF rfl (congrArg Bool.not h66) ?_
            refine c_skip ?_
            refine c_seq ?_
            refine c_reg ?_
            refine l_val (gn rfl) rfl rfl (r_assign rfl) ?_
            refine l_nil ?_
            refine c_ret ?_
            refine ret1 rfl rfl ?_
            exact ⟨by simp only [mayE, rightE, h9, h28, h42, h57, h63, h66, cond_true, cond_false] <;> rfl, hM64.kp⟩
           ·skip
            have hp68 : ¬ (a.who.E = by_) := of_decide_eq_false h66
            refine c_condT rfl (congrArg Bool.not h66) ?_
            refine c_seq ?_
            refine c_reg ?_
            refine l_val (gn rfl) rfl rfl (r_assign rfl) ?_
            refine l_nil ?_
            refine c_ret ?_
            refine ret1 rfl rfl ?_
            exact ⟨by simp only [mayE, rightE, h9, h28, h42, h57, h63, h66, cond_true, cond_false] <;> rfl, hM64.kp⟩
          ·skip
           refine c_condF rfl h63 ?_
           refine c_skip ?_
           refine c_seq ?_
           refine c_seq ?_
           refine c_reg ?_
           refine l_val (gn rfl) rfl rfl (r_move rfl) ?_
           refine l_val (gn rfl) rfl rfl (r_nilCheck rfl) ?_
           refine l_val (gn rfl) rfl rfl (r_fieldAddr StepR.fld_mine rfl) ?_
           refine l_val (gn rfl) rfl rfl (r_load1 (v := vU8 mine) Tryz.isAgg28 rfl (Holds.sub (hx.keep hM62.kp (by simp)) (StepR.sub_mine _))) ?_
           refine l_val (gn rfl) rfl rfl (r_eql (b := decide ((mine : UInt8) = 0)) rfl rfl (u8eq mine 0)) ?_
           refine l_val (gn rfl) rfl rfl (r_move rfl) ?_
           refine ways (decide ((mine : UInt8) = 0)) (fun h69 => ?_) (fun h69 => ?_)
           ·skip
            have hp70 : (mine : UInt8) = 0 := of_decide_eq_true h69
            refine l_off (gno rfl rfl rfl rfl h69) rfl rfl ?_
            refine l_off (gno rfl rfl rfl rfl h69) rfl rfl ?_
            refine l_off (gno rfl rfl rfl rfl h69) rfl rfl ?_
            refine l_off (gno rfl rfl rfl rfl h69) rfl rfl ?_
            refine l_off (gno rfl rfl rfl rfl h69) rfl rfl ?_
            refine l_off (gno rfl rfl rfl rfl h69) rfl rfl ?_
            refine l_val (gn rfl) rfl rfl (r_pickT rfl h69 rfl) ?_
            refine l_nil ?_
            refine c_condT rfl rfl ?_
            refine c_seq ?_
            refine c_reg ?_
            refine l_val (gn rfl) rfl rfl (r_assign rfl) ?_
            refine l_nil ?_
            refine c_ret ?_
            refine ret1 rfl rfl ?_
            exact ⟨by simp only [mayE, rightE, h9, h28, h42, h57, h63, h69, Bool.true_or, cond_true, cond_false] <;> rfl, hM62.kp⟩
           ·skip
            have hp71 : ¬ ((mine : UInt8) = 0) := of_decide_eq_false h69
            refine l_val (gy rfl rfl rfl rfl h69) rfl rfl (r_move rfl) ?_
            refine l_val (gy rfl rfl rfl rfl h69) rfl rfl (r_nilCheck rfl) ?_
            refine l_val (gy rfl rfl rfl rfl h69) rfl rfl (r_fieldAddr StepR.fld_mine rfl) ?_
            refine l_val (gy rfl rfl rfl rfl h69) rfl rfl (r_load1 (v := vU8 mine) Tryz.isAgg28 rfl (Holds.sub (hx.keep hM62.kp (by simp)) (StepR.sub_mine _))) ?_
            refine l_val (gy rfl rfl rfl rfl h69) rfl rfl (r_move rfl) ?_
            refine l_val (gy rfl rfl rfl rfl h69) rfl rfl (r_lss (b := decide ((mine : UInt8) < 2)) rfl rfl (u8lt mine 2)) ?_
            refine l_val (gn rfl) rfl rfl (r_pickF rfl h69 rfl) ?_
            refine l_nil ?_
            refine ways (decide ((mine : UInt8) < 2)) (fun h72 => ?_) (fun h72 => ?_)
            ·skip
             have hp73 : (mine : UInt8) < 2 := of_decide_eq_true h72
             refine c_condT rfl h72 ?_
             refine c_seq ?_
             refine c_reg ?_
             refine l_val (gn rfl) rfl rfl (r_assign rfl) ?_
             refine l_nil ?_
             refine c_ret ?_
             refine ret1 rfl rfl ?_
             exact ⟨by simp only [mayE, rightE, h9, h28, h42, h57, h63, h69, h72, Bool.or_true, Bool.false_or, cond_true, cond_false] <;> rfl, hM62.kp⟩
            ·skip
             have hp74 : ¬ ((mine : UInt8) < 2) := of_decide_eq_false h72
             refine c_condF rfl h72 ?_
             refine c_skip ?_
             refine c_seq ?_
             refine c_reg ?_
             refine l_val (gn rfl) rfl rfl (r_assign rfl) ?_
             refine l_nil ?_
             refine c_ret ?_
             refine ret1 rfl rfl ?_
             exact ⟨by simp only [mayE, rightE, h9, h28, h42, h57, h63, h69, h72, Bool.false_or, Bool.or_false, cond_false] <;> rfl, hM62.kp⟩
end Go.Proofs.YtekhaogjmmmniaaGreat
namespace Go.Proofs.YtekhaogjmmmniaaGreat
open Go Go.RowKit

/-- An action's bytes: of one's own, in blocks that are none of the state's. -/
structure ActM (base : Nat) (w : World) (b : Nat) (q : Six) (qa : Two) (a : Action) : Prop where
  t : Own base 5 w qa.t 1 encB a.title
  p : Own base 5 w qa.p 1 encB a.pass
  ht : ∀ x ∈ b :: q.bs, qa.t.val.ownBlock ≠ some x
  hp : ∀ x ∈ b :: q.bs, qa.p.val.ownBlock ≠ some x
section act
variable {base b : Nat} {w w' W : World} {q q' q0 : Six} {S S' : State} {qa : Two} {a : Action} {L : List Ent} {X xs ys : List Nat}
theorem Row.but {α : Type} {A : Nat → Prop} {s : Sl} {sz : Nat} {enc : α → Array Value} {l : List α} (h : Row A w s sz enc l) (hx : ∀ x ∈ X, s.val.ownBlock ≠ some x) : Row (fun k => k ∉ X) w s sz enc l :=
  ⟨h.len, h.cap, h.big, h.nil0, fun i e hi => by
    obtain ⟨b, off, h1, _, h3⟩ := h.at_ i e hi
    exact ⟨b, off, h1, fun hm => hx b hm (by simp [Sl.val, h1, Value.ownBlock]), h3⟩⟩
theorem ActM.acv (h : ActM base w b q qa a) : AcV (fun k => k ∉ b :: q.bs) w qa a := ⟨(h.t.row enB).but h.ht, (h.p.row enB).but h.hp⟩
theorem ActM.keep (h : ActM base w b q qa a) (k : Keeps (b :: q.bs) w w') : ActM base w' b q qa a := ⟨h.t.keep k h.ht, h.p.keep k h.hp, h.ht, h.hp⟩
theorem StB.nb (h : StB base w b q S) : b ∉ q.bs := fun hm => by have := (h.own.lo b hm).1; have := h.lt; omega
theorem StB.setT (h : StB base w b q S) (hA : ActM base w b q qa a) (k : Keeps [b] w w') : OwnSt base w' { q with t := qa.t } { S with title := a.title } := by
  have h1 := h.own.keepX k (by simpa using h.nb)
  have sep := h1.sep
  simp only [List.pairwise_cons] at sep
  have hs : ∀ s ∈ q.sls, Sep2 qa.t s := fun s hs x hx hy => hA.ht x (List.mem_cons_of_mem _ (mem_bs.2 ⟨s, hs, hy⟩)) hx
  refine ⟨hA.t.keep k (fun x hx => hA.ht x (by simp only [List.mem_cons, List.not_mem_nil, or_false] at hx; simp [hx])), h1.p, h1.s, h1.i, h1.a, h1.b, ?_⟩
  simp only [List.pairwise_cons]
  exact ⟨fun s hm => hs s (List.mem_cons_of_mem _ hm), sep.2⟩
theorem StB.setP (h : StB base w b q S) (hA : ActM base w b q qa a) (k : Keeps [b] w w') : OwnSt base w' { q with p := qa.p } { S with pass := a.pass } := by
  have h1 := h.own.keepX k (by simpa using h.nb)
  have sep := h1.sep
  simp only [List.pairwise_cons] at sep
  have hs : ∀ s ∈ q.sls, Sep2 qa.p s := fun s hs x hx hy => hA.hp x (List.mem_cons_of_mem _ (mem_bs.2 ⟨s, hs, hy⟩)) hx
  refine ⟨h1.t, hA.p.keep k (fun x hx => hA.hp x (by simp only [List.mem_cons, List.not_mem_nil, or_false] at hx; simp [hx])), h1.s, h1.i, h1.a, h1.b, ?_⟩
  simp only [List.pairwise_cons]
  refine ⟨fun s hm => ?_, fun s hm => hs s (List.mem_cons_of_mem _ (List.mem_cons_of_mem _ hm)), sep.2.2⟩
  cases hm with
  | head => exact (hs q.t (by simp [Six.sls])).symm
  | tail _ hm => exact sep.1 s (List.mem_cons_of_mem _ hm)
theorem StB.setA (h : StB base w b q S) (k : Keeps [b] w w') (acc : Access) : OwnSt base w' q { S with acc := acc } := by
  have h1 := h.own.keepX k (by simpa using h.nb)
  exact ⟨h1.t, h1.p, h1.s, h1.i, h1.a, h1.b, h1.sep⟩
/-- A store within a seat. -/
theorem StB.setSeat (h : StB base w b q S) {i g o off : Nat} {x x' : Seat} {v : Array Value} (hi : S.seats[i]? = some x) (ha : q.s.a = some ⟨g, o, none⟩) (hput : put (Seat.cells x) off v = Seat.cells x') (hk : off + v.size ≤ 66) :
    ∃ cur, Blk w g cur 73 ∧ o + i * 66 + off + v.size ≤ cur.size ∧ StB base (w.setRow g (put cur (o + i * 66 + off) v)) b q { S with seats := S.seats.set i x' } ∧ g ∈ q.bs := by
  obtain ⟨cur, h0, h1, h2, h3, h4⟩ := h.own.s.set enSeat hi ha hput hk
  have hg : q.s.val.ownBlock = some g := by simp [Sl.val, ha, Value.ownBlock]
  have k := Keeps.setRow w g (put cur (o + i * 66 + off) v)
  have hgb : g ≠ b := fun e => by have := h.lt; omega
  have sep := h.own.sep
  simp only [List.pairwise_cons, List.mem_cons, List.not_mem_nil, or_false, forall_eq_or_imp, forall_eq, false_imp_iff, implies_true, List.Pairwise.nil, and_true] at sep
  obtain ⟨⟨s01, s02, s03, s04, s05⟩, ⟨s12, s13, s14, s15⟩, ⟨s23, s24, s25⟩, ⟨s34, s35⟩, s45⟩ := sep
  have ne : ∀ {s : Sl}, Sep2 s q.s → ∀ x ∈ [g], s.val.ownBlock ≠ some x := fun hs x hx hc => by
    simp only [List.mem_cons, List.not_mem_nil, or_false] at hx
    subst hx
    exact hs x hc hg
  refine ⟨cur, h2, h3, ⟨h.blk.keep k (by simpa using (Ne.symm hgb)), h.lt, ⟨h.own.t.keep k (ne s02), h.own.p.keep k (ne s12), h4, h.own.i.keep k (ne s23.symm), h.own.a.keep k (ne s24.symm), h.own.b.keep k (ne s25.symm), h.own.sep⟩⟩, mem_bs.2 ⟨q.s, by simp [Six.sls], hg⟩⟩
end act

section steps
variable {n : Nat} {env : List (Nat × Value)} {W w : World} {L : List Ent} {N : Pst} {E : List (Nat × Pst)} {R : Pst} {ops : Array Oper}
variable {ty : TypeId} {pos : String} {af : Array Edge} {p y : Operand} {T : TypeId} {v : Value} {base b off k : Nat} {q q' q0 : Six} {Z Z' : State}
variable {S : World → Prop} {late : List Nat} {r : List (Nat × Bool)} {ld : Bool} {j : Nat}
theorem s_storeSt (hM : Mem W (b :: q0.bs) L w) (hB : StB base w b q Z) (hF : NS W q0 q) (hA : Apt b q (L.map Prod.fst)) (hj : ops[j]? = some ⟨none, .store T p y, ty, pos, af, none⟩) (hs : ∀ w, (sizeOf T).run Tryz.prog w = .ok k w)
    (hx : ev env p = some (.pointer (some ⟨b, off, none⟩))) (hv : ev env y = some v) (hk : v.cells.size = k) (hl : off + k ≤ 74) (h1 : ∀ c ∈ v.cells, c.oneCell' = true) (hput : put (Z.rep q).cells off v.cells = (Z'.rep q').cells)
    (hO : ∀ w', Keeps [b] w w' → OwnSt base w' q' Z')
    (h : ∀ w', Mem W (b :: q0.bs) L w' → Keeps [b] w w' → StB base w' b q' Z' → ((ld || late.contains j) = true ∨ S w') ∧ AT n env w' (SW ops S late r (ld || late.contains j) N E R)) :
    AT n env w (SW ops S late ((j, false) :: r) ld N E R) := by
  subst hk
  have kk := Keeps.setRow w b (put (Z.rep q).cells off v.cells)
  have hb := setRow_heap w b _ (put (Z.rep q).cells off v.cells) 37 _ hB.blk
  have h' := h _ (hM.st (kk.mono (by simp)) hF hA) kk ⟨by rw [← hput]; exact hb, hB.lt, hO _ kk⟩
  exact s_skip hj (gn rfl) rfl (r_store hs hx hv rfl hB.blk (by rw [SRep.size]; exact hl) h1) h'.1 h'.2
theorem s_storeRole (hM : Mem W (b :: q0.bs) L w) (hB : StB base w b q Z) (hF : NS W q0 q) (hA : Apt b q (L.map Prod.fst)) {i g o : Nat} {x : Seat} {rr : UInt8} (hi : Z.seats[i]? = some x) (ha : q.s.a = some ⟨g, o, none⟩)
    (hj : ops[j]? = some ⟨none, .store 28 p y, ty, pos, af, none⟩)
    (hx : ev env p = some (.pointer (some ⟨g, o + i * 66 + 64, none⟩))) (hv : ev env y = some (vU8 rr))
    (h : ∀ w', Mem W (b :: q0.bs) L w' → Keeps (b :: q.bs) w w' → StB base w' b q { Z with seats := Z.seats.set i { x with role := rr } } → ((ld || late.contains j) = true ∨ S w') ∧ AT n env w' (SW ops S late r (ld || late.contains j) N E R)) :
    AT n env w (SW ops S late ((j, false) :: r) ld N E R) := by
  obtain ⟨cur, h2, h3, h4, h5⟩ := hB.setSeat (v := #[vU8 rr]) hi ha (Seat.put_role x rr) (by simp)
  have kk : Keeps (b :: q.bs) w (w.setRow g (put cur (o + i * 66 + 64) #[vU8 rr])) := (Keeps.setRow w g _).mono fun y hy => by
    simp only [List.mem_cons, List.not_mem_nil, or_false] at hy
    subst hy; exact List.mem_cons_of_mem _ h5
  have h' := h _ (hM.st kk hF hA) kk h4
  exact s_skip hj (gn rfl) rfl (r_store (v := vU8 rr) Tryz.sizeOf28 hx hv rfl h2 h3 (one_one rfl)) h'.1 h'.2
end steps
end Go.Proofs.YtekhaogjmmmniaaGreat
namespace Go.Proofs.YtekhaogjmmmniaaGreat
open Go Go.RowKit

theorem f70 {w : World} {base b bx : Nat} {q : Six} {S : State} {qa : Two} {a : Action} {by_ : Pt} {mine : UInt8} (hx : Holds w bx 0 (StepR.cells ⟨b, by_, a.rep qa, mine⟩)) (hbx : bx ∉ b :: q.bs) (hB : StB base w b q S) (hbw : base ≤ w.heap.size) (hu : UpK Seat.key S.seats) (hl : S.seats.length ≤ 40) (who : Cipher) (r : UInt8) : Ret 70 #[.pointer (some ⟨bx, 0, none⟩), .agg who.cells, vU8 r] w (fun v w' => ∃ q', v = .int .i64 ((0 : Nat) : Int) ∧ StB base w' b q' (putS S ⟨who, r, a.ver⟩) ∧ Keeps (b :: q.bs) w w') := by
  have hM0 : Mem w (b :: q.bs) [] w := ⟨Keeps.refl _ _, by simp, by simp, by simp⟩
  have hF0 := NS.refl w q
  have hAp0 : Apt b q [] := Apt.nil
  have hU1 := hl
  refine enter Tryz.func70 rfl rfl ?_
  refine c_seq ?_
  refine c_reg ?_
  refine l_box hM0 rfl rfl ?_
  intro b1 w2 hM3 hK4 hB5
  replace hM3 : Mem w (b :: q.bs) [(b1, (Cipher.cells who), 40)] w2 := hM3
  have hAp6 : Apt b q [b1] := hAp0.cons hB hB5
  refine l_val (gn rfl) rfl rfl (r_assign rfl) ?_
  refine l_nil ?_
  refine c_seq ?_
  refine c_regD (Mem w (b :: q.bs) [(b1, (Cipher.cells who), 40)]) [] [(0, true), (1, true), (2, true), (3, true), (5, true), (6, true), (7, true), (8, true), (9, true), (10, true), (11, true), (12, true), (4, false), (13, false)] (by kernel_rfl) ?_
  have hM7 := hM3.drew
  refine s_take hM7 rfl (gn rfl) rfl rfl (fun w h => r_move rfl) ?_
  refine s_take hM7 rfl (gn rfl) rfl rfl (fun w h => r_nilCheck rfl) ?_
  refine s_take hM7 rfl (gn rfl) rfl rfl (fun w h => r_fieldAddr StepR.fld_b rfl) ?_
  refine s_take hM7 rfl (gn rfl) rfl rfl (fun w h => r_load1 (v := Value.pointer (some ⟨b, 0, none⟩)) Tryz.isAgg77 rfl (Holds.sub (hx.keep h.kp hbx) (StepR.sub_b _))) ?_
  refine s_take hM7 rfl (gn rfl) rfl rfl (fun w h => r_loadA Tryz.isAgg40 Tryz.sizeOf40 (Cipher.size _) rfl (h.base (i := 0) rfl)) ?_
  refine s_take hM7 rfl (gn rfl) rfl rfl (fun w h => r_move rfl) ?_
  refine s_take hM7 rfl (gn rfl) rfl rfl (fun w h => r_move rfl) ?_
  refine s_take hM7 rfl (gn rfl) rfl rfl (fun w h => r_nilCheck rfl) ?_
  refine s_take hM7 rfl (gn rfl) rfl rfl (fun w h => r_fieldAddr StepR.fld_a rfl) ?_
  refine s_take hM7 rfl (gn rfl) rfl rfl (fun w h => r_fieldAddr ARep.fld_ver rfl) ?_
  refine s_take hM7 rfl (gn rfl) rfl rfl (fun w h => r_load1 (v := vU32 a.ver) Tryz.isAgg22 rfl (Holds.sub (Holds.sub (hx.keep h.kp hbx) (StepR.sub_a _)) (ARep.sub_ver _))) ?_
  refine s_take hM7 rfl (gn rfl) rfl rfl (fun w h => r_build rfl ((Seat.built _).trans (fill_cons rfl (Cipher.size _) (by rw [Seat.size]; decide) (Seat.put_who _ who) (fill_cons rfl rfl (by rw [Seat.size]; decide) (Seat.put_role _ r) (fill_cons rfl rfl (by rw [Seat.size]; decide) (Seat.put_joined _ a.ver) (fill_nil)))))) ?_
  refine s_call rfl (gn rfl) rfl rfl (r_call Tryz.call63 rfl) (f63 _) ?_
  rintro v9 w10 ⟨rfl, hK11⟩
  have hM12 := hM7.keep hK11
  refine ⟨.inr hM12, ?_⟩
  refine s_call rfl (gn rfl) rfl rfl (r_call Tryz.call103 rfl) (put_s (((hB.keep0 hK4).keep0 (Keeps.drew _)).keep0 hK11) hu (Nat.le_trans hl (by decide)) (Nat.le_trans hbw hM12.kp.size) ((Seat.mk who r a.ver))) ?_
  rintro v16 w17 ⟨q13, rfl, hB14, hK18, hS15⟩
  have hM19 := hM12.st hK18 hF0 hAp6
  have hC20 : StB base w17 b q13 (putS S ((Seat.mk who r a.ver))) := hB14
  have hF20 := hF0.trans hS15 hM12.kp.size
  have hAp20 : Apt b q13 [b1] := hAp6.ns hS15 hM12.blks
  refine ⟨.inr hM19, ?_⟩
  refine s_nil ?_
  refine c_seq ?_
  refine c_reg ?_
  refine l_val (gn rfl) rfl rfl (r_assign rfl) ?_
  refine l_nil ?_
  refine c_ret ?_
  refine ret1 rfl rfl ?_
  exact ⟨q13, rfl, hC20, hM19.kp⟩
end Go.Proofs.YtekhaogjmmmniaaGreat
namespace Go.Proofs.YtekhaogjmmmniaaGreat
open Go Go.RowKit

set_option maxHeartbeats 4000000 in
theorem f80 {w : World} {base b bx : Nat} {q : Six} {S : State} {qa : Two} {a : Action} {by_ : Pt} {mine : UInt8} (hx : Holds w bx 0 (StepR.cells ⟨b, by_, a.rep qa, mine⟩)) (hbx : bx ∉ b :: q.bs) (hB : StB base w b q S) (hbw : base ≤ w.heap.size) (hC : ActM base w b q qa a) (hU : Ups S) (hme : a.kind = 14 ∨ a.kind = 14 → hasK Seat.key S.seats by_ = true) : Ret 80 #[.pointer (some ⟨bx, 0, none⟩)] w (fun v w' => ∃ q', v = .int .i64 (((moreS S by_ a mine).1 : Nat) : Int) ∧ StB base w' b q' (moreS S by_ a mine).2 ∧ Keeps (b :: q.bs) w w') := by
  have hbl : bx < w.heap.size := by
      have h0 := hx 0 (by rw [StepR.size]; decide)
      rw [Array.getElem?_eq_getElem (by rw [StepR.size]; decide)] at h0
      exact World.block_lt_of_cell? _ ⟨bx, _, none⟩ h0
  have hM0 : Mem w (b :: q.bs) [] w := ⟨Keeps.refl _ _, by simp, by simp, by simp⟩
  have hF0 := NS.refl w q
  have hAp0 : Apt b q [] := Apt.nil
  have hA := hC.acv
  refine enter Tryz.func80 rfl rfl ?_
  refine c_seq ?_
  refine c_reg ?_
  refine l_val (gn rfl) rfl rfl (r_assign rfl) ?_
  refine l_nil ?_
  refine c_seq ?_
  have hz1 := hB.xlt
  have hM2 := hM0.drew
  refine c_regA (fun w_ => Mem w (b :: q.bs) [] w_ ∧ StB base w_ b q S) [] [⟨20, 3, Roll.noCells, 115⟩, ⟨21, 4, Roll.noCells, 120⟩, ⟨22, 5, Roll.noCells, 125⟩, ⟨23, 6, Roll.noCells, 157⟩] [] [(0, true), (1, true), (2, true), (3, true), (5, true), (6, true), (7, true), (8, true), (10, true), (11, true), (12, true), (13, true), (15, true), (16, true), (17, true), (18, true), (4, false), (9, false), (14, false), (19, false)] [(24, false), (25, false), (26, false), (27, false)] (by kernel_rfl) ⟨⟨_, _, _, rfl, _, Roll.zv115, rfl⟩, ⟨_, _, _, rfl, _, Roll.zv120, rfl⟩, ⟨_, _, _, rfl, _, Roll.zv125, rfl⟩, ⟨_, _, _, rfl, _, Roll.zv157, rfl⟩, trivial⟩ (by simp) (fun _ _ k h => ⟨h.1.keep k, h.2.keep0 k⟩) ⟨hM2, (hB.keep0 (Keeps.drew _))⟩ ?_
  refine a_take ⟨hM2, (hB.keep0 (Keeps.drew _))⟩ rfl rfl (gn rfl) rfl rfl (fun w h => r_move rfl) ?_
  refine a_take ⟨hM2, (hB.keep0 (Keeps.drew _))⟩ rfl rfl (gn rfl) rfl rfl (fun w h => r_nilCheck rfl) ?_
  refine a_take ⟨hM2, (hB.keep0 (Keeps.drew _))⟩ rfl rfl (gn rfl) rfl rfl (fun w h => r_fieldAddr StepR.fld_b rfl) ?_
  refine a_take ⟨hM2, (hB.keep0 (Keeps.drew _))⟩ rfl rfl (gn rfl) rfl rfl (fun w h => r_load1 (v := Value.pointer (some ⟨b, 0, none⟩)) Tryz.isAgg77 rfl (Holds.sub (hx.keep h.1.kp hbx) (StepR.sub_b _))) ?_
  refine a_take ⟨hM2, (hB.keep0 (Keeps.drew _))⟩ rfl rfl (gn rfl) rfl rfl (fun w h => r_move rfl) ?_
  refine a_take ⟨hM2, (hB.keep0 (Keeps.drew _))⟩ rfl rfl (gn rfl) rfl rfl (fun w h => r_nilCheck rfl) ?_
  refine a_take ⟨hM2, (hB.keep0 (Keeps.drew _))⟩ rfl rfl (gn rfl) rfl rfl (fun w h => r_fieldAddr StepR.fld_b rfl) ?_
  refine a_take ⟨hM2, (hB.keep0 (Keeps.drew _))⟩ rfl rfl (gn rfl) rfl rfl (fun w h => r_load1 (v := Value.pointer (some ⟨b, 0, none⟩)) Tryz.isAgg77 rfl (Holds.sub (hx.keep h.1.kp hbx) (StepR.sub_b _))) ?_
  refine a_take ⟨hM2, (hB.keep0 (Keeps.drew _))⟩ rfl rfl (gn rfl) rfl rfl (fun w h => r_move rfl) ?_
  refine a_take ⟨hM2, (hB.keep0 (Keeps.drew _))⟩ rfl rfl (gn rfl) rfl rfl (fun w h => r_nilCheck rfl) ?_
  refine a_take ⟨hM2, (hB.keep0 (Keeps.drew _))⟩ rfl rfl (gn rfl) rfl rfl (fun w h => r_fieldAddr StepR.fld_b rfl) ?_
  refine a_take ⟨hM2, (hB.keep0 (Keeps.drew _))⟩ rfl rfl (gn rfl) rfl rfl (fun w h => r_load1 (v := Value.pointer (some ⟨b, 0, none⟩)) Tryz.isAgg77 rfl (Holds.sub (hx.keep h.1.kp hbx) (StepR.sub_b _))) ?_
  refine a_take ⟨hM2, (hB.keep0 (Keeps.drew _))⟩ rfl rfl (gn rfl) rfl rfl (fun w h => r_move rfl) ?_
  refine a_take ⟨hM2, (hB.keep0 (Keeps.drew _))⟩ rfl rfl (gn rfl) rfl rfl (fun w h => r_nilCheck rfl) ?_
  refine a_take ⟨hM2, (hB.keep0 (Keeps.drew _))⟩ rfl rfl (gn rfl) rfl rfl (fun w h => r_fieldAddr StepR.fld_b rfl) ?_
  refine a_take ⟨hM2, (hB.keep0 (Keeps.drew _))⟩ rfl rfl (gn rfl) rfl rfl (fun w h => r_load1 (v := Value.pointer (some ⟨b, 0, none⟩)) Tryz.isAgg77 rfl (Holds.sub (hx.keep h.1.kp hbx) (StepR.sub_b _))) ?_
  refine a_call rfl rfl (gn rfl) rfl rfl rfl ?_
  intro w3 hE4
  have hM5 := hM2.keep hE4
  refine ⟨_, _, _, r_call Tryz.call63 rfl, f63 _, ?_⟩
  rintro v6 w7 ⟨rfl, hK8⟩
  have hM9 := hM5.keep hK8
  refine ⟨⟨hM9, (((hB.keep0 (Keeps.drew _)).keep0 hE4).keep0 hK8)⟩, hK8, ?_⟩
  refine a_call rfl rfl (gn rfl) rfl rfl rfl ?_
  intro w10 hE11
  have hM12 := hM9.keep hE11
  refine ⟨_, _, _, r_call Tryz.call64 rfl, f64 _, ?_⟩
  rintro v13 w14 ⟨rfl, hK15⟩
  have hM16 := hM12.keep hK15
  have hD17 : StB base w14 b q S := (((((hB.keep0 (Keeps.drew _)).keep0 hE4).keep0 hK8).keep0 hE11).keep0 hK15)
  refine ⟨⟨hM16, hD17⟩, hK15, ?_⟩
  refine a_call rfl rfl (gn rfl) rfl rfl rfl ?_
  intro w18 hE19
  have hM20 := hM16.keep hE19
  refine ⟨_, _, _, r_call Tryz.call65 rfl, f65 _, ?_⟩
  rintro v21 w22 ⟨rfl, hK23⟩
  have hM24 := hM20.keep hK23
  refine ⟨⟨hM24, ((hD17.keep0 hE19).keep0 hK23)⟩, hK23, ?_⟩
  refine a_call rfl rfl (gn rfl) rfl rfl rfl ?_
  intro w25 hE26
  have hM27 := hM24.keep hE26
  refine ⟨_, _, _, r_call Tryz.call94 rfl, f94 _, ?_⟩
  rintro v28 w29 ⟨rfl, hK30⟩
  have hM31 := hM27.keep hK30
  have hD32 : StB base w29 b q S := ((((hD17.keep0 hE19).keep0 hK23).keep0 hE26).keep0 hK30)
  refine ⟨⟨hM31, hD32⟩, hK30, ?_⟩
  refine a_nil hM31 hM2.kp.size hM2.lt rfl rfl ?_
  intro w33 g34 hK35 hM36 hg37
  change AT _ (_ :: _ :: _ :: _ :: _) _ _
  replace hM36 : Mem w (b :: q.bs) [(g34 20, Roll.noCells, 115), (g34 21, Roll.noCells, 120), (g34 22, Roll.noCells, 125), (g34 23, Roll.noCells, 157)] w33 := hM36
  have hAp38 : Apt b q [g34 23] := hAp0.consZ hz1 (hg37 _ (List.Mem.tail _ (List.Mem.tail _ (List.Mem.tail _ (List.Mem.head _)))))
  have hAp39 : Apt b q [g34 22, g34 23] := hAp38.consZ hz1 (hg37 _ (List.Mem.tail _ (List.Mem.tail _ (List.Mem.head _))))
  have hAp40 : Apt b q [g34 21, g34 22, g34 23] := hAp39.consZ hz1 (hg37 _ (List.Mem.tail _ (List.Mem.head _)))
  have hAp41 : Apt b q [g34 20, g34 21, g34 22, g34 23] := hAp40.consZ hz1 (hg37 _ (List.Mem.head _))
  refine s_store hM36 (j := 0) rfl rfl Tryz.sizeOf115 rfl rfl (RollS.size _) (by decide) (RollS.one _) (put_whole _ _ rfl) ?_
  intro w42 hM43 hK44
  replace hM43 : Mem w (b :: q.bs) [(g34 20, (RollS.cells ((⟨b, 70, 91⟩ : Roll))), 115), (g34 21, Roll.noCells, 120), (g34 22, Roll.noCells, 125), (g34 23, Roll.noCells, 157)] w42 := hM43
  refine ⟨.inr ⟨(hM43.forget (.cons _ (.cons _ (.cons _ (.cons _ (.refl _)))))), ((hD32.keep0 hK35).keepA hK44 hAp41 (by simp))⟩, ?_⟩
  refine s_store hM43 (j := 1) rfl rfl Tryz.sizeOf120 rfl rfl (RollI.size _) (by decide) (RollI.one _) (put_whole _ _ rfl) ?_
  intro w45 hM46 hK47
  replace hM46 : Mem w (b :: q.bs) [(g34 20, (RollS.cells ((⟨b, 70, 91⟩ : Roll))), 115), (g34 21, (RollI.cells ((⟨b, 71, 92⟩ : Roll))), 120), (g34 22, Roll.noCells, 125), (g34 23, Roll.noCells, 157)] w45 := hM46
  refine ⟨.inr ⟨(hM46.forget (.cons _ (.cons _ (.cons _ (.cons _ (.refl _)))))), (((hD32.keep0 hK35).keepA hK44 hAp41 (by simp)).keepA hK47 hAp41 (by simp))⟩, ?_⟩
  refine s_store hM46 (j := 2) rfl rfl Tryz.sizeOf125 rfl rfl (RollA.size _) (by decide) (RollA.one _) (put_whole _ _ rfl) ?_
  intro w48 hM49 hK50
  replace hM49 : Mem w (b :: q.bs) [(g34 20, (RollS.cells ((⟨b, 70, 91⟩ : Roll))), 115), (g34 21, (RollI.cells ((⟨b, 71, 92⟩ : Roll))), 120), (g34 22, (RollA.cells ((⟨b, 72, 93⟩ : Roll))), 125), (g34 23, Roll.noCells, 157)] w48 := hM49
  have hD51 : StB base w48 b q S := ((((hD32.keep0 hK35).keepA hK44 hAp41 (by simp)).keepA hK47 hAp41 (by simp)).keepA hK50 hAp41 (by simp))
  refine ⟨.inr ⟨(hM49.forget (.cons _ (.cons _ (.cons _ (.cons _ (.refl _)))))), hD51⟩, ?_⟩
  refine s_store hM49 (j := 3) rfl rfl Tryz.sizeOf157 rfl rfl (RollB.size _) (by decide) (RollB.one _) (put_whole _ _ rfl) ?_
  intro w52 hM53 hK54
  replace hM53 : Mem w (b :: q.bs) [(g34 20, (RollS.cells ((⟨b, 70, 91⟩ : Roll))), 115), (g34 21, (RollI.cells ((⟨b, 71, 92⟩ : Roll))), 120), (g34 22, (RollA.cells ((⟨b, 72, 93⟩ : Roll))), 125), (g34 23, (RollB.cells ((⟨b, 73, 117⟩ : Roll))), 157)] w52 := hM53
  refine ⟨.inr ⟨(hM53.forget (.cons _ (.cons _ (.cons _ (.cons _ (.refl _)))))), (hD51.keepA hK54 hAp41 (by simp))⟩, ?_⟩
  refine s_nil ?_
  refine c_seq ?_
  refine c_reg ?_
  refine l_val (gn rfl) rfl rfl (r_move rfl) ?_
  refine l_val (gn rfl) rfl rfl (r_nilCheck rfl) ?_
  refine l_val (gn rfl) rfl rfl (r_fieldAddr StepR.fld_a rfl) ?_
  refine l_val (gn rfl) rfl rfl (r_fieldAddr ARep.fld_E rfl) ?_
  refine l_val (gn rfl) rfl rfl (r_loadA Tryz.isAgg24 Tryz.sizeOf24 (Pt.size _) rfl (Holds.sub (Holds.sub (hx.keep hM53.kp hbx) (StepR.sub_a _)) (ARep.sub_E _))) ?_
  refine l_alloc hM53 rfl zv_Pt ?_
  intro b55 w56 hM57 hK58 hB59
  replace hM57 : Mem w (b :: q.bs) [(b55, (Pt.cells Pt.zero), 24), (g34 20, (RollS.cells ((⟨b, 70, 91⟩ : Roll))), 115), (g34 21, (RollI.cells ((⟨b, 71, 92⟩ : Roll))), 120), (g34 22, (RollA.cells ((⟨b, 72, 93⟩ : Roll))), 125), (g34 23, (RollB.cells ((⟨b, 73, 117⟩ : Roll))), 157)] w56 := hM57
  have hAp60 : Apt b q [b55, g34 20, g34 21, g34 22, g34 23] := hAp41.cons (hD51.keepA hK54 hAp41 (by simp)) hB59
  refine l_store hM57 (i := 0) rfl Tryz.sizeOf24 rfl rfl (Pt.size _) (by rw [Pt.size]; decide) (Pt.one _) (put_whole _ _ ((Pt.size _).trans (Pt.size _).symm)) ?_
  intro w61 hM62 hK63
  replace hM62 : Mem w (b :: q.bs) [(b55, (Pt.cells a.E), 24), (g34 20, (RollS.cells ((⟨b, 70, 91⟩ : Roll))), 115), (g34 21, (RollI.cells ((⟨b, 71, 92⟩ : Roll))), 120), (g34 22, (RollA.cells ((⟨b, 72, 93⟩ : Roll))), 125), (g34 23, (RollB.cells ((⟨b, 73, 117⟩ : Roll))), 157)] w61 := hM62
  refine l_nil ?_
  refine c_seq ?_
  refine c_seq ?_
  refine c_reg ?_
  refine l_val (gn rfl) rfl rfl (r_move rfl) ?_
  refine l_val (gn rfl) rfl rfl (r_nilCheck rfl) ?_
  refine l_val (gn rfl) rfl rfl (r_fieldAddr StepR.fld_a rfl) ?_
  refine l_val (gn rfl) rfl rfl (r_fieldAddr ARep.fld_kind rfl) ?_
  refine l_val (gn rfl) rfl rfl (r_load1 (v := vU8 a.kind) Tryz.isAgg38 rfl (Holds.sub (Holds.sub (hx.keep hM62.kp hbx) (StepR.sub_a _)) (ARep.sub_kind _))) ?_
  refine l_nil ?_
  refine c_block ?_
  refine c_seq ?_
  refine c_block ?_
  refine c_seq ?_
  refine c_block ?_
  refine c_seq ?_
  refine c_block ?_
  refine c_seq ?_
  refine c_block ?_
  refine c_seq ?_
  refine c_block ?_
  refine c_seq ?_
  refine c_block ?_
  refine c_seq ?_
  refine c_block ?_
  refine c_seq ?_
  refine c_block ?_
  refine c_seq ?_
  refine c_block ?_
  refine c_seq ?_
  refine c_block ?_
  refine c_seq ?_
  refine c_block ?_
  refine c_seq ?_
  refine c_block ?_
  refine c_seq ?_
  refine c_seq ?_
  refine c_seq ?_
  refine c_reg ?_
  refine l_val (gn rfl) rfl rfl (r_eql (b := decide ((a.kind : UInt8) = 4)) rfl rfl (u8eq a.kind 4)) ?_
  refine l_val (gn rfl) rfl rfl (r_assign rfl) ?_
  refine l_nil ?_
  refine ways (decide ((a.kind : UInt8) = 4)) (fun h64 => ?_) (fun h64 => ?_)
  ·skip
   have hp65 : (a.kind : UInt8) = 4 := of_decide_eq_true h64
   refine c_condT rfl h64 ?_
   refine c_exit rfl ?_
   refine c_seq ?_
   refine c_seq ?_
   refine c_seq ?_
   refine c_reg ?_
   refine l_val (gn rfl) rfl rfl (r_move rfl) ?_
   refine l_val (gn rfl) rfl rfl (r_nilCheck rfl) ?_
   refine l_val (gn rfl) rfl rfl (r_fieldAddr StepR.fld_mine rfl) ?_
   refine l_val (gn rfl) rfl rfl (r_load1 (v := vU8 mine) Tryz.isAgg28 rfl (Holds.sub (hx.keep hM62.kp hbx) (StepR.sub_mine _))) ?_
   refine l_val (gn rfl) rfl rfl (r_eql (b := decide ((mine : UInt8) = 2)) rfl rfl (u8eq mine 2)) ?_
   refine l_val (gn rfl) rfl rfl (r_move rfl) ?_
   refine ways (decide ((mine : UInt8) = 2)) (fun h66 => ?_) (fun h66 => ?_)
   ·skip
    have hp67 : (mine : UInt8) = 2 := of_decide_eq_true h66
    refine l_val (gy rfl rfl rfl rfl h66) rfl rfl (r_move rfl) ?_
    refine l_call (gy rfl rfl rfl rfl h66) rfl rfl (r_call Tryz.call79 rfl) (f79 (hx.keep hM62.kp hbx) (((hD51.keepA hK54 hAp60 (by simp)).keep0 hK58).keepA hK63 hAp60 (by simp))) ?_
    rintro v68 w69 ⟨rfl, hK70⟩
    have hM71 := hM62.keep hK70
    refine l_val (gn rfl) rfl rfl (r_pickT rfl h66 rfl) ?_
    refine l_val (gn rfl) rfl rfl (r_move rfl) ?_
    refine ways (aloneB S.seats) (fun h72 => ?_) (fun h72 => ?_)
    ·skip
     refine l_val (gy rfl rfl rfl rfl h72) rfl rfl (r_move rfl) ?_
     refine l_val (gy rfl rfl rfl rfl h72) rfl rfl (r_nilCheck rfl) ?_
     refine l_val (gy rfl rfl rfl rfl h72) rfl rfl (r_fieldAddr StepR.fld_b rfl) ?_
     refine l_val (gy rfl rfl rfl rfl h72) rfl rfl (r_load1 (v := Value.pointer (some ⟨b, 0, none⟩)) Tryz.isAgg77 rfl (Holds.sub (hx.keep hM71.kp hbx) (StepR.sub_b _))) ?_
     refine l_val (gy rfl rfl rfl rfl h72) rfl rfl (r_nilCheck rfl) ?_
     refine l_val (gy rfl rfl rfl rfl h72) rfl rfl (r_fieldAddr SRep.fld_seats rfl) ?_
     have hD73 : StB base w69 b q S := ((((hD51.keepA hK54 hAp60 (by simp)).keep0 hK58).keepA hK63 hAp60 (by simp)).keep0 hK70)
     refine l_val (gy rfl rfl rfl rfl h72) rfl rfl (r_load1 (v := Sl.val q.s) Tryz.isAgg32 rfl (Holds.sub hD73.hd (SRep.sub_seats _))) ?_
     refine l_val (gy rfl rfl rfl rfl h72) rfl rfl (r_lenR Tryz.underlying32 rfl hD73.own.stv.seats.len) ?_
     refine l_val (gy rfl rfl rfl rfl h72) rfl rfl (r_gtr (b := decide ((1 : Nat) < S.seats.length)) rfl rfl (nlt 1 S.seats.length)) ?_
     refine l_val (gn rfl) rfl rfl (r_pickT rfl h72 rfl) ?_
     refine l_nil ?_
     refine ways (decide ((1 : Nat) < S.seats.length)) (fun h74 => ?_) (fun h74 => ?_)
     ·skip
      have hp75 : (1 : Nat) < S.seats.length := of_decide_eq_true h74
      refine c_condT rfl h74 ?_
      refine c_seq ?_
      refine c_reg ?_
      refine l_val (gn rfl) rfl rfl (r_assign rfl) ?_
      refine l_nil ?_
      refine c_ret ?_
      refine ret1 rfl rfl ?_
      have hd : moreS S by_ a mine = (192, S) := by simp only [moreS, banSt, banWho, h64, h66, h72, h74, Bool.not_true, Bool.and_true, Bool.false_and, cond_true, cond_false] <;> rfl
      exact ⟨q, by rw [hd] <;> rfl, by rw [hd]; exact hD73, hM71.kp⟩
     ·skip
      have hp76 : ¬ ((1 : Nat) < S.seats.length) := of_decide_eq_false h74
      refine c_condF rfl h74 ?_
      refine c_skip ?_
      refine c_regD (Mem w (b :: q.bs) [(b55, (Pt.cells a.E), 24), (g34 20, (RollS.cells ((⟨b, 70, 91⟩ : Roll))), 115), (g34 21, (RollI.cells ((⟨b, 71, 92⟩ : Roll))), 120), (g34 22, (RollA.cells ((⟨b, 72, 93⟩ : Roll))), 125), (g34 23, (RollB.cells ((⟨b, 73, 117⟩ : Roll))), 157)]) [] [(0, true), (1, true), (2, true), (3, true), (4, true), (5, false)] (by kernel_rfl) ?_
      have hM77 := hM71.drew
      refine s_take hM77 rfl (gn rfl) rfl rfl (fun w h => r_loadA Tryz.isAgg115 Tryz.sizeOf115 (RollS.size _) rfl (h.base (i := 1) rfl)) ?_
      refine s_take hM77 rfl (gn rfl) rfl rfl (fun w h => r_move rfl) ?_
      refine s_take hM77 rfl (gn rfl) rfl rfl (fun w h => r_nilCheck rfl) ?_
      refine s_take hM77 rfl (gn rfl) rfl rfl (fun w h => r_fieldAddr StepR.fld_by_ rfl) ?_
      refine s_take hM77 rfl (gn rfl) rfl rfl (fun w h => r_loadA Tryz.isAgg24 Tryz.sizeOf24 (Pt.size _) rfl (Holds.sub (hx.keep h.kp hbx) (StepR.sub_by_ _))) ?_
      refine s_call rfl (gn rfl) rfl rfl (r_call Tryz.call77 rfl) (take_s (hD73.keep0 (Keeps.drew _)) hU.u1 by_) ?_
      rintro v82 w83 ⟨q79, rfl, hB80, hK84, hS81⟩
      have hM85 := hM77.st hK84 hF0 hAp60
      have hC86 : StB base w83 b q79 (outS S by_) := hB80
      have hF86 := hF0.trans (hS81.ns _) hM77.kp.size
      have hAp86 : Apt b q79 [b55, g34 20, g34 21, g34 22, g34 23] := hAp60.ns (hS81.ns _) hM77.blks
      have hz86 := hS81.xlt hz1
      refine ⟨.inr hM85, ?_⟩
      refine s_nil ?_
      refine c_exit rfl ?_
      refine c_seq ?_
      refine c_reg ?_
      refine l_val (gn rfl) rfl rfl (r_assign rfl) ?_
      refine l_nil ?_
      refine c_ret ?_
      refine ret1 rfl rfl ?_
      have hd : moreS S by_ a mine = (0, outS S by_) := by simp only [moreS, banSt, banWho, h64, h66, h72, h74, Bool.not_true, Bool.and_true, Bool.false_and, Bool.and_false, cond_true, cond_false] <;> rfl
      exact ⟨q79, by rw [hd] <;> rfl, by rw [hd]; exact hC86, hM85.kp⟩
    ·skip
     refine l_off (gno rfl rfl rfl rfl h72) rfl rfl ?_
     refine l_off (gno rfl rfl rfl rfl h72) rfl rfl ?_
     refine l_off (gno rfl rfl rfl rfl h72) rfl rfl ?_
     refine l_off (gno rfl rfl rfl rfl h72) rfl rfl ?_
     refine l_off (gno rfl rfl rfl rfl h72) rfl rfl ?_
     refine l_off (gno rfl rfl rfl rfl h72) rfl rfl ?_
     refine l_off (gno rfl rfl rfl rfl h72) rfl rfl ?_
     refine l_off (gno rfl rfl rfl rfl h72) rfl rfl ?_
     refine l_off (gno rfl rfl rfl rfl h72) rfl rfl ?_
     refine l_val (gn rfl) rfl rfl (r_pickF rfl h72 rfl) ?_
     refine l_nil ?_
     refine c_condF rfl rfl ?_
     refine c_skip ?_
     refine c_regD (Mem w (b :: q.bs) [(b55, (Pt.cells a.E), 24), (g34 20, (RollS.cells ((⟨b, 70, 91⟩ : Roll))), 115), (g34 21, (RollI.cells ((⟨b, 71, 92⟩ : Roll))), 120), (g34 22, (RollA.cells ((⟨b, 72, 93⟩ : Roll))), 125), (g34 23, (RollB.cells ((⟨b, 73, 117⟩ : Roll))), 157)]) [] [(0, true), (1, true), (2, true), (3, true), (4, true), (5, false)] (by kernel_rfl) ?_
     have hM87 := hM71.drew
     refine s_take hM87 rfl (gn rfl) rfl rfl (fun w h => r_loadA Tryz.isAgg115 Tryz.sizeOf115 (RollS.size _) rfl (h.base (i := 1) rfl)) ?_
     refine s_take hM87 rfl (gn rfl) rfl rfl (fun w h => r_move rfl) ?_
     refine s_take hM87 rfl (gn rfl) rfl rfl (fun w h => r_nilCheck rfl) ?_
     refine s_take hM87 rfl (gn rfl) rfl rfl (fun w h => r_fieldAddr StepR.fld_by_ rfl) ?_
     refine s_take hM87 rfl (gn rfl) rfl rfl (fun w h => r_loadA Tryz.isAgg24 Tryz.sizeOf24 (Pt.size _) rfl (Holds.sub (hx.keep h.kp hbx) (StepR.sub_by_ _))) ?_
     have hD89 : StB base w69.drew b q S := (((((hD51.keepA hK54 hAp60 (by simp)).keep0 hK58).keepA hK63 hAp60 (by simp)).keep0 hK70).keep0 (Keeps.drew _))
     refine s_call rfl (gn rfl) rfl rfl (r_call Tryz.call77 rfl) (take_s hD89 hU.u1 by_) ?_
     rintro v93 w94 ⟨q90, rfl, hB91, hK95, hS92⟩
     have hM96 := hM87.st hK95 hF0 hAp60
     have hC97 : StB base w94 b q90 (outS S by_) := hB91
     have hF97 := hF0.trans (hS92.ns _) hM87.kp.size
     have hAp97 : Apt b q90 [b55, g34 20, g34 21, g34 22, g34 23] := hAp60.ns (hS92.ns _) hM87.blks
     have hz97 := hS92.xlt hz1
     refine ⟨.inr hM96, ?_⟩
     refine s_nil ?_
     refine c_exit rfl ?_
     refine c_seq ?_
     refine c_reg ?_
     refine l_val (gn rfl) rfl rfl (r_assign rfl) ?_
     refine l_nil ?_
     refine c_ret ?_
     refine ret1 rfl rfl ?_
     have hd : moreS S by_ a mine = (0, outS S by_) := by simp only [moreS, banSt, banWho, h64, h66, h72, Bool.not_true, Bool.false_and, Bool.and_false, cond_true, cond_false] <;> rfl
     exact ⟨q90, by rw [hd] <;> rfl, by rw [hd]; exact hC97, hM96.kp⟩
   ·skip
    have hp98 : ¬ ((mine : UInt8) = 2) := of_decide_eq_false h66
    refine l_off (gno rfl rfl rfl rfl h66) rfl rfl ?_
    refine l_off (gno rfl rfl rfl rfl h66) rfl rfl ?_
    refine l_val (gn rfl) rfl rfl (r_pickF rfl h66 rfl) ?_
    refine l_val (gn rfl) rfl rfl (r_move rfl) ?_
    refine l_off (gno rfl rfl rfl rfl rfl) rfl rfl ?_
    refine l_off (gno rfl rfl rfl rfl rfl) rfl rfl ?_
    refine l_off (gno rfl rfl rfl rfl rfl) rfl rfl ?_
    refine l_off (gno rfl rfl rfl rfl rfl) rfl rfl ?_
    refine l_off (gno rfl rfl rfl rfl rfl) rfl rfl ?_
    refine l_off (gno rfl rfl rfl rfl rfl) rfl rfl ?_
    refine l_off (gno rfl rfl rfl rfl rfl) rfl rfl ?_
    refine l_off (gno rfl rfl rfl rfl rfl) rfl rfl ?_
    refine l_off (gno rfl rfl rfl rfl rfl) rfl rfl ?_
    refine l_val (gn rfl) rfl rfl (r_pickF rfl rfl rfl) ?_
    refine l_nil ?_
    refine c_condF rfl rfl ?_
    refine c_skip ?_
    refine c_regD (Mem w (b :: q.bs) [(b55, (Pt.cells a.E), 24), (g34 20, (RollS.cells ((⟨b, 70, 91⟩ : Roll))), 115), (g34 21, (RollI.cells ((⟨b, 71, 92⟩ : Roll))), 120), (g34 22, (RollA.cells ((⟨b, 72, 93⟩ : Roll))), 125), (g34 23, (RollB.cells ((⟨b, 73, 117⟩ : Roll))), 157)]) [] [(0, true), (1, true), (2, true), (3, true), (4, true), (5, false)] (by kernel_rfl) ?_
    have hM99 := hM62.drew
    refine s_take hM99 rfl (gn rfl) rfl rfl (fun w h => r_loadA Tryz.isAgg115 Tryz.sizeOf115 (RollS.size _) rfl (h.base (i := 1) rfl)) ?_
    refine s_take hM99 rfl (gn rfl) rfl rfl (fun w h => r_move rfl) ?_
    refine s_take hM99 rfl (gn rfl) rfl rfl (fun w h => r_nilCheck rfl) ?_
    refine s_take hM99 rfl (gn rfl) rfl rfl (fun w h => r_fieldAddr StepR.fld_by_ rfl) ?_
    refine s_take hM99 rfl (gn rfl) rfl rfl (fun w h => r_loadA Tryz.isAgg24 Tryz.sizeOf24 (Pt.size _) rfl (Holds.sub (hx.keep h.kp hbx) (StepR.sub_by_ _))) ?_
    have hD101 : StB base w61.drew b q S := ((((hD51.keepA hK54 hAp60 (by simp)).keep0 hK58).keepA hK63 hAp60 (by simp)).keep0 (Keeps.drew _))
    refine s_call rfl (gn rfl) rfl rfl (r_call Tryz.call77 rfl) (take_s hD101 hU.u1 by_) ?_
    rintro v105 w106 ⟨q102, rfl, hB103, hK107, hS104⟩
    have hM108 := hM99.st hK107 hF0 hAp60
    have hC109 : StB base w106 b q102 (outS S by_) := hB103
    have hF109 := hF0.trans (hS104.ns _) hM99.kp.size
    have hAp109 : Apt b q102 [b55, g34 20, g34 21, g34 22, g34 23] := hAp60.ns (hS104.ns _) hM99.blks
    have hz109 := hS104.xlt hz1
    refine ⟨.inr hM108, ?_⟩
    refine s_nil ?_
    refine c_exit rfl ?_
    refine c_seq ?_
    refine c_reg ?_
    refine l_val (gn rfl) rfl rfl (r_assign rfl) ?_
    refine l_nil ?_
    refine c_ret ?_
    refine ret1 rfl rfl ?_
    have hd : moreS S by_ a mine = (0, outS S by_) := by simp only [moreS, banSt, banWho, h64, h66, Bool.not_false, Bool.true_and, Bool.false_and, cond_true, cond_false] <;> rfl
    exact ⟨q102, by rw [hd] <;> rfl, by rw [hd]; exact hC109, hM108.kp⟩
  ·skip
   have hp110 : ¬ ((a.kind : UInt8) = 4) := of_decide_eq_false h64
   refine c_condF rfl h64 ?_
   refine c_skip ?_
   refine c_seq ?_
   refine c_seq ?_
   refine c_reg ?_
   refine l_val (gn rfl) rfl rfl (r_eql (b := decide ((a.kind : UInt8) = 6)) rfl rfl (u8eq a.kind 6)) ?_
   refine l_val (gn rfl) rfl rfl (r_assign rfl) ?_
   refine l_nil ?_
   refine ways (decide ((a.kind : UInt8) = 6)) (fun h111 => ?_) (fun h111 => ?_)
   ·skip
    have hp112 : (a.kind : UInt8) = 6 := of_decide_eq_true h111
    refine c_condT rfl h111 ?_
    refine c_exit rfl ?_
    refine c_seq ?_
    refine c_seq ?_
    refine c_reg ?_
    refine l_val (gn rfl) rfl rfl (r_loadA Tryz.isAgg120 Tryz.sizeOf120 (RollI.size _) rfl (hM62.base (i := 2) rfl)) ?_
    refine l_val (gn rfl) rfl rfl (r_loadA Tryz.isAgg24 Tryz.sizeOf24 (Pt.size _) rfl (hM62.base (i := 0) rfl)) ?_
    refine l_call (gn rfl) rfl rfl (r_call Tryz.call99 rfl) (f99 (Holds.sub (((hD51.keepA hK54 hAp60 (by simp)).keep0 hK58).keepA hK63 hAp60 (by simp)).hd (SRep.sub_invites _)) (((hD51.keepA hK54 hAp60 (by simp)).keep0 hK58).keepA hK63 hAp60 (by simp)).own.stv.invites hU.u2 a.E) ?_
    rintro v113 w114 ⟨rfl, hK115⟩
    have hM116 := hM62.keep hK115
    refine l_val (gn rfl) rfl rfl (r_move rfl) ?_
    refine l_val (gn rfl) rfl rfl (r_extract rfl rfl) ?_
    refine l_val (gn rfl) rfl rfl (r_extract rfl rfl) ?_
    refine l_val (gn rfl) rfl rfl (r_assign rfl) ?_
    refine l_val (gn rfl) rfl rfl (r_assign rfl) ?_
    refine l_nil ?_
    refine c_seq ?_
    refine c_seq ?_
    refine c_reg ?_
    refine l_val (gn rfl) rfl rfl (r_move rfl) ?_
    refine l_val (gn rfl) rfl rfl (r_not rfl) ?_
    refine l_nil ?_
    refine ways (hasK Invite.key S.invites a.E) (fun h117 => ?_) (fun h117 => ?_)
    ·skip
     obtain ⟨xf118, hx118, hk118, hf118⟩ := has_find hU.u2 h117
     have hg118 : getK Invite.key Invite.zero S.invites a.E = xf118 := getK_of hf118
     refine c_condF rfl (congrArg Bool.not h117) ?_
     refine c_skip ?_
     refine c_seq ?_
     refine c_seq ?_
     refine c_regD (fun w_ => Mem w (b :: q.bs) [(b55, (Pt.cells a.E), 24), (g34 20, (RollS.cells ((⟨b, 70, 91⟩ : Roll))), 115), (g34 21, (RollI.cells ((⟨b, 71, 92⟩ : Roll))), 120), (g34 22, (RollA.cells ((⟨b, 72, 93⟩ : Roll))), 125), (g34 23, (RollB.cells ((⟨b, 73, 117⟩ : Roll))), 157)] w_ ∧ StB base w_ b q S) [] [(0, true), (1, true), (2, true), (3, true), (4, true), (5, true), (6, true), (7, true), (8, true), (9, true), (10, true), (11, true), (12, true), (13, true), (14, true), (15, true), (16, true), (17, true), (18, true), (19, true), (20, true), (21, true), (22, true), (23, true)] (by kernel_rfl) ?_
     have hM119 := hM116.drew
     have hD121 : StB base w114.drew b q S := (((((hD51.keepA hK54 hAp60 (by simp)).keep0 hK58).keepA hK63 hAp60 (by simp)).keep0 hK115).keep0 (Keeps.drew _))
     refine s_take ⟨hM119, hD121⟩ rfl (gn rfl) rfl rfl (fun w h => r_move rfl) ?_
     refine s_take ⟨hM119, hD121⟩ rfl (gn rfl) rfl rfl (fun w h => r_nilCheck rfl) ?_
     refine s_take ⟨hM119, hD121⟩ rfl (gn rfl) rfl rfl (fun w h => r_fieldAddr StepR.fld_mine rfl) ?_
     refine s_take ⟨hM119, hD121⟩ rfl (gn rfl) rfl rfl (fun w h => r_load1 (v := vU8 mine) Tryz.isAgg28 rfl (Holds.sub (hx.keep h.1.kp hbx) (StepR.sub_mine _))) ?_
     refine s_take ⟨hM119, hD121⟩ rfl (gn rfl) rfl rfl (fun w h => r_neq (b := (!(decide ((mine : UInt8) = 2)))) rfl rfl (congrArg Bool.not (u8eq mine 2))) ?_
     refine s_take ⟨hM119, hD121⟩ rfl (gn rfl) rfl rfl (fun w h => r_move rfl) ?_
     refine ways (decide ((mine : UInt8) = 2)) (fun h122 => ?_) (fun h122 => ?_)
     ·skip
      have hp123 : (mine : UInt8) = 2 := of_decide_eq_true h122
      refine s_off ⟨hM119, hD121⟩ rfl (gno rfl rfl rfl rfl (congrArg Bool.not h122)) rfl rfl ?_
      refine s_off ⟨hM119, hD121⟩ rfl (gno rfl rfl rfl rfl (congrArg Bool.not h122)) rfl rfl ?_
      refine s_off ⟨hM119, hD121⟩ rfl (gno rfl rfl rfl rfl (congrArg Bool.not h122)) rfl rfl ?_
      refine s_off ⟨hM119, hD121⟩ rfl (gno rfl rfl rfl rfl (congrArg Bool.not h122)) rfl rfl ?_
      refine s_off ⟨hM119, hD121⟩ rfl (gno rfl rfl rfl rfl (congrArg Bool.not h122)) rfl rfl ?_
      refine s_off ⟨hM119, hD121⟩ rfl (gno rfl rfl rfl rfl (congrArg Bool.not h122)) rfl rfl ?_
      refine s_off ⟨hM119, hD121⟩ rfl (gno rfl rfl rfl rfl (congrArg Bool.not h122)) rfl rfl ?_
      refine s_off ⟨hM119, hD121⟩ rfl (gno rfl rfl rfl rfl (congrArg Bool.not h122)) rfl rfl ?_
      refine s_off ⟨hM119, hD121⟩ rfl (gno rfl rfl rfl rfl (congrArg Bool.not h122)) rfl rfl ?_
      refine s_off ⟨hM119, hD121⟩ rfl (gno rfl rfl rfl rfl (congrArg Bool.not h122)) rfl rfl ?_
      refine s_off ⟨hM119, hD121⟩ rfl (gno rfl rfl rfl rfl (congrArg Bool.not h122)) rfl rfl ?_
      refine s_off ⟨hM119, hD121⟩ rfl (gno rfl rfl rfl rfl (congrArg Bool.not h122)) rfl rfl ?_
      refine s_off ⟨hM119, hD121⟩ rfl (gno rfl rfl rfl rfl (congrArg Bool.not h122)) rfl rfl ?_
      refine s_off ⟨hM119, hD121⟩ rfl (gno rfl rfl rfl rfl (congrArg Bool.not h122)) rfl rfl ?_
      refine s_off ⟨hM119, hD121⟩ rfl (gno rfl rfl rfl rfl (congrArg Bool.not h122)) rfl rfl ?_
      refine s_off ⟨hM119, hD121⟩ rfl (gno rfl rfl rfl rfl (congrArg Bool.not h122)) rfl rfl ?_
      refine s_off ⟨hM119, hD121⟩ rfl (gno rfl rfl rfl rfl (congrArg Bool.not h122)) rfl rfl ?_
      refine s_take ⟨hM119, hD121⟩ rfl (gn rfl) rfl rfl (fun w h => r_pickF rfl (congrArg Bool.not h122) rfl) ?_
      refine s_nil ?_
      refine c_condF rfl rfl ?_
      refine c_skip ?_
      refine c_reg ?_
      refine l_val (gn rfl) rfl rfl (r_loadA Tryz.isAgg120 Tryz.sizeOf120 (RollI.size _) rfl (hM119.base (i := 2) rfl)) ?_
      refine l_val (gn rfl) rfl rfl (r_loadA Tryz.isAgg24 Tryz.sizeOf24 (Pt.size _) rfl (hM119.base (i := 0) rfl)) ?_
      refine l_call (gn rfl) rfl rfl (r_call Tryz.call68 rfl) (take_i hD121 hU.u2 a.E) ?_
      rintro v127 w128 ⟨q124, rfl, hB125, hK129, hS126⟩
      have hM130 := hM119.st hK129 hF0 hAp60
      have hC131 : StB base w128 b q124 (outI S a.E) := hB125
      have hF131 := hF0.trans (hS126.ns _) hM119.kp.size
      have hAp131 : Apt b q124 [b55, g34 20, g34 21, g34 22, g34 23] := hAp60.ns (hS126.ns _) hM119.blks
      have hz131 := hS126.xlt hz1
      refine l_nil ?_
      refine c_exit rfl ?_
      refine c_seq ?_
      refine c_reg ?_
      refine l_val (gn rfl) rfl rfl (r_assign rfl) ?_
      refine l_nil ?_
      refine c_ret ?_
      refine ret1 rfl rfl ?_
      have hd : moreS S by_ a mine = (0, outI S a.E) := by simp only [moreS, banSt, banWho, h64, h111, h117, h122, Bool.not_true, Bool.true_and, Bool.false_and, Bool.true_or, Bool.or_true, cond_true, cond_false, hg118] <;> rfl
      exact ⟨q124, by rw [hd] <;> rfl, by rw [hd]; exact hC131, hM130.kp⟩
     ·skip
      have hp132 : ¬ ((mine : UInt8) = 2) := of_decide_eq_false h122
      refine s_take ⟨hM119, hD121⟩ rfl (gy rfl rfl rfl rfl (congrArg Bool.not h122)) rfl rfl (fun w h => r_move rfl) ?_
      refine s_take ⟨hM119, hD121⟩ rfl (gy rfl rfl rfl rfl (congrArg Bool.not h122)) rfl rfl (fun w h => r_nilCheck rfl) ?_
      refine s_take ⟨hM119, hD121⟩ rfl (gy rfl rfl rfl rfl (congrArg Bool.not h122)) rfl rfl (fun w h => r_fieldAddr StepR.fld_b rfl) ?_
      refine s_take ⟨hM119, hD121⟩ rfl (gy rfl rfl rfl rfl (congrArg Bool.not h122)) rfl rfl (fun w h => r_load1 (v := Value.pointer (some ⟨b, 0, none⟩)) Tryz.isAgg77 rfl (Holds.sub (hx.keep h.1.kp hbx) (StepR.sub_b _))) ?_
      refine s_take ⟨hM119, hD121⟩ rfl (gy rfl rfl rfl rfl (congrArg Bool.not h122)) rfl rfl (fun w h => r_nilCheck rfl) ?_
      refine s_take ⟨hM119, hD121⟩ rfl (gy rfl rfl rfl rfl (congrArg Bool.not h122)) rfl rfl (fun w h => r_fieldAddr SRep.fld_invites rfl) ?_
      refine s_take ⟨hM119, hD121⟩ rfl (gy rfl rfl rfl rfl (congrArg Bool.not h122)) rfl rfl (fun w h => r_load1 (v := Sl.val q.i) Tryz.isAgg33 rfl (Holds.sub h.2.hd (SRep.sub_invites _))) ?_
      refine s_take ⟨hM119, hD121⟩ rfl (gy rfl rfl rfl rfl (congrArg Bool.not h122)) rfl rfl (fun w h => r_move rfl) ?_
      have hlt133 : (posK Invite.key S.invites a.E) < S.invites.length := (List.getElem?_eq_some_iff.1 hx118).1
      obtain ⟨p133, o133, ha133, hA133, -⟩ := hD121.own.stv.invites.at_ _ _ hx118
      refine s_take ⟨hM119, hD121⟩ rfl (gy rfl rfl rfl rfl (congrArg Bool.not h122)) rfl rfl (fun w h => r_indexR Tryz.underlying33 Tryz.sizeOf82 ⟨_, h.2.own.stv.invites⟩ rfl ha133 rfl hlt133) ?_
      refine s_take ⟨hM119, hD121⟩ rfl (gy rfl rfl rfl rfl (congrArg Bool.not h122)) rfl rfl (fun w h => r_fieldAddr Invite.fld_by_ rfl) ?_
      refine s_take ⟨hM119, hD121⟩ rfl (gy rfl rfl rfl rfl (congrArg Bool.not h122)) rfl rfl (fun w h => r_fieldAddr Cipher.fld_E rfl) ?_
      refine s_take ⟨hM119, hD121⟩ rfl (gy rfl rfl rfl rfl (congrArg Bool.not h122)) rfl rfl (fun w h => r_loadA Tryz.isAgg24 Tryz.sizeOf24 (Pt.size _) rfl (Holds.sub (Holds.sub (h.2.own.stv.invites.ix hx118 ha133) (Invite.sub_by_ _)) (Cipher.sub_E _))) ?_
      refine s_take ⟨hM119, hD121⟩ rfl (gy rfl rfl rfl rfl (congrArg Bool.not h122)) rfl rfl (fun w h => r_move rfl) ?_
      refine s_take ⟨hM119, hD121⟩ rfl (gy rfl rfl rfl rfl (congrArg Bool.not h122)) rfl rfl (fun w h => r_nilCheck rfl) ?_
      refine s_take ⟨hM119, hD121⟩ rfl (gy rfl rfl rfl rfl (congrArg Bool.not h122)) rfl rfl (fun w h => r_fieldAddr StepR.fld_by_ rfl) ?_
      refine s_take ⟨hM119, hD121⟩ rfl (gy rfl rfl rfl rfl (congrArg Bool.not h122)) rfl rfl (fun w h => r_loadA Tryz.isAgg24 Tryz.sizeOf24 (Pt.size _) rfl (Holds.sub (hx.keep h.1.kp hbx) (StepR.sub_by_ _))) ?_
      refine s_take ⟨hM119, hD121⟩ rfl (gy rfl rfl rfl rfl (congrArg Bool.not h122)) rfl rfl (fun w h => r_nePt Tryz.eqGuardType24 Tryz.underlying24 rfl rfl) ?_
      refine s_take ⟨hM119, hD121⟩ rfl (gn rfl) rfl rfl (fun w h => r_pickT rfl (congrArg Bool.not h122) rfl) ?_
      refine s_nil ?_
      refine ways (decide (xf118.by_.E = by_)) (fun h134 => ?_) (fun h134 => ?_)
      ·skip
       have hp135 : xf118.by_.E = by_ := of_decide_eq_true h134
       refine c_condF rfl (congrArg Bool.not h134) ?_
       refine c_skip ?_
       refine c_reg ?_
       refine l_val (gn rfl) rfl rfl (r_loadA Tryz.isAgg120 Tryz.sizeOf120 (RollI.size _) rfl (hM119.base (i := 2) rfl)) ?_
       refine l_val (gn rfl) rfl rfl (r_loadA Tryz.isAgg24 Tryz.sizeOf24 (Pt.size _) rfl (hM119.base (i := 0) rfl)) ?_
       refine l_call (gn rfl) rfl rfl (r_call Tryz.call68 rfl) (take_i hD121 hU.u2 a.E) ?_
       rintro v139 w140 ⟨q136, rfl, hB137, hK141, hS138⟩
       have hM142 := hM119.st hK141 hF0 hAp60
       have hC143 : StB base w140 b q136 (outI S a.E) := hB137
       have hF143 := hF0.trans (hS138.ns _) hM119.kp.size
       have hAp143 : Apt b q136 [b55, g34 20, g34 21, g34 22, g34 23] := hAp60.ns (hS138.ns _) hM119.blks
       have hz143 := hS138.xlt hz1
       refine l_nil ?_
       refine c_exit rfl ?_
       refine c_seq ?_
       refine c_reg ?_
       refine l_val (gn rfl) rfl rfl (r_assign rfl) ?_
       refine l_nil ?_
       refine c_ret ?_
       refine ret1 rfl rfl ?_
       have hd : moreS S by_ a mine = (0, outI S a.E) := by simp only [moreS, banSt, banWho, h64, h111, h117, h122, h134, Bool.not_true, Bool.not_false, Bool.false_and, Bool.and_false, Bool.true_or, Bool.or_true, cond_true, cond_false, hg118] <;> rfl
       exact ⟨q136, by rw [hd] <;> rfl, by rw [hd]; exact hC143, hM142.kp⟩
      ·skip
       have hp144 : ¬ (xf118.by_.E = by_) := of_decide_eq_false h134
       refine c_condT rfl (congrArg Bool.not h134) ?_
       refine c_seq ?_
       refine c_reg ?_
       refine l_val (gn rfl) rfl rfl (r_assign rfl) ?_
       refine l_nil ?_
       refine c_ret ?_
       refine ret1 rfl rfl ?_
       have hd : moreS S by_ a mine = (191, S) := by simp only [moreS, banSt, banWho, h64, h111, h117, h122, h134, Bool.not_false, Bool.and_true, Bool.false_and, Bool.true_or, Bool.or_true, cond_true, cond_false, hg118] <;> rfl
       exact ⟨q, by rw [hd] <;> rfl, by rw [hd]; exact hD121, hM119.kp⟩
    ·skip
     refine c_condT rfl (congrArg Bool.not h117) ?_
     refine c_seq ?_
     refine c_reg ?_
     refine l_val (gn rfl) rfl rfl (r_assign rfl) ?_
     refine l_nil ?_
     refine c_ret ?_
     refine ret1 rfl rfl ?_
     have hD145 : StB base w114 b q S := ((((hD51.keepA hK54 hAp60 (by simp)).keep0 hK58).keepA hK63 hAp60 (by simp)).keep0 hK115)
     have hd : moreS S by_ a mine = (7, S) := by simp only [moreS, banSt, banWho, h64, h111, h117, Bool.or_false, cond_true, cond_false] <;> rfl
     exact ⟨q, by rw [hd] <;> rfl, by rw [hd]; exact hD145, hM116.kp⟩
   ·skip
    have hp146 : ¬ ((a.kind : UInt8) = 6) := of_decide_eq_false h111
    refine c_condF rfl h111 ?_
    refine c_skip ?_
    refine c_seq ?_
    refine c_seq ?_
    refine c_reg ?_
    refine l_val (gn rfl) rfl rfl (r_eql (b := decide ((a.kind : UInt8) = 7)) rfl rfl (u8eq a.kind 7)) ?_
    refine l_val (gn rfl) rfl rfl (r_assign rfl) ?_
    refine l_nil ?_
    refine ways (decide ((a.kind : UInt8) = 7)) (fun h147 => ?_) (fun h147 => ?_)
    ·skip
     have hp148 : (a.kind : UInt8) = 7 := of_decide_eq_true h147
     refine c_condT rfl h147 ?_
     refine c_exit rfl ?_
     refine c_seq ?_
     refine c_seq ?_
     have hz149 := (((hD51.keepA hK54 hAp60 (by simp)).keep0 hK58).keepA hK63 hAp60 (by simp)).xlt
     have hM150 := hM62.drew
     have hD151 : StB base w61.drew b q S := ((((hD51.keepA hK54 hAp60 (by simp)).keep0 hK58).keepA hK63 hAp60 (by simp)).keep0 (Keeps.drew _))
     refine c_regA (Mem w (b :: q.bs) [(b55, (Pt.cells a.E), 24), (g34 20, (RollS.cells ((⟨b, 70, 91⟩ : Roll))), 115), (g34 21, (RollI.cells ((⟨b, 71, 92⟩ : Roll))), 120), (g34 22, (RollA.cells ((⟨b, 72, 93⟩ : Roll))), 125), (g34 23, (RollB.cells ((⟨b, 73, 117⟩ : Roll))), 157)]) [] [⟨9, 10, (Invite.cells Invite.zero), 82⟩] (b :: q.bs) [(0, true), (1, true), (2, true), (3, true), (4, true), (5, false), (6, true), (7, true), (8, true)] [(10, false), (11, true)] (by kernel_rfl) ⟨⟨_, _, _, rfl, _, Invite.zv, rfl⟩, trivial⟩ hD151.xlt (fun _ _ k h => h.keep k) hM150 ?_
     refine a_take hM150 rfl rfl (gn rfl) rfl rfl (fun w h => r_loadA Tryz.isAgg120 Tryz.sizeOf120 (RollI.size _) rfl (h.base (i := 2) rfl)) ?_
     refine a_take hM150 rfl rfl (gn rfl) rfl rfl (fun w h => r_move rfl) ?_
     refine a_take hM150 rfl rfl (gn rfl) rfl rfl (fun w h => r_nilCheck rfl) ?_
     refine a_take hM150 rfl rfl (gn rfl) rfl rfl (fun w h => r_fieldAddr StepR.fld_by_ rfl) ?_
     refine a_take hM150 rfl rfl (gn rfl) rfl rfl (fun w h => r_loadA Tryz.isAgg24 Tryz.sizeOf24 (Pt.size _) rfl (Holds.sub (hx.keep h.kp hbx) (StepR.sub_by_ _))) ?_
     refine a_call rfl rfl (gn rfl) rfl rfl rfl ?_
     intro w152 hE153
     have hM154 := hM150.keep hE153
     refine ⟨_, _, _, r_call Tryz.call68 rfl, take_i (hD151.keep0 hE153) hU.u2 by_, ?_⟩
     rintro v158 w159 ⟨q155, rfl, hB156, hK160, hS157⟩
     have hM161 := hM154.st hK160 hF0 hAp60
     have hC162 : StB base w159 b q155 (outI S by_) := hB156
     have hF162 := hF0.trans (hS157.ns _) hM154.kp.size
     have hAp162 : Apt b q155 [b55, g34 20, g34 21, g34 22, g34 23] := hAp60.ns (hS157.ns _) hM154.blks
     have hz162 := hS157.xlt hz149
     refine ⟨hM161, hK160, ?_⟩
     refine a_take hM161 rfl rfl (gn rfl) rfl rfl (fun w h => r_move rfl) ?_
     refine a_take hM161 rfl rfl (gn rfl) rfl rfl (fun w h => r_extract rfl rfl) ?_
     refine a_take hM161 rfl rfl (gn rfl) rfl rfl (fun w h => r_extract rfl rfl) ?_
     refine a_nil hM161 hM150.kp.size hM150.lt rfl rfl ?_
     intro w163 g164 hK165 hM166 hg167
     change AT _ (_ :: _) _ _
     replace hM166 : Mem w (b :: q.bs) [(g164 9, (Invite.cells Invite.zero), 82), (b55, (Pt.cells a.E), 24), (g34 20, (RollS.cells ((⟨b, 70, 91⟩ : Roll))), 115), (g34 21, (RollI.cells ((⟨b, 71, 92⟩ : Roll))), 120), (g34 22, (RollA.cells ((⟨b, 72, 93⟩ : Roll))), 125), (g34 23, (RollB.cells ((⟨b, 73, 117⟩ : Roll))), 157)] w163 := hM166
     have hAp168 : Apt b q155 [g164 9, b55, g34 20, g34 21, g34 22, g34 23] := hAp162.consZ hz162 (hg167 _ (List.Mem.head _))
     refine s_store hM166 (j := 0) rfl rfl Tryz.sizeOf82 rfl rfl (Invite.size _) (by rw [Invite.size]; decide) (Invite.one _) (put_whole _ _ ((Invite.size _).trans (Invite.size _).symm)) ?_
     intro w169 hM170 hK171
     replace hM170 : Mem w (b :: q.bs) [(g164 9, (Invite.cells ((getK Invite.key Invite.zero S.invites by_))), 82), (b55, (Pt.cells a.E), 24), (g34 20, (RollS.cells ((⟨b, 70, 91⟩ : Roll))), 115), (g34 21, (RollI.cells ((⟨b, 71, 92⟩ : Roll))), 120), (g34 22, (RollA.cells ((⟨b, 72, 93⟩ : Roll))), 125), (g34 23, (RollB.cells ((⟨b, 73, 117⟩ : Roll))), 157)] w169 := hM170
     refine ⟨.inr (hM170.forget (.cons _ (.refl _))), ?_⟩
     refine s_take (hM170.forget (.cons _ (.refl _))) rfl (gn rfl) rfl rfl (fun w h => r_assign rfl) ?_
     refine s_nil ?_
     refine c_seq ?_
     refine c_seq ?_
     refine c_reg ?_
     refine l_val (gn rfl) rfl rfl (r_move rfl) ?_
     refine l_val (gn rfl) rfl rfl (r_not rfl) ?_
     refine l_nil ?_
     refine ways (hasK Invite.key S.invites by_) (fun h172 => ?_) (fun h172 => ?_)
     ·skip
      refine c_condF rfl (congrArg Bool.not h172) ?_
      refine c_skip ?_
      refine c_seq ?_
      refine c_seq ?_
      refine c_reg ?_
      refine l_val (gn rfl) rfl rfl (r_loadA Tryz.isAgg115 Tryz.sizeOf115 (RollS.size _) rfl (hM170.base (i := 2) rfl)) ?_
      refine l_call (gn rfl) rfl rfl (r_call Tryz.call67 rfl) (f67 (Holds.sub ((hC162.keep0 hK165).keepA hK171 hAp168 (by simp)).hd (SRep.sub_seats _)) ((hC162.keep0 hK165).keepA hK171 hAp168 (by simp)).own.stv.seats) ?_
      rintro v173 w174 ⟨rfl, hK175⟩
      have hM176 := hM170.keep hK175
      refine l_nil ?_
      refine ways (decide (40 ≤ S.seats.length)) (fun h177 => ?_) (fun h177 => ?_)
      ·skip
       refine c_condT rfl h177 ?_
       refine c_seq ?_
       refine c_reg ?_
       refine l_val (gn rfl) rfl rfl (r_assign rfl) ?_
       refine l_nil ?_
       refine c_ret ?_
       refine ret1 rfl rfl ?_
       have hd : moreS S by_ a mine = (9, outI S by_) := by simp only [moreS, banSt, banWho, h64, h111, h147, h172, h177, cond_true, cond_false] <;> rfl
       exact ⟨q155, by rw [hd] <;> rfl, by rw [hd]; exact (((hC162.keep0 hK165).keepA hK171 hAp168 (by simp)).keep0 hK175), hM176.kp⟩
      ·skip
       refine c_condF rfl h177 ?_
       refine c_skip ?_
       refine c_seq ?_
       refine c_reg ?_
       refine l_val (gn rfl) rfl rfl (r_move rfl) ?_
       refine l_val (gn rfl) rfl rfl (r_fieldAddr Invite.fld_who rfl) ?_
       refine l_val (gn rfl) rfl rfl (r_loadA Tryz.isAgg40 Tryz.sizeOf40 (Cipher.size _) rfl (Holds.sub (hM176.base (i := 0) rfl) (Invite.sub_who _))) ?_
       refine l_val (gn rfl) rfl rfl (r_fieldAddr Invite.fld_role rfl) ?_
       refine l_val (gn rfl) rfl rfl (r_load1 (v := vU8 ((getK Invite.key Invite.zero S.invites by_).role)) Tryz.isAgg28 rfl (Holds.sub (hM176.base (i := 0) rfl) (Invite.sub_role _))) ?_
       refine l_call (gn rfl) rfl rfl (r_call Tryz.call70 rfl) (f70 (hx.keep hM176.kp hbx) (fun hm => by cases hm with | head => exact hbx List.mem_cons_self | tail _ hm => exact (hF162 bx hm).elim (fun h => hbx (List.mem_cons_of_mem _ h)) (fun h => by have := hbl; omega)) (((hC162.keep0 hK165).keepA hK171 hAp168 (by simp)).keep0 hK175) (Nat.le_trans hbw hM176.kp.size) hU.u1 hU.l1 ((getK Invite.key Invite.zero S.invites by_).who) ((getK Invite.key Invite.zero S.invites by_).role)) ?_
       rintro v181 w182 ⟨q178, rfl, hB179, hK183⟩
       have hM184 := hM176.st hK183 hF162 hAp168
       have hC185 : StB base w182 b q178 (putS (outI S by_) ⟨(getK Invite.key Invite.zero S.invites by_).who, (getK Invite.key Invite.zero S.invites by_).role, a.ver⟩) := hB179
       refine l_val (gn rfl) rfl rfl (r_assign rfl) ?_
       refine l_nil ?_
       refine c_ret ?_
       refine ret1 rfl rfl ?_
       have hd : moreS S by_ a mine = (0, putS (outI S by_) ⟨(getK Invite.key Invite.zero S.invites by_).who, (getK Invite.key Invite.zero S.invites by_).role, a.ver⟩) := by simp only [moreS, banSt, banWho, h64, h111, h147, h172, h177, cond_true, cond_false] <;> rfl
       exact ⟨q178, by rw [hd] <;> rfl, by rw [hd]; exact hC185, hM184.kp⟩
     ·skip
      refine c_condT rfl (congrArg Bool.not h172) ?_
      refine c_seq ?_
      refine c_reg ?_
      refine l_val (gn rfl) rfl rfl (r_assign rfl) ?_
      refine l_nil ?_
      refine c_ret ?_
      refine ret1 rfl rfl ?_
      have hd : moreS S by_ a mine = (7, outI S by_) := by simp only [moreS, banSt, banWho, h64, h111, h147, h172, cond_true, cond_false] <;> rfl
      exact ⟨q155, by rw [hd] <;> rfl, by rw [hd]; exact ((hC162.keep0 hK165).keepA hK171 hAp168 (by simp)), hM170.kp⟩
    ·skip
     have hp186 : ¬ ((a.kind : UInt8) = 7) := of_decide_eq_false h147
     refine c_condF rfl h147 ?_
     refine c_skip ?_
     refine c_seq ?_
     refine c_seq ?_
     refine c_reg ?_
     refine l_val (gn rfl) rfl rfl (r_eql (b := decide ((a.kind : UInt8) = 12)) rfl rfl (u8eq a.kind 12)) ?_
     refine l_val (gn rfl) rfl rfl (r_assign rfl) ?_
     refine l_nil ?_
     refine ways (decide ((a.kind : UInt8) = 12)) (fun h187 => ?_) (fun h187 => ?_)
     ·skip
      have hp188 : (a.kind : UInt8) = 12 := of_decide_eq_true h187
      refine c_condT rfl h187 ?_
      refine c_exit rfl ?_
      refine c_seq ?_
      refine c_seq ?_
      refine c_reg ?_
      refine l_val (gn rfl) rfl rfl (r_loadA Tryz.isAgg125 Tryz.sizeOf125 (RollA.size _) rfl (hM62.base (i := 3) rfl)) ?_
      refine l_val (gn rfl) rfl rfl (r_loadA Tryz.isAgg24 Tryz.sizeOf24 (Pt.size _) rfl (hM62.base (i := 0) rfl)) ?_
      refine l_call (gn rfl) rfl rfl (r_call Tryz.call69 rfl) (take_a (((hD51.keepA hK54 hAp60 (by simp)).keep0 hK58).keepA hK63 hAp60 (by simp)) hU.u3 a.E) ?_
      rintro v192 w193 ⟨q189, rfl, hB190, hK194, hS191⟩
      have hM195 := hM62.st hK194 hF0 hAp60
      have hC196 : StB base w193 b q189 (outA S a.E) := hB190
      have hF196 := hF0.trans (hS191.ns _) hM62.kp.size
      have hAp196 : Apt b q189 [b55, g34 20, g34 21, g34 22, g34 23] := hAp60.ns (hS191.ns _) hM62.blks
      have hz196 := hS191.xlt hz1
      refine l_val (gn rfl) rfl rfl (r_move rfl) ?_
      refine l_val (gn rfl) rfl rfl (r_extract rfl rfl) ?_
      refine l_val (gn rfl) rfl rfl (r_extract rfl rfl) ?_
      refine l_alloc hM195 rfl Ask.zv ?_
      intro b197 w198 hM199 hK200 hB201
      replace hM199 : Mem w (b :: q.bs) [(b197, (Ask.cells Ask.zero), 84), (b55, (Pt.cells a.E), 24), (g34 20, (RollS.cells ((⟨b, 70, 91⟩ : Roll))), 115), (g34 21, (RollI.cells ((⟨b, 71, 92⟩ : Roll))), 120), (g34 22, (RollA.cells ((⟨b, 72, 93⟩ : Roll))), 125), (g34 23, (RollB.cells ((⟨b, 73, 117⟩ : Roll))), 157)] w198 := hM199
      have hAp202 : Apt b q189 [b197, b55, g34 20, g34 21, g34 22, g34 23] := hAp196.cons hC196 hB201
      refine l_store hM199 (i := 0) rfl Tryz.sizeOf84 rfl rfl (Ask.size _) (by rw [Ask.size]; decide) (Ask.one _) (put_whole _ _ ((Ask.size _).trans (Ask.size _).symm)) ?_
      intro w203 hM204 hK205
      replace hM204 : Mem w (b :: q.bs) [(b197, (Ask.cells ((getK Ask.key Ask.zero S.asks a.E))), 84), (b55, (Pt.cells a.E), 24), (g34 20, (RollS.cells ((⟨b, 70, 91⟩ : Roll))), 115), (g34 21, (RollI.cells ((⟨b, 71, 92⟩ : Roll))), 120), (g34 22, (RollA.cells ((⟨b, 72, 93⟩ : Roll))), 125), (g34 23, (RollB.cells ((⟨b, 73, 117⟩ : Roll))), 157)] w203 := hM204
      refine l_val (gn rfl) rfl rfl (r_assign rfl) ?_
      refine l_nil ?_
      refine c_seq ?_
      refine c_seq ?_
      refine c_reg ?_
      refine l_val (gn rfl) rfl rfl (r_move rfl) ?_
      refine l_val (gn rfl) rfl rfl (r_not rfl) ?_
      refine l_nil ?_
      refine ways (hasK Ask.key S.asks a.E) (fun h206 => ?_) (fun h206 => ?_)
      ·skip
       refine c_condF rfl (congrArg Bool.not h206) ?_
       refine c_skip ?_
       refine c_seq ?_
       refine c_seq ?_
       refine c_reg ?_
       refine l_val (gn rfl) rfl rfl (r_loadA Tryz.isAgg115 Tryz.sizeOf115 (RollS.size _) rfl (hM204.base (i := 2) rfl)) ?_
       refine l_call (gn rfl) rfl rfl (r_call Tryz.call67 rfl) (f67 (Holds.sub ((hC196.keep0 hK200).keepA hK205 hAp202 (by simp)).hd (SRep.sub_seats _)) ((hC196.keep0 hK200).keepA hK205 hAp202 (by simp)).own.stv.seats) ?_
       rintro v207 w208 ⟨rfl, hK209⟩
       have hM210 := hM204.keep hK209
       refine l_nil ?_
       refine ways (decide (40 ≤ S.seats.length)) (fun h211 => ?_) (fun h211 => ?_)
       ·skip
        refine c_condT rfl h211 ?_
        refine c_seq ?_
        refine c_reg ?_
        refine l_val (gn rfl) rfl rfl (r_assign rfl) ?_
        refine l_nil ?_
        refine c_ret ?_
        refine ret1 rfl rfl ?_
        have hd : moreS S by_ a mine = (9, outA S a.E) := by simp only [moreS, banSt, banWho, h64, h111, h147, h187, h206, h211, Bool.or_true, cond_true, cond_false] <;> rfl
        exact ⟨q189, by rw [hd] <;> rfl, by rw [hd]; exact (((hC196.keep0 hK200).keepA hK205 hAp202 (by simp)).keep0 hK209), hM210.kp⟩
       ·skip
        refine c_condF rfl h211 ?_
        refine c_skip ?_
        refine c_seq ?_
        refine c_regD (Mem w (b :: q.bs) [(b197, (Ask.cells ((getK Ask.key Ask.zero S.asks a.E))), 84), (b55, (Pt.cells a.E), 24), (g34 20, (RollS.cells ((⟨b, 70, 91⟩ : Roll))), 115), (g34 21, (RollI.cells ((⟨b, 71, 92⟩ : Roll))), 120), (g34 22, (RollA.cells ((⟨b, 72, 93⟩ : Roll))), 125), (g34 23, (RollB.cells ((⟨b, 73, 117⟩ : Roll))), 157)]) [] [(0, true), (1, true), (2, true), (3, true), (4, true), (5, true), (6, true), (7, true), (8, false), (9, true)] (by kernel_rfl) ?_
        have hM212 := hM210.drew
        refine s_take hM212 rfl (gn rfl) rfl rfl (fun w h => r_move rfl) ?_
        refine s_take hM212 rfl (gn rfl) rfl rfl (fun w h => r_fieldAddr Ask.fld_who rfl) ?_
        refine s_take hM212 rfl (gn rfl) rfl rfl (fun w h => r_loadA Tryz.isAgg40 Tryz.sizeOf40 (Cipher.size _) rfl (Holds.sub (h.base (i := 0) rfl) (Ask.sub_who _))) ?_
        refine s_take hM212 rfl (gn rfl) rfl rfl (fun w h => r_move rfl) ?_
        refine s_take hM212 rfl (gn rfl) rfl rfl (fun w h => r_nilCheck rfl) ?_
        refine s_take hM212 rfl (gn rfl) rfl rfl (fun w h => r_fieldAddr StepR.fld_a rfl) ?_
        refine s_take hM212 rfl (gn rfl) rfl rfl (fun w h => r_fieldAddr ARep.fld_role rfl) ?_
        refine s_take hM212 rfl (gn rfl) rfl rfl (fun w h => r_load1 (v := vU8 a.role) Tryz.isAgg28 rfl (Holds.sub (Holds.sub (hx.keep h.kp hbx) (StepR.sub_a _)) (ARep.sub_role _))) ?_
        have hD214 : StB base w208.drew b q189 (outA S a.E) := ((((hC196.keep0 hK200).keepA hK205 hAp202 (by simp)).keep0 hK209).keep0 (Keeps.drew _))
        refine s_call rfl (gn rfl) rfl rfl (r_call Tryz.call70 rfl) (f70 (hx.keep hM212.kp hbx) (fun hm => by cases hm with | head => exact hbx List.mem_cons_self | tail _ hm => exact (hF196 bx hm).elim (fun h => hbx (List.mem_cons_of_mem _ h)) (fun h => by have := hbl; omega)) hD214 (Nat.le_trans hbw hM212.kp.size) hU.u1 hU.l1 ((getK Ask.key Ask.zero S.asks a.E).who) a.role) ?_
        rintro v218 w219 ⟨q215, rfl, hB216, hK220⟩
        have hM221 := hM212.st hK220 hF196 hAp202
        have hC222 : StB base w219 b q215 (putS (outA S a.E) ⟨(getK Ask.key Ask.zero S.asks a.E).who, a.role, a.ver⟩) := hB216
        refine ⟨.inr hM221, ?_⟩
        refine s_take hM221 rfl (gn rfl) rfl rfl (fun w h => r_assign rfl) ?_
        refine s_nil ?_
        refine c_ret ?_
        refine ret1 rfl rfl ?_
        have hd : moreS S by_ a mine = (0, putS (outA S a.E) ⟨(getK Ask.key Ask.zero S.asks a.E).who, a.role, a.ver⟩) := by simp only [moreS, banSt, banWho, h64, h111, h147, h187, h206, h211, Bool.or_true, cond_true, cond_false] <;> rfl
        exact ⟨q215, by rw [hd] <;> rfl, by rw [hd]; exact hC222, hM221.kp⟩
      ·skip
       refine c_condT rfl (congrArg Bool.not h206) ?_
       refine c_seq ?_
       refine c_reg ?_
       refine l_val (gn rfl) rfl rfl (r_assign rfl) ?_
       refine l_nil ?_
       refine c_ret ?_
       refine ret1 rfl rfl ?_
       have hd : moreS S by_ a mine = (7, outA S a.E) := by simp only [moreS, banSt, banWho, h64, h111, h147, h187, h206, Bool.or_false, cond_true, cond_false] <;> rfl
       exact ⟨q189, by rw [hd] <;> rfl, by rw [hd]; exact ((hC196.keep0 hK200).keepA hK205 hAp202 (by simp)), hM204.kp⟩
     ·skip
      have hp223 : ¬ ((a.kind : UInt8) = 12) := of_decide_eq_false h187
      refine c_condF rfl h187 ?_
      refine c_skip ?_
      refine c_seq ?_
      refine c_seq ?_
      refine c_reg ?_
      refine l_val (gn rfl) rfl rfl (r_eql (b := decide ((a.kind : UInt8) = 8)) rfl rfl (u8eq a.kind 8)) ?_
      refine l_val (gn rfl) rfl rfl (r_assign rfl) ?_
      refine l_nil ?_
      refine ways (decide ((a.kind : UInt8) = 8)) (fun h224 => ?_) (fun h224 => ?_)
      ·skip
       have hp225 : (a.kind : UInt8) = 8 := of_decide_eq_true h224
       refine c_condT rfl h224 ?_
       refine c_exit rfl ?_
       refine c_seq ?_
       refine c_seq ?_
       refine c_regD (Mem w (b :: q.bs) [(b55, (Pt.cells a.E), 24), (g34 20, (RollS.cells ((⟨b, 70, 91⟩ : Roll))), 115), (g34 21, (RollI.cells ((⟨b, 71, 92⟩ : Roll))), 120), (g34 22, (RollA.cells ((⟨b, 72, 93⟩ : Roll))), 125), (g34 23, (RollB.cells ((⟨b, 73, 117⟩ : Roll))), 157)]) [] [(0, true), (1, true), (2, true), (3, true), (4, true), (5, false), (6, true), (7, true), (8, false), (9, true)] (by kernel_rfl) ?_
       have hM226 := hM62.drew
       refine s_take hM226 rfl (gn rfl) rfl rfl (fun w h => r_loadA Tryz.isAgg120 Tryz.sizeOf120 (RollI.size _) rfl (h.base (i := 2) rfl)) ?_
       refine s_take hM226 rfl (gn rfl) rfl rfl (fun w h => r_move rfl) ?_
       refine s_take hM226 rfl (gn rfl) rfl rfl (fun w h => r_nilCheck rfl) ?_
       refine s_take hM226 rfl (gn rfl) rfl rfl (fun w h => r_fieldAddr StepR.fld_by_ rfl) ?_
       refine s_take hM226 rfl (gn rfl) rfl rfl (fun w h => r_loadA Tryz.isAgg24 Tryz.sizeOf24 (Pt.size _) rfl (Holds.sub (hx.keep h.kp hbx) (StepR.sub_by_ _))) ?_
       have hD228 : StB base w61.drew b q S := ((((hD51.keepA hK54 hAp60 (by simp)).keep0 hK58).keepA hK63 hAp60 (by simp)).keep0 (Keeps.drew _))
       refine s_call rfl (gn rfl) rfl rfl (r_call Tryz.call68 rfl) (take_i hD228 hU.u2 by_) ?_
       rintro v232 w233 ⟨q229, rfl, hB230, hK234, hS231⟩
       have hM235 := hM226.st hK234 hF0 hAp60
       have hC236 : StB base w233 b q229 (outI S by_) := hB230
       have hF236 := hF0.trans (hS231.ns _) hM226.kp.size
       have hAp236 : Apt b q229 [b55, g34 20, g34 21, g34 22, g34 23] := hAp60.ns (hS231.ns _) hM226.blks
       have hz236 := hS231.xlt hz1
       refine ⟨.inr hM235, ?_⟩
       refine s_take hM235 rfl (gn rfl) rfl rfl (fun w h => r_extract rfl rfl) ?_
       refine s_take hM235 rfl (gn rfl) rfl rfl (fun w h => r_extract rfl rfl) ?_
       refine s_call rfl (gn rfl) rfl rfl (r_call Tryz.call109 rfl) (f109 ((getK Invite.key Invite.zero S.invites by_)) (hasK Invite.key S.invites by_)) ?_
       rintro v237 w238 ⟨rfl, hK239⟩
       have hM240 := hM235.keep hK239
       refine ⟨.inr hM240, ?_⟩
       refine s_take hM240 rfl (gn rfl) rfl rfl (fun w h => r_assign rfl) ?_
       refine s_nil ?_
       refine c_ret ?_
       refine ret1 rfl rfl ?_
       have hd : moreS S by_ a mine = (cond (hasK Invite.key S.invites by_) 0 7, outI S by_) := by simp only [moreS, banSt, banWho, h64, h111, h147, h187, h224, cond_true, cond_false] <;> rfl
       exact ⟨q229, by rw [hd] <;> rfl, by rw [hd]; exact (hC236.keep0 hK239), hM240.kp⟩
      ·skip
       have hp241 : ¬ ((a.kind : UInt8) = 8) := of_decide_eq_false h224
       refine c_condF rfl h224 ?_
       refine c_skip ?_
       refine c_seq ?_
       refine c_seq ?_
       refine c_reg ?_
       refine l_val (gn rfl) rfl rfl (r_eql (b := decide ((a.kind : UInt8) = 11)) rfl rfl (u8eq a.kind 11)) ?_
       refine l_val (gn rfl) rfl rfl (r_assign rfl) ?_
       refine l_nil ?_
       refine ways (decide ((a.kind : UInt8) = 11)) (fun h242 => ?_) (fun h242 => ?_)
       ·skip
        have hp243 : (a.kind : UInt8) = 11 := of_decide_eq_true h242
        refine c_condT rfl h242 ?_
        refine c_exit rfl ?_
        refine c_reg ?_
        refine l_val (gn rfl) rfl rfl (r_move rfl) ?_
        refine l_val (gn rfl) rfl rfl (r_nilCheck rfl) ?_
        refine l_val (gn rfl) rfl rfl (r_fieldAddr StepR.fld_by_ rfl) ?_
        refine l_val (gn rfl) rfl rfl (r_loadA Tryz.isAgg24 Tryz.sizeOf24 (Pt.size _) rfl (Holds.sub (hx.keep hM62.kp hbx) (StepR.sub_by_ _))) ?_
        refine l_store hM62 (i := 0) rfl Tryz.sizeOf24 rfl rfl (Pt.size _) (by rw [Pt.size]; decide) (Pt.one _) (put_whole _ _ ((Pt.size _).trans (Pt.size _).symm)) ?_
        intro w244 hM245 hK246
        replace hM245 : Mem w (b :: q.bs) [(b55, (Pt.cells by_), 24), (g34 20, (RollS.cells ((⟨b, 70, 91⟩ : Roll))), 115), (g34 21, (RollI.cells ((⟨b, 71, 92⟩ : Roll))), 120), (g34 22, (RollA.cells ((⟨b, 72, 93⟩ : Roll))), 125), (g34 23, (RollB.cells ((⟨b, 73, 117⟩ : Roll))), 157)] w244 := hM245
        refine l_nil ?_
        refine c_seq ?_
        refine c_seq ?_
        refine c_reg ?_
        refine l_val (gn rfl) rfl rfl (r_loadA Tryz.isAgg125 Tryz.sizeOf125 (RollA.size _) rfl (hM245.base (i := 3) rfl)) ?_
        refine l_val (gn rfl) rfl rfl (r_loadA Tryz.isAgg24 Tryz.sizeOf24 (Pt.size _) rfl (hM245.base (i := 0) rfl)) ?_
        have hD247 : StB base w244 b q S := ((((hD51.keepA hK54 hAp60 (by simp)).keep0 hK58).keepA hK63 hAp60 (by simp)).keepA hK246 hAp60 (by simp))
        refine l_call (gn rfl) rfl rfl (r_call Tryz.call69 rfl) (take_a hD247 hU.u3 by_) ?_
        rintro v251 w252 ⟨q248, rfl, hB249, hK253, hS250⟩
        have hM254 := hM245.st hK253 hF0 hAp60
        have hC255 : StB base w252 b q248 (outA S by_) := hB249
        have hF255 := hF0.trans (hS250.ns _) hM245.kp.size
        have hAp255 : Apt b q248 [b55, g34 20, g34 21, g34 22, g34 23] := hAp60.ns (hS250.ns _) hM245.blks
        have hz255 := hS250.xlt hz1
        refine l_val (gn rfl) rfl rfl (r_extract rfl rfl) ?_
        refine l_val (gn rfl) rfl rfl (r_extract rfl rfl) ?_
        refine l_call (gn rfl) rfl rfl (r_call Tryz.call110 rfl) (f110 ((getK Ask.key Ask.zero S.asks by_)) (hasK Ask.key S.asks by_)) ?_
        rintro v256 w257 ⟨rfl, hK258⟩
        have hM259 := hM254.keep hK258
        refine l_val (gn rfl) rfl rfl (r_assign rfl) ?_
        refine l_nil ?_
        refine c_ret ?_
        refine ret1 rfl rfl ?_
        have hd : moreS S by_ a mine = (cond (hasK Ask.key S.asks by_) 0 7, outA S by_) := by simp only [moreS, banSt, banWho, h64, h111, h147, h187, h224, h242, cond_true, cond_false] <;> rfl
        exact ⟨q248, by rw [hd] <;> rfl, by rw [hd]; exact (hC255.keep0 hK258), hM259.kp⟩
       ·skip
        have hp260 : ¬ ((a.kind : UInt8) = 11) := of_decide_eq_false h242
        refine c_condF rfl h242 ?_
        refine c_skip ?_
        refine c_seq ?_
        refine c_seq ?_
        refine c_reg ?_
        refine l_val (gn rfl) rfl rfl (r_eql (b := decide ((a.kind : UInt8) = 13)) rfl rfl (u8eq a.kind 13)) ?_
        refine l_val (gn rfl) rfl rfl (r_assign rfl) ?_
        refine l_nil ?_
        refine ways (decide ((a.kind : UInt8) = 13)) (fun h261 => ?_) (fun h261 => ?_)
        ·skip
         have hp262 : (a.kind : UInt8) = 13 := of_decide_eq_true h261
         refine c_condT rfl h261 ?_
         refine c_exit rfl ?_
         refine c_seq ?_
         refine c_seq ?_
         refine c_reg ?_
         refine l_val (gn rfl) rfl rfl (r_loadA Tryz.isAgg125 Tryz.sizeOf125 (RollA.size _) rfl (hM62.base (i := 3) rfl)) ?_
         refine l_val (gn rfl) rfl rfl (r_loadA Tryz.isAgg24 Tryz.sizeOf24 (Pt.size _) rfl (hM62.base (i := 0) rfl)) ?_
         refine l_call (gn rfl) rfl rfl (r_call Tryz.call69 rfl) (take_a (((hD51.keepA hK54 hAp60 (by simp)).keep0 hK58).keepA hK63 hAp60 (by simp)) hU.u3 a.E) ?_
         rintro v266 w267 ⟨q263, rfl, hB264, hK268, hS265⟩
         have hM269 := hM62.st hK268 hF0 hAp60
         have hC270 : StB base w267 b q263 (outA S a.E) := hB264
         have hF270 := hF0.trans (hS265.ns _) hM62.kp.size
         have hAp270 : Apt b q263 [b55, g34 20, g34 21, g34 22, g34 23] := hAp60.ns (hS265.ns _) hM62.blks
         have hz270 := hS265.xlt hz1
         refine l_val (gn rfl) rfl rfl (r_extract rfl rfl) ?_
         refine l_val (gn rfl) rfl rfl (r_extract rfl rfl) ?_
         refine l_call (gn rfl) rfl rfl (r_call Tryz.call110 rfl) (f110 ((getK Ask.key Ask.zero S.asks a.E)) (hasK Ask.key S.asks a.E)) ?_
         rintro v271 w272 ⟨rfl, hK273⟩
         have hM274 := hM269.keep hK273
         refine l_val (gn rfl) rfl rfl (r_assign rfl) ?_
         refine l_nil ?_
         refine c_ret ?_
         refine ret1 rfl rfl ?_
         have hd : moreS S by_ a mine = (cond (hasK Ask.key S.asks a.E) 0 7, outA S a.E) := by simp only [moreS, banSt, banWho, h64, h111, h147, h187, h224, h242, h261, cond_true, cond_false] <;> rfl
         exact ⟨q263, by rw [hd] <;> rfl, by rw [hd]; exact (hC270.keep0 hK273), hM274.kp⟩
        ·skip
         have hp275 : ¬ ((a.kind : UInt8) = 13) := of_decide_eq_false h261
         refine c_condF rfl h261 ?_
         refine c_skip ?_
         refine c_seq ?_
         refine c_seq ?_
         refine c_reg ?_
         refine l_val (gn rfl) rfl rfl (r_eql (b := decide ((a.kind : UInt8) = 15)) rfl rfl (u8eq a.kind 15)) ?_
         refine l_val (gn rfl) rfl rfl (r_assign rfl) ?_
         refine l_nil ?_
         refine ways (decide ((a.kind : UInt8) = 15)) (fun h276 => ?_) (fun h276 => ?_)
         ·skip
          have hp277 : (a.kind : UInt8) = 15 := of_decide_eq_true h276
          refine c_condT rfl h276 ?_
          refine c_exit rfl ?_
          refine c_seq ?_
          refine c_seq ?_
          refine c_reg ?_
          refine l_val (gn rfl) rfl rfl (r_loadA Tryz.isAgg157 Tryz.sizeOf157 (RollB.size _) rfl (hM62.base (i := 4) rfl)) ?_
          refine l_val (gn rfl) rfl rfl (r_loadA Tryz.isAgg24 Tryz.sizeOf24 (Pt.size _) rfl (hM62.base (i := 0) rfl)) ?_
          refine l_call (gn rfl) rfl rfl (r_call Tryz.call112 rfl) (take_b (((hD51.keepA hK54 hAp60 (by simp)).keep0 hK58).keepA hK63 hAp60 (by simp)) hU.u4 a.E) ?_
          rintro v281 w282 ⟨q278, rfl, hB279, hK283, hS280⟩
          have hM284 := hM62.st hK283 hF0 hAp60
          have hC285 : StB base w282 b q278 (outB S a.E) := hB279
          have hF285 := hF0.trans (hS280.ns _) hM62.kp.size
          have hAp285 : Apt b q278 [b55, g34 20, g34 21, g34 22, g34 23] := hAp60.ns (hS280.ns _) hM62.blks
          have hz285 := hS280.xlt hz1
          refine l_val (gn rfl) rfl rfl (r_extract rfl rfl) ?_
          refine l_val (gn rfl) rfl rfl (r_extract rfl rfl) ?_
          refine l_call (gn rfl) rfl rfl (r_call Tryz.call111 rfl) (f111 ((getK Ban.key Ban.zero S.bans a.E)) (hasK Ban.key S.bans a.E)) ?_
          rintro v286 w287 ⟨rfl, hK288⟩
          have hM289 := hM284.keep hK288
          refine l_val (gn rfl) rfl rfl (r_assign rfl) ?_
          refine l_nil ?_
          refine c_ret ?_
          refine ret1 rfl rfl ?_
          have hd : moreS S by_ a mine = (cond (hasK Ban.key S.bans a.E) 0 7, outB S a.E) := by simp only [moreS, banSt, banWho, h64, h111, h147, h187, h224, h242, h261, h276, cond_true, cond_false] <;> rfl
          exact ⟨q278, by rw [hd] <;> rfl, by rw [hd]; exact (hC285.keep0 hK288), hM289.kp⟩
         ·skip
          have hp290 : ¬ ((a.kind : UInt8) = 15) := of_decide_eq_false h276
          refine c_condF rfl h276 ?_
          refine c_skip ?_
          refine c_seq ?_
          refine c_seq ?_
          refine c_reg ?_
          refine l_val (gn rfl) rfl rfl (r_eql (b := decide ((a.kind : UInt8) = 14)) rfl rfl (u8eq a.kind 14)) ?_
          refine l_val (gn rfl) rfl rfl (r_assign rfl) ?_
          refine l_nil ?_
          refine ways (decide ((a.kind : UInt8) = 14)) (fun h291 => ?_) (fun h291 => ?_)
          ·skip
           have hp292 : (a.kind : UInt8) = 14 := of_decide_eq_true h291
           refine c_condT rfl h291 ?_
           refine c_exit rfl ?_
           refine c_seq ?_
           refine c_seq ?_
           refine c_block ?_
           refine c_seq ?_
           refine c_regD (fun w_ => Mem w (b :: q.bs) [(b55, (Pt.cells a.E), 24), (g34 20, (RollS.cells ((⟨b, 70, 91⟩ : Roll))), 115), (g34 21, (RollI.cells ((⟨b, 71, 92⟩ : Roll))), 120), (g34 22, (RollA.cells ((⟨b, 72, 93⟩ : Roll))), 125), (g34 23, (RollB.cells ((⟨b, 73, 117⟩ : Roll))), 157)] w_ ∧ StB base w_ b q S) [] [(0, true), (1, true), (2, true), (3, true), (4, true), (5, true), (6, true)] (by kernel_rfl) ?_
           have hM293 := hM62.drew
           have hD295 : StB base w61.drew b q S := ((((hD51.keepA hK54 hAp60 (by simp)).keep0 hK58).keepA hK63 hAp60 (by simp)).keep0 (Keeps.drew _))
           refine s_take ⟨hM293, hD295⟩ rfl (gn rfl) rfl rfl (fun w h => r_loadA Tryz.isAgg24 Tryz.sizeOf24 (Pt.size _) rfl (h.1.base (i := 0) rfl)) ?_
           refine s_take ⟨hM293, hD295⟩ rfl (gn rfl) rfl rfl (fun w h => r_move rfl) ?_
           refine s_take ⟨hM293, hD295⟩ rfl (gn rfl) rfl rfl (fun w h => r_nilCheck rfl) ?_
           refine s_take ⟨hM293, hD295⟩ rfl (gn rfl) rfl rfl (fun w h => r_fieldAddr StepR.fld_by_ rfl) ?_
           refine s_take ⟨hM293, hD295⟩ rfl (gn rfl) rfl rfl (fun w h => r_loadA Tryz.isAgg24 Tryz.sizeOf24 (Pt.size _) rfl (Holds.sub (hx.keep h.1.kp hbx) (StepR.sub_by_ _))) ?_
           refine s_take ⟨hM293, hD295⟩ rfl (gn rfl) rfl rfl (fun w h => r_eqPt Tryz.eqGuardType24 Tryz.underlying24 rfl rfl) ?_
           refine s_take ⟨hM293, hD295⟩ rfl (gn rfl) rfl rfl (fun w h => r_assign rfl) ?_
           refine s_nil ?_
           refine ways (decide (a.E = by_)) (fun h296 => ?_) (fun h296 => ?_)
           ·skip
            have hp297 : a.E = by_ := of_decide_eq_true h296
            refine c_condT rfl h296 ?_
            refine c_seq ?_
            refine c_reg ?_
            refine l_val (gn rfl) rfl rfl (r_assign rfl) ?_
            refine l_nil ?_
            refine c_ret ?_
            refine ret1 rfl rfl ?_
            have hd : moreS S by_ a mine = (195, S) := by simp only [moreS, banSt, banWho, h64, h111, h147, h187, h224, h242, h261, h276, h291, h296, cond_true, cond_false] <;> rfl
            exact ⟨q, by rw [hd] <;> rfl, by rw [hd]; exact hD295, hM293.kp⟩
           ·skip
            have hp298 : ¬ (a.E = by_) := of_decide_eq_false h296
            refine c_condF rfl h296 ?_
            refine c_seq ?_
            refine c_reg ?_
            refine l_val (gn rfl) rfl rfl (r_loadA Tryz.isAgg157 Tryz.sizeOf157 (RollB.size _) rfl (hM293.base (i := 4) rfl)) ?_
            refine l_val (gn rfl) rfl rfl (r_loadA Tryz.isAgg24 Tryz.sizeOf24 (Pt.size _) rfl (hM293.base (i := 0) rfl)) ?_
            refine l_call (gn rfl) rfl rfl (r_call Tryz.call95 rfl) (f95 (Holds.sub hD295.hd (SRep.sub_bans _)) hD295.own.stv.bans hU.u4 a.E) ?_
            rintro v299 w300 ⟨rfl, hK301⟩
            have hM302 := hM293.keep hK301
            refine l_val (gn rfl) rfl rfl (r_assign rfl) ?_
            refine l_nil ?_
            refine ways (hasK Ban.key S.bans a.E) (fun h303 => ?_) (fun h303 => ?_)
            ·skip
             refine c_condT rfl h303 ?_
             refine c_seq ?_
             refine c_reg ?_
             refine l_val (gn rfl) rfl rfl (r_assign rfl) ?_
             refine l_nil ?_
             refine c_ret ?_
             refine ret1 rfl rfl ?_
             have hd : moreS S by_ a mine = (8, S) := by simp only [moreS, banSt, banWho, h64, h111, h147, h187, h224, h242, h261, h276, h291, h296, h303, cond_true, cond_false] <;> rfl
             exact ⟨q, by rw [hd] <;> rfl, by rw [hd]; exact (hD295.keep0 hK301), hM302.kp⟩
            ·skip
             refine c_condF rfl h303 ?_
             refine c_skip ?_
             refine c_seq ?_
             refine c_reg ?_
             refine l_val (gn rfl) rfl rfl (r_move rfl) ?_
             refine l_call (gn rfl) rfl rfl (r_call Tryz.call73 rfl) (f73 (hx.keep hM302.kp hbx) (hD295.keep0 hK301) hU.u1 (hme (by first | exact .inl (of_decide_eq_true (by assumption)) | exact .inr (of_decide_eq_true (by assumption))))) ?_
             rintro v304 w305 ⟨rfl, hK306⟩
             have hM307 := hM302.keep hK306
             refine l_val (gn rfl) rfl rfl (r_build rfl ((Ban.built _).trans (fill_cons rfl (Cipher.size _) (by rw [Ban.size]; decide) (Ban.put_by_ _ ((meOf S.seats by_))) (fill_nil)))) ?_
             refine l_alloc hM307 rfl Ban.zv ?_
             intro b308 w309 hM310 hK311 hB312
             replace hM310 : Mem w (b :: q.bs) [(b308, (Ban.cells Ban.zero), 86), (b55, (Pt.cells a.E), 24), (g34 20, (RollS.cells ((⟨b, 70, 91⟩ : Roll))), 115), (g34 21, (RollI.cells ((⟨b, 71, 92⟩ : Roll))), 120), (g34 22, (RollA.cells ((⟨b, 72, 93⟩ : Roll))), 125), (g34 23, (RollB.cells ((⟨b, 73, 117⟩ : Roll))), 157)] w309 := hM310
             have hAp313 : Apt b q [b308, b55, g34 20, g34 21, g34 22, g34 23] := hAp60.cons ((hD295.keep0 hK301).keep0 hK306) hB312
             refine l_store hM310 (i := 0) rfl Tryz.sizeOf86 rfl rfl (Ban.size _) (by rw [Ban.size]; decide) (Ban.one _) (put_whole _ _ ((Ban.size _).trans (Ban.size _).symm)) ?_
             intro w314 hM315 hK316
             replace hM315 : Mem w (b :: q.bs) [(b308, (Ban.cells ((Ban.mk Cipher.zero ((meOf S.seats by_))))), 86), (b55, (Pt.cells a.E), 24), (g34 20, (RollS.cells ((⟨b, 70, 91⟩ : Roll))), 115), (g34 21, (RollI.cells ((⟨b, 71, 92⟩ : Roll))), 120), (g34 22, (RollA.cells ((⟨b, 72, 93⟩ : Roll))), 125), (g34 23, (RollB.cells ((⟨b, 73, 117⟩ : Roll))), 157)] w314 := hM315
             refine l_nil ?_
             refine c_seq ?_
             refine c_seq ?_
             refine c_reg ?_
             refine l_val (gn rfl) rfl rfl (r_loadA Tryz.isAgg115 Tryz.sizeOf115 (RollS.size _) rfl (hM315.base (i := 2) rfl)) ?_
             refine l_val (gn rfl) rfl rfl (r_loadA Tryz.isAgg24 Tryz.sizeOf24 (Pt.size _) rfl (hM315.base (i := 1) rfl)) ?_
             have hD317 : StB base w314 b q S := ((((hD295.keep0 hK301).keep0 hK306).keep0 hK311).keepA hK316 hAp313 (by simp))
             refine l_call (gn rfl) rfl rfl (r_call Tryz.call77 rfl) (take_s hD317 hU.u1 a.E) ?_
             rintro v321 w322 ⟨q318, rfl, hB319, hK323, hS320⟩
             have hM324 := hM315.st hK323 hF0 hAp313
             have hC325 : StB base w322 b q318 (outS S a.E) := hB319
             have hF325 := hF0.trans (hS320.ns _) hM315.kp.size
             have hAp325 : Apt b q318 [b308, b55, g34 20, g34 21, g34 22, g34 23] := hAp313.ns (hS320.ns _) hM315.blks
             have hz325 := hS320.xlt hz1
             refine l_val (gn rfl) rfl rfl (r_move rfl) ?_
             refine l_val (gn rfl) rfl rfl (r_extract rfl rfl) ?_
             refine l_val (gn rfl) rfl rfl (r_extract rfl rfl) ?_
             refine l_alloc hM324 rfl Seat.zv ?_
             intro b326 w327 hM328 hK329 hB330
             replace hM328 : Mem w (b :: q.bs) [(b326, (Seat.cells Seat.zero), 73), (b308, (Ban.cells ((Ban.mk Cipher.zero ((meOf S.seats by_))))), 86), (b55, (Pt.cells a.E), 24), (g34 20, (RollS.cells ((⟨b, 70, 91⟩ : Roll))), 115), (g34 21, (RollI.cells ((⟨b, 71, 92⟩ : Roll))), 120), (g34 22, (RollA.cells ((⟨b, 72, 93⟩ : Roll))), 125), (g34 23, (RollB.cells ((⟨b, 73, 117⟩ : Roll))), 157)] w327 := hM328
             have hAp331 : Apt b q318 [b326, b308, b55, g34 20, g34 21, g34 22, g34 23] := hAp325.cons hC325 hB330
             refine l_store hM328 (i := 0) rfl Tryz.sizeOf73 rfl rfl (Seat.size _) (by rw [Seat.size]; decide) (Seat.one _) (put_whole _ _ ((Seat.size _).trans (Seat.size _).symm)) ?_
             intro w332 hM333 hK334
             replace hM333 : Mem w (b :: q.bs) [(b326, (Seat.cells ((getK Seat.key Seat.zero S.seats a.E))), 73), (b308, (Ban.cells ((Ban.mk Cipher.zero ((meOf S.seats by_))))), 86), (b55, (Pt.cells a.E), 24), (g34 20, (RollS.cells ((⟨b, 70, 91⟩ : Roll))), 115), (g34 21, (RollI.cells ((⟨b, 71, 92⟩ : Roll))), 120), (g34 22, (RollA.cells ((⟨b, 72, 93⟩ : Roll))), 125), (g34 23, (RollB.cells ((⟨b, 73, 117⟩ : Roll))), 157)] w332 := hM333
             refine l_val (gn rfl) rfl rfl (r_assign rfl) ?_
             refine l_nil ?_
             refine c_seq ?_
             refine c_reg ?_
             refine l_val (gn rfl) rfl rfl (r_move rfl) ?_
             refine l_nil ?_
             refine ways (hasK Seat.key S.seats a.E) (fun h335 => ?_) (fun h335 => ?_)
             ·skip
              refine c_condT rfl h335 ?_
              refine c_reg ?_
              refine l_val (gn rfl) rfl rfl (r_fieldAddr Seat.fld_who rfl) ?_
              refine l_val (gn rfl) rfl rfl (r_loadA Tryz.isAgg40 Tryz.sizeOf40 (Cipher.size _) rfl (Holds.sub (hM333.base (i := 0) rfl) (Seat.sub_who _))) ?_
              refine l_val (gn rfl) rfl rfl (r_fieldAddr Ban.fld_who rfl) ?_
              refine l_store hM333 (i := 1) rfl Tryz.sizeOf40 rfl rfl (Cipher.size _) (by rw [Ban.size]; decide) (Cipher.one _) (Ban.put_who _ _) ?_
              intro w336 hM337 hK338
              replace hM337 : Mem w (b :: q.bs) [(b326, (Seat.cells ((getK Seat.key Seat.zero S.seats a.E))), 73), (b308, (Ban.cells ((Ban.mk ((getK Seat.key Seat.zero S.seats a.E).who) ((meOf S.seats by_))))), 86), (b55, (Pt.cells a.E), 24), (g34 20, (RollS.cells ((⟨b, 70, 91⟩ : Roll))), 115), (g34 21, (RollI.cells ((⟨b, 71, 92⟩ : Roll))), 120), (g34 22, (RollA.cells ((⟨b, 72, 93⟩ : Roll))), 125), (g34 23, (RollB.cells ((⟨b, 73, 117⟩ : Roll))), 157)] w336 := hM337
              refine l_nil ?_
              refine c_seq ?_
              refine c_seq ?_
              refine c_reg ?_
              refine l_val (gn rfl) rfl rfl (r_loadA Tryz.isAgg157 Tryz.sizeOf157 (RollB.size _) rfl (hM337.base (i := 6) rfl)) ?_
              refine l_call (gn rfl) rfl rfl (r_call Tryz.call113 rfl) (f113 (Holds.sub (((hC325.keep0 hK329).keepA hK334 hAp331 (by simp)).keepA hK338 hAp331 (by simp)).hd (SRep.sub_bans _)) (((hC325.keep0 hK329).keepA hK334 hAp331 (by simp)).keepA hK338 hAp331 (by simp)).own.stv.bans) ?_
              rintro v339 w340 ⟨rfl, hK341⟩
              have hM342 := hM337.keep hK341
              refine l_nil ?_
              refine ways (decide (40 ≤ S.bans.length)) (fun h343 => ?_) (fun h343 => ?_)
              ·skip
               refine c_condT rfl h343 ?_
               refine c_seq ?_
               refine c_reg ?_
               refine l_val (gn rfl) rfl rfl (r_assign rfl) ?_
               refine l_nil ?_
               refine c_ret ?_
               refine ret1 rfl rfl ?_
               have hD344 : StB base w340 b q318 (outS S a.E) := ((((hC325.keep0 hK329).keepA hK334 hAp331 (by simp)).keepA hK338 hAp331 (by simp)).keep0 hK341)
               have hd : moreS S by_ a mine = (9, outS S a.E) := by simp only [moreS, banSt, banWho, h64, h111, h147, h187, h224, h242, h261, h276, h291, h296, h303, h335, h343, Bool.true_or, cond_true, cond_false] <;> rfl
               exact ⟨q318, by rw [hd] <;> rfl, by rw [hd]; exact hD344, hM342.kp⟩
              ·skip
               refine c_condF rfl h343 ?_
               refine c_skip ?_
               refine c_reg ?_
               refine l_val (gn rfl) rfl rfl (r_loadA Tryz.isAgg157 Tryz.sizeOf157 (RollB.size _) rfl (hM342.base (i := 6) rfl)) ?_
               refine l_val (gn rfl) rfl rfl (r_loadA Tryz.isAgg86 Tryz.sizeOf86 (Ban.size _) rfl (hM342.base (i := 1) rfl)) ?_
               have hD345 : StB base w340 b q318 (outS S a.E) := ((((hC325.keep0 hK329).keepA hK334 hAp331 (by simp)).keepA hK338 hAp331 (by simp)).keep0 hK341)
               refine l_call (gn rfl) rfl rfl (r_call Tryz.call114 rfl) (put_b hD345 hU.u4 (Nat.le_trans hU.l4 (by decide)) (Nat.le_trans hbw hM342.kp.size) ((Ban.mk ((getK Seat.key Seat.zero S.seats a.E).who) ((meOf S.seats by_))))) ?_
               rintro v349 w350 ⟨q346, rfl, hB347, hK351, hS348⟩
               have hM352 := hM342.st hK351 hF325 hAp331
               have hC353 : StB base w350 b q346 (putB (outS S a.E) ((Ban.mk ((getK Seat.key Seat.zero S.seats a.E).who) ((meOf S.seats by_))))) := hB347
               have hF353 := hF325.trans hS348 hM342.kp.size
               have hAp353 : Apt b q346 [b326, b308, b55, g34 20, g34 21, g34 22, g34 23] := hAp331.ns hS348 hM342.blks
               refine l_nil ?_
               refine c_exit rfl ?_
               refine c_seq ?_
               refine c_reg ?_
               refine l_val (gn rfl) rfl rfl (r_assign rfl) ?_
               refine l_nil ?_
               refine c_ret ?_
               refine ret1 rfl rfl ?_
               have hd : moreS S by_ a mine = (0, putB (outS S a.E) ((Ban.mk ((getK Seat.key Seat.zero S.seats a.E).who) ((meOf S.seats by_))))) := by simp only [moreS, banSt, banWho, h64, h111, h147, h187, h224, h242, h261, h276, h291, h296, h303, h335, h343, Bool.true_or, cond_true, cond_false] <;> rfl
               exact ⟨q346, by rw [hd] <;> rfl, by rw [hd]; exact hC353, hM352.kp⟩
             ·skip
              refine c_condF rfl h335 ?_
              refine c_seq ?_
              refine c_reg ?_
              refine l_val (gn rfl) rfl rfl (r_loadA Tryz.isAgg120 Tryz.sizeOf120 (RollI.size _) rfl (hM333.base (i := 4) rfl)) ?_
              refine l_val (gn rfl) rfl rfl (r_loadA Tryz.isAgg24 Tryz.sizeOf24 (Pt.size _) rfl (hM333.base (i := 2) rfl)) ?_
              refine l_call (gn rfl) rfl rfl (r_call Tryz.call68 rfl) (take_i ((hC325.keep0 hK329).keepA hK334 hAp331 (by simp)) hU.u2 a.E) ?_
              rintro v357 w358 ⟨q354, rfl, hB355, hK359, hS356⟩
              have hM360 := hM333.st hK359 hF325 hAp331
              have hC361 : StB base w358 b q354 (outI (outS S a.E) a.E) := hB355
              have hF361 := hF325.trans (hS356.ns _) hM333.kp.size
              have hAp361 : Apt b q354 [b326, b308, b55, g34 20, g34 21, g34 22, g34 23] := hAp331.ns (hS356.ns _) hM333.blks
              have hz361 := hS356.xlt hz325
              refine l_val (gn rfl) rfl rfl (r_move rfl) ?_
              refine l_val (gn rfl) rfl rfl (r_extract rfl rfl) ?_
              refine l_val (gn rfl) rfl rfl (r_extract rfl rfl) ?_
              refine l_alloc hM360 rfl Invite.zv ?_
              intro b362 w363 hM364 hK365 hB366
              replace hM364 : Mem w (b :: q.bs) [(b362, (Invite.cells Invite.zero), 82), (b326, (Seat.cells ((getK Seat.key Seat.zero S.seats a.E))), 73), (b308, (Ban.cells ((Ban.mk Cipher.zero ((meOf S.seats by_))))), 86), (b55, (Pt.cells a.E), 24), (g34 20, (RollS.cells ((⟨b, 70, 91⟩ : Roll))), 115), (g34 21, (RollI.cells ((⟨b, 71, 92⟩ : Roll))), 120), (g34 22, (RollA.cells ((⟨b, 72, 93⟩ : Roll))), 125), (g34 23, (RollB.cells ((⟨b, 73, 117⟩ : Roll))), 157)] w363 := hM364
              have hAp367 : Apt b q354 [b362, b326, b308, b55, g34 20, g34 21, g34 22, g34 23] := hAp361.cons hC361 hB366
              refine l_store hM364 (i := 0) rfl Tryz.sizeOf82 rfl rfl (Invite.size _) (by rw [Invite.size]; decide) (Invite.one _) (put_whole _ _ ((Invite.size _).trans (Invite.size _).symm)) ?_
              intro w368 hM369 hK370
              replace hM369 : Mem w (b :: q.bs) [(b362, (Invite.cells ((getK Invite.key Invite.zero S.invites a.E))), 82), (b326, (Seat.cells ((getK Seat.key Seat.zero S.seats a.E))), 73), (b308, (Ban.cells ((Ban.mk Cipher.zero ((meOf S.seats by_))))), 86), (b55, (Pt.cells a.E), 24), (g34 20, (RollS.cells ((⟨b, 70, 91⟩ : Roll))), 115), (g34 21, (RollI.cells ((⟨b, 71, 92⟩ : Roll))), 120), (g34 22, (RollA.cells ((⟨b, 72, 93⟩ : Roll))), 125), (g34 23, (RollB.cells ((⟨b, 73, 117⟩ : Roll))), 157)] w368 := hM369
              refine l_val (gn rfl) rfl rfl (r_assign rfl) ?_
              refine l_nil ?_
              refine c_seq ?_
              refine c_reg ?_
              refine l_val (gn rfl) rfl rfl (r_move rfl) ?_
              refine l_nil ?_
              refine ways (hasK Invite.key S.invites a.E) (fun h371 => ?_) (fun h371 => ?_)
              ·skip
               refine c_condT rfl h371 ?_
               refine c_reg ?_
               refine l_val (gn rfl) rfl rfl (r_fieldAddr Invite.fld_who rfl) ?_
               refine l_val (gn rfl) rfl rfl (r_loadA Tryz.isAgg40 Tryz.sizeOf40 (Cipher.size _) rfl (Holds.sub (hM369.base (i := 0) rfl) (Invite.sub_who _))) ?_
               refine l_val (gn rfl) rfl rfl (r_fieldAddr Ban.fld_who rfl) ?_
               refine l_store hM369 (i := 2) rfl Tryz.sizeOf40 rfl rfl (Cipher.size _) (by rw [Ban.size]; decide) (Cipher.one _) (Ban.put_who _ _) ?_
               intro w372 hM373 hK374
               replace hM373 : Mem w (b :: q.bs) [(b362, (Invite.cells ((getK Invite.key Invite.zero S.invites a.E))), 82), (b326, (Seat.cells ((getK Seat.key Seat.zero S.seats a.E))), 73), (b308, (Ban.cells ((Ban.mk ((getK Invite.key Invite.zero S.invites a.E).who) ((meOf S.seats by_))))), 86), (b55, (Pt.cells a.E), 24), (g34 20, (RollS.cells ((⟨b, 70, 91⟩ : Roll))), 115), (g34 21, (RollI.cells ((⟨b, 71, 92⟩ : Roll))), 120), (g34 22, (RollA.cells ((⟨b, 72, 93⟩ : Roll))), 125), (g34 23, (RollB.cells ((⟨b, 73, 117⟩ : Roll))), 157)] w372 := hM373
               refine l_nil ?_
               refine c_seq ?_
               refine c_seq ?_
               refine c_reg ?_
               refine l_val (gn rfl) rfl rfl (r_loadA Tryz.isAgg157 Tryz.sizeOf157 (RollB.size _) rfl (hM373.base (i := 7) rfl)) ?_
               refine l_call (gn rfl) rfl rfl (r_call Tryz.call113 rfl) (f113 (Holds.sub (((hC361.keep0 hK365).keepA hK370 hAp367 (by simp)).keepA hK374 hAp367 (by simp)).hd (SRep.sub_bans _)) (((hC361.keep0 hK365).keepA hK370 hAp367 (by simp)).keepA hK374 hAp367 (by simp)).own.stv.bans) ?_
               rintro v375 w376 ⟨rfl, hK377⟩
               have hM378 := hM373.keep hK377
               refine l_nil ?_
               refine ways (decide (40 ≤ S.bans.length)) (fun h379 => ?_) (fun h379 => ?_)
               ·skip
                refine c_condT rfl h379 ?_
                refine c_seq ?_
                refine c_reg ?_
                refine l_val (gn rfl) rfl rfl (r_assign rfl) ?_
                refine l_nil ?_
                refine c_ret ?_
                refine ret1 rfl rfl ?_
                have hD380 : StB base w376 b q354 (outI (outS S a.E) a.E) := ((((hC361.keep0 hK365).keepA hK370 hAp367 (by simp)).keepA hK374 hAp367 (by simp)).keep0 hK377)
                have hd : moreS S by_ a mine = (9, outI (outS S a.E) a.E) := by simp only [moreS, banSt, banWho, h64, h111, h147, h187, h224, h242, h261, h276, h291, h296, h303, h335, h371, h379, Bool.true_or, Bool.or_true, cond_true, cond_false] <;> rfl
                exact ⟨q354, by rw [hd] <;> rfl, by rw [hd]; exact hD380, hM378.kp⟩
               ·skip
                refine c_condF rfl h379 ?_
                refine c_skip ?_
                refine c_reg ?_
                refine l_val (gn rfl) rfl rfl (r_loadA Tryz.isAgg157 Tryz.sizeOf157 (RollB.size _) rfl (hM378.base (i := 7) rfl)) ?_
                refine l_val (gn rfl) rfl rfl (r_loadA Tryz.isAgg86 Tryz.sizeOf86 (Ban.size _) rfl (hM378.base (i := 2) rfl)) ?_
                have hD381 : StB base w376 b q354 (outI (outS S a.E) a.E) := ((((hC361.keep0 hK365).keepA hK370 hAp367 (by simp)).keepA hK374 hAp367 (by simp)).keep0 hK377)
                refine l_call (gn rfl) rfl rfl (r_call Tryz.call114 rfl) (put_b hD381 hU.u4 (Nat.le_trans hU.l4 (by decide)) (Nat.le_trans hbw hM378.kp.size) ((Ban.mk ((getK Invite.key Invite.zero S.invites a.E).who) ((meOf S.seats by_))))) ?_
                rintro v385 w386 ⟨q382, rfl, hB383, hK387, hS384⟩
                have hM388 := hM378.st hK387 hF361 hAp367
                have hC389 : StB base w386 b q382 (putB (outI (outS S a.E) a.E) ((Ban.mk ((getK Invite.key Invite.zero S.invites a.E).who) ((meOf S.seats by_))))) := hB383
                have hF389 := hF361.trans hS384 hM378.kp.size
                have hAp389 : Apt b q382 [b362, b326, b308, b55, g34 20, g34 21, g34 22, g34 23] := hAp367.ns hS384 hM378.blks
                refine l_nil ?_
                refine c_exit rfl ?_
                refine c_seq ?_
                refine c_reg ?_
                refine l_val (gn rfl) rfl rfl (r_assign rfl) ?_
                refine l_nil ?_
                refine c_ret ?_
                refine ret1 rfl rfl ?_
                have hd : moreS S by_ a mine = (0, putB (outI (outS S a.E) a.E) ((Ban.mk ((getK Invite.key Invite.zero S.invites a.E).who) ((meOf S.seats by_))))) := by simp only [moreS, banSt, banWho, h64, h111, h147, h187, h224, h242, h261, h276, h291, h296, h303, h335, h371, h379, Bool.true_or, Bool.or_true, cond_true, cond_false] <;> rfl
                exact ⟨q382, by rw [hd] <;> rfl, by rw [hd]; exact hC389, hM388.kp⟩
              ·skip
               refine c_condF rfl h371 ?_
               refine c_seq ?_
               refine c_reg ?_
               refine l_val (gn rfl) rfl rfl (r_loadA Tryz.isAgg125 Tryz.sizeOf125 (RollA.size _) rfl (hM369.base (i := 6) rfl)) ?_
               refine l_val (gn rfl) rfl rfl (r_loadA Tryz.isAgg24 Tryz.sizeOf24 (Pt.size _) rfl (hM369.base (i := 3) rfl)) ?_
               refine l_call (gn rfl) rfl rfl (r_call Tryz.call69 rfl) (take_a ((hC361.keep0 hK365).keepA hK370 hAp367 (by simp)) hU.u3 a.E) ?_
               rintro v393 w394 ⟨q390, rfl, hB391, hK395, hS392⟩
               have hM396 := hM369.st hK395 hF361 hAp367
               have hC397 : StB base w394 b q390 (outA (outI (outS S a.E) a.E) a.E) := hB391
               have hF397 := hF361.trans (hS392.ns _) hM369.kp.size
               have hAp397 : Apt b q390 [b362, b326, b308, b55, g34 20, g34 21, g34 22, g34 23] := hAp367.ns (hS392.ns _) hM369.blks
               have hz397 := hS392.xlt hz361
               refine l_val (gn rfl) rfl rfl (r_move rfl) ?_
               refine l_val (gn rfl) rfl rfl (r_extract rfl rfl) ?_
               refine l_val (gn rfl) rfl rfl (r_extract rfl rfl) ?_
               refine l_alloc hM396 rfl Ask.zv ?_
               intro b398 w399 hM400 hK401 hB402
               replace hM400 : Mem w (b :: q.bs) [(b398, (Ask.cells Ask.zero), 84), (b362, (Invite.cells ((getK Invite.key Invite.zero S.invites a.E))), 82), (b326, (Seat.cells ((getK Seat.key Seat.zero S.seats a.E))), 73), (b308, (Ban.cells ((Ban.mk Cipher.zero ((meOf S.seats by_))))), 86), (b55, (Pt.cells a.E), 24), (g34 20, (RollS.cells ((⟨b, 70, 91⟩ : Roll))), 115), (g34 21, (RollI.cells ((⟨b, 71, 92⟩ : Roll))), 120), (g34 22, (RollA.cells ((⟨b, 72, 93⟩ : Roll))), 125), (g34 23, (RollB.cells ((⟨b, 73, 117⟩ : Roll))), 157)] w399 := hM400
               have hAp403 : Apt b q390 [b398, b362, b326, b308, b55, g34 20, g34 21, g34 22, g34 23] := hAp397.cons hC397 hB402
               refine l_store hM400 (i := 0) rfl Tryz.sizeOf84 rfl rfl (Ask.size _) (by rw [Ask.size]; decide) (Ask.one _) (put_whole _ _ ((Ask.size _).trans (Ask.size _).symm)) ?_
               intro w404 hM405 hK406
               replace hM405 : Mem w (b :: q.bs) [(b398, (Ask.cells ((getK Ask.key Ask.zero S.asks a.E))), 84), (b362, (Invite.cells ((getK Invite.key Invite.zero S.invites a.E))), 82), (b326, (Seat.cells ((getK Seat.key Seat.zero S.seats a.E))), 73), (b308, (Ban.cells ((Ban.mk Cipher.zero ((meOf S.seats by_))))), 86), (b55, (Pt.cells a.E), 24), (g34 20, (RollS.cells ((⟨b, 70, 91⟩ : Roll))), 115), (g34 21, (RollI.cells ((⟨b, 71, 92⟩ : Roll))), 120), (g34 22, (RollA.cells ((⟨b, 72, 93⟩ : Roll))), 125), (g34 23, (RollB.cells ((⟨b, 73, 117⟩ : Roll))), 157)] w404 := hM405
               refine l_val (gn rfl) rfl rfl (r_assign rfl) ?_
               refine l_nil ?_
               refine c_seq ?_
               refine c_reg ?_
               refine l_val (gn rfl) rfl rfl (r_move rfl) ?_
               refine l_nil ?_
               refine ways (hasK Ask.key S.asks a.E) (fun h407 => ?_) (fun h407 => ?_)
               ·skip
                refine c_condT rfl h407 ?_
                refine c_reg ?_
                refine l_val (gn rfl) rfl rfl (r_fieldAddr Ask.fld_who rfl) ?_
                refine l_val (gn rfl) rfl rfl (r_loadA Tryz.isAgg40 Tryz.sizeOf40 (Cipher.size _) rfl (Holds.sub (hM405.base (i := 0) rfl) (Ask.sub_who _))) ?_
                refine l_val (gn rfl) rfl rfl (r_fieldAddr Ban.fld_who rfl) ?_
                refine l_store hM405 (i := 3) rfl Tryz.sizeOf40 rfl rfl (Cipher.size _) (by rw [Ban.size]; decide) (Cipher.one _) (Ban.put_who _ _) ?_
                intro w408 hM409 hK410
                replace hM409 : Mem w (b :: q.bs) [(b398, (Ask.cells ((getK Ask.key Ask.zero S.asks a.E))), 84), (b362, (Invite.cells ((getK Invite.key Invite.zero S.invites a.E))), 82), (b326, (Seat.cells ((getK Seat.key Seat.zero S.seats a.E))), 73), (b308, (Ban.cells ((Ban.mk ((getK Ask.key Ask.zero S.asks a.E).who) ((meOf S.seats by_))))), 86), (b55, (Pt.cells a.E), 24), (g34 20, (RollS.cells ((⟨b, 70, 91⟩ : Roll))), 115), (g34 21, (RollI.cells ((⟨b, 71, 92⟩ : Roll))), 120), (g34 22, (RollA.cells ((⟨b, 72, 93⟩ : Roll))), 125), (g34 23, (RollB.cells ((⟨b, 73, 117⟩ : Roll))), 157)] w408 := hM409
                refine l_nil ?_
                refine c_seq ?_
                refine c_seq ?_
                refine c_reg ?_
                refine l_val (gn rfl) rfl rfl (r_loadA Tryz.isAgg157 Tryz.sizeOf157 (RollB.size _) rfl (hM409.base (i := 8) rfl)) ?_
                refine l_call (gn rfl) rfl rfl (r_call Tryz.call113 rfl) (f113 (Holds.sub (((hC397.keep0 hK401).keepA hK406 hAp403 (by simp)).keepA hK410 hAp403 (by simp)).hd (SRep.sub_bans _)) (((hC397.keep0 hK401).keepA hK406 hAp403 (by simp)).keepA hK410 hAp403 (by simp)).own.stv.bans) ?_
                rintro v411 w412 ⟨rfl, hK413⟩
                have hM414 := hM409.keep hK413
                refine l_nil ?_
                refine ways (decide (40 ≤ S.bans.length)) (fun h415 => ?_) (fun h415 => ?_)
                ·skip
                 refine c_condT rfl h415 ?_
                 refine c_seq ?_
                 refine c_reg ?_
                 refine l_val (gn rfl) rfl rfl (r_assign rfl) ?_
                 refine l_nil ?_
                 refine c_ret ?_
                 refine ret1 rfl rfl ?_
                 have hD416 : StB base w412 b q390 (outA (outI (outS S a.E) a.E) a.E) := ((((hC397.keep0 hK401).keepA hK406 hAp403 (by simp)).keepA hK410 hAp403 (by simp)).keep0 hK413)
                 have hd : moreS S by_ a mine = (9, outA (outI (outS S a.E) a.E) a.E) := by simp only [moreS, banSt, banWho, h64, h111, h147, h187, h224, h242, h261, h276, h291, h296, h303, h335, h371, h407, h415, Bool.or_true, Bool.or_false, cond_true, cond_false] <;> rfl
                 exact ⟨q390, by rw [hd] <;> rfl, by rw [hd]; exact hD416, hM414.kp⟩
                ·skip
                 refine c_condF rfl h415 ?_
                 refine c_skip ?_
                 refine c_reg ?_
                 refine l_val (gn rfl) rfl rfl (r_loadA Tryz.isAgg157 Tryz.sizeOf157 (RollB.size _) rfl (hM414.base (i := 8) rfl)) ?_
                 refine l_val (gn rfl) rfl rfl (r_loadA Tryz.isAgg86 Tryz.sizeOf86 (Ban.size _) rfl (hM414.base (i := 3) rfl)) ?_
                 have hD417 : StB base w412 b q390 (outA (outI (outS S a.E) a.E) a.E) := ((((hC397.keep0 hK401).keepA hK406 hAp403 (by simp)).keepA hK410 hAp403 (by simp)).keep0 hK413)
                 refine l_call (gn rfl) rfl rfl (r_call Tryz.call114 rfl) (put_b hD417 hU.u4 (Nat.le_trans hU.l4 (by decide)) (Nat.le_trans hbw hM414.kp.size) ((Ban.mk ((getK Ask.key Ask.zero S.asks a.E).who) ((meOf S.seats by_))))) ?_
                 rintro v421 w422 ⟨q418, rfl, hB419, hK423, hS420⟩
                 have hM424 := hM414.st hK423 hF397 hAp403
                 have hC425 : StB base w422 b q418 (putB (outA (outI (outS S a.E) a.E) a.E) ((Ban.mk ((getK Ask.key Ask.zero S.asks a.E).who) ((meOf S.seats by_))))) := hB419
                 have hF425 := hF397.trans hS420 hM414.kp.size
                 have hAp425 : Apt b q418 [b398, b362, b326, b308, b55, g34 20, g34 21, g34 22, g34 23] := hAp403.ns hS420 hM414.blks
                 refine l_nil ?_
                 refine c_exit rfl ?_
                 refine c_seq ?_
                 refine c_reg ?_
                 refine l_val (gn rfl) rfl rfl (r_assign rfl) ?_
                 refine l_nil ?_
                 refine c_ret ?_
                 refine ret1 rfl rfl ?_
                 have hd : moreS S by_ a mine = (0, putB (outA (outI (outS S a.E) a.E) a.E) ((Ban.mk ((getK Ask.key Ask.zero S.asks a.E).who) ((meOf S.seats by_))))) := by simp only [moreS, banSt, banWho, h64, h111, h147, h187, h224, h242, h261, h276, h291, h296, h303, h335, h371, h407, h415, Bool.or_true, Bool.or_false, cond_true, cond_false] <;> rfl
                 exact ⟨q418, by rw [hd] <;> rfl, by rw [hd]; exact hC425, hM424.kp⟩
               ·skip
                refine c_condF rfl h407 ?_
                refine c_seq ?_
                refine c_reg ?_
                refine l_val (gn rfl) rfl rfl (r_assign rfl) ?_
                refine l_nil ?_
                refine c_ret ?_
                refine ret1 rfl rfl ?_
                have hd : moreS S by_ a mine = (7, outA (outI (outS S a.E) a.E) a.E) := by simp only [moreS, banSt, banWho, h64, h111, h147, h187, h224, h242, h261, h276, h291, h296, h303, h335, h371, h407, Bool.or_false, cond_true, cond_false] <;> rfl
                exact ⟨q390, by rw [hd] <;> rfl, by rw [hd]; exact ((hC397.keep0 hK401).keepA hK406 hAp403 (by simp)), hM405.kp⟩
          ·skip
           have hp426 : ¬ ((a.kind : UInt8) = 14) := of_decide_eq_false h291
           refine c_condF rfl h291 ?_
           refine c_skip ?_
           refine c_seq ?_
           refine c_seq ?_
           refine c_reg ?_
           refine l_val (gn rfl) rfl rfl (r_eql (b := decide ((a.kind : UInt8) = 16)) rfl rfl (u8eq a.kind 16)) ?_
           refine l_val (gn rfl) rfl rfl (r_assign rfl) ?_
           refine l_nil ?_
           refine ways (decide ((a.kind : UInt8) = 16)) (fun h427 => ?_) (fun h427 => ?_)
           ·skip
            have hp428 : (a.kind : UInt8) = 16 := of_decide_eq_true h427
            refine c_condT rfl h427 ?_
            refine c_exit rfl ?_
            refine c_seq ?_
            refine c_regD (fun w_ => Mem w (b :: q.bs) [(b55, (Pt.cells a.E), 24), (g34 20, (RollS.cells ((⟨b, 70, 91⟩ : Roll))), 115), (g34 21, (RollI.cells ((⟨b, 71, 92⟩ : Roll))), 120), (g34 22, (RollA.cells ((⟨b, 72, 93⟩ : Roll))), 125), (g34 23, (RollB.cells ((⟨b, 73, 117⟩ : Roll))), 157)] w_ ∧ StB base w_ b q S) [11] [(0, true), (1, true), (2, true), (3, true), (4, true), (5, true), (6, true), (7, true), (8, true), (9, true), (10, true), (11, false)] (by kernel_rfl) ?_
            have hM429 := hM62.drew
            have hD431 : StB base w61.drew b q S := ((((hD51.keepA hK54 hAp60 (by simp)).keep0 hK58).keepA hK63 hAp60 (by simp)).keep0 (Keeps.drew _))
            refine s_take ⟨hM429, hD431⟩ rfl (gn rfl) rfl rfl (fun w h => r_move rfl) ?_
            refine s_take ⟨hM429, hD431⟩ rfl (gn rfl) rfl rfl (fun w h => r_nilCheck rfl) ?_
            refine s_take ⟨hM429, hD431⟩ rfl (gn rfl) rfl rfl (fun w h => r_fieldAddr StepR.fld_b rfl) ?_
            refine s_take ⟨hM429, hD431⟩ rfl (gn rfl) rfl rfl (fun w h => r_load1 (v := Value.pointer (some ⟨b, 0, none⟩)) Tryz.isAgg77 rfl (Holds.sub (hx.keep h.1.kp hbx) (StepR.sub_b _))) ?_
            refine s_take ⟨hM429, hD431⟩ rfl (gn rfl) rfl rfl (fun w h => r_move rfl) ?_
            refine s_take ⟨hM429, hD431⟩ rfl (gn rfl) rfl rfl (fun w h => r_nilCheck rfl) ?_
            refine s_take ⟨hM429, hD431⟩ rfl (gn rfl) rfl rfl (fun w h => r_fieldAddr StepR.fld_a rfl) ?_
            refine s_take ⟨hM429, hD431⟩ rfl (gn rfl) rfl rfl (fun w h => r_fieldAddr ARep.fld_title rfl) ?_
            refine s_take ⟨hM429, hD431⟩ rfl (gn rfl) rfl rfl (fun w h => r_load1 (v := Sl.val qa.t) Tryz.isAgg27 rfl (Holds.sub (Holds.sub (hx.keep h.1.kp hbx) (StepR.sub_a _)) (ARep.sub_title _))) ?_
            refine s_take ⟨hM429, hD431⟩ rfl (gn rfl) rfl rfl (fun w h => r_nilCheck rfl) ?_
            refine s_take ⟨hM429, hD431⟩ rfl (gn rfl) rfl rfl (fun w h => r_fieldAddr SRep.fld_title rfl) ?_
            have hC0 := hC.keep hM429.kp
            refine s_storeSt (q' := { q with t := qa.t }) (Z' := { S with title := a.title }) hM429 hD431 hF0 hAp60 rfl Tryz.sizeOf27 rfl rfl rfl (by decide) (one_one rfl) (SRep.put_title _ _) (fun w' k => hD431.setT hC0 k) ?_
            intro w432 hM433 hK434 hB435
            refine ⟨.inl rfl, ?_⟩
            refine s_nil ?_
            refine c_exit rfl ?_
            refine c_seq ?_
            refine c_reg ?_
            refine l_val (gn rfl) rfl rfl (r_assign rfl) ?_
            refine l_nil ?_
            refine c_ret ?_
            refine ret1 rfl rfl ?_
            have hd : moreS S by_ a mine = (0, { S with title := a.title }) := by simp only [moreS, banSt, banWho, h64, h111, h147, h187, h224, h242, h261, h276, h291, h427, cond_true, cond_false] <;> rfl
            exact ⟨{ q with t := qa.t }, by rw [hd] <;> rfl, by rw [hd]; exact hB435, hM433.kp⟩
           ·skip
            have hp436 : ¬ ((a.kind : UInt8) = 16) := of_decide_eq_false h427
            refine c_condF rfl h427 ?_
            refine c_skip ?_
            refine c_seq ?_
            refine c_seq ?_
            refine c_reg ?_
            refine l_val (gn rfl) rfl rfl (r_eql (b := decide ((a.kind : UInt8) = 17)) rfl rfl (u8eq a.kind 17)) ?_
            refine l_val (gn rfl) rfl rfl (r_assign rfl) ?_
            refine l_nil ?_
            refine ways (decide ((a.kind : UInt8) = 17)) (fun h437 => ?_) (fun h437 => ?_)
            ·skip
             have hp438 : (a.kind : UInt8) = 17 := of_decide_eq_true h437
             refine c_condT rfl h437 ?_
             refine c_exit rfl ?_
             refine c_seq ?_
             refine c_regD (fun w_ => Mem w (b :: q.bs) [(b55, (Pt.cells a.E), 24), (g34 20, (RollS.cells ((⟨b, 70, 91⟩ : Roll))), 115), (g34 21, (RollI.cells ((⟨b, 71, 92⟩ : Roll))), 120), (g34 22, (RollA.cells ((⟨b, 72, 93⟩ : Roll))), 125), (g34 23, (RollB.cells ((⟨b, 73, 117⟩ : Roll))), 157)] w_ ∧ StB base w_ b q S) [11] [(0, true), (1, true), (2, true), (3, true), (4, true), (5, true), (6, true), (7, true), (8, true), (9, true), (10, true), (11, false)] (by kernel_rfl) ?_
             have hM439 := hM62.drew
             have hD441 : StB base w61.drew b q S := ((((hD51.keepA hK54 hAp60 (by simp)).keep0 hK58).keepA hK63 hAp60 (by simp)).keep0 (Keeps.drew _))
             refine s_take ⟨hM439, hD441⟩ rfl (gn rfl) rfl rfl (fun w h => r_move rfl) ?_
             refine s_take ⟨hM439, hD441⟩ rfl (gn rfl) rfl rfl (fun w h => r_nilCheck rfl) ?_
             refine s_take ⟨hM439, hD441⟩ rfl (gn rfl) rfl rfl (fun w h => r_fieldAddr StepR.fld_b rfl) ?_
             refine s_take ⟨hM439, hD441⟩ rfl (gn rfl) rfl rfl (fun w h => r_load1 (v := Value.pointer (some ⟨b, 0, none⟩)) Tryz.isAgg77 rfl (Holds.sub (hx.keep h.1.kp hbx) (StepR.sub_b _))) ?_
             refine s_take ⟨hM439, hD441⟩ rfl (gn rfl) rfl rfl (fun w h => r_move rfl) ?_
             refine s_take ⟨hM439, hD441⟩ rfl (gn rfl) rfl rfl (fun w h => r_nilCheck rfl) ?_
             refine s_take ⟨hM439, hD441⟩ rfl (gn rfl) rfl rfl (fun w h => r_fieldAddr StepR.fld_a rfl) ?_
             refine s_take ⟨hM439, hD441⟩ rfl (gn rfl) rfl rfl (fun w h => r_fieldAddr ARep.fld_acc rfl) ?_
             refine s_take ⟨hM439, hD441⟩ rfl (gn rfl) rfl rfl (fun w h => r_loadA Tryz.isAgg31 Tryz.sizeOf31 (Access.size _) rfl (Holds.sub (Holds.sub (hx.keep h.1.kp hbx) (StepR.sub_a _)) (ARep.sub_acc _))) ?_
             refine s_take ⟨hM439, hD441⟩ rfl (gn rfl) rfl rfl (fun w h => r_nilCheck rfl) ?_
             refine s_take ⟨hM439, hD441⟩ rfl (gn rfl) rfl rfl (fun w h => r_fieldAddr SRep.fld_acc rfl) ?_
             have hC0 := hC.keep hM439.kp
             refine s_storeSt (q' := q) (Z' := { S with acc := a.acc }) hM439 hD441 hF0 hAp60 rfl Tryz.sizeOf31 rfl rfl (Access.size _) (by decide) (Access.one _) (SRep.put_acc _ _) (fun w' k => hD441.setA k _) ?_
             intro w442 hM443 hK444 hB445
             refine ⟨.inl rfl, ?_⟩
             refine s_nil ?_
             refine c_exit rfl ?_
             refine c_seq ?_
             refine c_reg ?_
             refine l_val (gn rfl) rfl rfl (r_assign rfl) ?_
             refine l_nil ?_
             refine c_ret ?_
             refine ret1 rfl rfl ?_
             have hd : moreS S by_ a mine = (0, { S with acc := a.acc }) := by simp only [moreS, banSt, banWho, h64, h111, h147, h187, h224, h242, h261, h276, h291, h427, h437, cond_true, cond_false] <;> rfl
             exact ⟨q, by rw [hd] <;> rfl, by rw [hd]; exact hB445, hM443.kp⟩
            ·skip
             have hp446 : ¬ ((a.kind : UInt8) = 17) := of_decide_eq_false h437
             refine c_condF rfl h437 ?_
             refine c_skip ?_
             refine c_seq ?_
             refine c_reg ?_
             refine l_val (gn rfl) rfl rfl (r_eql (b := decide ((a.kind : UInt8) = 18)) rfl rfl (u8eq a.kind 18)) ?_
             refine l_val (gn rfl) rfl rfl (r_assign rfl) ?_
             refine l_nil ?_
             refine ways (decide ((a.kind : UInt8) = 18)) (fun h447 => ?_) (fun h447 => ?_)
             ·skip
              have hp448 : (a.kind : UInt8) = 18 := of_decide_eq_true h447
              refine c_condT rfl h447 ?_
              refine c_exit rfl ?_
              refine c_seq ?_
              refine c_regD (fun w_ => Mem w (b :: q.bs) [(b55, (Pt.cells a.E), 24), (g34 20, (RollS.cells ((⟨b, 70, 91⟩ : Roll))), 115), (g34 21, (RollI.cells ((⟨b, 71, 92⟩ : Roll))), 120), (g34 22, (RollA.cells ((⟨b, 72, 93⟩ : Roll))), 125), (g34 23, (RollB.cells ((⟨b, 73, 117⟩ : Roll))), 157)] w_ ∧ StB base w_ b q S) [11] [(0, true), (1, true), (2, true), (3, true), (4, true), (5, true), (6, true), (7, true), (8, true), (9, true), (10, true), (11, false)] (by kernel_rfl) ?_
              have hM449 := hM62.drew
              have hD451 : StB base w61.drew b q S := ((((hD51.keepA hK54 hAp60 (by simp)).keep0 hK58).keepA hK63 hAp60 (by simp)).keep0 (Keeps.drew _))
              refine s_take ⟨hM449, hD451⟩ rfl (gn rfl) rfl rfl (fun w h => r_move rfl) ?_
              refine s_take ⟨hM449, hD451⟩ rfl (gn rfl) rfl rfl (fun w h => r_nilCheck rfl) ?_
              refine s_take ⟨hM449, hD451⟩ rfl (gn rfl) rfl rfl (fun w h => r_fieldAddr StepR.fld_b rfl) ?_
              refine s_take ⟨hM449, hD451⟩ rfl (gn rfl) rfl rfl (fun w h => r_load1 (v := Value.pointer (some ⟨b, 0, none⟩)) Tryz.isAgg77 rfl (Holds.sub (hx.keep h.1.kp hbx) (StepR.sub_b _))) ?_
              refine s_take ⟨hM449, hD451⟩ rfl (gn rfl) rfl rfl (fun w h => r_move rfl) ?_
              refine s_take ⟨hM449, hD451⟩ rfl (gn rfl) rfl rfl (fun w h => r_nilCheck rfl) ?_
              refine s_take ⟨hM449, hD451⟩ rfl (gn rfl) rfl rfl (fun w h => r_fieldAddr StepR.fld_a rfl) ?_
              refine s_take ⟨hM449, hD451⟩ rfl (gn rfl) rfl rfl (fun w h => r_fieldAddr ARep.fld_pass rfl) ?_
              refine s_take ⟨hM449, hD451⟩ rfl (gn rfl) rfl rfl (fun w h => r_load1 (v := Sl.val qa.p) Tryz.isAgg27 rfl (Holds.sub (Holds.sub (hx.keep h.1.kp hbx) (StepR.sub_a _)) (ARep.sub_pass _))) ?_
              refine s_take ⟨hM449, hD451⟩ rfl (gn rfl) rfl rfl (fun w h => r_nilCheck rfl) ?_
              refine s_take ⟨hM449, hD451⟩ rfl (gn rfl) rfl rfl (fun w h => r_fieldAddr SRep.fld_pass rfl) ?_
              have hC0 := hC.keep hM449.kp
              refine s_storeSt (q' := { q with p := qa.p }) (Z' := { S with pass := a.pass }) hM449 hD451 hF0 hAp60 rfl Tryz.sizeOf27 rfl rfl rfl (by decide) (one_one rfl) (SRep.put_pass _ _) (fun w' k => hD451.setP hC0 k) ?_
              intro w452 hM453 hK454 hB455
              refine ⟨.inl rfl, ?_⟩
              refine s_nil ?_
              refine c_exit rfl ?_
              refine c_seq ?_
              refine c_reg ?_
              refine l_val (gn rfl) rfl rfl (r_assign rfl) ?_
              refine l_nil ?_
              refine c_ret ?_
              refine ret1 rfl rfl ?_
              have hd : moreS S by_ a mine = (0, { S with pass := a.pass }) := by simp only [moreS, banSt, banWho, h64, h111, h147, h187, h224, h242, h261, h276, h291, h427, h437, h447, cond_true, cond_false] <;> rfl
              exact ⟨{ q with p := qa.p }, by rw [hd] <;> rfl, by rw [hd]; exact hB455, hM453.kp⟩
             ·skip
              have hp456 : ¬ ((a.kind : UInt8) = 18) := of_decide_eq_false h447
              refine c_condF rfl h447 ?_
              refine c_skip ?_
              refine c_exit rfl ?_
              refine c_seq ?_
              refine c_reg ?_
              refine l_val (gn rfl) rfl rfl (r_assign rfl) ?_
              refine l_nil ?_
              refine c_ret ?_
              refine ret1 rfl rfl ?_
              have hd : moreS S by_ a mine = (0, S) := by simp only [moreS, banSt, banWho, h64, h111, h147, h187, h224, h242, h261, h276, h291, h427, h437, h447, cond_false] <;> rfl
              exact ⟨q, by rw [hd] <;> rfl, by rw [hd]; exact (((hD51.keepA hK54 hAp60 (by simp)).keep0 hK58).keepA hK63 hAp60 (by simp)), hM62.kp⟩
end Go.Proofs.YtekhaogjmmmniaaGreat
namespace Go.Proofs.YtekhaogjmmmniaaGreat
open Go Go.RowKit

set_option maxHeartbeats 4000000 in
theorem f33 {w : World} {base b bx : Nat} {q : Six} {S : State} {qa : Two} {a : Action} {by_ : Pt} {mine : UInt8} (hx : Holds w bx 0 (StepR.cells ⟨b, by_, a.rep qa, mine⟩)) (hbx : bx ∉ b :: q.bs) (hB : StB base w b q S) (hbw : base ≤ w.heap.size) (hC : ActM base w b q qa a) (hU : Ups S) (hme : a.kind = 5 ∨ a.kind = 14 → hasK Seat.key S.seats by_ = true) : Ret 33 #[.pointer (some ⟨bx, 0, none⟩)] w (fun v w' => ∃ q', v = .int .i64 (((doS S by_ a mine).1 : Nat) : Int) ∧ StB base w' b q' (doS S by_ a mine).2 ∧ Keeps (b :: q.bs) w w') := by
  have hbl : bx < w.heap.size := by
      have h0 := hx 0 (by rw [StepR.size]; decide)
      rw [Array.getElem?_eq_getElem (by rw [StepR.size]; decide)] at h0
      exact World.block_lt_of_cell? _ ⟨bx, _, none⟩ h0
  have hM0 : Mem w (b :: q.bs) [] w := ⟨Keeps.refl _ _, by simp, by simp, by simp⟩
  have hF0 := NS.refl w q
  have hAp0 : Apt b q [] := Apt.nil
  have hA := hC.acv
  refine enter Tryz.func33 rfl rfl ?_
  refine c_seq ?_
  refine c_reg ?_
  refine l_val (gn rfl) rfl rfl (r_assign rfl) ?_
  refine l_nil ?_
  refine c_seq ?_
  have hz1 := hB.xlt
  have hM2 := hM0.drew
  refine c_regA (fun w_ => Mem w (b :: q.bs) [] w_ ∧ StB base w_ b q S) [] [⟨15, 3, Roll.noCells, 115⟩, ⟨16, 4, Roll.noCells, 120⟩, ⟨17, 5, Roll.noCells, 125⟩] [] [(0, true), (1, true), (2, true), (3, true), (5, true), (6, true), (7, true), (8, true), (10, true), (11, true), (12, true), (13, true), (4, false), (9, false), (14, false)] [(18, false), (19, false), (20, false)] (by kernel_rfl) ⟨⟨_, _, _, rfl, _, Roll.zv115, rfl⟩, ⟨_, _, _, rfl, _, Roll.zv120, rfl⟩, ⟨_, _, _, rfl, _, Roll.zv125, rfl⟩, trivial⟩ (by simp) (fun _ _ k h => ⟨h.1.keep k, h.2.keep0 k⟩) ⟨hM2, (hB.keep0 (Keeps.drew _))⟩ ?_
  refine a_take ⟨hM2, (hB.keep0 (Keeps.drew _))⟩ rfl rfl (gn rfl) rfl rfl (fun w h => r_move rfl) ?_
  refine a_take ⟨hM2, (hB.keep0 (Keeps.drew _))⟩ rfl rfl (gn rfl) rfl rfl (fun w h => r_nilCheck rfl) ?_
  refine a_take ⟨hM2, (hB.keep0 (Keeps.drew _))⟩ rfl rfl (gn rfl) rfl rfl (fun w h => r_fieldAddr StepR.fld_b rfl) ?_
  refine a_take ⟨hM2, (hB.keep0 (Keeps.drew _))⟩ rfl rfl (gn rfl) rfl rfl (fun w h => r_load1 (v := Value.pointer (some ⟨b, 0, none⟩)) Tryz.isAgg77 rfl (Holds.sub (hx.keep h.1.kp hbx) (StepR.sub_b _))) ?_
  refine a_take ⟨hM2, (hB.keep0 (Keeps.drew _))⟩ rfl rfl (gn rfl) rfl rfl (fun w h => r_move rfl) ?_
  refine a_take ⟨hM2, (hB.keep0 (Keeps.drew _))⟩ rfl rfl (gn rfl) rfl rfl (fun w h => r_nilCheck rfl) ?_
  refine a_take ⟨hM2, (hB.keep0 (Keeps.drew _))⟩ rfl rfl (gn rfl) rfl rfl (fun w h => r_fieldAddr StepR.fld_b rfl) ?_
  refine a_take ⟨hM2, (hB.keep0 (Keeps.drew _))⟩ rfl rfl (gn rfl) rfl rfl (fun w h => r_load1 (v := Value.pointer (some ⟨b, 0, none⟩)) Tryz.isAgg77 rfl (Holds.sub (hx.keep h.1.kp hbx) (StepR.sub_b _))) ?_
  refine a_take ⟨hM2, (hB.keep0 (Keeps.drew _))⟩ rfl rfl (gn rfl) rfl rfl (fun w h => r_move rfl) ?_
  refine a_take ⟨hM2, (hB.keep0 (Keeps.drew _))⟩ rfl rfl (gn rfl) rfl rfl (fun w h => r_nilCheck rfl) ?_
  refine a_take ⟨hM2, (hB.keep0 (Keeps.drew _))⟩ rfl rfl (gn rfl) rfl rfl (fun w h => r_fieldAddr StepR.fld_b rfl) ?_
  refine a_take ⟨hM2, (hB.keep0 (Keeps.drew _))⟩ rfl rfl (gn rfl) rfl rfl (fun w h => r_load1 (v := Value.pointer (some ⟨b, 0, none⟩)) Tryz.isAgg77 rfl (Holds.sub (hx.keep h.1.kp hbx) (StepR.sub_b _))) ?_
  refine a_call rfl rfl (gn rfl) rfl rfl rfl ?_
  intro w3 hE4
  have hM5 := hM2.keep hE4
  refine ⟨_, _, _, r_call Tryz.call63 rfl, f63 _, ?_⟩
  rintro v6 w7 ⟨rfl, hK8⟩
  have hM9 := hM5.keep hK8
  refine ⟨⟨hM9, (((hB.keep0 (Keeps.drew _)).keep0 hE4).keep0 hK8)⟩, hK8, ?_⟩
  refine a_call rfl rfl (gn rfl) rfl rfl rfl ?_
  intro w10 hE11
  have hM12 := hM9.keep hE11
  refine ⟨_, _, _, r_call Tryz.call64 rfl, f64 _, ?_⟩
  rintro v13 w14 ⟨rfl, hK15⟩
  have hM16 := hM12.keep hK15
  have hD17 : StB base w14 b q S := (((((hB.keep0 (Keeps.drew _)).keep0 hE4).keep0 hK8).keep0 hE11).keep0 hK15)
  refine ⟨⟨hM16, hD17⟩, hK15, ?_⟩
  refine a_call rfl rfl (gn rfl) rfl rfl rfl ?_
  intro w18 hE19
  have hM20 := hM16.keep hE19
  refine ⟨_, _, _, r_call Tryz.call65 rfl, f65 _, ?_⟩
  rintro v21 w22 ⟨rfl, hK23⟩
  have hM24 := hM20.keep hK23
  refine ⟨⟨hM24, ((hD17.keep0 hE19).keep0 hK23)⟩, hK23, ?_⟩
  refine a_nil hM24 hM2.kp.size hM2.lt rfl rfl ?_
  intro w25 g26 hK27 hM28 hg29
  change AT _ (_ :: _ :: _ :: _) _ _
  replace hM28 : Mem w (b :: q.bs) [(g26 15, Roll.noCells, 115), (g26 16, Roll.noCells, 120), (g26 17, Roll.noCells, 125)] w25 := hM28
  have hAp30 : Apt b q [g26 17] := hAp0.consZ hz1 (hg29 _ (List.Mem.tail _ (List.Mem.tail _ (List.Mem.head _))))
  have hAp31 : Apt b q [g26 16, g26 17] := hAp30.consZ hz1 (hg29 _ (List.Mem.tail _ (List.Mem.head _)))
  have hAp32 : Apt b q [g26 15, g26 16, g26 17] := hAp31.consZ hz1 (hg29 _ (List.Mem.head _))
  refine s_store hM28 (j := 0) rfl rfl Tryz.sizeOf115 rfl rfl (RollS.size _) (by decide) (RollS.one _) (put_whole _ _ rfl) ?_
  intro w33 hM34 hK35
  replace hM34 : Mem w (b :: q.bs) [(g26 15, (RollS.cells ((⟨b, 70, 91⟩ : Roll))), 115), (g26 16, Roll.noCells, 120), (g26 17, Roll.noCells, 125)] w33 := hM34
  have hD36 : StB base w33 b q S := ((((hD17.keep0 hE19).keep0 hK23).keep0 hK27).keepA hK35 hAp32 (by simp))
  refine ⟨.inr ⟨(hM34.forget (.cons _ (.cons _ (.cons _ (.refl _))))), hD36⟩, ?_⟩
  refine s_store hM34 (j := 1) rfl rfl Tryz.sizeOf120 rfl rfl (RollI.size _) (by decide) (RollI.one _) (put_whole _ _ rfl) ?_
  intro w37 hM38 hK39
  replace hM38 : Mem w (b :: q.bs) [(g26 15, (RollS.cells ((⟨b, 70, 91⟩ : Roll))), 115), (g26 16, (RollI.cells ((⟨b, 71, 92⟩ : Roll))), 120), (g26 17, Roll.noCells, 125)] w37 := hM38
  refine ⟨.inr ⟨(hM38.forget (.cons _ (.cons _ (.cons _ (.refl _))))), (hD36.keepA hK39 hAp32 (by simp))⟩, ?_⟩
  refine s_store hM38 (j := 2) rfl rfl Tryz.sizeOf125 rfl rfl (RollA.size _) (by decide) (RollA.one _) (put_whole _ _ rfl) ?_
  intro w40 hM41 hK42
  replace hM41 : Mem w (b :: q.bs) [(g26 15, (RollS.cells ((⟨b, 70, 91⟩ : Roll))), 115), (g26 16, (RollI.cells ((⟨b, 71, 92⟩ : Roll))), 120), (g26 17, (RollA.cells ((⟨b, 72, 93⟩ : Roll))), 125)] w40 := hM41
  refine ⟨.inr ⟨(hM41.forget (.cons _ (.cons _ (.cons _ (.refl _))))), ((hD36.keepA hK39 hAp32 (by simp)).keepA hK42 hAp32 (by simp))⟩, ?_⟩
  refine s_nil ?_
  refine c_seq ?_
  have hz43 := ((hD36.keepA hK39 hAp32 (by simp)).keepA hK42 hAp32 (by simp)).xlt
  have hM44 := hM41.drew
  refine c_regA (fun w_ => Mem w (b :: q.bs) [(g26 15, (RollS.cells ((⟨b, 70, 91⟩ : Roll))), 115), (g26 16, (RollI.cells ((⟨b, 71, 92⟩ : Roll))), 120), (g26 17, (RollA.cells ((⟨b, 72, 93⟩ : Roll))), 125)] w_ ∧ StB base w_ b q S) [] [⟨11, 6, (Pt.cells Pt.zero), 24⟩, ⟨12, 7, (Pt.cells Pt.zero), 24⟩] [] [(0, true), (1, true), (2, true), (3, true), (4, true), (5, true), (6, true), (7, true), (8, true), (9, true), (10, true)] [(13, false), (14, false)] (by kernel_rfl) ⟨⟨_, _, _, rfl, _, zv_Pt, rfl⟩, ⟨_, _, _, rfl, _, zv_Pt, rfl⟩, trivial⟩ (by simp) (fun _ _ k h => ⟨h.1.keep k, h.2.keep0 k⟩) ⟨hM44, (((hD36.keepA hK39 hAp32 (by simp)).keepA hK42 hAp32 (by simp)).keep0 (Keeps.drew _))⟩ ?_
  refine a_take ⟨hM44, (((hD36.keepA hK39 hAp32 (by simp)).keepA hK42 hAp32 (by simp)).keep0 (Keeps.drew _))⟩ rfl rfl (gn rfl) rfl rfl (fun w h => r_move rfl) ?_
  refine a_take ⟨hM44, (((hD36.keepA hK39 hAp32 (by simp)).keepA hK42 hAp32 (by simp)).keep0 (Keeps.drew _))⟩ rfl rfl (gn rfl) rfl rfl (fun w h => r_nilCheck rfl) ?_
  refine a_take ⟨hM44, (((hD36.keepA hK39 hAp32 (by simp)).keepA hK42 hAp32 (by simp)).keep0 (Keeps.drew _))⟩ rfl rfl (gn rfl) rfl rfl (fun w h => r_fieldAddr StepR.fld_a rfl) ?_
  refine a_take ⟨hM44, (((hD36.keepA hK39 hAp32 (by simp)).keepA hK42 hAp32 (by simp)).keep0 (Keeps.drew _))⟩ rfl rfl (gn rfl) rfl rfl (fun w h => r_fieldAddr ARep.fld_who rfl) ?_
  refine a_take ⟨hM44, (((hD36.keepA hK39 hAp32 (by simp)).keepA hK42 hAp32 (by simp)).keep0 (Keeps.drew _))⟩ rfl rfl (gn rfl) rfl rfl (fun w h => r_fieldAddr Cipher.fld_E rfl) ?_
  refine a_take ⟨hM44, (((hD36.keepA hK39 hAp32 (by simp)).keepA hK42 hAp32 (by simp)).keep0 (Keeps.drew _))⟩ rfl rfl (gn rfl) rfl rfl (fun w h => r_loadA Tryz.isAgg24 Tryz.sizeOf24 (Pt.size _) rfl (Holds.sub (Holds.sub (Holds.sub (hx.keep h.1.kp hbx) (StepR.sub_a _)) (ARep.sub_who _)) (Cipher.sub_E _))) ?_
  refine a_take ⟨hM44, (((hD36.keepA hK39 hAp32 (by simp)).keepA hK42 hAp32 (by simp)).keep0 (Keeps.drew _))⟩ rfl rfl (gn rfl) rfl rfl (fun w h => r_move rfl) ?_
  refine a_take ⟨hM44, (((hD36.keepA hK39 hAp32 (by simp)).keepA hK42 hAp32 (by simp)).keep0 (Keeps.drew _))⟩ rfl rfl (gn rfl) rfl rfl (fun w h => r_nilCheck rfl) ?_
  refine a_take ⟨hM44, (((hD36.keepA hK39 hAp32 (by simp)).keepA hK42 hAp32 (by simp)).keep0 (Keeps.drew _))⟩ rfl rfl (gn rfl) rfl rfl (fun w h => r_fieldAddr StepR.fld_a rfl) ?_
  refine a_take ⟨hM44, (((hD36.keepA hK39 hAp32 (by simp)).keepA hK42 hAp32 (by simp)).keep0 (Keeps.drew _))⟩ rfl rfl (gn rfl) rfl rfl (fun w h => r_fieldAddr ARep.fld_E rfl) ?_
  refine a_take ⟨hM44, (((hD36.keepA hK39 hAp32 (by simp)).keepA hK42 hAp32 (by simp)).keep0 (Keeps.drew _))⟩ rfl rfl (gn rfl) rfl rfl (fun w h => r_loadA Tryz.isAgg24 Tryz.sizeOf24 (Pt.size _) rfl (Holds.sub (Holds.sub (hx.keep h.1.kp hbx) (StepR.sub_a _)) (ARep.sub_E _))) ?_
  refine a_nil hM44 hM44.kp.size hM44.lt rfl rfl ?_
  intro w45 g46 hK47 hM48 hg49
  change AT _ (_ :: _ :: _) _ _
  replace hM48 : Mem w (b :: q.bs) [(g46 11, (Pt.cells Pt.zero), 24), (g46 12, (Pt.cells Pt.zero), 24), (g26 15, (RollS.cells ((⟨b, 70, 91⟩ : Roll))), 115), (g26 16, (RollI.cells ((⟨b, 71, 92⟩ : Roll))), 120), (g26 17, (RollA.cells ((⟨b, 72, 93⟩ : Roll))), 125)] w45 := hM48
  have hAp50 : Apt b q [g46 12, g26 15, g26 16, g26 17] := hAp32.consZ hz43 (hg49 _ (List.Mem.tail _ (List.Mem.head _)))
  have hAp51 : Apt b q [g46 11, g46 12, g26 15, g26 16, g26 17] := hAp50.consZ hz43 (hg49 _ (List.Mem.head _))
  refine s_store hM48 (j := 0) rfl rfl Tryz.sizeOf24 rfl rfl (Pt.size _) (by rw [Pt.size]; decide) (Pt.one _) (put_whole _ _ ((Pt.size _).trans (Pt.size _).symm)) ?_
  intro w52 hM53 hK54
  replace hM53 : Mem w (b :: q.bs) [(g46 11, (Pt.cells a.who.E), 24), (g46 12, (Pt.cells Pt.zero), 24), (g26 15, (RollS.cells ((⟨b, 70, 91⟩ : Roll))), 115), (g26 16, (RollI.cells ((⟨b, 71, 92⟩ : Roll))), 120), (g26 17, (RollA.cells ((⟨b, 72, 93⟩ : Roll))), 125)] w52 := hM53
  have hD55 : StB base w52 b q S := (((((hD36.keepA hK39 hAp51 (by simp)).keepA hK42 hAp51 (by simp)).keep0 (Keeps.drew _)).keep0 hK47).keepA hK54 hAp51 (by simp))
  refine ⟨.inr ⟨(hM53.forget (.cons _ (.cons _ (.refl _)))), hD55⟩, ?_⟩
  refine s_store hM53 (j := 1) rfl rfl Tryz.sizeOf24 rfl rfl (Pt.size _) (by rw [Pt.size]; decide) (Pt.one _) (put_whole _ _ ((Pt.size _).trans (Pt.size _).symm)) ?_
  intro w56 hM57 hK58
  replace hM57 : Mem w (b :: q.bs) [(g46 11, (Pt.cells a.who.E), 24), (g46 12, (Pt.cells a.E), 24), (g26 15, (RollS.cells ((⟨b, 70, 91⟩ : Roll))), 115), (g26 16, (RollI.cells ((⟨b, 71, 92⟩ : Roll))), 120), (g26 17, (RollA.cells ((⟨b, 72, 93⟩ : Roll))), 125)] w56 := hM57
  refine ⟨.inr ⟨(hM57.forget (.cons _ (.cons _ (.refl _)))), (hD55.keepA hK58 hAp51 (by simp))⟩, ?_⟩
  refine s_nil ?_
  refine c_seq ?_
  refine c_seq ?_
  refine c_reg ?_
  refine l_val (gn rfl) rfl rfl (r_move rfl) ?_
  refine l_val (gn rfl) rfl rfl (r_nilCheck rfl) ?_
  refine l_val (gn rfl) rfl rfl (r_fieldAddr StepR.fld_a rfl) ?_
  refine l_val (gn rfl) rfl rfl (r_fieldAddr ARep.fld_kind rfl) ?_
  refine l_val (gn rfl) rfl rfl (r_load1 (v := vU8 a.kind) Tryz.isAgg38 rfl (Holds.sub (Holds.sub (hx.keep hM57.kp hbx) (StepR.sub_a _)) (ARep.sub_kind _))) ?_
  refine l_nil ?_
  refine c_block ?_
  refine c_seq ?_
  refine c_seq ?_
  refine c_reg ?_
  refine l_val (gn rfl) rfl rfl (r_eql (b := decide ((a.kind : UInt8) = 1)) rfl rfl (u8eq a.kind 1)) ?_
  refine l_val (gn rfl) rfl rfl (r_assign rfl) ?_
  refine l_nil ?_
  refine ways (decide ((a.kind : UInt8) = 1)) (fun h59 => ?_) (fun h59 => ?_)
  ·skip
   have hp60 : (a.kind : UInt8) = 1 := of_decide_eq_true h59
   refine c_condT rfl h59 ?_
   refine c_skip ?_
   refine c_condT rfl h59 ?_
   refine c_seq ?_
   refine c_regD (fun w_ => Mem w (b :: q.bs) [(g46 11, (Pt.cells a.who.E), 24), (g46 12, (Pt.cells a.E), 24), (g26 15, (RollS.cells ((⟨b, 70, 91⟩ : Roll))), 115), (g26 16, (RollI.cells ((⟨b, 71, 92⟩ : Roll))), 120), (g26 17, (RollA.cells ((⟨b, 72, 93⟩ : Roll))), 125)] w_ ∧ StB base w_ b q S) [] [(0, true), (1, true), (2, true), (3, true), (4, true), (5, true), (6, true)] (by kernel_rfl) ?_
   have hM61 := hM57.drew
   refine s_take ⟨hM61, ((hD55.keepA hK58 hAp51 (by simp)).keep0 (Keeps.drew _))⟩ rfl (gn rfl) rfl rfl (fun w h => r_move rfl) ?_
   refine s_take ⟨hM61, ((hD55.keepA hK58 hAp51 (by simp)).keep0 (Keeps.drew _))⟩ rfl (gn rfl) rfl rfl (fun w h => r_nilCheck rfl) ?_
   refine s_take ⟨hM61, ((hD55.keepA hK58 hAp51 (by simp)).keep0 (Keeps.drew _))⟩ rfl (gn rfl) rfl rfl (fun w h => r_fieldAddr StepR.fld_a rfl) ?_
   refine s_take ⟨hM61, ((hD55.keepA hK58 hAp51 (by simp)).keep0 (Keeps.drew _))⟩ rfl (gn rfl) rfl rfl (fun w h => r_fieldAddr ARep.fld_role rfl) ?_
   refine s_take ⟨hM61, ((hD55.keepA hK58 hAp51 (by simp)).keep0 (Keeps.drew _))⟩ rfl (gn rfl) rfl rfl (fun w h => r_load1 (v := vU8 a.role) Tryz.isAgg28 rfl (Holds.sub (Holds.sub (hx.keep h.1.kp hbx) (StepR.sub_a _)) (ARep.sub_role _))) ?_
   refine s_take ⟨hM61, ((hD55.keepA hK58 hAp51 (by simp)).keep0 (Keeps.drew _))⟩ rfl (gn rfl) rfl rfl (fun w h => r_assign rfl) ?_
   refine s_take ⟨hM61, ((hD55.keepA hK58 hAp51 (by simp)).keep0 (Keeps.drew _))⟩ rfl (gn rfl) rfl rfl (fun w h => r_assign rfl) ?_
   refine s_nil ?_
   refine c_seq ?_
   refine c_seq ?_
   refine c_reg ?_
   refine l_val (gn rfl) rfl rfl (r_move rfl) ?_
   refine l_val (gn rfl) rfl rfl (r_nilCheck rfl) ?_
   refine l_val (gn rfl) rfl rfl (r_fieldAddr StepR.fld_a rfl) ?_
   refine l_val (gn rfl) rfl rfl (r_fieldAddr ARep.fld_kind rfl) ?_
   refine l_val (gn rfl) rfl rfl (r_load1 (v := vU8 a.kind) Tryz.isAgg38 rfl (Holds.sub (Holds.sub (hx.keep hM61.kp hbx) (StepR.sub_a _)) (ARep.sub_kind _))) ?_
   refine l_val (gn rfl) rfl rfl (r_eql (b := decide ((a.kind : UInt8) = 9)) rfl rfl (u8eq a.kind 9)) ?_
   refine l_nil ?_
   refine ways (decide ((a.kind : UInt8) = 9)) (fun h63 => ?_) (fun h63 => ?_)
   ·skip
    have hp64 : (a.kind : UInt8) = 9 := of_decide_eq_true h63
    refine c_condT rfl h63 ?_
    refine c_reg ?_
    refine l_val (gn rfl) rfl rfl (r_assign rfl) ?_
    refine l_val (gn rfl) rfl rfl (r_assign rfl) ?_
    refine l_nil ?_
    refine c_seq ?_
    refine c_seq ?_
    refine c_reg ?_
    refine l_val (gn rfl) rfl rfl (r_move rfl) ?_
    refine l_val (gn rfl) rfl rfl (r_move rfl) ?_
    refine l_call (gn rfl) rfl rfl (r_call Tryz.call66 rfl) (f66 (hx.keep hM61.kp hbx) ((hD55.keepA hK58 hAp51 (by simp)).keep0 (Keeps.drew _)) (hA.keep hM61.kp (fun x hx h => h hx)) hU 1 false false) ?_
    rintro v65 w66 ⟨rfl, hK67⟩
    have hM68 := hM61.keep hK67
    refine l_val (gn rfl) rfl rfl (r_assign rfl) ?_
    refine l_nil ?_
    refine c_seq ?_
    refine c_reg ?_
    refine l_val (gn rfl) rfl rfl (r_move rfl) ?_
    refine l_val (gn rfl) rfl rfl (r_neq (b := (!(decide ((newcE S a 1 false false : Nat) = 0)))) rfl rfl (congrArg Bool.not (neq' (newcE S a 1 false false) 0))) ?_
    refine l_nil ?_
    refine ways (decide ((newcE S a 1 false false : Nat) = 0)) (fun h69 => ?_) (fun h69 => ?_)
    ·skip
     have hp70 : (newcE S a 1 false false : Nat) = 0 := of_decide_eq_true h69
     refine c_condF rfl (congrArg Bool.not h69) ?_
     refine c_skip ?_
     refine c_seq ?_
     refine c_seq ?_
     refine c_reg ?_
     refine l_val (gn rfl) rfl rfl (r_loadA Tryz.isAgg115 Tryz.sizeOf115 (RollS.size _) rfl (hM68.base (i := 2) rfl)) ?_
     refine l_call (gn rfl) rfl rfl (r_call Tryz.call67 rfl) (f67 (Holds.sub (((hD55.keepA hK58 hAp51 (by simp)).keep0 (Keeps.drew _)).keep0 hK67).hd (SRep.sub_seats _)) (((hD55.keepA hK58 hAp51 (by simp)).keep0 (Keeps.drew _)).keep0 hK67).own.stv.seats) ?_
     rintro v71 w72 ⟨rfl, hK73⟩
     have hM74 := hM68.keep hK73
     refine l_nil ?_
     refine ways (decide (40 ≤ S.seats.length)) (fun h75 => ?_) (fun h75 => ?_)
     ·skip
      refine c_condT rfl h75 ?_
      refine c_seq ?_
      refine c_reg ?_
      refine l_val (gn rfl) rfl rfl (r_assign rfl) ?_
      refine l_nil ?_
      refine c_ret ?_
      refine ret1 rfl rfl ?_
      have hD76 : StB base w72 b q S := ((((hD55.keepA hK58 hAp51 (by simp)).keep0 (Keeps.drew _)).keep0 hK67).keep0 hK73)
      have hd : doS S by_ a mine = (9, S) := by simp only [doS, roleS, h59, h63, h69, h75, Bool.or_true, cond_true] <;> rfl
      exact ⟨q, by rw [hd] <;> rfl, by rw [hd]; exact hD76, hM74.kp⟩
     ·skip
      refine c_condF rfl h75 ?_
      refine c_skip ?_
      refine c_seq ?_
      refine c_reg ?_
      refine l_val (gn rfl) rfl rfl (r_loadA Tryz.isAgg120 Tryz.sizeOf120 (RollI.size _) rfl (hM74.base (i := 3) rfl)) ?_
      refine l_val (gn rfl) rfl rfl (r_loadA Tryz.isAgg24 Tryz.sizeOf24 (Pt.size _) rfl (hM74.base (i := 0) rfl)) ?_
      have hD77 : StB base w72 b q S := ((((hD55.keepA hK58 hAp51 (by simp)).keep0 (Keeps.drew _)).keep0 hK67).keep0 hK73)
      refine l_call (gn rfl) rfl rfl (r_call Tryz.call68 rfl) (take_i hD77 hU.u2 a.who.E) ?_
      rintro v81 w82 ⟨q78, rfl, hB79, hK83, hS80⟩
      have hM84 := hM74.st hK83 hF0 hAp51
      have hC85 : StB base w82 b q78 (outI S a.who.E) := hB79
      have hF85 := hF0.trans (hS80.ns _) hM74.kp.size
      have hAp85 : Apt b q78 [g46 11, g46 12, g26 15, g26 16, g26 17] := hAp51.ns (hS80.ns _) hM74.blks
      have hz85 := hS80.xlt hz43
      refine l_nil ?_
      refine c_seq ?_
      refine c_reg ?_
      refine l_val (gn rfl) rfl rfl (r_loadA Tryz.isAgg125 Tryz.sizeOf125 (RollA.size _) rfl (hM84.base (i := 4) rfl)) ?_
      refine l_val (gn rfl) rfl rfl (r_loadA Tryz.isAgg24 Tryz.sizeOf24 (Pt.size _) rfl (hM84.base (i := 0) rfl)) ?_
      refine l_call (gn rfl) rfl rfl (r_call Tryz.call69 rfl) (take_a hC85 hU.u3 a.who.E) ?_
      rintro v89 w90 ⟨q86, rfl, hB87, hK91, hS88⟩
      have hM92 := hM84.st hK91 hF85 hAp85
      have hC93 : StB base w90 b q86 (outA (outI S a.who.E) a.who.E) := hB87
      have hF93 := hF85.trans (hS88.ns _) hM84.kp.size
      have hAp93 : Apt b q86 [g46 11, g46 12, g26 15, g26 16, g26 17] := hAp85.ns (hS88.ns _) hM84.blks
      have hz93 := hS88.xlt hz85
      refine l_nil ?_
      refine c_seq ?_
      refine c_reg ?_
      refine l_val (gn rfl) rfl rfl (r_move rfl) ?_
      refine l_val (gn rfl) rfl rfl (r_move rfl) ?_
      refine l_val (gn rfl) rfl rfl (r_nilCheck rfl) ?_
      refine l_val (gn rfl) rfl rfl (r_fieldAddr StepR.fld_a rfl) ?_
      refine l_val (gn rfl) rfl rfl (r_fieldAddr ARep.fld_who rfl) ?_
      refine l_val (gn rfl) rfl rfl (r_loadA Tryz.isAgg40 Tryz.sizeOf40 (Cipher.size _) rfl (Holds.sub (Holds.sub (hx.keep hM92.kp hbx) (StepR.sub_a _)) (ARep.sub_who _))) ?_
      refine l_val (gn rfl) rfl rfl (r_move rfl) ?_
      refine l_call (gn rfl) rfl rfl (r_call Tryz.call70 rfl) (f70 (hx.keep hM92.kp hbx) (fun hm => by cases hm with | head => exact hbx List.mem_cons_self | tail _ hm => exact (hF93 bx hm).elim (fun h => hbx (List.mem_cons_of_mem _ h)) (fun h => by have := hbl; omega)) hC93 (Nat.le_trans hbw hM92.kp.size) hU.u1 hU.l1 a.who 1) ?_
      rintro v97 w98 ⟨q94, rfl, hB95, hK99⟩
      have hM100 := hM92.st hK99 hF93 hAp93
      have hC101 : StB base w98 b q94 (putS (outA (outI S a.who.E) a.who.E) ⟨a.who, 1, a.ver⟩) := hB95
      refine l_val (gn rfl) rfl rfl (r_assign rfl) ?_
      refine l_nil ?_
      refine c_ret ?_
      refine ret1 rfl rfl ?_
      have hd : doS S by_ a mine = (0, putS (outA (outI S a.who.E) a.who.E) ⟨a.who, 1, a.ver⟩) := by simp only [doS, roleS, h59, h63, h69, h75, Bool.or_true, cond_true, cond_false] <;> rfl
      exact ⟨q94, by rw [hd] <;> rfl, by rw [hd]; exact hC101, hM100.kp⟩
    ·skip
     have hp102 : ¬ ((newcE S a 1 false false : Nat) = 0) := of_decide_eq_false h69
     refine c_condT rfl (congrArg Bool.not h69) ?_
     refine c_seq ?_
     refine c_reg ?_
     refine l_val (gn rfl) rfl rfl (r_move rfl) ?_
     refine l_val (gn rfl) rfl rfl (r_assign rfl) ?_
     refine l_nil ?_
     refine c_ret ?_
     refine ret1 rfl rfl ?_
     have hd : doS S by_ a mine = (newcE S a 1 false false, S) := by simp only [doS, roleS, h59, h63, h69, Bool.or_true, cond_true, cond_false] <;> rfl
     exact ⟨q, by rw [hd] <;> rfl, by rw [hd]; exact (((hD55.keepA hK58 hAp51 (by simp)).keep0 (Keeps.drew _)).keep0 hK67), hM68.kp⟩
   ·skip
    have hp103 : ¬ ((a.kind : UInt8) = 9) := of_decide_eq_false h63
    refine c_condF rfl h63 ?_
    refine c_skip ?_
    refine c_seq ?_
    refine c_seq ?_
    refine c_reg ?_
    refine l_val (gn rfl) rfl rfl (r_move rfl) ?_
    refine l_val (gn rfl) rfl rfl (r_move rfl) ?_
    refine l_call (gn rfl) rfl rfl (r_call Tryz.call66 rfl) (f66 (hx.keep hM61.kp hbx) ((hD55.keepA hK58 hAp51 (by simp)).keep0 (Keeps.drew _)) (hA.keep hM61.kp (fun x hx h => h hx)) hU 0 false false) ?_
    rintro v104 w105 ⟨rfl, hK106⟩
    have hM107 := hM61.keep hK106
    refine l_val (gn rfl) rfl rfl (r_assign rfl) ?_
    refine l_nil ?_
    refine c_seq ?_
    refine c_reg ?_
    refine l_val (gn rfl) rfl rfl (r_move rfl) ?_
    refine l_val (gn rfl) rfl rfl (r_neq (b := (!(decide ((newcE S a 0 false false : Nat) = 0)))) rfl rfl (congrArg Bool.not (neq' (newcE S a 0 false false) 0))) ?_
    refine l_nil ?_
    refine ways (decide ((newcE S a 0 false false : Nat) = 0)) (fun h108 => ?_) (fun h108 => ?_)
    ·skip
     have hp109 : (newcE S a 0 false false : Nat) = 0 := of_decide_eq_true h108
     refine c_condF rfl (congrArg Bool.not h108) ?_
     refine c_skip ?_
     refine c_seq ?_
     refine c_seq ?_
     refine c_reg ?_
     refine l_val (gn rfl) rfl rfl (r_loadA Tryz.isAgg115 Tryz.sizeOf115 (RollS.size _) rfl (hM107.base (i := 2) rfl)) ?_
     refine l_call (gn rfl) rfl rfl (r_call Tryz.call67 rfl) (f67 (Holds.sub (((hD55.keepA hK58 hAp51 (by simp)).keep0 (Keeps.drew _)).keep0 hK106).hd (SRep.sub_seats _)) (((hD55.keepA hK58 hAp51 (by simp)).keep0 (Keeps.drew _)).keep0 hK106).own.stv.seats) ?_
     rintro v110 w111 ⟨rfl, hK112⟩
     have hM113 := hM107.keep hK112
     refine l_nil ?_
     refine ways (decide (40 ≤ S.seats.length)) (fun h114 => ?_) (fun h114 => ?_)
     ·skip
      refine c_condT rfl h114 ?_
      refine c_seq ?_
      refine c_reg ?_
      refine l_val (gn rfl) rfl rfl (r_assign rfl) ?_
      refine l_nil ?_
      refine c_ret ?_
      refine ret1 rfl rfl ?_
      have hD115 : StB base w111 b q S := ((((hD55.keepA hK58 hAp51 (by simp)).keep0 (Keeps.drew _)).keep0 hK106).keep0 hK112)
      have hd : doS S by_ a mine = (9, S) := by simp only [doS, roleS, h59, h63, h108, h114, Bool.or_false, cond_true, cond_false] <;> rfl
      exact ⟨q, by rw [hd] <;> rfl, by rw [hd]; exact hD115, hM113.kp⟩
     ·skip
      refine c_condF rfl h114 ?_
      refine c_skip ?_
      refine c_seq ?_
      refine c_reg ?_
      refine l_val (gn rfl) rfl rfl (r_loadA Tryz.isAgg120 Tryz.sizeOf120 (RollI.size _) rfl (hM113.base (i := 3) rfl)) ?_
      refine l_val (gn rfl) rfl rfl (r_loadA Tryz.isAgg24 Tryz.sizeOf24 (Pt.size _) rfl (hM113.base (i := 0) rfl)) ?_
      have hD116 : StB base w111 b q S := ((((hD55.keepA hK58 hAp51 (by simp)).keep0 (Keeps.drew _)).keep0 hK106).keep0 hK112)
      refine l_call (gn rfl) rfl rfl (r_call Tryz.call68 rfl) (take_i hD116 hU.u2 a.who.E) ?_
      rintro v120 w121 ⟨q117, rfl, hB118, hK122, hS119⟩
      have hM123 := hM113.st hK122 hF0 hAp51
      have hC124 : StB base w121 b q117 (outI S a.who.E) := hB118
      have hF124 := hF0.trans (hS119.ns _) hM113.kp.size
      have hAp124 : Apt b q117 [g46 11, g46 12, g26 15, g26 16, g26 17] := hAp51.ns (hS119.ns _) hM113.blks
      have hz124 := hS119.xlt hz43
      refine l_nil ?_
      refine c_seq ?_
      refine c_reg ?_
      refine l_val (gn rfl) rfl rfl (r_loadA Tryz.isAgg125 Tryz.sizeOf125 (RollA.size _) rfl (hM123.base (i := 4) rfl)) ?_
      refine l_val (gn rfl) rfl rfl (r_loadA Tryz.isAgg24 Tryz.sizeOf24 (Pt.size _) rfl (hM123.base (i := 0) rfl)) ?_
      refine l_call (gn rfl) rfl rfl (r_call Tryz.call69 rfl) (take_a hC124 hU.u3 a.who.E) ?_
      rintro v128 w129 ⟨q125, rfl, hB126, hK130, hS127⟩
      have hM131 := hM123.st hK130 hF124 hAp124
      have hC132 : StB base w129 b q125 (outA (outI S a.who.E) a.who.E) := hB126
      have hF132 := hF124.trans (hS127.ns _) hM123.kp.size
      have hAp132 : Apt b q125 [g46 11, g46 12, g26 15, g26 16, g26 17] := hAp124.ns (hS127.ns _) hM123.blks
      have hz132 := hS127.xlt hz124
      refine l_nil ?_
      refine c_seq ?_
      refine c_reg ?_
      refine l_val (gn rfl) rfl rfl (r_move rfl) ?_
      refine l_val (gn rfl) rfl rfl (r_move rfl) ?_
      refine l_val (gn rfl) rfl rfl (r_nilCheck rfl) ?_
      refine l_val (gn rfl) rfl rfl (r_fieldAddr StepR.fld_a rfl) ?_
      refine l_val (gn rfl) rfl rfl (r_fieldAddr ARep.fld_who rfl) ?_
      refine l_val (gn rfl) rfl rfl (r_loadA Tryz.isAgg40 Tryz.sizeOf40 (Cipher.size _) rfl (Holds.sub (Holds.sub (hx.keep hM131.kp hbx) (StepR.sub_a _)) (ARep.sub_who _))) ?_
      refine l_val (gn rfl) rfl rfl (r_move rfl) ?_
      refine l_call (gn rfl) rfl rfl (r_call Tryz.call70 rfl) (f70 (hx.keep hM131.kp hbx) (fun hm => by cases hm with | head => exact hbx List.mem_cons_self | tail _ hm => exact (hF132 bx hm).elim (fun h => hbx (List.mem_cons_of_mem _ h)) (fun h => by have := hbl; omega)) hC132 (Nat.le_trans hbw hM131.kp.size) hU.u1 hU.l1 a.who a.role) ?_
      rintro v136 w137 ⟨q133, rfl, hB134, hK138⟩
      have hM139 := hM131.st hK138 hF132 hAp132
      have hC140 : StB base w137 b q133 (putS (outA (outI S a.who.E) a.who.E) ⟨a.who, a.role, a.ver⟩) := hB134
      refine l_val (gn rfl) rfl rfl (r_assign rfl) ?_
      refine l_nil ?_
      refine c_ret ?_
      refine ret1 rfl rfl ?_
      have hd : doS S by_ a mine = (0, putS (outA (outI S a.who.E) a.who.E) ⟨a.who, a.role, a.ver⟩) := by simp only [doS, roleS, h59, h63, h108, h114, Bool.or_false, cond_true, cond_false] <;> rfl
      exact ⟨q133, by rw [hd] <;> rfl, by rw [hd]; exact hC140, hM139.kp⟩
    ·skip
     have hp141 : ¬ ((newcE S a 0 false false : Nat) = 0) := of_decide_eq_false h108
     refine c_condT rfl (congrArg Bool.not h108) ?_
     refine c_seq ?_
     refine c_reg ?_
     refine l_val (gn rfl) rfl rfl (r_move rfl) ?_
     refine l_val (gn rfl) rfl rfl (r_assign rfl) ?_
     refine l_nil ?_
     refine c_ret ?_
     refine ret1 rfl rfl ?_
     have hd : doS S by_ a mine = (newcE S a 0 false false, S) := by simp only [doS, roleS, h59, h63, h108, Bool.or_false, cond_true, cond_false] <;> rfl
     exact ⟨q, by rw [hd] <;> rfl, by rw [hd]; exact (((hD55.keepA hK58 hAp51 (by simp)).keep0 (Keeps.drew _)).keep0 hK106), hM107.kp⟩
  ·skip
   have hp142 : ¬ ((a.kind : UInt8) = 1) := of_decide_eq_false h59
   refine c_condF rfl h59 ?_
   refine c_reg ?_
   refine l_val (gn rfl) rfl rfl (r_eql (b := decide ((a.kind : UInt8) = 9)) rfl rfl (u8eq a.kind 9)) ?_
   refine l_val (gn rfl) rfl rfl (r_assign rfl) ?_
   refine l_nil ?_
   refine ways (decide ((a.kind : UInt8) = 9)) (fun h143 => ?_) (fun h143 => ?_)
   ·skip
    have hp144 : (a.kind : UInt8) = 9 := of_decide_eq_true h143
    refine c_condT rfl h143 ?_
    refine c_seq ?_
    refine c_regD (fun w_ => Mem w (b :: q.bs) [(g46 11, (Pt.cells a.who.E), 24), (g46 12, (Pt.cells a.E), 24), (g26 15, (RollS.cells ((⟨b, 70, 91⟩ : Roll))), 115), (g26 16, (RollI.cells ((⟨b, 71, 92⟩ : Roll))), 120), (g26 17, (RollA.cells ((⟨b, 72, 93⟩ : Roll))), 125)] w_ ∧ StB base w_ b q S) [] [(0, true), (1, true), (2, true), (3, true), (4, true), (5, true), (6, true)] (by kernel_rfl) ?_
    have hM145 := hM57.drew
    refine s_take ⟨hM145, ((hD55.keepA hK58 hAp51 (by simp)).keep0 (Keeps.drew _))⟩ rfl (gn rfl) rfl rfl (fun w h => r_move rfl) ?_
    refine s_take ⟨hM145, ((hD55.keepA hK58 hAp51 (by simp)).keep0 (Keeps.drew _))⟩ rfl (gn rfl) rfl rfl (fun w h => r_nilCheck rfl) ?_
    refine s_take ⟨hM145, ((hD55.keepA hK58 hAp51 (by simp)).keep0 (Keeps.drew _))⟩ rfl (gn rfl) rfl rfl (fun w h => r_fieldAddr StepR.fld_a rfl) ?_
    refine s_take ⟨hM145, ((hD55.keepA hK58 hAp51 (by simp)).keep0 (Keeps.drew _))⟩ rfl (gn rfl) rfl rfl (fun w h => r_fieldAddr ARep.fld_role rfl) ?_
    refine s_take ⟨hM145, ((hD55.keepA hK58 hAp51 (by simp)).keep0 (Keeps.drew _))⟩ rfl (gn rfl) rfl rfl (fun w h => r_load1 (v := vU8 a.role) Tryz.isAgg28 rfl (Holds.sub (Holds.sub (hx.keep h.1.kp hbx) (StepR.sub_a _)) (ARep.sub_role _))) ?_
    refine s_take ⟨hM145, ((hD55.keepA hK58 hAp51 (by simp)).keep0 (Keeps.drew _))⟩ rfl (gn rfl) rfl rfl (fun w h => r_assign rfl) ?_
    refine s_take ⟨hM145, ((hD55.keepA hK58 hAp51 (by simp)).keep0 (Keeps.drew _))⟩ rfl (gn rfl) rfl rfl (fun w h => r_assign rfl) ?_
    refine s_nil ?_
    refine c_seq ?_
    refine c_seq ?_
    refine c_reg ?_
    refine l_val (gn rfl) rfl rfl (r_move rfl) ?_
    refine l_val (gn rfl) rfl rfl (r_nilCheck rfl) ?_
    refine l_val (gn rfl) rfl rfl (r_fieldAddr StepR.fld_a rfl) ?_
    refine l_val (gn rfl) rfl rfl (r_fieldAddr ARep.fld_kind rfl) ?_
    refine l_val (gn rfl) rfl rfl (r_load1 (v := vU8 a.kind) Tryz.isAgg38 rfl (Holds.sub (Holds.sub (hx.keep hM145.kp hbx) (StepR.sub_a _)) (ARep.sub_kind _))) ?_
    refine l_val (gn rfl) rfl rfl (r_eql (b := decide ((a.kind : UInt8) = 9)) rfl rfl (u8eq a.kind 9)) ?_
    refine l_nil ?_
    refine c_condT rfl h143 ?_
    refine c_reg ?_
    refine l_val (gn rfl) rfl rfl (r_assign rfl) ?_
    refine l_val (gn rfl) rfl rfl (r_assign rfl) ?_
    refine l_nil ?_
    refine c_seq ?_
    refine c_seq ?_
    refine c_reg ?_
    refine l_val (gn rfl) rfl rfl (r_move rfl) ?_
    refine l_val (gn rfl) rfl rfl (r_move rfl) ?_
    refine l_call (gn rfl) rfl rfl (r_call Tryz.call66 rfl) (f66 (hx.keep hM145.kp hbx) ((hD55.keepA hK58 hAp51 (by simp)).keep0 (Keeps.drew _)) (hA.keep hM145.kp (fun x hx h => h hx)) hU 1 false false) ?_
    rintro v147 w148 ⟨rfl, hK149⟩
    have hM150 := hM145.keep hK149
    refine l_val (gn rfl) rfl rfl (r_assign rfl) ?_
    refine l_nil ?_
    refine c_seq ?_
    refine c_reg ?_
    refine l_val (gn rfl) rfl rfl (r_move rfl) ?_
    refine l_val (gn rfl) rfl rfl (r_neq (b := (!(decide ((newcE S a 1 false false : Nat) = 0)))) rfl rfl (congrArg Bool.not (neq' (newcE S a 1 false false) 0))) ?_
    refine l_nil ?_
    refine ways (decide ((newcE S a 1 false false : Nat) = 0)) (fun h151 => ?_) (fun h151 => ?_)
    ·skip
     have hp152 : (newcE S a 1 false false : Nat) = 0 := of_decide_eq_true h151
     refine c_condF rfl (congrArg Bool.not h151) ?_
     refine c_skip ?_
     refine c_seq ?_
     refine c_seq ?_
     refine c_reg ?_
     refine l_val (gn rfl) rfl rfl (r_loadA Tryz.isAgg115 Tryz.sizeOf115 (RollS.size _) rfl (hM150.base (i := 2) rfl)) ?_
     refine l_call (gn rfl) rfl rfl (r_call Tryz.call67 rfl) (f67 (Holds.sub (((hD55.keepA hK58 hAp51 (by simp)).keep0 (Keeps.drew _)).keep0 hK149).hd (SRep.sub_seats _)) (((hD55.keepA hK58 hAp51 (by simp)).keep0 (Keeps.drew _)).keep0 hK149).own.stv.seats) ?_
     rintro v153 w154 ⟨rfl, hK155⟩
     have hM156 := hM150.keep hK155
     refine l_nil ?_
     refine ways (decide (40 ≤ S.seats.length)) (fun h157 => ?_) (fun h157 => ?_)
     ·skip
      refine c_condT rfl h157 ?_
      refine c_seq ?_
      refine c_reg ?_
      refine l_val (gn rfl) rfl rfl (r_assign rfl) ?_
      refine l_nil ?_
      refine c_ret ?_
      refine ret1 rfl rfl ?_
      have hD158 : StB base w154 b q S := ((((hD55.keepA hK58 hAp51 (by simp)).keep0 (Keeps.drew _)).keep0 hK149).keep0 hK155)
      have hd : doS S by_ a mine = (9, S) := by simp only [doS, roleS, h59, h143, h151, h157, Bool.or_true, cond_true] <;> rfl
      exact ⟨q, by rw [hd] <;> rfl, by rw [hd]; exact hD158, hM156.kp⟩
     ·skip
      refine c_condF rfl h157 ?_
      refine c_skip ?_
      refine c_seq ?_
      refine c_reg ?_
      refine l_val (gn rfl) rfl rfl (r_loadA Tryz.isAgg120 Tryz.sizeOf120 (RollI.size _) rfl (hM156.base (i := 3) rfl)) ?_
      refine l_val (gn rfl) rfl rfl (r_loadA Tryz.isAgg24 Tryz.sizeOf24 (Pt.size _) rfl (hM156.base (i := 0) rfl)) ?_
      have hD159 : StB base w154 b q S := ((((hD55.keepA hK58 hAp51 (by simp)).keep0 (Keeps.drew _)).keep0 hK149).keep0 hK155)
      refine l_call (gn rfl) rfl rfl (r_call Tryz.call68 rfl) (take_i hD159 hU.u2 a.who.E) ?_
      rintro v163 w164 ⟨q160, rfl, hB161, hK165, hS162⟩
      have hM166 := hM156.st hK165 hF0 hAp51
      have hC167 : StB base w164 b q160 (outI S a.who.E) := hB161
      have hF167 := hF0.trans (hS162.ns _) hM156.kp.size
      have hAp167 : Apt b q160 [g46 11, g46 12, g26 15, g26 16, g26 17] := hAp51.ns (hS162.ns _) hM156.blks
      have hz167 := hS162.xlt hz43
      refine l_nil ?_
      refine c_seq ?_
      refine c_reg ?_
      refine l_val (gn rfl) rfl rfl (r_loadA Tryz.isAgg125 Tryz.sizeOf125 (RollA.size _) rfl (hM166.base (i := 4) rfl)) ?_
      refine l_val (gn rfl) rfl rfl (r_loadA Tryz.isAgg24 Tryz.sizeOf24 (Pt.size _) rfl (hM166.base (i := 0) rfl)) ?_
      refine l_call (gn rfl) rfl rfl (r_call Tryz.call69 rfl) (take_a hC167 hU.u3 a.who.E) ?_
      rintro v171 w172 ⟨q168, rfl, hB169, hK173, hS170⟩
      have hM174 := hM166.st hK173 hF167 hAp167
      have hC175 : StB base w172 b q168 (outA (outI S a.who.E) a.who.E) := hB169
      have hF175 := hF167.trans (hS170.ns _) hM166.kp.size
      have hAp175 : Apt b q168 [g46 11, g46 12, g26 15, g26 16, g26 17] := hAp167.ns (hS170.ns _) hM166.blks
      have hz175 := hS170.xlt hz167
      refine l_nil ?_
      refine c_seq ?_
      refine c_reg ?_
      refine l_val (gn rfl) rfl rfl (r_move rfl) ?_
      refine l_val (gn rfl) rfl rfl (r_move rfl) ?_
      refine l_val (gn rfl) rfl rfl (r_nilCheck rfl) ?_
      refine l_val (gn rfl) rfl rfl (r_fieldAddr StepR.fld_a rfl) ?_
      refine l_val (gn rfl) rfl rfl (r_fieldAddr ARep.fld_who rfl) ?_
      refine l_val (gn rfl) rfl rfl (r_loadA Tryz.isAgg40 Tryz.sizeOf40 (Cipher.size _) rfl (Holds.sub (Holds.sub (hx.keep hM174.kp hbx) (StepR.sub_a _)) (ARep.sub_who _))) ?_
      refine l_val (gn rfl) rfl rfl (r_move rfl) ?_
      refine l_call (gn rfl) rfl rfl (r_call Tryz.call70 rfl) (f70 (hx.keep hM174.kp hbx) (fun hm => by cases hm with | head => exact hbx List.mem_cons_self | tail _ hm => exact (hF175 bx hm).elim (fun h => hbx (List.mem_cons_of_mem _ h)) (fun h => by have := hbl; omega)) hC175 (Nat.le_trans hbw hM174.kp.size) hU.u1 hU.l1 a.who 1) ?_
      rintro v179 w180 ⟨q176, rfl, hB177, hK181⟩
      have hM182 := hM174.st hK181 hF175 hAp175
      have hC183 : StB base w180 b q176 (putS (outA (outI S a.who.E) a.who.E) ⟨a.who, 1, a.ver⟩) := hB177
      refine l_val (gn rfl) rfl rfl (r_assign rfl) ?_
      refine l_nil ?_
      refine c_ret ?_
      refine ret1 rfl rfl ?_
      have hd : doS S by_ a mine = (0, putS (outA (outI S a.who.E) a.who.E) ⟨a.who, 1, a.ver⟩) := by simp only [doS, roleS, h59, h143, h151, h157, Bool.or_true, cond_true, cond_false] <;> rfl
      exact ⟨q176, by rw [hd] <;> rfl, by rw [hd]; exact hC183, hM182.kp⟩
    ·skip
     have hp184 : ¬ ((newcE S a 1 false false : Nat) = 0) := of_decide_eq_false h151
     refine c_condT rfl (congrArg Bool.not h151) ?_
     refine c_seq ?_
     refine c_reg ?_
     refine l_val (gn rfl) rfl rfl (r_move rfl) ?_
     refine l_val (gn rfl) rfl rfl (r_assign rfl) ?_
     refine l_nil ?_
     refine c_ret ?_
     refine ret1 rfl rfl ?_
     have hd : doS S by_ a mine = (newcE S a 1 false false, S) := by simp only [doS, roleS, h59, h143, h151, Bool.or_true, cond_true, cond_false] <;> rfl
     exact ⟨q, by rw [hd] <;> rfl, by rw [hd]; exact (((hD55.keepA hK58 hAp51 (by simp)).keep0 (Keeps.drew _)).keep0 hK149), hM150.kp⟩
   ·skip
    have hp185 : ¬ ((a.kind : UInt8) = 9) := of_decide_eq_false h143
    refine c_condF rfl h143 ?_
    refine c_seq ?_
    refine c_reg ?_
    refine l_val (gn rfl) rfl rfl (r_eql (b := decide ((a.kind : UInt8) = 5)) rfl rfl (u8eq a.kind 5)) ?_
    refine l_val (gn rfl) rfl rfl (r_assign rfl) ?_
    refine l_nil ?_
    refine ways (decide ((a.kind : UInt8) = 5)) (fun h186 => ?_) (fun h186 => ?_)
    ·skip
     have hp187 : (a.kind : UInt8) = 5 := of_decide_eq_true h186
     refine c_condT rfl h186 ?_
     refine c_seq ?_
     refine c_seq ?_
     refine c_reg ?_
     refine l_val (gn rfl) rfl rfl (r_move rfl) ?_
     refine l_call (gn rfl) rfl rfl (r_call Tryz.call66 rfl) (f66 (hx.keep hM57.kp hbx) (hD55.keepA hK58 hAp51 (by simp)) (hA.keep hM57.kp (fun x hx h => h hx)) hU 0 true false) ?_
     rintro v188 w189 ⟨rfl, hK190⟩
     have hM191 := hM57.keep hK190
     refine l_val (gn rfl) rfl rfl (r_assign rfl) ?_
     refine l_nil ?_
     refine c_seq ?_
     refine c_reg ?_
     refine l_val (gn rfl) rfl rfl (r_move rfl) ?_
     refine l_val (gn rfl) rfl rfl (r_neq (b := (!(decide ((newcE S a 0 true false : Nat) = 0)))) rfl rfl (congrArg Bool.not (neq' (newcE S a 0 true false) 0))) ?_
     refine l_nil ?_
     refine ways (decide ((newcE S a 0 true false : Nat) = 0)) (fun h192 => ?_) (fun h192 => ?_)
     ·skip
      have hp193 : (newcE S a 0 true false : Nat) = 0 := of_decide_eq_true h192
      refine c_condF rfl (congrArg Bool.not h192) ?_
      refine c_skip ?_
      refine c_seq ?_
      refine c_seq ?_
      refine c_reg ?_
      refine l_val (gn rfl) rfl rfl (r_loadA Tryz.isAgg120 Tryz.sizeOf120 (RollI.size _) rfl (hM191.base (i := 3) rfl)) ?_
      refine l_call (gn rfl) rfl rfl (r_call Tryz.call71 rfl) (f71 (Holds.sub ((hD55.keepA hK58 hAp51 (by simp)).keep0 hK190).hd (SRep.sub_invites _)) ((hD55.keepA hK58 hAp51 (by simp)).keep0 hK190).own.stv.invites) ?_
      rintro v194 w195 ⟨rfl, hK196⟩
      have hM197 := hM191.keep hK196
      refine l_nil ?_
      refine ways (decide (40 ≤ S.invites.length)) (fun h198 => ?_) (fun h198 => ?_)
      ·skip
       refine c_condT rfl h198 ?_
       refine c_seq ?_
       refine c_reg ?_
       refine l_val (gn rfl) rfl rfl (r_assign rfl) ?_
       refine l_nil ?_
       refine c_ret ?_
       refine ret1 rfl rfl ?_
       have hd : doS S by_ a mine = (9, S) := by simp only [doS, roleS, h59, h143, h186, h192, h198, Bool.or_false, cond_true, cond_false] <;> rfl
       exact ⟨q, by rw [hd] <;> rfl, by rw [hd]; exact (((hD55.keepA hK58 hAp51 (by simp)).keep0 hK190).keep0 hK196), hM197.kp⟩
      ·skip
       refine c_condF rfl h198 ?_
       refine c_skip ?_
       refine c_seq ?_
       refine c_reg ?_
       refine l_val (gn rfl) rfl rfl (r_loadA Tryz.isAgg125 Tryz.sizeOf125 (RollA.size _) rfl (hM197.base (i := 4) rfl)) ?_
       refine l_val (gn rfl) rfl rfl (r_loadA Tryz.isAgg24 Tryz.sizeOf24 (Pt.size _) rfl (hM197.base (i := 0) rfl)) ?_
       refine l_call (gn rfl) rfl rfl (r_call Tryz.call69 rfl) (take_a (((hD55.keepA hK58 hAp51 (by simp)).keep0 hK190).keep0 hK196) hU.u3 a.who.E) ?_
       rintro v202 w203 ⟨q199, rfl, hB200, hK204, hS201⟩
       have hM205 := hM197.st hK204 hF0 hAp51
       have hC206 : StB base w203 b q199 (outA S a.who.E) := hB200
       have hF206 := hF0.trans (hS201.ns _) hM197.kp.size
       have hAp206 : Apt b q199 [g46 11, g46 12, g26 15, g26 16, g26 17] := hAp51.ns (hS201.ns _) hM197.blks
       have hz206 := hS201.xlt hz43
       refine l_nil ?_
       refine c_regD (Mem w (b :: q.bs) [(g46 11, (Pt.cells a.who.E), 24), (g46 12, (Pt.cells a.E), 24), (g26 15, (RollS.cells ((⟨b, 70, 91⟩ : Roll))), 115), (g26 16, (RollI.cells ((⟨b, 71, 92⟩ : Roll))), 120), (g26 17, (RollA.cells ((⟨b, 72, 93⟩ : Roll))), 125)]) [] [(0, true), (1, true), (2, true), (3, true), (4, true), (5, true), (6, true), (7, true), (8, true), (9, true), (10, true), (11, true), (12, false), (13, true), (14, false)] (by kernel_rfl) ?_
       have hM207 := hM205.drew
       refine s_take hM207 rfl (gn rfl) rfl rfl (fun w h => r_loadA Tryz.isAgg120 Tryz.sizeOf120 (RollI.size _) rfl (h.base (i := 3) rfl)) ?_
       refine s_take hM207 rfl (gn rfl) rfl rfl (fun w h => r_move rfl) ?_
       refine s_take hM207 rfl (gn rfl) rfl rfl (fun w h => r_nilCheck rfl) ?_
       refine s_take hM207 rfl (gn rfl) rfl rfl (fun w h => r_fieldAddr StepR.fld_a rfl) ?_
       refine s_take hM207 rfl (gn rfl) rfl rfl (fun w h => r_fieldAddr ARep.fld_who rfl) ?_
       refine s_take hM207 rfl (gn rfl) rfl rfl (fun w h => r_loadA Tryz.isAgg40 Tryz.sizeOf40 (Cipher.size _) rfl (Holds.sub (Holds.sub (hx.keep h.kp hbx) (StepR.sub_a _)) (ARep.sub_who _))) ?_
       refine s_take hM207 rfl (gn rfl) rfl rfl (fun w h => r_move rfl) ?_
       refine s_take hM207 rfl (gn rfl) rfl rfl (fun w h => r_nilCheck rfl) ?_
       refine s_take hM207 rfl (gn rfl) rfl rfl (fun w h => r_fieldAddr StepR.fld_a rfl) ?_
       refine s_take hM207 rfl (gn rfl) rfl rfl (fun w h => r_fieldAddr ARep.fld_role rfl) ?_
       refine s_take hM207 rfl (gn rfl) rfl rfl (fun w h => r_load1 (v := vU8 a.role) Tryz.isAgg28 rfl (Holds.sub (Holds.sub (hx.keep h.kp hbx) (StepR.sub_a _)) (ARep.sub_role _))) ?_
       refine s_take hM207 rfl (gn rfl) rfl rfl (fun w h => r_move rfl) ?_
       refine s_call rfl (gn rfl) rfl rfl (r_call Tryz.call73 rfl) (f73 (hx.keep hM207.kp hbx) (hC206.keep0 (Keeps.drew _)) hU.u1 (hme (by first | exact .inl (of_decide_eq_true (by assumption)) | exact .inr (of_decide_eq_true (by assumption))))) ?_
       rintro v209 w210 ⟨rfl, hK211⟩
       have hM212 := hM207.keep hK211
       refine ⟨.inr hM212, ?_⟩
       refine s_take hM212 rfl (gn rfl) rfl rfl (fun w h => r_build rfl ((Invite.built _).trans (fill_cons rfl (Cipher.size _) (by rw [Invite.size]; decide) (Invite.put_who _ a.who) (fill_cons rfl rfl (by rw [Invite.size]; decide) (Invite.put_role _ a.role) (fill_cons rfl (Cipher.size _) (by rw [Invite.size]; decide) (Invite.put_by_ _ ((meOf S.seats by_))) (fill_nil)))))) ?_
       refine s_call rfl (gn rfl) rfl rfl (r_call Tryz.call72 rfl) (put_i ((hC206.keep0 (Keeps.drew _)).keep0 hK211) hU.u2 (Nat.le_trans hU.l2 (by decide)) (Nat.le_trans hbw hM212.kp.size) ((Invite.mk a.who a.role ((meOf S.seats by_))))) ?_
       rintro v216 w217 ⟨q213, rfl, hB214, hK218, hS215⟩
       have hM219 := hM212.st hK218 hF206 hAp206
       have hC220 : StB base w217 b q213 (putI (outA S a.who.E) ((Invite.mk a.who a.role ((meOf S.seats by_))))) := hB214
       have hF220 := hF206.trans hS215 hM212.kp.size
       have hAp220 : Apt b q213 [g46 11, g46 12, g26 15, g26 16, g26 17] := hAp206.ns hS215 hM212.blks
       refine ⟨.inr hM219, ?_⟩
       refine s_nil ?_
       refine c_seq ?_
       refine c_reg ?_
       refine l_val (gn rfl) rfl rfl (r_assign rfl) ?_
       refine l_nil ?_
       refine c_ret ?_
       refine ret1 rfl rfl ?_
       have hd : doS S by_ a mine = (0, putI (outA S a.who.E) ((Invite.mk a.who a.role ((meOf S.seats by_))))) := by simp only [doS, roleS, h59, h143, h186, h192, h198, Bool.or_false, cond_true, cond_false] <;> rfl
       exact ⟨q213, by rw [hd] <;> rfl, by rw [hd]; exact hC220, hM219.kp⟩
     ·skip
      have hp221 : ¬ ((newcE S a 0 true false : Nat) = 0) := of_decide_eq_false h192
      refine c_condT rfl (congrArg Bool.not h192) ?_
      refine c_seq ?_
      refine c_reg ?_
      refine l_val (gn rfl) rfl rfl (r_move rfl) ?_
      refine l_val (gn rfl) rfl rfl (r_assign rfl) ?_
      refine l_nil ?_
      refine c_ret ?_
      refine ret1 rfl rfl ?_
      have hd : doS S by_ a mine = (newcE S a 0 true false, S) := by simp only [doS, roleS, h59, h143, h186, h192, Bool.or_false, cond_true, cond_false] <;> rfl
      exact ⟨q, by rw [hd] <;> rfl, by rw [hd]; exact ((hD55.keepA hK58 hAp51 (by simp)).keep0 hK190), hM191.kp⟩
    ·skip
     have hp222 : ¬ ((a.kind : UInt8) = 5) := of_decide_eq_false h186
     refine c_condF rfl h186 ?_
     refine c_seq ?_
     refine c_reg ?_
     refine l_val (gn rfl) rfl rfl (r_eql (b := decide ((a.kind : UInt8) = 10)) rfl rfl (u8eq a.kind 10)) ?_
     refine l_val (gn rfl) rfl rfl (r_assign rfl) ?_
     refine l_nil ?_
     refine ways (decide ((a.kind : UInt8) = 10)) (fun h223 => ?_) (fun h223 => ?_)
     ·skip
      have hp224 : (a.kind : UInt8) = 10 := of_decide_eq_true h223
      refine c_condT rfl h223 ?_
      refine c_seq ?_
      refine c_seq ?_
      refine c_reg ?_
      refine l_val (gn rfl) rfl rfl (r_move rfl) ?_
      refine l_call (gn rfl) rfl rfl (r_call Tryz.call66 rfl) (f66 (hx.keep hM57.kp hbx) (hD55.keepA hK58 hAp51 (by simp)) (hA.keep hM57.kp (fun x hx h => h hx)) hU 2 true true) ?_
      rintro v225 w226 ⟨rfl, hK227⟩
      have hM228 := hM57.keep hK227
      refine l_val (gn rfl) rfl rfl (r_assign rfl) ?_
      refine l_nil ?_
      refine c_seq ?_
      refine c_reg ?_
      refine l_val (gn rfl) rfl rfl (r_move rfl) ?_
      refine l_val (gn rfl) rfl rfl (r_neq (b := (!(decide ((newcE S a 2 true true : Nat) = 0)))) rfl rfl (congrArg Bool.not (neq' (newcE S a 2 true true) 0))) ?_
      refine l_nil ?_
      refine ways (decide ((newcE S a 2 true true : Nat) = 0)) (fun h229 => ?_) (fun h229 => ?_)
      ·skip
       have hp230 : (newcE S a 2 true true : Nat) = 0 := of_decide_eq_true h229
       refine c_condF rfl (congrArg Bool.not h229) ?_
       refine c_skip ?_
       refine c_seq ?_
       refine c_seq ?_
       refine c_reg ?_
       refine l_val (gn rfl) rfl rfl (r_loadA Tryz.isAgg125 Tryz.sizeOf125 (RollA.size _) rfl (hM228.base (i := 4) rfl)) ?_
       refine l_call (gn rfl) rfl rfl (r_call Tryz.call74 rfl) (f74 (Holds.sub ((hD55.keepA hK58 hAp51 (by simp)).keep0 hK227).hd (SRep.sub_asks _)) ((hD55.keepA hK58 hAp51 (by simp)).keep0 hK227).own.stv.asks) ?_
       rintro v231 w232 ⟨rfl, hK233⟩
       have hM234 := hM228.keep hK233
       refine l_nil ?_
       refine ways (decide (40 ≤ S.asks.length)) (fun h235 => ?_) (fun h235 => ?_)
       ·skip
        refine c_condT rfl h235 ?_
        refine c_seq ?_
        refine c_reg ?_
        refine l_val (gn rfl) rfl rfl (r_assign rfl) ?_
        refine l_nil ?_
        refine c_ret ?_
        refine ret1 rfl rfl ?_
        have hd : doS S by_ a mine = (9, S) := by simp only [doS, roleS, h59, h143, h186, h223, h229, h235, Bool.or_false, cond_true, cond_false] <;> rfl
        exact ⟨q, by rw [hd] <;> rfl, by rw [hd]; exact (((hD55.keepA hK58 hAp51 (by simp)).keep0 hK227).keep0 hK233), hM234.kp⟩
       ·skip
        refine c_condF rfl h235 ?_
        refine c_skip ?_
        refine c_regD (Mem w (b :: q.bs) [(g46 11, (Pt.cells a.who.E), 24), (g46 12, (Pt.cells a.E), 24), (g26 15, (RollS.cells ((⟨b, 70, 91⟩ : Roll))), 115), (g26 16, (RollI.cells ((⟨b, 71, 92⟩ : Roll))), 120), (g26 17, (RollA.cells ((⟨b, 72, 93⟩ : Roll))), 125)]) [] [(0, true), (1, true), (2, true), (3, true), (4, true), (5, true), (6, true), (7, true), (8, true), (9, true), (10, true), (11, true), (12, false)] (by kernel_rfl) ?_
        have hM236 := hM234.drew
        refine s_take hM236 rfl (gn rfl) rfl rfl (fun w h => r_loadA Tryz.isAgg125 Tryz.sizeOf125 (RollA.size _) rfl (h.base (i := 4) rfl)) ?_
        refine s_take hM236 rfl (gn rfl) rfl rfl (fun w h => r_move rfl) ?_
        refine s_take hM236 rfl (gn rfl) rfl rfl (fun w h => r_nilCheck rfl) ?_
        refine s_take hM236 rfl (gn rfl) rfl rfl (fun w h => r_fieldAddr StepR.fld_a rfl) ?_
        refine s_take hM236 rfl (gn rfl) rfl rfl (fun w h => r_fieldAddr ARep.fld_who rfl) ?_
        refine s_take hM236 rfl (gn rfl) rfl rfl (fun w h => r_loadA Tryz.isAgg40 Tryz.sizeOf40 (Cipher.size _) rfl (Holds.sub (Holds.sub (hx.keep h.kp hbx) (StepR.sub_a _)) (ARep.sub_who _))) ?_
        refine s_take hM236 rfl (gn rfl) rfl rfl (fun w h => r_move rfl) ?_
        refine s_take hM236 rfl (gn rfl) rfl rfl (fun w h => r_nilCheck rfl) ?_
        refine s_take hM236 rfl (gn rfl) rfl rfl (fun w h => r_fieldAddr StepR.fld_a rfl) ?_
        refine s_take hM236 rfl (gn rfl) rfl rfl (fun w h => r_fieldAddr ARep.fld_ver rfl) ?_
        refine s_take hM236 rfl (gn rfl) rfl rfl (fun w h => r_load1 (v := vU32 a.ver) Tryz.isAgg22 rfl (Holds.sub (Holds.sub (hx.keep h.kp hbx) (StepR.sub_a _)) (ARep.sub_ver _))) ?_
        refine s_take hM236 rfl (gn rfl) rfl rfl (fun w h => r_build rfl ((Ask.built _).trans (fill_cons rfl (Cipher.size _) (by rw [Ask.size]; decide) (Ask.put_who _ a.who) (fill_cons rfl rfl (by rw [Ask.size]; decide) (Ask.put_at_ _ a.ver) (fill_nil))))) ?_
        have hD238 : StB base w232.drew b q S := ((((hD55.keepA hK58 hAp51 (by simp)).keep0 hK227).keep0 hK233).keep0 (Keeps.drew _))
        refine s_call rfl (gn rfl) rfl rfl (r_call Tryz.call75 rfl) (put_a hD238 hU.u3 (Nat.le_trans hU.l3 (by decide)) (Nat.le_trans hbw hM236.kp.size) ((Ask.mk a.who a.ver))) ?_
        rintro v242 w243 ⟨q239, rfl, hB240, hK244, hS241⟩
        have hM245 := hM236.st hK244 hF0 hAp51
        have hC246 : StB base w243 b q239 (putA S ((Ask.mk a.who a.ver))) := hB240
        have hF246 := hF0.trans hS241 hM236.kp.size
        have hAp246 : Apt b q239 [g46 11, g46 12, g26 15, g26 16, g26 17] := hAp51.ns hS241 hM236.blks
        refine ⟨.inr hM245, ?_⟩
        refine s_nil ?_
        refine c_seq ?_
        refine c_reg ?_
        refine l_val (gn rfl) rfl rfl (r_assign rfl) ?_
        refine l_nil ?_
        refine c_ret ?_
        refine ret1 rfl rfl ?_
        have hd : doS S by_ a mine = (0, putA S ((Ask.mk a.who a.ver))) := by simp only [doS, roleS, h59, h143, h186, h223, h229, h235, Bool.or_false, cond_true, cond_false] <;> rfl
        exact ⟨q239, by rw [hd] <;> rfl, by rw [hd]; exact hC246, hM245.kp⟩
      ·skip
       have hp247 : ¬ ((newcE S a 2 true true : Nat) = 0) := of_decide_eq_false h229
       refine c_condT rfl (congrArg Bool.not h229) ?_
       refine c_seq ?_
       refine c_reg ?_
       refine l_val (gn rfl) rfl rfl (r_move rfl) ?_
       refine l_val (gn rfl) rfl rfl (r_assign rfl) ?_
       refine l_nil ?_
       refine c_ret ?_
       refine ret1 rfl rfl ?_
       have hd : doS S by_ a mine = (newcE S a 2 true true, S) := by simp only [doS, roleS, h59, h143, h186, h223, h229, Bool.or_false, cond_true, cond_false] <;> rfl
       exact ⟨q, by rw [hd] <;> rfl, by rw [hd]; exact ((hD55.keepA hK58 hAp51 (by simp)).keep0 hK227), hM228.kp⟩
     ·skip
      have hp248 : ¬ ((a.kind : UInt8) = 10) := of_decide_eq_false h223
      refine c_condF rfl h223 ?_
      refine c_seq ?_
      refine c_reg ?_
      refine l_val (gn rfl) rfl rfl (r_eql (b := decide ((a.kind : UInt8) = 2)) rfl rfl (u8eq a.kind 2)) ?_
      refine l_val (gn rfl) rfl rfl (r_assign rfl) ?_
      refine l_nil ?_
      refine ways (decide ((a.kind : UInt8) = 2)) (fun h249 => ?_) (fun h249 => ?_)
      ·skip
       have hp250 : (a.kind : UInt8) = 2 := of_decide_eq_true h249
       refine c_condT rfl h249 ?_
       refine c_seq ?_
       refine c_seq ?_
       refine c_reg ?_
       refine l_val (gn rfl) rfl rfl (r_loadA Tryz.isAgg115 Tryz.sizeOf115 (RollS.size _) rfl (hM57.base (i := 2) rfl)) ?_
       refine l_val (gn rfl) rfl rfl (r_loadA Tryz.isAgg24 Tryz.sizeOf24 (Pt.size _) rfl (hM57.base (i := 1) rfl)) ?_
       refine l_call (gn rfl) rfl rfl (r_call Tryz.call76 rfl) (f76 (Holds.sub (hD55.keepA hK58 hAp51 (by simp)).hd (SRep.sub_seats _)) (hD55.keepA hK58 hAp51 (by simp)).own.stv.seats hU.u1 a.E) ?_
       rintro v251 w252 ⟨rfl, hK253⟩
       have hM254 := hM57.keep hK253
       refine l_val (gn rfl) rfl rfl (r_not rfl) ?_
       refine l_nil ?_
       refine ways (hasK Seat.key S.seats a.E) (fun h255 => ?_) (fun h255 => ?_)
       ·skip
        refine c_condF rfl (congrArg Bool.not h255) ?_
        refine c_skip ?_
        refine c_seq ?_
        refine c_seq ?_
        refine c_regD (fun w_ => Mem w (b :: q.bs) [(g46 11, (Pt.cells a.who.E), 24), (g46 12, (Pt.cells a.E), 24), (g26 15, (RollS.cells ((⟨b, 70, 91⟩ : Roll))), 115), (g26 16, (RollI.cells ((⟨b, 71, 92⟩ : Roll))), 120), (g26 17, (RollA.cells ((⟨b, 72, 93⟩ : Roll))), 125)] w_ ∧ StB base w_ b q S) [] [(0, true), (1, true), (2, true), (3, true), (4, true), (5, true)] (by kernel_rfl) ?_
        have hM256 := hM254.drew
        refine s_take ⟨hM256, (((hD55.keepA hK58 hAp51 (by simp)).keep0 hK253).keep0 (Keeps.drew _))⟩ rfl (gn rfl) rfl rfl (fun w h => r_loadA Tryz.isAgg24 Tryz.sizeOf24 (Pt.size _) rfl (h.1.base (i := 1) rfl)) ?_
        refine s_take ⟨hM256, (((hD55.keepA hK58 hAp51 (by simp)).keep0 hK253).keep0 (Keeps.drew _))⟩ rfl (gn rfl) rfl rfl (fun w h => r_move rfl) ?_
        refine s_take ⟨hM256, (((hD55.keepA hK58 hAp51 (by simp)).keep0 hK253).keep0 (Keeps.drew _))⟩ rfl (gn rfl) rfl rfl (fun w h => r_nilCheck rfl) ?_
        refine s_take ⟨hM256, (((hD55.keepA hK58 hAp51 (by simp)).keep0 hK253).keep0 (Keeps.drew _))⟩ rfl (gn rfl) rfl rfl (fun w h => r_fieldAddr StepR.fld_by_ rfl) ?_
        refine s_take ⟨hM256, (((hD55.keepA hK58 hAp51 (by simp)).keep0 hK253).keep0 (Keeps.drew _))⟩ rfl (gn rfl) rfl rfl (fun w h => r_loadA Tryz.isAgg24 Tryz.sizeOf24 (Pt.size _) rfl (Holds.sub (hx.keep h.1.kp hbx) (StepR.sub_by_ _))) ?_
        refine s_take ⟨hM256, (((hD55.keepA hK58 hAp51 (by simp)).keep0 hK253).keep0 (Keeps.drew _))⟩ rfl (gn rfl) rfl rfl (fun w h => r_eqPt Tryz.eqGuardType24 Tryz.underlying24 rfl rfl) ?_
        refine s_nil ?_
        refine ways (decide (a.E = by_)) (fun h258 => ?_) (fun h258 => ?_)
        ·skip
         have hp259 : a.E = by_ := of_decide_eq_true h258
         refine c_condT rfl h258 ?_
         refine c_seq ?_
         refine c_reg ?_
         refine l_val (gn rfl) rfl rfl (r_assign rfl) ?_
         refine l_nil ?_
         refine c_ret ?_
         refine ret1 rfl rfl ?_
         have hd : doS S by_ a mine = (195, S) := by simp only [doS, roleS, h59, h143, h186, h223, h249, h255, h258, Bool.or_false, cond_true, cond_false] <;> rfl
         exact ⟨q, by rw [hd] <;> rfl, by rw [hd]; exact (((hD55.keepA hK58 hAp51 (by simp)).keep0 hK253).keep0 (Keeps.drew _)), hM256.kp⟩
        ·skip
         have hp260 : ¬ (a.E = by_) := of_decide_eq_false h258
         refine c_condF rfl h258 ?_
         refine c_skip ?_
         refine c_reg ?_
         refine l_val (gn rfl) rfl rfl (r_loadA Tryz.isAgg115 Tryz.sizeOf115 (RollS.size _) rfl (hM256.base (i := 2) rfl)) ?_
         refine l_val (gn rfl) rfl rfl (r_loadA Tryz.isAgg24 Tryz.sizeOf24 (Pt.size _) rfl (hM256.base (i := 1) rfl)) ?_
         refine l_call (gn rfl) rfl rfl (r_call Tryz.call77 rfl) (take_s (((hD55.keepA hK58 hAp51 (by simp)).keep0 hK253).keep0 (Keeps.drew _)) hU.u1 a.E) ?_
         rintro v264 w265 ⟨q261, rfl, hB262, hK266, hS263⟩
         have hM267 := hM256.st hK266 hF0 hAp51
         have hC268 : StB base w265 b q261 (outS S a.E) := hB262
         have hF268 := hF0.trans (hS263.ns _) hM256.kp.size
         have hAp268 : Apt b q261 [g46 11, g46 12, g26 15, g26 16, g26 17] := hAp51.ns (hS263.ns _) hM256.blks
         have hz268 := hS263.xlt hz43
         refine l_nil ?_
         refine c_seq ?_
         refine c_reg ?_
         refine l_val (gn rfl) rfl rfl (r_assign rfl) ?_
         refine l_nil ?_
         refine c_ret ?_
         refine ret1 rfl rfl ?_
         have hd : doS S by_ a mine = (0, outS S a.E) := by simp only [doS, roleS, h59, h143, h186, h223, h249, h255, h258, Bool.or_false, cond_true, cond_false] <;> rfl
         exact ⟨q261, by rw [hd] <;> rfl, by rw [hd]; exact hC268, hM267.kp⟩
       ·skip
        refine c_condT rfl (congrArg Bool.not h255) ?_
        refine c_seq ?_
        refine c_reg ?_
        refine l_val (gn rfl) rfl rfl (r_assign rfl) ?_
        refine l_nil ?_
        refine c_ret ?_
        refine ret1 rfl rfl ?_
        have hd : doS S by_ a mine = (7, S) := by simp only [doS, roleS, h59, h143, h186, h223, h249, h255, Bool.or_false, cond_true, cond_false] <;> rfl
        exact ⟨q, by rw [hd] <;> rfl, by rw [hd]; exact ((hD55.keepA hK58 hAp51 (by simp)).keep0 hK253), hM254.kp⟩
      ·skip
       have hp269 : ¬ ((a.kind : UInt8) = 2) := of_decide_eq_false h249
       refine c_condF rfl h249 ?_
       refine c_seq ?_
       refine c_reg ?_
       refine l_val (gn rfl) rfl rfl (r_eql (b := decide ((a.kind : UInt8) = 3)) rfl rfl (u8eq a.kind 3)) ?_
       refine l_val (gn rfl) rfl rfl (r_assign rfl) ?_
       refine l_nil ?_
       refine ways (decide ((a.kind : UInt8) = 3)) (fun h270 => ?_) (fun h270 => ?_)
       ·skip
        have hp271 : (a.kind : UInt8) = 3 := of_decide_eq_true h270
        refine c_condT rfl h270 ?_
        refine c_seq ?_
        refine c_reg ?_
        refine l_val (gn rfl) rfl rfl (r_loadA Tryz.isAgg115 Tryz.sizeOf115 (RollS.size _) rfl (hM57.base (i := 2) rfl)) ?_
        refine l_val (gn rfl) rfl rfl (r_loadA Tryz.isAgg24 Tryz.sizeOf24 (Pt.size _) rfl (hM57.base (i := 1) rfl)) ?_
        refine l_call (gn rfl) rfl rfl (r_call Tryz.call78 rfl) (f78 (Holds.sub (hD55.keepA hK58 hAp51 (by simp)).hd (SRep.sub_seats _)) (hD55.keepA hK58 hAp51 (by simp)).own.stv.seats hU.u1 a.E) ?_
        rintro v272 w273 ⟨rfl, hK274⟩
        have hM275 := hM57.keep hK274
        refine l_val (gn rfl) rfl rfl (r_move rfl) ?_
        refine l_val (gn rfl) rfl rfl (r_extract rfl rfl) ?_
        refine l_val (gn rfl) rfl rfl (r_extract rfl rfl) ?_
        refine l_val (gn rfl) rfl rfl (r_assign rfl) ?_
        refine l_val (gn rfl) rfl rfl (r_assign rfl) ?_
        refine l_nil ?_
        refine c_seq ?_
        refine c_block ?_
        refine c_seq ?_
        refine c_reg ?_
        refine l_val (gn rfl) rfl rfl (r_move rfl) ?_
        refine l_val (gn rfl) rfl rfl (r_not rfl) ?_
        refine l_val (gn rfl) rfl rfl (r_assign rfl) ?_
        refine l_nil ?_
        refine ways (hasK Seat.key S.seats a.E) (fun h276 => ?_) (fun h276 => ?_)
        ·skip
         obtain ⟨xf277, hx277, hk277, hf277⟩ := has_find hU.u1 h276
         have hg277 : getK Seat.key Seat.zero S.seats a.E = xf277 := getK_of hf277
         refine c_condF rfl (congrArg Bool.not h276) ?_
         refine c_seq ?_
         refine c_regD (fun w_ => Mem w (b :: q.bs) [(g46 11, (Pt.cells a.who.E), 24), (g46 12, (Pt.cells a.E), 24), (g26 15, (RollS.cells ((⟨b, 70, 91⟩ : Roll))), 115), (g26 16, (RollI.cells ((⟨b, 71, 92⟩ : Roll))), 120), (g26 17, (RollA.cells ((⟨b, 72, 93⟩ : Roll))), 125)] w_ ∧ StB base w_ b q S) [] [(0, true), (1, true), (2, true), (3, true), (4, true), (5, true), (6, true), (7, true), (8, true), (9, true), (10, true), (11, true), (12, true), (13, true), (14, true), (15, true), (16, true), (17, true)] (by kernel_rfl) ?_
         have hM278 := hM275.drew
         refine s_take ⟨hM278, (((hD55.keepA hK58 hAp51 (by simp)).keep0 hK274).keep0 (Keeps.drew _))⟩ rfl (gn rfl) rfl rfl (fun w h => r_move rfl) ?_
         refine s_take ⟨hM278, (((hD55.keepA hK58 hAp51 (by simp)).keep0 hK274).keep0 (Keeps.drew _))⟩ rfl (gn rfl) rfl rfl (fun w h => r_nilCheck rfl) ?_
         refine s_take ⟨hM278, (((hD55.keepA hK58 hAp51 (by simp)).keep0 hK274).keep0 (Keeps.drew _))⟩ rfl (gn rfl) rfl rfl (fun w h => r_fieldAddr StepR.fld_b rfl) ?_
         refine s_take ⟨hM278, (((hD55.keepA hK58 hAp51 (by simp)).keep0 hK274).keep0 (Keeps.drew _))⟩ rfl (gn rfl) rfl rfl (fun w h => r_load1 (v := Value.pointer (some ⟨b, 0, none⟩)) Tryz.isAgg77 rfl (Holds.sub (hx.keep h.1.kp hbx) (StepR.sub_b _))) ?_
         refine s_take ⟨hM278, (((hD55.keepA hK58 hAp51 (by simp)).keep0 hK274).keep0 (Keeps.drew _))⟩ rfl (gn rfl) rfl rfl (fun w h => r_nilCheck rfl) ?_
         refine s_take ⟨hM278, (((hD55.keepA hK58 hAp51 (by simp)).keep0 hK274).keep0 (Keeps.drew _))⟩ rfl (gn rfl) rfl rfl (fun w h => r_fieldAddr SRep.fld_seats rfl) ?_
         refine s_take ⟨hM278, (((hD55.keepA hK58 hAp51 (by simp)).keep0 hK274).keep0 (Keeps.drew _))⟩ rfl (gn rfl) rfl rfl (fun w h => r_load1 (v := Sl.val q.s) Tryz.isAgg32 rfl (Holds.sub h.2.hd (SRep.sub_seats _))) ?_
         refine s_take ⟨hM278, (((hD55.keepA hK58 hAp51 (by simp)).keep0 hK274).keep0 (Keeps.drew _))⟩ rfl (gn rfl) rfl rfl (fun w h => r_move rfl) ?_
         have hlt280 : (posK Seat.key S.seats a.E) < S.seats.length := (List.getElem?_eq_some_iff.1 hx277).1
         obtain ⟨p280, o280, ha280, hA280, -⟩ := (((hD55.keepA hK58 hAp51 (by simp)).keep0 hK274).keep0 (Keeps.drew _)).own.stv.seats.at_ _ _ hx277
         refine s_take ⟨hM278, (((hD55.keepA hK58 hAp51 (by simp)).keep0 hK274).keep0 (Keeps.drew _))⟩ rfl (gn rfl) rfl rfl (fun w h => r_indexR Tryz.underlying32 Tryz.sizeOf73 ⟨_, h.2.own.stv.seats⟩ rfl ha280 rfl hlt280) ?_
         refine s_take ⟨hM278, (((hD55.keepA hK58 hAp51 (by simp)).keep0 hK274).keep0 (Keeps.drew _))⟩ rfl (gn rfl) rfl rfl (fun w h => r_fieldAddr Seat.fld_role rfl) ?_
         refine s_take ⟨hM278, (((hD55.keepA hK58 hAp51 (by simp)).keep0 hK274).keep0 (Keeps.drew _))⟩ rfl (gn rfl) rfl rfl (fun w h => r_load1 (v := vU8 xf277.role) Tryz.isAgg28 rfl (Holds.sub (h.2.own.stv.seats.ix hx277 ha280) (Seat.sub_role _))) ?_
         refine s_take ⟨hM278, (((hD55.keepA hK58 hAp51 (by simp)).keep0 hK274).keep0 (Keeps.drew _))⟩ rfl (gn rfl) rfl rfl (fun w h => r_move rfl) ?_
         refine s_take ⟨hM278, (((hD55.keepA hK58 hAp51 (by simp)).keep0 hK274).keep0 (Keeps.drew _))⟩ rfl (gn rfl) rfl rfl (fun w h => r_nilCheck rfl) ?_
         refine s_take ⟨hM278, (((hD55.keepA hK58 hAp51 (by simp)).keep0 hK274).keep0 (Keeps.drew _))⟩ rfl (gn rfl) rfl rfl (fun w h => r_fieldAddr StepR.fld_a rfl) ?_
         refine s_take ⟨hM278, (((hD55.keepA hK58 hAp51 (by simp)).keep0 hK274).keep0 (Keeps.drew _))⟩ rfl (gn rfl) rfl rfl (fun w h => r_fieldAddr ARep.fld_role rfl) ?_
         refine s_take ⟨hM278, (((hD55.keepA hK58 hAp51 (by simp)).keep0 hK274).keep0 (Keeps.drew _))⟩ rfl (gn rfl) rfl rfl (fun w h => r_load1 (v := vU8 a.role) Tryz.isAgg28 rfl (Holds.sub (Holds.sub (hx.keep h.1.kp hbx) (StepR.sub_a _)) (ARep.sub_role _))) ?_
         refine s_take ⟨hM278, (((hD55.keepA hK58 hAp51 (by simp)).keep0 hK274).keep0 (Keeps.drew _))⟩ rfl (gn rfl) rfl rfl (fun w h => r_eql (b := decide ((xf277.role : UInt8) = a.role)) rfl rfl (u8eq xf277.role a.role)) ?_
         refine s_take ⟨hM278, (((hD55.keepA hK58 hAp51 (by simp)).keep0 hK274).keep0 (Keeps.drew _))⟩ rfl (gn rfl) rfl rfl (fun w h => r_assign rfl) ?_
         refine s_nil ?_
         refine ways (decide ((xf277.role : UInt8) = a.role)) (fun h281 => ?_) (fun h281 => ?_)
         ·skip
          have hp282 : (xf277.role : UInt8) = a.role := of_decide_eq_true h281
          refine c_condT rfl h281 ?_
          refine c_seq ?_
          refine c_reg ?_
          refine l_val (gn rfl) rfl rfl (r_assign rfl) ?_
          refine l_nil ?_
          refine c_ret ?_
          refine ret1 rfl rfl ?_
          have hd : doS S by_ a mine = (8, S) := by simp only [doS, roleS, h59, h143, h186, h223, h249, h270, h276, h281, Bool.or_false, cond_true, cond_false, hg277] <;> rfl
          exact ⟨q, by rw [hd] <;> rfl, by rw [hd]; exact (((hD55.keepA hK58 hAp51 (by simp)).keep0 hK274).keep0 (Keeps.drew _)), hM278.kp⟩
         ·skip
          have hp283 : ¬ ((xf277.role : UInt8) = a.role) := of_decide_eq_false h281
          refine c_condF rfl h281 ?_
          refine c_seq ?_
          refine c_reg ?_
          refine l_val (gn rfl) rfl rfl (r_move rfl) ?_
          refine l_val (gn rfl) rfl rfl (r_nilCheck rfl) ?_
          refine l_val (gn rfl) rfl rfl (r_fieldAddr StepR.fld_b rfl) ?_
          refine l_val (gn rfl) rfl rfl (r_load1 (v := Value.pointer (some ⟨b, 0, none⟩)) Tryz.isAgg77 rfl (Holds.sub (hx.keep hM278.kp hbx) (StepR.sub_b _))) ?_
          refine l_val (gn rfl) rfl rfl (r_nilCheck rfl) ?_
          refine l_val (gn rfl) rfl rfl (r_fieldAddr SRep.fld_seats rfl) ?_
          refine l_val (gn rfl) rfl rfl (r_load1 (v := Sl.val q.s) Tryz.isAgg32 rfl (Holds.sub (((hD55.keepA hK58 hAp51 (by simp)).keep0 hK274).keep0 (Keeps.drew _)).hd (SRep.sub_seats _))) ?_
          refine l_val (gn rfl) rfl rfl (r_move rfl) ?_
          refine l_val (gn rfl) rfl rfl (r_indexR Tryz.underlying32 Tryz.sizeOf73 ⟨_, (((hD55.keepA hK58 hAp51 (by simp)).keep0 hK274).keep0 (Keeps.drew _)).own.stv.seats⟩ rfl ha280 rfl hlt280) ?_
          refine l_val (gn rfl) rfl rfl (r_fieldAddr Seat.fld_role rfl) ?_
          refine l_val (gn rfl) rfl rfl (r_load1 (v := vU8 xf277.role) Tryz.isAgg28 rfl (Holds.sub ((((hD55.keepA hK58 hAp51 (by simp)).keep0 hK274).keep0 (Keeps.drew _)).own.stv.seats.ix hx277 ha280) (Seat.sub_role _))) ?_
          refine l_val (gn rfl) rfl rfl (r_eql (b := decide ((xf277.role : UInt8) = 2)) rfl rfl (u8eq xf277.role 2)) ?_
          refine l_val (gn rfl) rfl rfl (r_move rfl) ?_
          refine ways (decide ((xf277.role : UInt8) = 2)) (fun h284 => ?_) (fun h284 => ?_)
          ·skip
           have hp285 : (xf277.role : UInt8) = 2 := of_decide_eq_true h284
           refine l_val (gy rfl rfl rfl rfl h284) rfl rfl (r_move rfl) ?_
           refine l_call (gy rfl rfl rfl rfl h284) rfl rfl (r_call Tryz.call79 rfl) (f79 (hx.keep hM278.kp hbx) (((hD55.keepA hK58 hAp51 (by simp)).keep0 hK274).keep0 (Keeps.drew _))) ?_
           rintro v286 w287 ⟨rfl, hK288⟩
           have hM289 := hM278.keep hK288
           refine l_val (gn rfl) rfl rfl (r_pickT rfl h284 rfl) ?_
           refine l_val (gn rfl) rfl rfl (r_assign rfl) ?_
           refine l_nil ?_
           refine ways (aloneB S.seats) (fun h290 => ?_) (fun h290 => ?_)
           ·skip
            refine c_condT rfl h290 ?_
            refine c_seq ?_
            refine c_reg ?_
            refine l_val (gn rfl) rfl rfl (r_assign rfl) ?_
            refine l_nil ?_
            refine c_ret ?_
            refine ret1 rfl rfl ?_
            have hD291 : StB base w287 b q S := ((((hD55.keepA hK58 hAp51 (by simp)).keep0 hK274).keep0 (Keeps.drew _)).keep0 hK288)
            have hd : doS S by_ a mine = (192, S) := by simp only [doS, roleS, h59, h143, h186, h223, h249, h270, h276, h281, h284, h290, Bool.and_true, Bool.or_false, cond_true, cond_false, hg277] <;> rfl
            exact ⟨q, by rw [hd] <;> rfl, by rw [hd]; exact hD291, hM289.kp⟩
           ·skip
            refine c_condF rfl h290 ?_
            refine c_skip ?_
            refine c_regD (fun w_ => Mem w (b :: q.bs) [(g46 11, (Pt.cells a.who.E), 24), (g46 12, (Pt.cells a.E), 24), (g26 15, (RollS.cells ((⟨b, 70, 91⟩ : Roll))), 115), (g26 16, (RollI.cells ((⟨b, 71, 92⟩ : Roll))), 120), (g26 17, (RollA.cells ((⟨b, 72, 93⟩ : Roll))), 125)] w_ ∧ StB base w_ b q S) [15] [(0, true), (1, true), (2, true), (3, true), (4, true), (5, true), (6, true), (7, true), (8, true), (9, true), (10, true), (11, true), (12, true), (13, true), (14, true), (15, false)] (by kernel_rfl) ?_
            have hM292 := hM289.drew
            have hD294 : StB base w287.drew b q S := (((((hD55.keepA hK58 hAp51 (by simp)).keep0 hK274).keep0 (Keeps.drew _)).keep0 hK288).keep0 (Keeps.drew _))
            refine s_take ⟨hM292, hD294⟩ rfl (gn rfl) rfl rfl (fun w h => r_move rfl) ?_
            refine s_take ⟨hM292, hD294⟩ rfl (gn rfl) rfl rfl (fun w h => r_nilCheck rfl) ?_
            refine s_take ⟨hM292, hD294⟩ rfl (gn rfl) rfl rfl (fun w h => r_fieldAddr StepR.fld_b rfl) ?_
            refine s_take ⟨hM292, hD294⟩ rfl (gn rfl) rfl rfl (fun w h => r_load1 (v := Value.pointer (some ⟨b, 0, none⟩)) Tryz.isAgg77 rfl (Holds.sub (hx.keep h.1.kp hbx) (StepR.sub_b _))) ?_
            refine s_take ⟨hM292, hD294⟩ rfl (gn rfl) rfl rfl (fun w h => r_nilCheck rfl) ?_
            refine s_take ⟨hM292, hD294⟩ rfl (gn rfl) rfl rfl (fun w h => r_fieldAddr SRep.fld_seats rfl) ?_
            refine s_take ⟨hM292, hD294⟩ rfl (gn rfl) rfl rfl (fun w h => r_load1 (v := Sl.val q.s) Tryz.isAgg32 rfl (Holds.sub h.2.hd (SRep.sub_seats _))) ?_
            refine s_take ⟨hM292, hD294⟩ rfl (gn rfl) rfl rfl (fun w h => r_move rfl) ?_
            refine s_take ⟨hM292, hD294⟩ rfl (gn rfl) rfl rfl (fun w h => r_move rfl) ?_
            refine s_take ⟨hM292, hD294⟩ rfl (gn rfl) rfl rfl (fun w h => r_nilCheck rfl) ?_
            refine s_take ⟨hM292, hD294⟩ rfl (gn rfl) rfl rfl (fun w h => r_fieldAddr StepR.fld_a rfl) ?_
            refine s_take ⟨hM292, hD294⟩ rfl (gn rfl) rfl rfl (fun w h => r_fieldAddr ARep.fld_role rfl) ?_
            refine s_take ⟨hM292, hD294⟩ rfl (gn rfl) rfl rfl (fun w h => r_load1 (v := vU8 a.role) Tryz.isAgg28 rfl (Holds.sub (Holds.sub (hx.keep h.1.kp hbx) (StepR.sub_a _)) (ARep.sub_role _))) ?_
            refine s_take ⟨hM292, hD294⟩ rfl (gn rfl) rfl rfl (fun w h => r_indexR Tryz.underlying32 Tryz.sizeOf73 ⟨_, h.2.own.stv.seats⟩ rfl ha280 rfl hlt280) ?_
            refine s_take ⟨hM292, hD294⟩ rfl (gn rfl) rfl rfl (fun w h => r_fieldAddr Seat.fld_role rfl) ?_
            refine s_storeRole hM292 hD294 hF0 hAp51 hx277 ha280 rfl rfl rfl ?_
            intro w295 hM296 hK297 hB298
            refine ⟨.inl rfl, ?_⟩
            refine s_nil ?_
            refine c_seq ?_
            refine c_reg ?_
            refine l_val (gn rfl) rfl rfl (r_assign rfl) ?_
            refine l_nil ?_
            refine c_ret ?_
            refine ret1 rfl rfl ?_
            have hd : doS S by_ a mine = (0, { S with seats := S.seats.set (posK Seat.key S.seats a.E) { xf277 with role := a.role } }) := by simp only [doS, roleS, h59, h143, h186, h223, h249, h270, h276, h281, h284, h290, Bool.and_false, Bool.or_false, cond_true, cond_false, hg277] <;> rfl
            exact ⟨q, by rw [hd] <;> rfl, by rw [hd]; exact hB298, hM296.kp⟩
          ·skip
           have hp299 : ¬ ((xf277.role : UInt8) = 2) := of_decide_eq_false h284
           refine l_off (gno rfl rfl rfl rfl h284) rfl rfl ?_
           refine l_off (gno rfl rfl rfl rfl h284) rfl rfl ?_
           refine l_val (gn rfl) rfl rfl (r_pickF rfl h284 rfl) ?_
           refine l_val (gn rfl) rfl rfl (r_assign rfl) ?_
           refine l_nil ?_
           refine c_condF rfl rfl ?_
           refine c_skip ?_
           refine c_regD (fun w_ => Mem w (b :: q.bs) [(g46 11, (Pt.cells a.who.E), 24), (g46 12, (Pt.cells a.E), 24), (g26 15, (RollS.cells ((⟨b, 70, 91⟩ : Roll))), 115), (g26 16, (RollI.cells ((⟨b, 71, 92⟩ : Roll))), 120), (g26 17, (RollA.cells ((⟨b, 72, 93⟩ : Roll))), 125)] w_ ∧ StB base w_ b q S) [15] [(0, true), (1, true), (2, true), (3, true), (4, true), (5, true), (6, true), (7, true), (8, true), (9, true), (10, true), (11, true), (12, true), (13, true), (14, true), (15, false)] (by kernel_rfl) ?_
           have hM300 := hM278.drew
           have hD302 : StB base w273.drew.drew b q S := ((((hD55.keepA hK58 hAp51 (by simp)).keep0 hK274).keep0 (Keeps.drew _)).keep0 (Keeps.drew _))
           refine s_take ⟨hM300, hD302⟩ rfl (gn rfl) rfl rfl (fun w h => r_move rfl) ?_
           refine s_take ⟨hM300, hD302⟩ rfl (gn rfl) rfl rfl (fun w h => r_nilCheck rfl) ?_
           refine s_take ⟨hM300, hD302⟩ rfl (gn rfl) rfl rfl (fun w h => r_fieldAddr StepR.fld_b rfl) ?_
           refine s_take ⟨hM300, hD302⟩ rfl (gn rfl) rfl rfl (fun w h => r_load1 (v := Value.pointer (some ⟨b, 0, none⟩)) Tryz.isAgg77 rfl (Holds.sub (hx.keep h.1.kp hbx) (StepR.sub_b _))) ?_
           refine s_take ⟨hM300, hD302⟩ rfl (gn rfl) rfl rfl (fun w h => r_nilCheck rfl) ?_
           refine s_take ⟨hM300, hD302⟩ rfl (gn rfl) rfl rfl (fun w h => r_fieldAddr SRep.fld_seats rfl) ?_
           refine s_take ⟨hM300, hD302⟩ rfl (gn rfl) rfl rfl (fun w h => r_load1 (v := Sl.val q.s) Tryz.isAgg32 rfl (Holds.sub h.2.hd (SRep.sub_seats _))) ?_
           refine s_take ⟨hM300, hD302⟩ rfl (gn rfl) rfl rfl (fun w h => r_move rfl) ?_
           refine s_take ⟨hM300, hD302⟩ rfl (gn rfl) rfl rfl (fun w h => r_move rfl) ?_
           refine s_take ⟨hM300, hD302⟩ rfl (gn rfl) rfl rfl (fun w h => r_nilCheck rfl) ?_
           refine s_take ⟨hM300, hD302⟩ rfl (gn rfl) rfl rfl (fun w h => r_fieldAddr StepR.fld_a rfl) ?_
           refine s_take ⟨hM300, hD302⟩ rfl (gn rfl) rfl rfl (fun w h => r_fieldAddr ARep.fld_role rfl) ?_
           refine s_take ⟨hM300, hD302⟩ rfl (gn rfl) rfl rfl (fun w h => r_load1 (v := vU8 a.role) Tryz.isAgg28 rfl (Holds.sub (Holds.sub (hx.keep h.1.kp hbx) (StepR.sub_a _)) (ARep.sub_role _))) ?_
           refine s_take ⟨hM300, hD302⟩ rfl (gn rfl) rfl rfl (fun w h => r_indexR Tryz.underlying32 Tryz.sizeOf73 ⟨_, h.2.own.stv.seats⟩ rfl ha280 rfl hlt280) ?_
           refine s_take ⟨hM300, hD302⟩ rfl (gn rfl) rfl rfl (fun w h => r_fieldAddr Seat.fld_role rfl) ?_
           refine s_storeRole hM300 hD302 hF0 hAp51 hx277 ha280 rfl rfl rfl ?_
           intro w303 hM304 hK305 hB306
           refine ⟨.inl rfl, ?_⟩
           refine s_nil ?_
           refine c_seq ?_
           refine c_reg ?_
           refine l_val (gn rfl) rfl rfl (r_assign rfl) ?_
           refine l_nil ?_
           refine c_ret ?_
           refine ret1 rfl rfl ?_
           have hd : doS S by_ a mine = (0, { S with seats := S.seats.set (posK Seat.key S.seats a.E) { xf277 with role := a.role } }) := by simp only [doS, roleS, h59, h143, h186, h223, h249, h270, h276, h281, h284, Bool.false_and, Bool.or_false, cond_true, cond_false, hg277] <;> rfl
           exact ⟨q, by rw [hd] <;> rfl, by rw [hd]; exact hB306, hM304.kp⟩
        ·skip
         refine c_condT rfl (congrArg Bool.not h276) ?_
         refine c_seq ?_
         refine c_reg ?_
         refine l_val (gn rfl) rfl rfl (r_assign rfl) ?_
         refine l_nil ?_
         refine c_ret ?_
         refine ret1 rfl rfl ?_
         have hd : doS S by_ a mine = (7, S) := by simp only [doS, roleS, h59, h143, h186, h223, h249, h270, h276, Bool.or_false, cond_true, cond_false] <;> rfl
         exact ⟨q, by rw [hd] <;> rfl, by rw [hd]; exact ((hD55.keepA hK58 hAp51 (by simp)).keep0 hK274), hM275.kp⟩
       ·skip
        have hp307 : ¬ ((a.kind : UInt8) = 3) := of_decide_eq_false h270
        refine c_condF rfl h270 ?_
        refine c_seq ?_
        refine c_reg ?_
        refine l_val (gn rfl) rfl rfl (r_move rfl) ?_
        refine l_call (gn rfl) rfl rfl (r_call Tryz.call80 rfl) (f80 (hx.keep hM57.kp hbx) hbx (hD55.keepA hK58 hAp51 (by simp)) (Nat.le_trans hbw hM57.kp.size) (hC.keep hM57.kp) hU (fun h => hme (.inr (h.elim id id)))) ?_
        rintro v310 w311 ⟨q308, rfl, hB309, hK312⟩
        have hM313 := hM57.st hK312 hF0 hAp51
        refine l_val (gn rfl) rfl rfl (r_assign rfl) ?_
        refine l_nil ?_
        refine c_ret ?_
        refine ret1 rfl rfl ?_
        have hd : doS S by_ a mine = moreS S by_ a mine := by simp only [doS, h59, h143, h186, h223, h249, h270, Bool.or_false, cond_false]
        exact ⟨q308, by rw [hd] <;> rfl, by rw [hd]; exact hB309, hM313.kp⟩
end Go.Proofs.YtekhaogjmmmniaaGreat
namespace Go.Proofs.YtekhaogjmmmniaaGreat
open Go Go.RowKit

/-- What an action makes of a state, or why it does not. -/
noncomputable def stepS (S : State) (by_ : Pt) (a : Action) : Nat × State :=
  cond (okS S && okAct a) (cond (decide (a.ver.toNat = S.ver.toNat + 1)) (cond (decide (S.seats.length = 0)) (197, State.zero)
    (cond (decide (mayE S by_ a (roleOf S.seats by_) = 0))
      (cond (decide ((doS S by_ a (roleOf S.seats by_)).1 = 0)) (0, { (doS S by_ a (roleOf S.seats by_)).2 with ver := a.ver }) ((doS S by_ a (roleOf S.seats by_)).1, State.zero))
      (mayE S by_ a (roleOf S.seats by_), State.zero))) (190, State.zero)) (2, State.zero)
theorem has_role {l : List Seat} {e : Pt} (h : ¬ roleOf l e = 0) : hasK Seat.key l e = true := by
  unfold roleOf at h
  rw [has_find?]
  have : seatIs e = isK Seat.key e := rfl
  rw [this] at h
  cases hf : l.find? (isK Seat.key e) with
  | none => rw [hf] at h; exact absurd rfl h
  | some x => rfl
theorem may_me {S : State} {by_ : Pt} {a : Action} {mine : UInt8} (h : mayE S by_ a mine = 0) (hk : a.kind = 5 ∨ a.kind = 14) : ¬ mine = 0 := by
  rintro rfl
  rcases hk with hk | hk <;> simp [mayE, rightE, hk] at h

def stepCells (p : Value) (by_ : Pt) (a : ARep) (m : Value) : Array Value := cat [#[p], Pt.cells by_, ARep.cells a, #[m]]
def StepR.places : Array (Nat × Nat) := #[(0, 1), (1, 32), (33, 104), (137, 1)]
theorem StepR.zc (vs : List (Nat × Value)) : Tryz.prog.built 79 vs = Instr.fill (StepR.places[·]?) (stepCells (.pointer none) Pt.zero ARep.zero (vU8 0)) vs := by kernel_rfl
theorem StepR.built (b : Nat) (by_ : Pt) (a : ARep) (m : UInt8) : Tryz.prog.built 79 [(0, .pointer (some ⟨b, 0, none⟩)), (1, .agg by_.cells), (2, .agg a.cells), (3, vU8 m)] = some (StepR.cells ⟨b, by_, a, m⟩) := by
  have hz : ∀ p y r v, (stepCells p y r v).size = 138 := fun p y r v => by simp [stepCells, cat_size, Pt.size, ARep.size]
  refine (StepR.zc _).trans (fill_cons (off := 0) (size := 1) (cs' := stepCells (.pointer (some ⟨b, 0, none⟩)) Pt.zero ARep.zero (vU8 0)) rfl rfl (by rw [hz]; decide) ?_
    (fill_cons (off := 1) (size := 32) (cs' := stepCells (.pointer (some ⟨b, 0, none⟩)) by_ ARep.zero (vU8 0)) rfl (Pt.size _) (by rw [hz]; decide) ?_
      (fill_cons (off := 33) (size := 104) (cs' := stepCells (.pointer (some ⟨b, 0, none⟩)) by_ a (vU8 0)) rfl (ARep.size _) (by rw [hz]; decide) ?_
        (fill_cons (off := 137) (size := 1) (cs' := stepCells (.pointer (some ⟨b, 0, none⟩)) by_ a (vU8 m)) rfl rfl (by rw [hz]; decide) ?_ fill_nil))))
  · exact cat_put _ 0 _ _ rfl rfl
  · have := cat_put [#[Value.pointer (some ⟨b, 0, none⟩)], Pt.cells Pt.zero, ARep.cells ARep.zero, #[vU8 0]] 1 _ (Pt.cells by_) rfl (by rw [Pt.size, Pt.size])
    simp [offAt] at this; exact this
  · have := cat_put [#[Value.pointer (some ⟨b, 0, none⟩)], Pt.cells by_, ARep.cells ARep.zero, #[vU8 0]] 2 _ (ARep.cells a) rfl (by rw [ARep.size, ARep.size])
    simp [offAt, Pt.size] at this; exact this
  · have := cat_put [#[Value.pointer (some ⟨b, 0, none⟩)], Pt.cells by_, ARep.cells a, #[vU8 0]] 3 _ #[vU8 m] rfl rfl
    simp [offAt, Pt.size, ARep.size] at this; exact this

theorem OwnSt.ver {base : Nat} {w : World} {q : Six} {S : State} (h : OwnSt base w q S) (v : UInt32) : OwnSt base w q { S with ver := v } := ⟨h.t, h.p, h.s, h.i, h.a, h.b, h.sep⟩
section mem
variable {W w w' : World} {X Y : List Nat} {L : List Ent}
/-- Behind what turned Y: block number i of L holds cs' now. -/
theorem Mem.swap (h : Mem W X L w) {i : Nat} {b : Nat} {cs cs' : Array Value} {t : TypeId} (hi : L[i]? = some (b, cs, t)) (k : Keeps Y w w') (hY : ∀ y ∈ Y, y ∈ X ∨ W.heap.size ≤ y) (hne : ∀ x ∈ L.map Prod.fst, x = b ∨ x ∉ Y) (hb : Blk w' b cs' t) :
    Mem W X (L.set i (b, cs', t)) w' := by
  have hil : i < L.length := (List.getElem?_eq_some_iff.1 hi).1
  have hfst : (L.set i (b, cs', t)).map Prod.fst = L.map Prod.fst := by
    apply List.ext_getElem?
    intro j
    rw [List.getElem?_map, List.getElem?_map]
    by_cases hji : i = j
    · subst hji
      rw [List.getElem?_set_self hil, hi]; rfl
    · rw [List.getElem?_set_ne hji]
  refine ⟨h.kp.then k hY, ?_, ?_, by rw [hfst]; exact h.nd⟩
  · intro e he
    obtain ⟨j, hj⟩ := List.mem_iff_getElem?.1 he
    by_cases hji : i = j
    · subst hji
      rw [List.getElem?_set_self hil] at hj
      cases hj
      exact hb
    · rw [List.getElem?_set_ne hji] at hj
      have hm := List.mem_of_getElem? hj
      refine (h.has e hm).keep k ?_
      rcases hne e.1 (List.mem_map_of_mem hm) with h1 | h1
      · exact absurd (nodup_get h.nd (by rw [List.getElem?_map, hi]; rfl) (by rw [List.getElem?_map, hj, ← h1]; rfl)) hji
      · exact h1
  · intro e he
    have : e.1 ∈ L.map Prod.fst := by rw [← hfst]; exact List.mem_map_of_mem he
    obtain ⟨e', he', heq⟩ := List.mem_map.1 this
    rw [← heq]; exact h.own e' he'
end mem
end Go.Proofs.YtekhaogjmmmniaaGreat
