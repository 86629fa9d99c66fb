/- Part 6 of the proof of RolesPlaysSaid: what the functions reached compute, in plain words and by walks through their code. No statement of the rows is proved here. -/
import Derived.Test.YtekhaogjmmmniaaGreatPackPlaysE
namespace Go.Proofs.YtekhaogjmmmniaaGreat
open Go Go.RowKit

theorem StV.atv {A : Nat → Prop} {w : World} {q : Six} {S : State} (h : StV A w q S) (v : UInt32) : StV A w q (S.atv v) := ⟨h.title, h.pass, h.seats, h.invites, h.asks, h.bans⟩
theorem f9e {A B : Nat → Prop} {w : World} {S : State} {q : Six} {a : Action} {qa : Two} {r : ARep} (hS : StV A w q S) (hA : AcV B w qa a) (h : a.rep qa = r) : Ret 9 #[.agg (S.rep q).cells, .agg r.cells] w (fun v w' => v = .bool (largeB S a) ∧ Keeps [] w w') := by
  subst h; exact f9 hS hA
theorem f13e {A B : Nat → Prop} {w : World} {S : State} {q : Six} {a : Action} {qa : Two} {r : ARep} (hS : StV A w q S) (hA : AcV B w qa a) (by_ : Pt) (h : a.rep qa = r) : Ret 13 #[.agg (S.rep q).cells, .agg by_.cells, .agg r.cells] w
    (fun v w' => ∃ q', v = .tuple #[.agg ((stepS S by_ a).2.rep q').cells, .int .i64 (((stepS S by_ a).1 : Nat) : Int)] ∧ OwnSt w.heap.size w' q' (stepS S by_ a).2 ∧ Keeps [] w w') := by
  subst h; exact f13 hS hA by_
/-- No list is too long. -/
def Lens (S : State) : Prop := S.seats.length ≤ 40 ∧ S.invites.length ≤ 40 ∧ S.asks.length ≤ 40 ∧ S.bans.length ≤ 40
theorem ok_lens {S : State} (h : OkState S) : Lens S := ⟨h.l1, h.l2, h.l3, h.l4⟩
theorem did_len {S D : State} {by_ : Pt} {a : Action} {mine : UInt8} (h : Lens S) (d : Did S by_ a mine D) : Lens D := by
  obtain ⟨h1, h2, h3, h4⟩ := h
  have o1 : ∀ {α : Type} {key : α → Pt} {l : List α} {e : Pt}, l.length ≤ 40 → (outK key l e).length ≤ 40 := fun h => Nat.le_trans out_len h
  have o2 : ∀ {α : Type} {key : α → Pt} {l : List α} {x : α}, l.length < 40 → (putK key l x).length ≤ 40 := fun h => by rw [put_len]; exact h
  cases d with
  | come hk n1 n2 hl => exact ⟨o2 hl, o1 h2, o1 h3, h4⟩
  | invite hk n1 n2 n3 hl => exact ⟨h1, o2 hl, o1 h3, h4⟩
  | ask hk n1 n2 n3 n4 hl => exact ⟨h1, h2, o2 hl, h4⟩
  | remove hk n1 n2 => exact ⟨o1 h1, h2, h3, h4⟩
  | role hk n1 n2 n3 => exact ⟨by simpa [roleS] using h1, h2, h3, h4⟩
  | leave hk n1 => exact ⟨o1 h1, h2, h3, h4⟩
  | uninvite hk n1 => exact ⟨h1, o1 h2, h3, h4⟩
  | accept hk n1 hl => exact ⟨o2 hl, o1 h2, h3, h4⟩
  | approve hk n1 hl => exact ⟨o2 hl, h2, o1 h3, h4⟩
  | decline hk n1 => exact ⟨h1, o1 h2, h3, h4⟩
  | unask hk n1 => exact ⟨h1, h2, o1 h3, h4⟩
  | refuse hk n1 => exact ⟨h1, h2, o1 h3, h4⟩
  | unban hk n1 => exact ⟨h1, h2, h3, o1 h4⟩
  | ban hk n1 n2 n3 hl =>
    have hb : Lens (banSt S a.E) ∧ (banSt S a.E).bans = S.bans := by
      unfold banSt
      cases hasK Seat.key S.seats a.E
      · cases hasK Invite.key S.invites a.E
        · exact ⟨⟨o1 h1, o1 h2, o1 h3, h4⟩, rfl⟩
        · exact ⟨⟨o1 h1, o1 h2, h3, h4⟩, rfl⟩
      · exact ⟨⟨o1 h1, h2, h3, h4⟩, rfl⟩
    obtain ⟨⟨b1, b2, b3, _⟩, b5⟩ := hb
    exact ⟨b1, b2, b3, o2 (by rw [b5]; exact hl)⟩
  | title hk => exact ⟨h1, h2, h3, h4⟩
  | access hk => exact ⟨h1, h2, h3, h4⟩
  | pass hk => exact ⟨h1, h2, h3, h4⟩
theorem step_len (S : State) (by_ : Pt) (a : Action) : Lens (stepS S by_ a).2 := by
  by_cases h : (stepS S by_ a).1 = 0
  · have d := step_ok h
    obtain ⟨D, hd, hr⟩ := d.did
    rw [hr]
    exact (show Lens D from did_len (ok_lens d.ok) hd)
  · rw [step_err h]
    exact ⟨by decide, by decide, by decide, by decide⟩
end Go.Proofs.YtekhaogjmmmniaaGreat
namespace Go.Proofs.YtekhaogjmmmniaaGreat
open Go Go.RowKit

section keys
variable {α β : Type} {ka : α → Pt} {kb : β → Pt} {l : List α} {m : List β} {x : α} {y : β} {e : Pt}
/-- Nobody of l stands in m. -/
def Off (ka : α → Pt) (kb : β → Pt) (l : List α) (m : List β) : Prop := ∀ x ∈ l, ∀ y ∈ m, ¬ ka x = kb y
theorem Off.putL (h : Off ka kb l m) (hn : ∀ y ∈ m, ¬ ka x = kb y) : Off ka kb (putK ka l x) m := fun z hz y hy => by
  rcases mem_put.1 hz with rfl | hz
  · exact hn y hy
  · exact h z hz y hy
theorem Off.putR (h : Off ka kb l m) (hn : ∀ x ∈ l, ¬ ka x = kb y) : Off ka kb l (putK kb m y) := fun z hz w hw => by
  rcases mem_put.1 hw with rfl | hw
  · exact hn z hz
  · exact h z hz w hw
theorem Off.outL (h : Off ka kb l m) : Off ka kb (outK ka l e) m := fun z hz y hy => h z (mem_out.1 hz).1 y hy
theorem Off.outR (h : Off ka kb l m) : Off ka kb l (outK kb m e) := fun z hz y hy => h z hz y (mem_out.1 hy).1
theorem no_mem (h : hasK ka l e = false) : ∀ y ∈ l, ¬ ka y = e := fun y hy q => by
  have : hasK ka l e = true := has_iff.2 ⟨y, hy, q⟩
  rw [h] at this; cases this
end keys

/-- A state that may be, in the words of the lists. -/
structure Fine (S : State) : Prop where
  title : S.title.length ≤ 200
  pass : S.pass.length = 0 ∨ S.pass.length = 16
  acc : okAccess S.acc = true
  len : Lens S
  u1 : UpK Seat.key S.seats
  u2 : UpK Invite.key S.invites
  u3 : UpK Ask.key S.asks
  u4 : UpK Ban.key S.bans
  si : Off Seat.key Invite.key S.seats S.invites
  sa : Off Seat.key Ask.key S.seats S.asks
  sb : Off Seat.key Ban.key S.seats S.bans
  ia : Off Invite.key Ask.key S.invites S.asks
  ib : Off Invite.key Ban.key S.invites S.bans
  ab : Off Ask.key Ban.key S.asks S.bans
  r1 : ∀ x ∈ S.seats, isRole x.role = true
  r2 : ∀ x ∈ S.invites, isRole x.role = true
theorem Fine.of {S : State} (h : OkState S) : Fine S := by
  have al := h.alone
  have up := Ups.of h
  exact ⟨h.title, h.pass, h.acc, ok_lens h, up.u1, up.u2, up.u3, up.u4, al.si, al.sa, al.sb, al.ia, al.ib, al.ab, h.r1, h.r2⟩
theorem up_ne {α : Type} {who : α → Cipher} {l : List α} (h : UpK (fun x => (who x).E) l) : (l.map who).Pairwise fun x y => ¬ x.E = y.E := by
  rw [List.pairwise_map]
  exact List.Pairwise.imp (fun {a b} h q => by have h : ptLt (who a).E (who b).E = true := h; rw [q, ptLt_irrefl] at h; cases h) h
theorem Fine.ok {S : State} (h : Fine S) : OkState S := by
  refine ⟨h.title, h.pass, h.acc, h.len.1, h.len.2.1, h.len.2.2.1, h.len.2.2.2, up_rising (who := Seat.who) h.u1, up_rising (who := Invite.who) h.u2, up_rising (who := Ask.who) h.u3, up_rising (who := Ban.who) h.u4, (apart_iff _).2 ?_, h.r1, h.r2⟩
  simp only [ciphers, List.pairwise_append, List.mem_append, List.mem_map]
  refine ⟨⟨⟨up_ne h.u1, up_ne h.u2, ?_⟩, up_ne h.u3, ?_⟩, up_ne h.u4, ?_⟩
  · rintro _ ⟨x, hx, rfl⟩ _ ⟨y, hy, rfl⟩; exact h.si x hx y hy
  · rintro _ (⟨x, hx, rfl⟩ | ⟨x, hx, rfl⟩) _ ⟨y, hy, rfl⟩
    · exact h.sa x hx y hy
    · exact h.ia x hx y hy
  · rintro _ ((⟨x, hx, rfl⟩ | ⟨x, hx, rfl⟩) | ⟨x, hx, rfl⟩) _ ⟨y, hy, rfl⟩
    · exact h.sb x hx y hy
    · exact h.ib x hx y hy
    · exact h.ab x hx y hy
theorem fine_atv {S : State} {v : UInt32} (h : Fine S) : Fine (S.atv v) := ⟨h.title, h.pass, h.acc, h.len, h.u1, h.u2, h.u3, h.u4, h.si, h.sa, h.sb, h.ia, h.ib, h.ab, h.r1, h.r2⟩
section outs
variable {S : State} {e : Pt}
theorem Fine.outS (h : Fine S) : Fine (outS S e) := ⟨h.title, h.pass, h.acc, ⟨Nat.le_trans out_len h.len.1, h.len.2⟩, out_up h.u1 e, h.u2, h.u3, h.u4, h.si.outL, h.sa.outL, h.sb.outL, h.ia, h.ib, h.ab, fun x hx => h.r1 x (mem_out.1 hx).1, h.r2⟩
theorem Fine.outI (h : Fine S) : Fine (outI S e) := ⟨h.title, h.pass, h.acc, ⟨h.len.1, Nat.le_trans out_len h.len.2.1, h.len.2.2⟩, h.u1, out_up h.u2 e, h.u3, h.u4, h.si.outR, h.sa, h.sb, h.ia.outL, h.ib.outL, h.ab, h.r1, fun x hx => h.r2 x (mem_out.1 hx).1⟩
theorem Fine.outA (h : Fine S) : Fine (outA S e) := ⟨h.title, h.pass, h.acc, ⟨h.len.1, h.len.2.1, Nat.le_trans out_len h.len.2.2.1, h.len.2.2.2⟩, h.u1, h.u2, out_up h.u3 e, h.u4, h.si, h.sa.outR, h.sb, h.ia.outR, h.ib, h.ab.outL, h.r1, h.r2⟩
theorem Fine.outB (h : Fine S) : Fine (outB S e) := ⟨h.title, h.pass, h.acc, ⟨h.len.1, h.len.2.1, h.len.2.2.1, Nat.le_trans out_len h.len.2.2.2⟩, h.u1, h.u2, h.u3, out_up h.u4 e, h.si, h.sa, h.sb.outR, h.ia, h.ib.outR, h.ab.outR, h.r1, h.r2⟩
/-- e stands nowhere but perhaps where it is let. -/
theorem Fine.putS (h : Fine S) {x : Seat} (hl : S.seats.length < 40) (n1 : hasK Seat.key S.seats x.key = false) (n2 : hasK Invite.key S.invites x.key = false) (n3 : hasK Ask.key S.asks x.key = false) (n4 : hasK Ban.key S.bans x.key = false) (hr : isRole x.role = true) : Fine (putS S x) :=
  ⟨h.title, h.pass, h.acc, ⟨by show (putK _ _ _).length ≤ 40; rw [put_len]; exact hl, h.len.2⟩, put_up h.u1 n1, h.u2, h.u3, h.u4, h.si.putL fun y hy q => no_mem n2 y hy q.symm, h.sa.putL fun y hy q => no_mem n3 y hy q.symm, h.sb.putL fun y hy q => no_mem n4 y hy q.symm, h.ia, h.ib, h.ab,
    fun y hy => (mem_put.1 hy).elim (fun q => by rw [q]; exact hr) (h.r1 y), h.r2⟩
theorem Fine.putI (h : Fine S) {x : Invite} (hl : S.invites.length < 40) (n1 : hasK Seat.key S.seats x.key = false) (n2 : hasK Invite.key S.invites x.key = false) (n3 : hasK Ask.key S.asks x.key = false) (n4 : hasK Ban.key S.bans x.key = false) (hr : isRole x.role = true) : Fine (putI S x) :=
  ⟨h.title, h.pass, h.acc, ⟨h.len.1, by show (putK _ _ _).length ≤ 40; rw [put_len]; exact hl, h.len.2.2⟩, h.u1, put_up h.u2 n2, h.u3, h.u4, h.si.putR fun y hy q => no_mem n1 y hy q, h.sa, h.sb, h.ia.putL fun y hy q => no_mem n3 y hy q.symm, h.ib.putL fun y hy q => no_mem n4 y hy q.symm, h.ab,
    h.r1, fun y hy => (mem_put.1 hy).elim (fun q => by rw [q]; exact hr) (h.r2 y)⟩
theorem Fine.putA (h : Fine S) {x : Ask} (hl : S.asks.length < 40) (n1 : hasK Seat.key S.seats x.key = false) (n2 : hasK Invite.key S.invites x.key = false) (n3 : hasK Ask.key S.asks x.key = false) (n4 : hasK Ban.key S.bans x.key = false) : Fine (putA S x) :=
  ⟨h.title, h.pass, h.acc, ⟨h.len.1, h.len.2.1, by show (putK _ _ _).length ≤ 40; rw [put_len]; exact hl, h.len.2.2.2⟩, h.u1, h.u2, put_up h.u3 n3, h.u4, h.si, h.sa.putR fun y hy q => no_mem n1 y hy q, h.sb, h.ia.putR fun y hy q => no_mem n2 y hy q, h.ib, h.ab.putL fun y hy q => no_mem n4 y hy q.symm,
    h.r1, h.r2⟩
theorem Fine.putB (h : Fine S) {x : Ban} (hl : S.bans.length < 40) (n1 : hasK Seat.key S.seats x.key = false) (n2 : hasK Invite.key S.invites x.key = false) (n3 : hasK Ask.key S.asks x.key = false) (n4 : hasK Ban.key S.bans x.key = false) : Fine (putB S x) :=
  ⟨h.title, h.pass, h.acc, ⟨h.len.1, h.len.2.1, h.len.2.2.1, by show (putK _ _ _).length ≤ 40; rw [put_len]; exact hl⟩, h.u1, h.u2, h.u3, put_up h.u4 n4, h.si, h.sa, h.sb.putR fun y hy q => no_mem n1 y hy q, h.ia, h.ib.putR fun y hy q => no_mem n2 y hy q, h.ab.putR fun y hy q => no_mem n3 y hy q,
    h.r1, h.r2⟩
end outs
theorem outno {α : Type} {key : α → Pt} {l : List α} {e : Pt} : hasK key (outK key l e) e = false := by rw [has_out]; simp
/-- The element that waits for e has a role, if the list's have. -/
theorem got_mem {α : Type} {key : α → Pt} {z : α} {l : List α} {e : Pt} (h : hasK key l e = true) : getK key z l e ∈ l := List.mem_of_find?_eq_some (get_has (z := z) h).1
theorem act_role {a : Action} (h : okAct a = true) (hk : a.kind = 1 ∨ a.kind = 3 ∨ a.kind = 5 ∨ a.kind = 12) : isRole a.role = true := by
  simp only [okAct, Bool.and_eq_true] at h
  have := h.1.1.1.2
  rcases hk with hk | hk | hk | hk <;> rw [hk] at this <;> simpa [hsOf] using this
/-- What a ban leaves: e stands nowhere. -/
theorem ban_facts {S : State} {e : Pt} (h : Fine S) (h2 : hasK Ban.key S.bans e = false) (h3 : hasK Seat.key S.seats e = true ∨ hasK Invite.key S.invites e = true ∨ hasK Ask.key S.asks e = true) :
    (banWho S e).E = e ∧ Fine (banSt S e) ∧ hasK Seat.key (banSt S e).seats e = false ∧ hasK Invite.key (banSt S e).invites e = false ∧ hasK Ask.key (banSt S e).asks e = false ∧ (banSt S e).bans = S.bans ∧ (banSt S e).seats = outK Seat.key S.seats e := by
  unfold banWho banSt
  cases hs : hasK Seat.key S.seats e with
  | true => exact ⟨(get_has (z := Seat.zero) hs).2, h.outS, outno, has_other h.si hs, has_other h.sa hs, rfl, rfl⟩
  | false =>
    cases hi : hasK Invite.key S.invites e with
    | true => exact ⟨(get_has (z := Invite.zero) hi).2, h.outS.outI, outno, outno, has_other h.ia hi, rfl, rfl⟩
    | false =>
      have ha : hasK Ask.key S.asks e = true := by
        rcases h3 with h | h | h
        · rw [hs] at h; cases h
        · rw [hi] at h; cases h
        · exact h
      exact ⟨(get_has (z := Ask.zero) ha).2, h.outS.outI.outA, outno, outno, outno, rfl, rfl⟩
theorem did_fine {S D : State} {by_ : Pt} {a : Action} {mine : UInt8} (h : Fine S) (ha : okAct a = true) (d : Did S by_ a mine D) : Fine D := by
  cases d with
  | come hk n1 n2 hl =>
    refine Fine.putS (h.outI.outA) hl n2 outno outno n1 ?_
    rcases hk with hk | hk
    · rw [show decide (a.kind = 9) = false from by rw [hk]; decide]
      exact act_role ha (.inl hk)
    · rw [show decide (a.kind = 9) = true from decide_eq_true hk]
      rfl
  | invite hk n1 n2 n3 hl => exact Fine.putI h.outA hl n2 n3 outno n1 (act_role ha (.inr (.inr (.inl hk))))
  | ask hk n1 n2 n3 n4 hl => exact Fine.putA h hl n2 n3 n4 n1
  | remove hk n1 n2 => exact h.outS
  | role hk n1 n2 n3 =>
    obtain ⟨x, hx, hkx, hf⟩ := has_find h.u1 n1
    obtain ⟨hlt, hget⟩ := List.getElem?_eq_some_iff.1 hx
    have hg : getK Seat.key Seat.zero S.seats a.E = x := getK_of hf
    have hm : ∀ y ∈ (roleS S a.E a.role).seats, (∃ z ∈ S.seats, z.key = y.key) ∧ isRole y.role = true := fun y hy => by
      rcases List.mem_or_eq_of_mem_set hy with hy | hy
      · exact ⟨⟨y, hy, rfl⟩, h.r1 y hy⟩
      · rw [hy, hg]
        exact ⟨⟨x, List.mem_of_getElem? hx, rfl⟩, act_role ha (.inr (.inl hk))⟩
    have hmap : (roleS S a.E a.role).seats.map Seat.key = S.seats.map Seat.key := by
      apply List.ext_getElem?
      intro i
      rw [List.getElem?_map, List.getElem?_map]
      show Option.map Seat.key ((S.seats.set _ _)[i]?) = _
      rw [List.getElem?_set, hg]
      by_cases hi : posK Seat.key S.seats a.E = i
      · subst hi
        rw [if_pos rfl, if_pos hlt, hx]
        rfl
      · rw [if_neg hi]
    have hup : UpK Seat.key (roleS S a.E a.role).seats := by
      have h0 := h.u1
      unfold UpK at h0 ⊢
      rw [← List.pairwise_map (f := Seat.key) (R := fun a b => ptLt a b = true)] at h0 ⊢
      rw [hmap]; exact h0
    have hoff : ∀ {β : Type} {kb : β → Pt} {m : List β}, Off Seat.key kb S.seats m → Off Seat.key kb (roleS S a.E a.role).seats m := fun ho y hy z hz q => by
      obtain ⟨⟨z', hz', hq⟩, _⟩ := hm y hy
      exact ho z' hz' z hz (hq.trans q)
    exact ⟨h.title, h.pass, h.acc, ⟨by simpa [roleS] using h.len.1, h.len.2⟩, hup, h.u2, h.u3, h.u4, hoff h.si, hoff h.sa, hoff h.sb, h.ia, h.ib, h.ab, fun y hy => (hm y hy).2, h.r2⟩
  | leave hk n1 => exact h.outS
  | uninvite hk n1 => exact h.outI
  | accept hk n1 hl =>
    obtain ⟨g1, g2⟩ := get_has (z := Invite.zero) n1
    have e1 : Seat.key ⟨(getK Invite.key Invite.zero S.invites by_).who, (getK Invite.key Invite.zero S.invites by_).role, a.ver⟩ = by_ := g2
    refine Fine.putS h.outI hl ?_ ?_ ?_ ?_ (h.r2 _ (got_mem n1)) <;> rw [e1]
    · exact has_other' h.si n1
    · exact outno
    · exact has_other h.ia n1
    · exact has_other h.ib n1
  | approve hk n1 hl =>
    obtain ⟨g1, g2⟩ := get_has (z := Ask.zero) n1
    have e1 : Seat.key ⟨(getK Ask.key Ask.zero S.asks a.E).who, a.role, a.ver⟩ = a.E := g2
    refine Fine.putS h.outA hl ?_ ?_ ?_ ?_ (act_role ha (.inr (.inr (.inr hk)))) <;> rw [e1]
    · exact has_other' h.sa n1
    · exact has_other' h.ia n1
    · exact outno
    · exact has_other h.ab n1
  | decline hk n1 => exact h.outI
  | unask hk n1 => exact h.outA
  | refuse hk n1 => exact h.outA
  | unban hk n1 => exact h.outB
  | ban hk n1 n2 n3 hl =>
    obtain ⟨k1, k2, k3, k4, k5, k6, _⟩ := ban_facts h n2 n3
    have e1 : Ban.key ⟨banWho S a.E, meOf S.seats by_⟩ = a.E := k1
    refine Fine.putB k2 (by rw [k6]; exact hl) ?_ ?_ ?_ ?_ <;> rw [e1]
    · exact k3
    · exact k4
    · exact k5
    · rw [k6]; exact n2
  | title hk =>
    simp only [okAct, Bool.and_eq_true, decide_eq_true_eq] at ha
    exact ⟨ha.1.1.1.1.1.1.2, h.pass, h.acc, h.len, h.u1, h.u2, h.u3, h.u4, h.si, h.sa, h.sb, h.ia, h.ib, h.ab, h.r1, h.r2⟩
  | access hk =>
    have hacc : okAccess a.acc = true := by
      simp only [okAct, Bool.and_eq_true] at ha
      have := ha.1.2
      rw [hk] at this
      simpa [hsOf] using this
    exact ⟨h.title, h.pass, hacc, h.len, h.u1, h.u2, h.u3, h.u4, h.si, h.sa, h.sb, h.ia, h.ib, h.ab, h.r1, h.r2⟩
  | pass hk =>
    have hp : a.pass.length = 0 ∨ a.pass.length = 16 := by
      simp only [okAct, Bool.and_eq_true] at ha
      have := ha.2
      rw [hk] at this
      simp [hsOf] at this
      rcases this with h | h
      · exact .inr h
      · exact .inl (by simp [h])
    exact ⟨h.title, hp, h.acc, h.len, h.u1, h.u2, h.u3, h.u4, h.si, h.sa, h.sb, h.ia, h.ib, h.ab, h.r1, h.r2⟩
theorem step_fine {S : State} {by_ : Pt} {a : Action} (h : (stepS S by_ a).1 = 0) : Fine (stepS S by_ a).2 := by
  have d := step_ok h
  obtain ⟨D, hd, hr⟩ := d.did
  rw [hr]
  exact fine_atv (did_fine (.of d.ok) d.act hd)
end Go.Proofs.YtekhaogjmmmniaaGreat
namespace Go.Proofs.YtekhaogjmmmniaaGreat
open Go Go.RowKit

section keys
variable {α : Type} {key : α → Pt} {l : List α} {x : α} {e : Pt}
theorem out_len1 (h : UpK key l) (hh : hasK key l e = true) : (outK key l e).length + 1 = l.length := by
  obtain ⟨x, hx, _⟩ := has_find h hh
  have hlt := (List.getElem?_eq_some_iff.1 hx).1
  rw [out_has h hh, List.length_append, List.length_take, List.length_drop]
  omega
end keys
end Go.Proofs.YtekhaogjmmmniaaGreat
namespace Go.Proofs.YtekhaogjmmmniaaGreat
open Go Go.RowKit

def Action.atv (a : Action) (v : UInt32) : Action := { a with ver := v }
theorem AcV.atv {A : Nat → Prop} {w : World} {q : Two} {a : Action} (h : AcV A w q a) (v : UInt32) : AcV A w q (a.atv v) := ⟨h.title, h.pass⟩
theorem atvR (a : Action) (q : Two) (v : UInt32) : (a.atv v).rep q = ARep.mk v a.kind a.who a.E a.role q.t a.acc q.p := rfl
/-- An action, by whom, and where its bytes lie. -/
structure Mv where
  by_ : Pt
  a : Action
  q : Two
def Mv.act (x : Mv) : ARep := x.a.rep x.q
def Mv.parts (x : Mv) : List (Array Value) := [Pt.cells x.by_, ARep.cells x.act]
def Mv.cells (x : Mv) : Array Value := cat x.parts
theorem Mv.size (x : Mv) : x.cells.size = 136 := by simp [Mv.cells, cat_size, Mv.parts, Pt.size, ARep.size]
theorem Mv.off_by_ (x : Mv) : offAt x.parts 0 = 0 := by simp [offAt]
theorem Mv.off_act (x : Mv) : offAt x.parts 1 = 32 := by simp [offAt, Mv.parts, Pt.size]
theorem Mv.sub_by_ (x : Mv) : Sub x.cells 0 (Pt.cells x.by_) := by have := cat_sub x.parts 0 _ rfl; rw [Mv.off_by_] at this; exact this
theorem Mv.sub_act (x : Mv) : Sub x.cells 32 (ARep.cells x.act) := by have := cat_sub x.parts 1 _ rfl; rw [Mv.off_act] at this; exact this
theorem Mv.fld_by_ : FldAt 61 0 0 := ⟨_, _, _, Tryz.underlying61, rfl, rfl, Tryz.sizeOf24, by decide⟩
theorem Mv.fld_act : FldAt 61 1 32 := ⟨_, _, _, Tryz.underlying61, rfl, rfl, Tryz.sizeOf42, by decide⟩
/-- Every action's bytes are where it says. -/
def MvV (w : World) (l : List Mv) : Prop := ∀ x ∈ l, AcV (fun _ => True) w x.q x.a
theorem MvV.keep0 {w w' : World} {l : List Mv} (h : MvV w l) (k : Keeps [] w w') : MvV w' l := fun x hx => (h x hx).keep0 k
section steps
variable {n : Nat} {env : List (Nat × Value)} {W w : World} {X : List Nat} {L : List Ent} {N : Pst} {E : List (Nat × Pst)} {R : Pst} {ops : Array Oper} {S : World → Prop} {late : List Nat} {r : List (Nat × Bool)} {ld : Bool} {i : Nat}
variable {d : Nat} {ty : TypeId} {pos : String} {af : Array Edge} {x y : Operand} {T e : TypeId} {g : Option (Nat × Bool)}
variable {α : Type} {sz bs base : Nat} {enc : α → Array Value} {l m : List α} {s s2 : Sl} {A : Nat → Prop}
/-- An append within a region that draws its order. -/
theorem s_append (hi : ops[i]? = some ⟨some d, .call { callee := .builtin .append, args := #[x, y], argTypes := #[T, T] }, ty, pos, af, g⟩) (hM : Mem W X L w) (hT : ElT T e sz bs) (hE : EncT sz enc) (hn : Nat.blt d n = true) (hg : GOn n env ops ⟨some d, .call { callee := .builtin .append, args := #[x, y], argTypes := #[T, T] }, ty, pos, af, g⟩)
    (hx : ev env x = some s.val) (hy : ev env y = some s2.val)
    (ho : Own base e w s sz enc l) (hr : Row A w s2 sz enc m) (hb : (l.length + m.length) * bs ≤ 140737488355328) (hw : base ≤ w.heap.size) (hW : W.heap.size ≤ base) (hL : ∀ e ∈ L, e.1 < base)
    (h : ∀ s' w' Y, Mem W X L w' → Keeps Y w w' → New base Y → Own base e w' s' sz enc (l ++ m) → ((ld || late.contains i) = true ∨ S w') ∧ AT n ((d, s'.val) :: env) w' (SW ops S late r (ld || late.contains i) N E R)) :
    AT n env w (SW ops S late ((i, false) :: r) ld N E R) := by
  obtain ⟨s', w', Y, r1, r2, r3, r4⟩ := run_appendR hT hE ho hr hb hw ty
  have h' := h s' w' Y (hM.newer r3 r4 hW hL) r3 r4 r2
  exact s_val hi hg rfl hn (r_append hx hy r1) h'.1 h'.2
end steps
theorem okG : hasAdmin groupA = true := by decide
end Go.Proofs.YtekhaogjmmmniaaGreat
namespace Go.Proofs.YtekhaogjmmmniaaGreat
open Go Go.RowKit

theorem place_congr {S T : State} {e : Pt} (h1 : T.seats.find? (isK Seat.key e) = S.seats.find? (isK Seat.key e)) (h2 : T.invites.find? (isK Invite.key e) = S.invites.find? (isK Invite.key e)) (h3 : T.asks.find? (isK Ask.key e) = S.asks.find? (isK Ask.key e))
    (h4 : T.bans.find? (isK Ban.key e) = S.bans.find? (isK Ban.key e)) : placeOf S e = placeOf T e := by rw [place_def, place_def, h1, h2, h3, h4]
section keys
variable {α : Type} {key : α → Pt} {l : List α} {x : α} {e h : Pt}
theorem find_out_other (hn : ¬ h = e) : (outK key l e).find? (isK key h) = l.find? (isK key h) := by rw [find_out, if_neg hn]
theorem find_put_other (hx : key x = e) (hn : hasK key l e = false) (he : ¬ h = e) : (putK key l x).find? (isK key h) = l.find? (isK key h) := by
  subst hx
  rw [find_put hn, if_neg (fun q => he q.symm)]
end keys
theorem admins_pos {l : List Seat} : 0 < admins l ↔ ∃ x ∈ l, isAdmin x = true := List.countP_pos_iff
theorem admins_put {l : List Seat} {x : Seat} : admins l ≤ admins (putK Seat.key l x) := by
  have h : admins (l.take (posK Seat.key l x.key)) + admins (l.drop (posK Seat.key l x.key)) = admins l := by
    unfold admins
    rw [← List.countP_append, List.take_append_drop]
  unfold putK
  unfold admins at h ⊢
  rw [List.countP_append, List.countP_cons]
  omega
theorem admins_out {l : List Seat} {e : Pt} (hu : UpK Seat.key l) : admins l ≤ admins (outK Seat.key l e) + 1 ∧ ((¬ ∃ x ∈ l, x.key = e ∧ isAdmin x = true) → admins l ≤ admins (outK Seat.key l e)) := by
  cases hh : hasK Seat.key l e with
  | false => rw [out_no hh]; exact ⟨by omega, fun _ => Nat.le_refl _⟩
  | true =>
    obtain ⟨x, hx, hk, hf⟩ := has_find hu hh
    obtain ⟨hlt, hget⟩ := List.getElem?_eq_some_iff.1 hx
    have h : admins l = admins (l.take (posK Seat.key l e)) + (admins (l.drop (posK Seat.key l e + 1)) + if isAdmin x = true then 1 else 0) := by
      have h2 : l = l.take (posK Seat.key l e) ++ x :: l.drop (posK Seat.key l e + 1) := by rw [← hget, ← List.drop_eq_getElem_cons hlt, List.take_append_drop]
      have h3 := congrArg admins h2
      unfold admins at h3 ⊢
      rw [List.countP_append, List.countP_cons] at h3
      exact h3
    have h4 : admins (outK Seat.key l e) = admins (l.take (posK Seat.key l e)) + admins (l.drop (posK Seat.key l e + 1)) := by
      rw [out_has hu hh]
      unfold admins
      rw [List.countP_append]
    refine ⟨by rw [h, h4]; split <;> omega, fun hn => ?_⟩
    have : ¬ isAdmin x = true := fun ha => hn ⟨x, List.mem_of_getElem? hx, hk, ha⟩
    rw [h, h4, if_neg this]
    omega
theorem hasAdmin_of {S : State} (h : 0 < admins S.seats) : hasAdmin S = true := by unfold hasAdmin; rw [decide_eq_true h, Bool.or_true]
theorem role_two {S : State} {e : Pt} (f : Fine S) (h : ¬ roleOf S.seats e < 2) : ∃ x ∈ S.seats, x.key = e ∧ isAdmin x = true := by
  have hh : hasK Seat.key S.seats e = true := role_has fun q => h (by rw [q]; decide)
  obtain ⟨x, hx⟩ := findK_yes hh
  have hr : roleOf S.seats e = x.role := by unfold roleOf; rw [show seatIs e = isK Seat.key e from rfl, hx]
  have hm := List.mem_of_find?_eq_some hx
  refine ⟨x, hm, findK_key hx, ?_⟩
  have h1 := f.r1 x hm
  rw [hr] at h
  simp only [isRole, Bool.or_eq_true, decide_eq_true_eq] at h1
  rcases h1 with h1 | h1
  · rw [h1] at h; exact absurd (by decide) h
  · simp [isAdmin, h1]
theorem may_two {S : State} {by_ : Pt} {a : Action} {mine : UInt8} (h : mayE S by_ a mine = 0) (hk : a.kind = 2 ∨ a.kind = 14) : ¬ mine < 2 := fun hlt => by
  have : mayE S by_ a mine = rightE mine 2 := by rcases hk with hk | hk <;> simp [mayE, hk]
  rw [this] at h
  simp [rightE, hlt] at h
/-- An admin stays, where the one who does it is one, and is not whom it is about. -/
theorem admin_stays {S : State} {by_ e : Pt} {l : List Seat} (f : Fine S) (hm : ¬ roleOf S.seats by_ < 2) (he : ¬ e = by_) (hl : l = outK Seat.key S.seats e) : 0 < admins l := by
  obtain ⟨x, hx, hk, ha⟩ := role_two f hm
  rw [admins_pos, hl]
  exact ⟨x, mem_out.2 ⟨hx, fun q => he (q.symm.trans hk)⟩, ha⟩
theorem did_admin {S D : State} {by_ : Pt} {a : Action} (f : Fine S) (hs : ¬ S.seats.length = 0) (had : hasAdmin S = true) (hm : mayE S by_ a (roleOf S.seats by_) = 0) (d : Did S by_ a (roleOf S.seats by_) D) : hasAdmin D = true := by
  have h0 : 0 < admins S.seats := by
    unfold hasAdmin at had
    rw [decide_eq_false hs, Bool.false_or] at had
    exact of_decide_eq_true had
  have same : ∀ {D : State}, D.seats = S.seats → hasAdmin D = true := fun h => hasAdmin_of (by rw [h]; exact h0)
  have puts : ∀ {D : State} {x : Seat}, D.seats = putK Seat.key S.seats x → hasAdmin D = true := fun h => hasAdmin_of (by rw [h]; exact Nat.lt_of_lt_of_le h0 admins_put)
  cases d with
  | come hk n1 n2 hl => exact puts rfl
  | invite hk n1 n2 n3 hl => exact same rfl
  | ask hk n1 n2 n3 n4 hl => exact same rfl
  | remove hk n1 n2 => exact hasAdmin_of (admin_stays f (may_two hm (.inl hk)) n2 rfl)
  | role hk n1 n2 n3 =>
    obtain ⟨x, hx, hkx, hf⟩ := has_find f.u1 n1
    obtain ⟨hlt, hget⟩ := List.getElem?_eq_some_iff.1 hx
    have hg : getK Seat.key Seat.zero S.seats a.E = x := getK_of hf
    have hc : admins (roleS S a.E a.role).seats = admins S.seats - (if isAdmin x = true then 1 else 0) + (if isAdmin { x with role := a.role } = true then 1 else 0) := by
      show admins (S.seats.set _ _) = _
      unfold admins
      rw [hg, List.countP_set hlt, hget]
    refine hasAdmin_of ?_
    rw [hc]
    rw [hg] at n2 n3
    by_cases hx2 : x.role = 2
    · have h2 : ¬ admins S.seats = 1 := fun q => n3 ⟨hx2, decide_eq_true q⟩
      split <;> omega
    · rw [if_neg (show ¬ isAdmin x = true from fun q => hx2 (of_decide_eq_true q))]
      omega
  | leave hk n1 =>
    have hms := may_seat hm (.inl hk)
    obtain ⟨ho1, ho2⟩ := admins_out (e := by_) f.u1
    by_cases h2 : ¬ ∃ x ∈ S.seats, x.key = by_ ∧ isAdmin x = true
    · exact hasAdmin_of (Nat.lt_of_lt_of_le h0 (ho2 h2))
    · have h2 := Classical.not_not.1 h2
      by_cases h3 : admins S.seats = 1
      · have hr : roleOf S.seats by_ = 2 := by
          obtain ⟨x, hx, hkx, ha⟩ := h2
          obtain ⟨y, hy⟩ := findK_yes hms
          have hyk := findK_key hy
          have hym := List.mem_of_find?_eq_some hy
          have hxy : x = y := by
            have hp := f.u1
            obtain ⟨i, hi⟩ := List.getElem?_of_mem hx
            obtain ⟨j, hj⟩ := List.getElem?_of_mem hym
            rcases Nat.lt_trichotomy i j with hij | hij | hij
            · have := List.pairwise_iff_getElem.1 hp i j (List.getElem?_eq_some_iff.1 hi).1 (List.getElem?_eq_some_iff.1 hj).1 hij
              rw [(List.getElem?_eq_some_iff.1 hi).2, (List.getElem?_eq_some_iff.1 hj).2, hkx, hyk, ptLt_irrefl] at this
              cases this
            · subst hij
              exact Option.some.inj (hi.symm.trans hj)
            · have := List.pairwise_iff_getElem.1 hp j i (List.getElem?_eq_some_iff.1 hj).1 (List.getElem?_eq_some_iff.1 hi).1 hij
              rw [(List.getElem?_eq_some_iff.1 hi).2, (List.getElem?_eq_some_iff.1 hj).2, hkx, hyk, ptLt_irrefl] at this
              cases this
          subst hxy
          unfold roleOf
          rw [show seatIs by_ = isK Seat.key by_ from rfl, hy]
          exact of_decide_eq_true ha
        have hl : ¬ 1 < S.seats.length := fun q => n1 ⟨hr, decide_eq_true h3, q⟩
        have ho := out_len1 f.u1 hms
        have : (outS S by_).seats.length = 0 := by show (outK Seat.key S.seats by_).length = 0; omega
        unfold hasAdmin
        rw [decide_eq_true this]; rfl
      · exact hasAdmin_of (by show 0 < admins (outK Seat.key S.seats by_); omega)
  | uninvite hk n1 => exact same rfl
  | accept hk n1 hl => exact puts rfl
  | approve hk n1 hl => exact puts rfl
  | decline hk n1 => exact same rfl
  | unask hk n1 => exact same rfl
  | refuse hk n1 => exact same rfl
  | unban hk n1 => exact same rfl
  | ban hk n1 n2 n3 hl => exact hasAdmin_of (admin_stays f (may_two hm (.inr hk)) n1 (ban_facts f n2 n3).2.2.2.2.2.2)
  | title hk => exact same rfl
  | access hk => exact same rfl
  | pass hk => exact same rfl
theorem did_place {S D : State} {by_ h : Pt} {a : Action} {mine : UInt8} (f : Fine S) (d : Did S by_ a mine D) (h1 : ¬ h = by_) (h2 : ¬ h = a.E) (h3 : ¬ h = a.who.E) : placeOf S h = placeOf D h := by
  cases d with
  | come hk n1 n2 hl => exact place_congr (find_put_other rfl n2 h3) (find_out_other h3) (find_out_other h3) rfl
  | invite hk n1 n2 n3 hl => exact place_congr rfl (find_put_other rfl n3 h3) (find_out_other h3) rfl
  | ask hk n1 n2 n3 n4 hl => exact place_congr rfl rfl (find_put_other rfl n4 h3) rfl
  | remove hk n1 n2 => exact place_congr (find_out_other h2) rfl rfl rfl
  | role hk n1 n2 n3 => exact place_congr ((find_set (key := Seat.key) (y := { getK Seat.key Seat.zero S.seats a.E with role := a.role }) f.u1 n1 (get_has (z := Seat.zero) n1).2).trans (if_neg fun q => h2 q.symm)) rfl rfl rfl
  | leave hk n1 => exact place_congr (find_out_other h1) rfl rfl rfl
  | uninvite hk n1 => exact place_congr rfl (find_out_other h2) rfl rfl
  | accept hk n1 hl =>
    have g := (get_has (z := Invite.zero) n1).2
    exact place_congr (find_put_other g (has_other' f.si n1) h1) (find_out_other h1) rfl rfl
  | approve hk n1 hl =>
    have g := (get_has (z := Ask.zero) n1).2
    exact place_congr (find_put_other g (has_other' f.sa n1) h2) rfl (find_out_other h2) rfl
  | decline hk n1 => exact place_congr rfl (find_out_other h1) rfl rfl
  | unask hk n1 => exact place_congr rfl rfl (find_out_other h1) rfl
  | refuse hk n1 => exact place_congr rfl rfl (find_out_other h2) rfl
  | unban hk n1 => exact place_congr rfl rfl rfl (find_out_other h2)
  | ban hk n1 n2 n3 hl =>
    obtain ⟨k1, _, _, _, _, k6, _⟩ := ban_facts f n2 n3
    have hb : (banSt S a.E).seats.find? (isK Seat.key h) = S.seats.find? (isK Seat.key h) ∧ (banSt S a.E).invites.find? (isK Invite.key h) = S.invites.find? (isK Invite.key h) ∧ (banSt S a.E).asks.find? (isK Ask.key h) = S.asks.find? (isK Ask.key h) := by
      unfold banSt
      cases hasK Seat.key S.seats a.E
      · cases hasK Invite.key S.invites a.E
        · exact ⟨find_out_other h2, find_out_other h2, find_out_other h2⟩
        · exact ⟨find_out_other h2, find_out_other h2, rfl⟩
      · exact ⟨find_out_other h2, rfl, rfl⟩
    refine place_congr hb.1 hb.2.1 hb.2.2 ?_
    show (putK Ban.key (banSt S a.E).bans ⟨banWho S a.E, meOf S.seats by_⟩).find? _ = _
    rw [find_put_other (key := Ban.key) (x := ⟨banWho S a.E, meOf S.seats by_⟩) (e := a.E) k1 (by rw [k6]; exact n2) h2, k6]
  | title hk => exact place_congr rfl rfl rfl rfl
  | access hk => exact place_congr rfl rfl rfl rfl
  | pass hk => exact place_congr rfl rfl rfl rfl
theorem did_key {S D : State} {by_ : Pt} {a : Action} {mine : UInt8} (d : Did S by_ a mine D) : D.key = S.key := by
  cases d with
  | ban hk n1 n2 n3 hl =>
    show (banSt S a.E).key = S.key
    unfold banSt
    cases hasK Seat.key S.seats a.E
    · cases hasK Invite.key S.invites a.E <;> rfl
    · rfl
  | _ => rfl
theorem plays_err {S : State} {by_ : Pt} {a : Action} (h : ¬ (stepS S by_ a).1 = 0) : sameState (stepS S by_ a).2 State.zero = true := by rw [step_err h, sameState_refl]
theorem plays_ok {S : State} {by_ : Pt} {a : Action} (had : hasAdmin S = true) (h : (stepS S by_ (a.atv (S.ver + 1))).1 = 0) :
    okS (stepS S by_ (a.atv (S.ver + 1))).2 = true ∧ hasAdmin (stepS S by_ (a.atv (S.ver + 1))).2 = true ∧ decide (S.seats.length = 0) = false ∧ decide ((stepS S by_ (a.atv (S.ver + 1))).2.ver = S.ver + 1) = true ∧ decide ((stepS S by_ (a.atv (S.ver + 1))).2.key = S.key) = true ∧
      Lens (stepS S by_ (a.atv (S.ver + 1))).2 ∧ Lens S ∧ (∀ h, ¬ h = by_ → ¬ h = a.E → ¬ h = a.who.E → placeOf S h = placeOf (stepS S by_ (a.atv (S.ver + 1))).2 h) := by
  have d := step_ok h
  have f := Fine.of d.ok
  obtain ⟨D, hd, hr⟩ := d.did
  refine ⟨okS_iff.2 (step_fine h).ok, ?_, decide_eq_false d.some_, ?_, ?_, step_len _ _ _, ok_lens d.ok, ?_⟩
  · rw [hr]; exact (show hasAdmin D = true from did_admin f d.some_ had d.may hd)
  · rw [hr]; exact decide_eq_true rfl
  · rw [hr]; exact decide_eq_true (show D.key = S.key from did_key hd)
  · intro e h1 h2 h3
    rw [hr]
    exact (show placeOf S e = placeOf D e from did_place f hd h1 h2 h3)
end Go.Proofs.YtekhaogjmmmniaaGreat
namespace Go.Proofs.YtekhaogjmmmniaaGreat
open Go Go.RowKit

set_option maxHeartbeats 8000000 in
theorem f5 {A : Nat → Prop} {w : World} {s0 : Sl} {l : List Mv} (hl : Row A w s0 136 Mv.cells l) (hMv : MvV w l) : Ret 5 #[s0.val] w (fun v w' => v = .bool true ∧ Keeps [] w w') := by
  have hln := hl.bd
  have hM0 := Mem.start w
  refine enter Tryz.func5 rfl rfl ?_
  refine c_sr ?_
  refine l_v rfl (r_assign rfl) ?_
  refine l_nil ?_
  refine c_seq ?_
  refine c_sr ?_
  refine l_v rfl (r_move rfl) ?_
  refine l_v rfl (r_lenR Tryz.underlying57 rfl hl.len) ?_
  refine l_v rfl (r_gtr (b := decide ((150 : Nat) < l.length)) rfl rfl (nlt 150 l.length)) ?_
  refine l_nil ?_
  refine ways (decide ((150 : Nat) < l.length)) (fun h1 => ?_) (fun h1 => ?_)
  ·skip
   have hp2 : (150 : Nat) < l.length := of_decide_eq_true h1
   refine c_condT rfl h1 ?_
   refine c_sr ?_
   refine l_call (gn rfl) rfl rfl (r_call Tryz.call10 rfl) (f10) ?_
   rintro v3 w4 ⟨rfl, hK5⟩
   have hM6 := hM0.keep hK5
   refine l_v rfl (r_assign rfl) ?_
   refine l_nil ?_
   refine c_ret ?_
   refine ret1 rfl rfl ?_
   exact ⟨rfl, hM6.kp⟩
  ·skip
   have hp7 : ¬ ((150 : Nat) < l.length) := of_decide_eq_false h1
   refine c_condF rfl h1 ?_
   refine c_skip ?_
   refine c_sr ?_
   have hge1 : w.heap.size ≤ (w).heap.size := hM0.kp.size
   refine l_call (gn rfl) rfl rfl (r_call Tryz.call22 rfl) (f22) ?_
   rintro v10 w11 ⟨qo8, rfl, hO9, hK12⟩
   have hM13 := hM0.keep hK12
   refine l_v rfl (r_move rfl) ?_
   refine l_v rfl (r_extract rfl rfl) ?_
   refine l_v rfl (r_extract rfl rfl) ?_
   refine l_alloc hM13 rfl SRep.zv ?_
   intro b14 w15 hM16 hK17 hB18
   replace hM16 : Mem w [] [(b14, (SRep.cells SRep.zero), 37)] w15 := hM16
   have hBk19 := hM16.blk (i := 0) rfl
   refine l_store hM16 (i := 0) rfl Tryz.sizeOf37 rfl rfl (SRep.size _) (by rw [SRep.size]; decide) (SRep.one _) (put_whole _ _ ((SRep.size _).trans (SRep.size _).symm)) ?_
   intro w20 hM21 hK22
   replace hM21 : Mem w [] [(b14, (SRep.cells ((SRep.mk groupA.ver groupA.key qo8.t groupA.acc qo8.p qo8.s qo8.i qo8.a qo8.b))), 37)] w20 := hM21
   refine l_v rfl (r_assign rfl) ?_
   refine l_nil ?_
   refine c_seq ?_
   refine c_sr ?_
   refine l_v rfl (r_move rfl) ?_
   refine l_v rfl (r_not rfl) ?_
   refine l_nil ?_
   refine c_condF rfl rfl ?_
   refine c_skip ?_
   refine c_seq ?_
   refine c_sr ?_
   refine l_v rfl (r_assign rfl) ?_
   refine l_nil ?_
   refine c_block ?_
   refine c_loop (ι := Nat × State × Six) (fun p_ w_ => Mem w [] [(b14, (SRep.cells ((SRep.mk p_.2.1.ver p_.2.1.key p_.2.2.t p_.2.1.acc p_.2.2.p p_.2.2.s p_.2.2.i p_.2.2.a p_.2.2.b))), 37)] w_ ∧ (p_.1 ≤ l.length ∧ OwnSt w.heap.size w_ p_.2.2 p_.2.1 ∧ hasAdmin p_.2.1 = true)) (fun p_ => [(0, Sl.val s0), (20, Value.bool (decide ((150 : Nat) < l.length))), (3, Value.pointer (some ⟨b14, 0, none⟩)), (4, Value.bool true), (27, Value.bool false), (5, Value.int .i64 ((p_.1 : Nat) : Int))]) (fun p_ => l.length - p_.1) (0, groupA, qo8) ⟨hM21, Nat.zero_le _, ((hO9.keep0 hK17).keepB hK22 hBk19 rfl).lower hge1, okG⟩ ⟨rfl, rfl, rfl, rfl, rfl, rfl, trivial⟩ ?_
   rintro ⟨i, S, q⟩ w23 ⟨hM24, hil, hO, hAd⟩
   change AT _ [(0, Sl.val s0), (20, Value.bool (decide ((150 : Nat) < l.length))), (3, Value.pointer (some ⟨b14, 0, none⟩)), (4, Value.bool true), (27, Value.bool false), (5, Value.int .i64 ((i : Nat) : Int))] _ _
   replace hM24 : Mem w [] [(b14, (SRep.cells ((SRep.mk S.ver S.key q.t S.acc q.p q.s q.i q.a q.b))), 37)] w23 := hM24
   replace hO : OwnSt w.heap.size w23 q S := hO
   replace hAd : hasAdmin S = true := hAd
   replace hil : i ≤ l.length := hil
   refine c_seq ?_
   refine c_sr ?_
   refine l_v rfl (r_move rfl) ?_
   refine l_v rfl (r_move rfl) ?_
   refine l_v rfl (r_lenR Tryz.underlying57 rfl (hl.keep0 hM24.kp).len) ?_
   refine l_v rfl (r_lss (b := decide ((i : Nat) < l.length)) rfl rfl (nlt i l.length)) ?_
   refine l_nil ?_
   refine ways (decide ((i : Nat) < l.length)) (fun h25 => ?_) (fun h25 => ?_)
   ·skip
    have hp26 : (i : Nat) < l.length := of_decide_eq_true h25
    refine c_condT rfl h25 ?_
    refine c_skip ?_
    refine c_seq ?_
    refine c_block ?_
    refine c_sr ?_
    refine l_v rfl (r_move rfl) ?_
    refine l_v rfl (r_move rfl) ?_
    have hlt27 : i < l.length := by first | assumption | omega
    obtain ⟨x27, hx27⟩ : ∃ x, l[i]? = some x := ⟨_, List.getElem?_eq_getElem hlt27⟩
    obtain ⟨p27, o27, ha27, hA27, -⟩ := (hl.keep0 hM24.kp).at_ _ _ hx27
    have hmem_x27 : x27 ∈ l := List.mem_of_getElem? hx27
    refine l_v rfl (r_indexR Tryz.underlying57 Tryz.sizeOf61 ⟨_, (hl.keep0 hM24.kp)⟩ rfl ha27 rfl hlt27) ?_
    refine l_v rfl (r_fieldAddr Mv.fld_act rfl) ?_
    refine l_v rfl (r_loadA Tryz.isAgg42 Tryz.sizeOf42 (ARep.size _) rfl (Holds.sub ((hl.keep0 hM24.kp).ix hx27 ha27) (Mv.sub_act _))) ?_
    refine l_alloc hM24 rfl ARep.zv ?_
    intro b28 w29 hM30 hK31 hB32
    replace hM30 : Mem w [] [(b28, (ARep.cells ARep.zero), 42), (b14, (SRep.cells ((SRep.mk S.ver S.key q.t S.acc q.p q.s q.i q.a q.b))), 37)] w29 := hM30
    have hBk33 := hM30.blk (i := 0) rfl
    refine l_store hM30 (i := 0) rfl Tryz.sizeOf42 rfl rfl (ARep.size _) (by rw [ARep.size]; decide) (ARep.one _) (put_whole _ _ ((ARep.size _).trans (ARep.size _).symm)) ?_
    intro w34 hM35 hK36
    replace hM35 : Mem w [] [(b28, (ARep.cells ((ARep.mk x27.a.ver x27.a.kind x27.a.who x27.a.E x27.a.role x27.q.t x27.a.acc x27.q.p))), 42), (b14, (SRep.cells ((SRep.mk S.ver S.key q.t S.acc q.p q.s q.i q.a q.b))), 37)] w34 := hM35
    refine l_nil ?_
    refine c_sr ?_
    refine l_v rfl (r_fieldAddr SRep.fld_ver rfl) ?_
    refine l_v rfl (r_load1 (v := vU32 S.ver) Tryz.isAgg22 rfl (Holds.sub (hM35.base (i := 1) rfl) (SRep.sub_ver _))) ?_
    refine l_v rfl (r_add (r := ((S.ver + 1 : UInt32).toNat : Int)) rfl rfl (wu32 S.ver 1)) ?_
    refine l_v rfl (r_fieldAddr ARep.fld_ver rfl) ?_
    have hBk37 := hM35.blk (i := 0) rfl
    refine l_store hM35 (i := 0) rfl Tryz.sizeOf22 rfl rfl rfl (by rw [ARep.size]; decide) (one_one rfl) (ARep.put_ver _ _) ?_
    intro w38 hM39 hK40
    replace hM39 : Mem w [] [(b28, (ARep.cells ((ARep.mk ((S.ver + 1)) x27.a.kind x27.a.who x27.a.E x27.a.role x27.q.t x27.a.acc x27.q.p))), 42), (b14, (SRep.cells ((SRep.mk S.ver S.key q.t S.acc q.p q.s q.i q.a q.b))), 37)] w38 := hM39
    refine l_nil ?_
    refine c_seq ?_
    refine c_sr ?_
    refine l_v rfl (r_loadA Tryz.isAgg37 Tryz.sizeOf37 (SRep.size _) rfl (hM39.base (i := 1) rfl)) ?_
    refine l_v rfl (r_loadA Tryz.isAgg42 Tryz.sizeOf42 (ARep.size _) rfl (hM39.base (i := 0) rfl)) ?_
    refine l_call (gn rfl) rfl rfl (r_call Tryz.call9 rfl) (f9e (((hO.keep0 hK31).keepB hK36 hBk33 rfl).keepB hK40 hBk37 rfl).stv (AcV.atv ((hMv.keep0 hM39.kp) x27 hmem_x27) ((S.ver + 1))) (atvR _ _ _)) ?_
    rintro v41 w42 ⟨rfl, hK43⟩
    have hM44 := hM39.keep hK43
    refine l_nil ?_
    refine ways (largeB S (Action.atv x27.a ((S.ver + 1)))) (fun h45 => ?_) (fun h45 => ?_)
    ·skip
     refine c_condT rfl h45 ?_
     refine c_exit rfl ?_
     refine c_reg ?_
     refine l_v rfl (r_move rfl) ?_
     refine l_v rfl (r_add (r := ((i + 1 : Nat) : Int)) rfl rfl (nadd (i := i) (k := 1) (m := i + 1) (by omega) (by omega))) ?_
     refine l_v rfl (r_assign rfl) ?_
     refine l_nil ?_
     intro a_ ha_
     refine ⟨(i + 1, S, q), ⟨(hM44.forget (.cons _ (.refl _))), ?_⟩, by omega, ha_.sub ⟨rfl, rfl, rfl, rfl, rfl, rfl, trivial⟩⟩
     exact ⟨by omega, ((((hO.keep0 hK31).keepB hK36 hBk33 rfl).keepB hK40 hBk37 rfl).keep0 hK43), hAd⟩
    ·skip
     refine c_condF rfl h45 ?_
     refine c_skip ?_
     refine c_seq ?_
     have hM46 := hM44.drew
     have hS47 := And.intro hM46 (((((hO.keep0 hK31).keepB hK36 hBk33 rfl).keepB hK40 hBk37 rfl).keep0 hK43).keep0 (Keeps.drew _))
     refine c_regA (fun w_ => Mem w [] [(b28, (ARep.cells ((ARep.mk ((S.ver + 1)) x27.a.kind x27.a.who x27.a.E x27.a.role x27.q.t x27.a.acc x27.q.p))), 42), (b14, (SRep.cells ((SRep.mk S.ver S.key q.t S.acc q.p q.s q.i q.a q.b))), 37)] w_ ∧ OwnSt w.heap.size w_ q S) [] [⟨11, 7, (SRep.cells SRep.zero), 37⟩] [] [(0, true), (1, true), (2, true), (3, true), (4, true), (5, true), (6, true), (7, false), (8, true), (9, true), (10, true)] [(12, false), (13, true)] (by kernel_rfl) ⟨⟨_, _, _, rfl, _, SRep.zv, rfl⟩, trivial⟩ (by simp) (fun _ _ k h => ⟨h.1.keep k, h.2.keep0 k⟩) hS47 ?_
     refine a_take hS47 rfl rfl (gn rfl) rfl rfl (fun w h => r_loadA Tryz.isAgg37 Tryz.sizeOf37 (SRep.size _) rfl (h.1.base (i := 1) rfl)) ?_
     refine a_take hS47 rfl rfl (gn rfl) rfl rfl (fun w h => r_move rfl) ?_
     refine a_take hS47 rfl rfl (gn rfl) rfl rfl (fun w h => r_move rfl) ?_
     refine a_take hS47 rfl rfl (gn rfl) rfl rfl (fun w h => r_indexR Tryz.underlying57 Tryz.sizeOf61 ⟨_, (hl.keep0 h.1.kp)⟩ rfl ha27 rfl hlt27) ?_
     refine a_take hS47 rfl rfl (gn rfl) rfl rfl (fun w h => r_fieldAddr Mv.fld_by_ rfl) ?_
     refine a_take hS47 rfl rfl (gn rfl) rfl rfl (fun w h => r_loadA Tryz.isAgg24 Tryz.sizeOf24 (Pt.size _) rfl (Holds.sub ((hl.keep0 h.1.kp).ix hx27 ha27) (Mv.sub_by_ _))) ?_
     refine a_take hS47 rfl rfl (gn rfl) rfl rfl (fun w h => r_loadA Tryz.isAgg42 Tryz.sizeOf42 (ARep.size _) rfl (h.1.base (i := 0) rfl)) ?_
     refine a_call rfl rfl (gn rfl) rfl rfl rfl ?_
     intro w48 hE49
     have hM50 := hM46.keep hE49
     have hge2 : w.heap.size ≤ (w48).heap.size := hM50.kp.size
     have hlt900_2 : ∀ k ∈ q.bs, k < (w48).heap.size := fun k hk => (((((((hO.keep0 hK31).keepB hK36 hBk33 rfl).keepB hK40 hBk37 rfl).keep0 hK43).keep0 (Keeps.drew _)).keep0 hE49).lo k hk).2
     refine ⟨_, _, _, r_call Tryz.call13 rfl, f13e ((((((hO.keep0 hK31).keepB hK36 hBk33 rfl).keepB hK40 hBk37 rfl).keep0 hK43).keep0 (Keeps.drew _)).keep0 hE49).stv (AcV.atv ((hMv.keep0 hM50.kp) x27 hmem_x27) ((S.ver + 1))) x27.by_ (atvR _ _ _), ?_⟩
     rintro v53 w54 ⟨qo51, rfl, hO52, hK55⟩
     have hM56 := hM50.keep hK55
     have hS57 := And.intro hM56 (((((((hO.keep0 hK31).keepB hK36 hBk33 rfl).keepB hK40 hBk37 rfl).keep0 hK43).keep0 (Keeps.drew _)).keep0 hE49).keep0 hK55)
     refine ⟨hS57, hK55, ?_⟩
     refine a_take hS57 rfl rfl (gn rfl) rfl rfl (fun w h => r_move rfl) ?_
     refine a_take hS57 rfl rfl (gn rfl) rfl rfl (fun w h => r_extract rfl rfl) ?_
     refine a_take hS57 rfl rfl (gn rfl) rfl rfl (fun w h => r_extract rfl rfl) ?_
     refine a_nil hM56 hM46.kp.size hM46.lt rfl rfl ?_
     intro w58 g59 hK60 hM61 hg62
     change AT _ (_ :: _) _ _
     replace hM61 : Mem w [] [(g59 11, (SRep.cells SRep.zero), 37), (b28, (ARep.cells ((ARep.mk ((S.ver + 1)) x27.a.kind x27.a.who x27.a.E x27.a.role x27.q.t x27.a.acc x27.q.p))), 42), (b14, (SRep.cells ((SRep.mk S.ver S.key q.t S.acc q.p q.s q.i q.a q.b))), 37)] w58 := hM61
     have hBk63 := hM61.blk (i := 0) rfl
     refine s_store hM61 (j := 0) rfl rfl Tryz.sizeOf37 rfl rfl (SRep.size _) (by rw [SRep.size]; decide) (SRep.one _) (put_whole _ _ ((SRep.size _).trans (SRep.size _).symm)) ?_
     intro w64 hM65 hK66
     replace hM65 : Mem w [] [(g59 11, (SRep.cells ((SRep.mk ((stepS S x27.by_ ((Action.atv x27.a ((S.ver + 1))))).2.ver) ((stepS S x27.by_ ((Action.atv x27.a ((S.ver + 1))))).2.key) qo51.t ((stepS S x27.by_ ((Action.atv x27.a ((S.ver + 1))))).2.acc) qo51.p qo51.s qo51.i qo51.a qo51.b))), 37), (b28, (ARep.cells ((ARep.mk ((S.ver + 1)) x27.a.kind x27.a.who x27.a.E x27.a.role x27.q.t x27.a.acc x27.q.p))), 42), (b14, (SRep.cells ((SRep.mk S.ver S.key q.t S.acc q.p q.s q.i q.a q.b))), 37)] w64 := hM65
     have hS67 := And.intro (hM65.forget (.cons _ (.refl _))) (((((((((hO.keep0 hK31).keepB hK36 hBk33 rfl).keepB hK40 hBk37 rfl).keep0 hK43).keep0 (Keeps.drew _)).keep0 hE49).keep0 hK55).keep0 hK60).keepB hK66 hBk63 rfl)
     refine ⟨.inr hS67, ?_⟩
     refine s_take hS67 rfl (gn rfl) rfl rfl (fun w h => r_assign rfl) ?_
     refine s_nil ?_
     refine c_seq ?_
     refine c_sr ?_
     refine l_v rfl (r_move rfl) ?_
     refine l_v rfl (r_neq (b := (!(decide (((stepS S x27.by_ ((Action.atv x27.a ((S.ver + 1))))).1 : Nat) = 0)))) rfl rfl (congrArg Bool.not (neq' ((stepS S x27.by_ ((Action.atv x27.a ((S.ver + 1))))).1) 0))) ?_
     refine l_nil ?_
     refine ways (decide (((stepS S x27.by_ ((Action.atv x27.a ((S.ver + 1))))).1 : Nat) = 0)) (fun h68 => ?_) (fun h68 => ?_)
     ·skip
      have hp69 : ((stepS S x27.by_ ((Action.atv x27.a ((S.ver + 1))))).1 : Nat) = 0 := of_decide_eq_true h68
      obtain ⟨hkOk, hadT, hkNe, hkVer, hkKey, hlenT, hlenS, hoth⟩ := plays_ok hAd hp69
      obtain ⟨hs1, hs2, hs3, hs4⟩ := hlenS
      obtain ⟨ht1, ht2, ht3, ht4⟩ := hlenT
      refine c_condF rfl (congrArg Bool.not h68) ?_
      refine c_skip ?_
      refine c_seq ?_
      refine c_sr ?_
      refine l_v rfl (r_loadA Tryz.isAgg37 Tryz.sizeOf37 (SRep.size _) rfl (hM65.base (i := 0) rfl)) ?_
      refine l_call (gn rfl) rfl rfl (r_call Tryz.call23 rfl) (f23o (S := (stepS S x27.by_ ((Action.atv x27.a ((S.ver + 1))))).2) (q := qo51) ((hO52.keep0 hK60).keepB hK66 hBk63 rfl).stv) ?_
      rintro v70 w71 ⟨rfl, hK72⟩
      have hM73 := hM65.keep hK72
      refine l_v rfl (r_not rfl) ?_
      refine l_v rfl (r_move rfl) ?_
      refine l_val (gy rfl rfl rfl rfl (congrArg Bool.not hkOk)) rfl rfl (r_loadA Tryz.isAgg37 Tryz.sizeOf37 (SRep.size _) rfl (hM73.base (i := 0) rfl)) ?_
      refine l_call (gy rfl rfl rfl rfl (congrArg Bool.not hkOk)) rfl rfl (r_call Tryz.call24 rfl) (f24 (((hO52.keep0 hK60).keepB hK66 hBk63 rfl).keep0 hK72).stv) ?_
      rintro v74 w75 ⟨rfl, hK76⟩
      have hM77 := hM73.keep hK76
      refine l_val (gy rfl rfl rfl rfl (congrArg Bool.not hkOk)) rfl rfl (r_not rfl) ?_
      refine l_v rfl (r_pickF rfl (congrArg Bool.not hkOk) rfl) ?_
      refine l_v rfl (r_move rfl) ?_
      refine l_val (gy rfl rfl rfl rfl (congrArg Bool.not hadT)) rfl rfl (r_fieldAddr SRep.fld_seats rfl) ?_
      refine l_val (gy rfl rfl rfl rfl (congrArg Bool.not hadT)) rfl rfl (r_load1 (v := Sl.val q.s) Tryz.isAgg32 rfl (Holds.sub (hM77.base (i := 2) rfl) (SRep.sub_seats _))) ?_
      refine l_val (gy rfl rfl rfl rfl (congrArg Bool.not hadT)) rfl rfl (r_lenR Tryz.underlying32 rfl (((((((((((hO.keep0 hK31).keepB hK36 hBk33 rfl).keepB hK40 hBk37 rfl).keep0 hK43).keep0 (Keeps.drew _)).keep0 hE49).keep0 hK55).keep0 hK60).keepB hK66 hBk63 rfl).keep0 hK72).keep0 hK76).stv.seats.len) ?_
      refine l_val (gy rfl rfl rfl rfl (congrArg Bool.not hadT)) rfl rfl (r_eql (b := decide ((S.seats.length : Nat) = 0)) rfl rfl (neq' S.seats.length 0)) ?_
      refine l_v rfl (r_pickF rfl (congrArg Bool.not hadT) rfl) ?_
      refine l_v rfl (r_move rfl) ?_
      refine l_val (gy rfl rfl rfl rfl hkNe) rfl rfl (r_fieldAddr SRep.fld_ver rfl) ?_
      refine l_val (gy rfl rfl rfl rfl hkNe) rfl rfl (r_load1 (v := vU32 ((stepS S x27.by_ ((Action.atv x27.a ((S.ver + 1))))).2.ver)) Tryz.isAgg22 rfl (Holds.sub (hM77.base (i := 0) rfl) (SRep.sub_ver _))) ?_
      refine l_val (gy rfl rfl rfl rfl hkNe) rfl rfl (r_fieldAddr SRep.fld_ver rfl) ?_
      refine l_val (gy rfl rfl rfl rfl hkNe) rfl rfl (r_load1 (v := vU32 S.ver) Tryz.isAgg22 rfl (Holds.sub (hM77.base (i := 2) rfl) (SRep.sub_ver _))) ?_
      refine l_val (gy rfl rfl rfl rfl hkNe) rfl rfl (r_add (r := ((S.ver + 1 : UInt32).toNat : Int)) rfl rfl (wu32 S.ver 1)) ?_
      refine l_val (gy rfl rfl rfl rfl hkNe) rfl rfl (r_neq (b := (!(decide (((stepS S x27.by_ ((Action.atv x27.a ((S.ver + 1))))).2.ver : UInt32) = (S.ver + 1))))) rfl rfl (congrArg Bool.not (u32eq ((stepS S x27.by_ ((Action.atv x27.a ((S.ver + 1))))).2.ver) ((S.ver + 1))))) ?_
      refine l_v rfl (r_pickF rfl hkNe rfl) ?_
      refine l_v rfl (r_move rfl) ?_
      refine l_val (gy rfl rfl rfl rfl (congrArg Bool.not hkVer)) rfl rfl (r_fieldAddr SRep.fld_key rfl) ?_
      refine l_val (gy rfl rfl rfl rfl (congrArg Bool.not hkVer)) rfl rfl (r_loadA Tryz.isAgg26 Tryz.sizeOf26 (Pub.size _) rfl (Holds.sub (hM77.base (i := 0) rfl) (SRep.sub_key _))) ?_
      refine l_val (gy rfl rfl rfl rfl (congrArg Bool.not hkVer)) rfl rfl (r_fieldAddr SRep.fld_key rfl) ?_
      refine l_val (gy rfl rfl rfl rfl (congrArg Bool.not hkVer)) rfl rfl (r_loadA Tryz.isAgg26 Tryz.sizeOf26 (Pub.size _) rfl (Holds.sub (hM77.base (i := 2) rfl) (SRep.sub_key _))) ?_
      refine l_val (gy rfl rfl rfl rfl (congrArg Bool.not hkVer)) rfl rfl (r_nePub rfl rfl) ?_
      refine l_v rfl (r_pickF rfl (congrArg Bool.not hkVer) rfl) ?_
      refine l_nil ?_
      refine c_condF rfl (congrArg Bool.not hkKey) ?_
      refine c_skip ?_
      refine c_seq ?_
      refine c_regD (fun w_ => Mem w [] [(g59 11, (SRep.cells ((SRep.mk ((stepS S x27.by_ ((Action.atv x27.a ((S.ver + 1))))).2.ver) ((stepS S x27.by_ ((Action.atv x27.a ((S.ver + 1))))).2.key) qo51.t ((stepS S x27.by_ ((Action.atv x27.a ((S.ver + 1))))).2.acc) qo51.p qo51.s qo51.i qo51.a qo51.b))), 37), (b28, (ARep.cells ((ARep.mk ((S.ver + 1)) x27.a.kind x27.a.who x27.a.E x27.a.role x27.q.t x27.a.acc x27.q.p))), 42), (b14, (SRep.cells ((SRep.mk S.ver S.key q.t S.acc q.p q.s q.i q.a q.b))), 37)] w_ ∧ OwnSt w.heap.size w_ q S ∧ OwnSt ((w48).heap.size) w_ qo51 ((stepS S x27.by_ ((Action.atv x27.a ((S.ver + 1))))).2)) [] [(0, true), (2, true), (1, false), (3, false), (4, false), (5, true)] (by kernel_rfl) ?_
      have hM78 := hM77.drew
      have hS80 := And.intro hM78 (And.intro ((((((((((((hO.keep0 hK31).keepB hK36 hBk33 rfl).keepB hK40 hBk37 rfl).keep0 hK43).keep0 (Keeps.drew _)).keep0 hE49).keep0 hK55).keep0 hK60).keepB hK66 hBk63 rfl).keep0 hK72).keep0 hK76).keep0 (Keeps.drew _)) (((((hO52.keep0 hK60).keepB hK66 hBk63 rfl).keep0 hK72).keep0 hK76).keep0 (Keeps.drew _)))
      refine s_take hS80 rfl (gn rfl) rfl rfl (fun w h => r_loadA Tryz.isAgg37 Tryz.sizeOf37 (SRep.size _) rfl (h.1.base (i := 2) rfl)) ?_
      refine s_take hS80 rfl (gn rfl) rfl rfl (fun w h => r_loadA Tryz.isAgg37 Tryz.sizeOf37 (SRep.size _) rfl (h.1.base (i := 0) rfl)) ?_
      have hlz900 : ∀ k ∈ q.bs, k < (w75.drew).heap.size := fun k hk => (((((((((((((hO.keep0 hK31).keepB hK36 hBk33 rfl).keepB hK40 hBk37 rfl).keep0 hK43).keep0 (Keeps.drew _)).keep0 hE49).keep0 hK55).keep0 hK60).keepB hK66 hBk63 rfl).keep0 hK72).keep0 hK76).keep0 (Keeps.drew _)).lo k hk).2
      have hlz2 : ∀ k ∈ qo51.bs, k < (w75.drew).heap.size := fun k hk => ((((((hO52.keep0 hK60).keepB hK66 hBk63 rfl).keep0 hK72).keep0 hK76).keep0 (Keeps.drew _)).lo k hk).2
      have hBsz81 : w.heap.size ≤ (w75.drew).heap.size := hM78.kp.size
      have hBlz81 : g59 11 < (w75.drew).heap.size ∧ b28 < (w75.drew).heap.size ∧ b14 < (w75.drew).heap.size := ⟨(hM78.blk (i := 0) rfl).lt, (hM78.blk (i := 1) rfl).lt, (hM78.blk (i := 2) rfl).lt⟩
      have hcl82 := ciphers_len S
      refine s_call rfl (gn rfl) rfl rfl (r_call Tryz.call25 rfl) (f25 ((((((((((((hO.keep0 hK31).keepB hK36 hBk33 rfl).keepB hK40 hBk37 rfl).keep0 hK43).keep0 (Keeps.drew _)).keep0 hE49).keep0 hK55).keep0 hK60).keepB hK66 hBk63 rfl).keep0 hK72).keep0 hK76).keep0 (Keeps.drew _)).stv (by unfold total; omega)) ?_
      rintro v83 w84 ⟨sc87, rfl, hO88, hK85⟩
      have hM86 := hM78.keep hK85
      have hS89 := And.intro hM86 (And.intro (((((((((((((hO.keep0 hK31).keepB hK36 hBk33 rfl).keepB hK40 hBk37 rfl).keep0 hK43).keep0 (Keeps.drew _)).keep0 hE49).keep0 hK55).keep0 hK60).keepB hK66 hBk63 rfl).keep0 hK72).keep0 hK76).keep0 (Keeps.drew _)).keep0 hK85) ((((((hO52.keep0 hK60).keepB hK66 hBk63 rfl).keep0 hK72).keep0 hK76).keep0 (Keeps.drew _)).keep0 hK85))
      refine ⟨.inr hS89, ?_⟩
      have hcl90 := ciphers_len ((stepS S x27.by_ ((Action.atv x27.a ((S.ver + 1))))).2)
      refine s_call rfl (gn rfl) rfl rfl (r_call Tryz.call25 rfl) (f25 ((((((hO52.keep0 hK60).keepB hK66 hBk63 rfl).keep0 hK72).keep0 hK76).keep0 (Keeps.drew _)).keep0 hK85).stv (by unfold total; omega)) ?_
      rintro v91 w92 ⟨sc95, rfl, hO96, hK93⟩
      have hM94 := hM86.keep hK93
      have hS97 := And.intro hM94 (And.intro ((((((((((((((hO.keep0 hK31).keepB hK36 hBk33 rfl).keepB hK40 hBk37 rfl).keep0 hK43).keep0 (Keeps.drew _)).keep0 hE49).keep0 hK55).keep0 hK60).keepB hK66 hBk63 rfl).keep0 hK72).keep0 hK76).keep0 (Keeps.drew _)).keep0 hK85).keep0 hK93) (((((((hO52.keep0 hK60).keepB hK66 hBk63 rfl).keep0 hK72).keep0 hK76).keep0 (Keeps.drew _)).keep0 hK85).keep0 hK93))
      refine ⟨.inr hS97, ?_⟩
      refine s_append (l := (ciphers S)) (m := (ciphers ((stepS S x27.by_ ((Action.atv x27.a ((S.ver + 1))))).2))) (s := sc87) (s2 := sc95) (enc := Cipher.cells) rfl hM94 elCipher enCipher rfl (gn rfl) rfl rfl (hO88.keep0 hK93) (hO96.row enCipher) (by omega) (by have := hK85.size; have := hK93.size; omega) hBsz81 (by simpa using hBlz81) ?_
      intro sa98 w99 Y100 hM101 hK102 hY103 hO104
      have hS105 := And.intro hM101 (And.intro (((((((((((((((hO.keep0 hK31).keepB hK36 hBk33 rfl).keepB hK40 hBk37 rfl).keep0 hK43).keep0 (Keeps.drew _)).keep0 hE49).keep0 hK55).keep0 hK60).keepB hK66 hBk63 rfl).keep0 hK72).keep0 hK76).keep0 (Keeps.drew _)).keep0 hK85).keep0 hK93).keepX hK102 (fun y hy hm => by have := hY103 y hy; have := hlz900 y hm; omega)) ((((((((hO52.keep0 hK60).keepB hK66 hBk63 rfl).keep0 hK72).keep0 hK76).keep0 (Keeps.drew _)).keep0 hK85).keep0 hK93).keepX hK102 (fun y hy hm => by have := hY103 y hy; have := hlz2 y hm; omega)))
      refine ⟨.inr hS105, ?_⟩
      refine s_take hS105 rfl (gn rfl) rfl rfl (fun w h => r_assign rfl) ?_
      refine s_nil ?_
      refine c_seq ?_
      refine c_sr ?_
      refine l_v rfl (r_assign rfl) ?_
      refine l_nil ?_
      refine c_block ?_
      refine c_loop (ι := Nat) (fun k w_ => Mem w [] [(g59 11, (SRep.cells ((SRep.mk ((stepS S x27.by_ ((Action.atv x27.a ((S.ver + 1))))).2.ver) ((stepS S x27.by_ ((Action.atv x27.a ((S.ver + 1))))).2.key) qo51.t ((stepS S x27.by_ ((Action.atv x27.a ((S.ver + 1))))).2.acc) qo51.p qo51.s qo51.i qo51.a qo51.b))), 37), (b28, (ARep.cells ((ARep.mk ((S.ver + 1)) x27.a.kind x27.a.who x27.a.E x27.a.role x27.q.t x27.a.acc x27.q.p))), 42), (b14, (SRep.cells ((SRep.mk S.ver S.key q.t S.acc q.p q.s q.i q.a q.b))), 37)] w_ ∧ ((k ≤ ((ciphers S) ++ (ciphers ((stepS S x27.by_ ((Action.atv x27.a ((S.ver + 1))))).2))).length ∧ True) ∧ OwnSt w.heap.size w_ q S ∧ OwnSt ((w48).heap.size) w_ qo51 ((stepS S x27.by_ ((Action.atv x27.a ((S.ver + 1))))).2) ∧ Own ((w75.drew).heap.size) 40 w_ sa98 64 Cipher.cells ((ciphers S) ++ (ciphers ((stepS S x27.by_ ((Action.atv x27.a ((S.ver + 1))))).2))))) (fun k => [(0, Sl.val s0), (20, Value.bool (decide ((150 : Nat) < l.length))), (3, Value.pointer (some ⟨b14, 0, none⟩)), (4, Value.bool true), (27, Value.bool false), (5, Value.int .i64 ((i : Nat) : Int)), (31, Value.bool (decide ((i : Nat) < l.length))), (6, Value.pointer (some ⟨b28, 0, none⟩)), (45, Value.bool (largeB S (Action.atv x27.a ((S.ver + 1))))), (7, Value.pointer (some ⟨g59 11, 0, none⟩)), (8, Value.int .i64 (((stepS S x27.by_ ((Action.atv x27.a ((S.ver + 1))))).1 : Nat) : Int)), (58, Value.bool ((!(decide (((stepS S x27.by_ ((Action.atv x27.a ((S.ver + 1))))).1 : Nat) = 0))))), (91, Value.bool ((!(decide ((stepS S x27.by_ ((Action.atv x27.a ((S.ver + 1))))).2.key = S.key))))), (9, Sl.val sa98), (10, Value.int .i64 ((k : Nat) : Int))]) (fun k => ((ciphers S) ++ (ciphers ((stepS S x27.by_ ((Action.atv x27.a ((S.ver + 1))))).2))).length - k) 0 ⟨hM101, ⟨Nat.zero_le _, trivial⟩, (((((((((((((((hO.keep0 hK31).keepB hK36 hBk33 rfl).keepB hK40 hBk37 rfl).keep0 hK43).keep0 (Keeps.drew _)).keep0 hE49).keep0 hK55).keep0 hK60).keepB hK66 hBk63 rfl).keep0 hK72).keep0 hK76).keep0 (Keeps.drew _)).keep0 hK85).keep0 hK93).keepX hK102 (fun y hy hm => by have := hY103 y hy; have := hlz900 y hm; omega)), ((((((((hO52.keep0 hK60).keepB hK66 hBk63 rfl).keep0 hK72).keep0 hK76).keep0 (Keeps.drew _)).keep0 hK85).keep0 hK93).keepX hK102 (fun y hy hm => by have := hY103 y hy; have := hlz2 y hm; omega)), hO104⟩ ⟨rfl, rfl, rfl, rfl, rfl, rfl, rfl, rfl, rfl, rfl, rfl, rfl, rfl, rfl, rfl, trivial⟩ ?_
      rintro k w109 ⟨hM110, ⟨hkl, _⟩, hF106, hF107, hF108⟩
      have hal : ((ciphers S) ++ (ciphers ((stepS S x27.by_ ((Action.atv x27.a ((S.ver + 1))))).2))).length = _ := List.length_append
      refine c_seq ?_
      refine c_sr ?_
      refine l_v rfl (r_move rfl) ?_
      refine l_v rfl (r_move rfl) ?_
      refine l_v rfl (r_lenR Tryz.underlying63 rfl (hF108.row enCipher).len) ?_
      refine l_v rfl (r_lss (b := decide ((k : Nat) < (((ciphers S) ++ (ciphers ((stepS S x27.by_ ((Action.atv x27.a ((S.ver + 1))))).2)))).length)) rfl rfl (nlt k ((((ciphers S) ++ (ciphers ((stepS S x27.by_ ((Action.atv x27.a ((S.ver + 1))))).2)))).length))) ?_
      refine l_nil ?_
      refine ways (decide ((k : Nat) < (((ciphers S) ++ (ciphers ((stepS S x27.by_ ((Action.atv x27.a ((S.ver + 1))))).2)))).length)) (fun h111 => ?_) (fun h111 => ?_)
      ·skip
       have hp112 : (k : Nat) < (((ciphers S) ++ (ciphers ((stepS S x27.by_ ((Action.atv x27.a ((S.ver + 1))))).2)))).length := of_decide_eq_true h111
       refine c_condT rfl h111 ?_
       refine c_skip ?_
       refine c_seq ?_
       refine c_block ?_
       refine c_sr ?_
       refine l_v rfl (r_move rfl) ?_
       refine l_v rfl (r_move rfl) ?_
       have hlt113 : k < (((ciphers S) ++ (ciphers ((stepS S x27.by_ ((Action.atv x27.a ((S.ver + 1))))).2)))).length := by first | assumption | omega
       obtain ⟨x113, hx113⟩ : ∃ x, (((ciphers S) ++ (ciphers ((stepS S x27.by_ ((Action.atv x27.a ((S.ver + 1))))).2))))[k]? = some x := ⟨_, List.getElem?_eq_getElem hlt113⟩
       obtain ⟨p113, o113, ha113, hA113, -⟩ := (hF108.row enCipher).at_ _ _ hx113
       refine l_v rfl (r_indexR Tryz.underlying63 Tryz.sizeOf40 ⟨_, (hF108.row enCipher)⟩ rfl ha113 rfl hlt113) ?_
       refine l_v rfl (r_fieldAddr Cipher.fld_E rfl) ?_
       refine l_v rfl (r_loadA Tryz.isAgg24 Tryz.sizeOf24 (Pt.size _) rfl (Holds.sub ((hF108.row enCipher).ix hx113 ha113) (Cipher.sub_E _))) ?_
       refine l_alloc hM110 rfl zv_Pt ?_
       intro b114 w115 hM116 hK117 hB118
       replace hM116 : Mem w [] [(b114, (Pt.cells Pt.zero), 24), (g59 11, (SRep.cells ((SRep.mk ((stepS S x27.by_ ((Action.atv x27.a ((S.ver + 1))))).2.ver) ((stepS S x27.by_ ((Action.atv x27.a ((S.ver + 1))))).2.key) qo51.t ((stepS S x27.by_ ((Action.atv x27.a ((S.ver + 1))))).2.acc) qo51.p qo51.s qo51.i qo51.a qo51.b))), 37), (b28, (ARep.cells ((ARep.mk ((S.ver + 1)) x27.a.kind x27.a.who x27.a.E x27.a.role x27.q.t x27.a.acc x27.q.p))), 42), (b14, (SRep.cells ((SRep.mk S.ver S.key q.t S.acc q.p q.s q.i q.a q.b))), 37)] w115 := hM116
       have hBk119 := hM116.blk (i := 0) rfl
       refine l_store hM116 (i := 0) rfl Tryz.sizeOf24 rfl rfl (Pt.size _) (by rw [Pt.size]; decide) (Pt.one _) (put_whole _ _ ((Pt.size _).trans (Pt.size _).symm)) ?_
       intro w120 hM121 hK122
       replace hM121 : Mem w [] [(b114, (Pt.cells x113.E), 24), (g59 11, (SRep.cells ((SRep.mk ((stepS S x27.by_ ((Action.atv x27.a ((S.ver + 1))))).2.ver) ((stepS S x27.by_ ((Action.atv x27.a ((S.ver + 1))))).2.key) qo51.t ((stepS S x27.by_ ((Action.atv x27.a ((S.ver + 1))))).2.acc) qo51.p qo51.s qo51.i qo51.a qo51.b))), 37), (b28, (ARep.cells ((ARep.mk ((S.ver + 1)) x27.a.kind x27.a.who x27.a.E x27.a.role x27.q.t x27.a.acc x27.q.p))), 42), (b14, (SRep.cells ((SRep.mk S.ver S.key q.t S.acc q.p q.s q.i q.a q.b))), 37)] w120 := hM121
       refine l_nil ?_
       refine c_seq ?_
       refine c_seq ?_
       refine c_regD (fun w_ => Mem w [] [(b114, (Pt.cells x113.E), 24), (g59 11, (SRep.cells ((SRep.mk ((stepS S x27.by_ ((Action.atv x27.a ((S.ver + 1))))).2.ver) ((stepS S x27.by_ ((Action.atv x27.a ((S.ver + 1))))).2.key) qo51.t ((stepS S x27.by_ ((Action.atv x27.a ((S.ver + 1))))).2.acc) qo51.p qo51.s qo51.i qo51.a qo51.b))), 37), (b28, (ARep.cells ((ARep.mk ((S.ver + 1)) x27.a.kind x27.a.who x27.a.E x27.a.role x27.q.t x27.a.acc x27.q.p))), 42), (b14, (SRep.cells ((SRep.mk S.ver S.key q.t S.acc q.p q.s q.i q.a q.b))), 37)] w_ ∧ OwnSt w.heap.size w_ q S ∧ OwnSt ((w48).heap.size) w_ qo51 ((stepS S x27.by_ ((Action.atv x27.a ((S.ver + 1))))).2) ∧ Own ((w75.drew).heap.size) 40 w_ sa98 64 Cipher.cells ((ciphers S) ++ (ciphers ((stepS S x27.by_ ((Action.atv x27.a ((S.ver + 1))))).2)))) [] [(0, true), (1, true), (2, true), (3, true), (4, true), (5, true), (6, true), (7, true), (8, true), (9, true), (10, true), (11, true), (12, true), (13, true), (14, true), (15, true), (16, true), (17, true), (18, true), (19, true)] (by kernel_rfl) ?_
       have hM123 := hM121.drew
       have hS125 := And.intro hM123 (And.intro (((hF106.keep0 hK117).keepB hK122 hBk119 rfl).keep0 (Keeps.drew _)) (And.intro (((hF107.keep0 hK117).keepB hK122 hBk119 rfl).keep0 (Keeps.drew _)) (((hF108.keep0 hK117).keep hK122 (fun y hy => by simp only [List.mem_cons, List.not_mem_nil, or_false] at hy; subst hy; exact (hF108.keep0 hK117).notin hBk119 (by decide))).keep0 (Keeps.drew _))))
       refine s_take hS125 rfl (gn rfl) rfl rfl (fun w h => r_loadA Tryz.isAgg24 Tryz.sizeOf24 (Pt.size _) rfl (h.1.base (i := 0) rfl)) ?_
       refine s_take hS125 rfl (gn rfl) rfl rfl (fun w h => r_move rfl) ?_
       refine s_take hS125 rfl (gn rfl) rfl rfl (fun w h => r_move rfl) ?_
       refine s_take hS125 rfl (gn rfl) rfl rfl (fun w h => r_indexR Tryz.underlying57 Tryz.sizeOf61 ⟨_, (hl.keep0 h.1.kp)⟩ rfl ha27 rfl hlt27) ?_
       refine s_take hS125 rfl (gn rfl) rfl rfl (fun w h => r_fieldAddr Mv.fld_by_ rfl) ?_
       refine s_take hS125 rfl (gn rfl) rfl rfl (fun w h => r_loadA Tryz.isAgg24 Tryz.sizeOf24 (Pt.size _) rfl (Holds.sub ((hl.keep0 h.1.kp).ix hx27 ha27) (Mv.sub_by_ _))) ?_
       refine s_take hS125 rfl (gn rfl) rfl rfl (fun w h => r_eqPt Tryz.eqGuardType24 Tryz.underlying24 rfl rfl) ?_
       refine s_take hS125 rfl (gn rfl) rfl rfl (fun w h => r_move rfl) ?_
       refine ways (decide (x113.E = x27.by_)) (fun h126 => ?_) (fun h126 => ?_)
       ·skip
        have hp127 : x113.E = x27.by_ := of_decide_eq_true h126
        refine s_off hS125 rfl (gno rfl rfl rfl rfl h126) rfl rfl ?_
        refine s_off hS125 rfl (gno rfl rfl rfl rfl h126) rfl rfl ?_
        refine s_off hS125 rfl (gno rfl rfl rfl rfl h126) rfl rfl ?_
        refine s_off hS125 rfl (gno rfl rfl rfl rfl h126) rfl rfl ?_
        refine s_take hS125 rfl (gn rfl) rfl rfl (fun w h => r_pickT rfl h126 rfl) ?_
        refine s_take hS125 rfl (gn rfl) rfl rfl (fun w h => r_move rfl) ?_
        refine s_off hS125 rfl (gno rfl rfl rfl rfl rfl) rfl rfl ?_
        refine s_off hS125 rfl (gno rfl rfl rfl rfl rfl) rfl rfl ?_
        refine s_off hS125 rfl (gno rfl rfl rfl rfl rfl) rfl rfl ?_
        refine s_off hS125 rfl (gno rfl rfl rfl rfl rfl) rfl rfl ?_
        refine s_off hS125 rfl (gno rfl rfl rfl rfl rfl) rfl rfl ?_
        refine s_take hS125 rfl (gn rfl) rfl rfl (fun w h => r_pickT rfl rfl rfl) ?_
        refine s_nil ?_
        refine c_condT rfl rfl ?_
        refine c_exit rfl ?_
        refine c_reg ?_
        refine l_v rfl (r_move rfl) ?_
        refine l_v rfl (r_add (r := ((k + 1 : Nat) : Int)) rfl rfl (nadd (i := k) (k := 1) (m := k + 1) (by omega) (by omega))) ?_
        refine l_v rfl (r_assign rfl) ?_
        refine l_nil ?_
        intro a_ ha_
        refine ⟨k + 1, ⟨(hM123.forget (.cons _ (.refl _))), ?_, (((hF106.keep0 hK117).keepB hK122 hBk119 rfl).keep0 (Keeps.drew _)), (((hF107.keep0 hK117).keepB hK122 hBk119 rfl).keep0 (Keeps.drew _)), (((hF108.keep0 hK117).keep hK122 (fun y hy => by simp only [List.mem_cons, List.not_mem_nil, or_false] at hy; subst hy; exact (hF108.keep0 hK117).notin hBk119 (by decide))).keep0 (Keeps.drew _))⟩, by omega, ha_.sub ⟨rfl, rfl, rfl, rfl, rfl, rfl, rfl, rfl, rfl, rfl, rfl, rfl, rfl, rfl, rfl, trivial⟩⟩
        exact ⟨by omega, trivial⟩
       ·skip
        have hp128 : ¬ (x113.E = x27.by_) := of_decide_eq_false h126
        refine s_take hS125 rfl (gy rfl rfl rfl rfl h126) rfl rfl (fun w h => r_loadA Tryz.isAgg24 Tryz.sizeOf24 (Pt.size _) rfl (h.1.base (i := 0) rfl)) ?_
        refine s_take hS125 rfl (gy rfl rfl rfl rfl h126) rfl rfl (fun w h => r_fieldAddr ARep.fld_E rfl) ?_
        refine s_take hS125 rfl (gy rfl rfl rfl rfl h126) rfl rfl (fun w h => r_loadA Tryz.isAgg24 Tryz.sizeOf24 (Pt.size _) rfl (Holds.sub (h.1.base (i := 2) rfl) (ARep.sub_E _))) ?_
        refine s_take hS125 rfl (gy rfl rfl rfl rfl h126) rfl rfl (fun w h => r_eqPt Tryz.eqGuardType24 Tryz.underlying24 rfl rfl) ?_
        refine s_take hS125 rfl (gn rfl) rfl rfl (fun w h => r_pickF rfl h126 rfl) ?_
        refine s_take hS125 rfl (gn rfl) rfl rfl (fun w h => r_move rfl) ?_
        refine ways (decide (x113.E = x27.a.E)) (fun h129 => ?_) (fun h129 => ?_)
        ·skip
         have hp130 : x113.E = x27.a.E := of_decide_eq_true h129
         refine s_off hS125 rfl (gno rfl rfl rfl rfl h129) rfl rfl ?_
         refine s_off hS125 rfl (gno rfl rfl rfl rfl h129) rfl rfl ?_
         refine s_off hS125 rfl (gno rfl rfl rfl rfl h129) rfl rfl ?_
         refine s_off hS125 rfl (gno rfl rfl rfl rfl h129) rfl rfl ?_
         refine s_off hS125 rfl (gno rfl rfl rfl rfl h129) rfl rfl ?_
         refine s_take hS125 rfl (gn rfl) rfl rfl (fun w h => r_pickT rfl h129 rfl) ?_
         refine s_nil ?_
         refine c_condT rfl rfl ?_
         refine c_exit rfl ?_
         refine c_reg ?_
         refine l_v rfl (r_move rfl) ?_
         refine l_v rfl (r_add (r := ((k + 1 : Nat) : Int)) rfl rfl (nadd (i := k) (k := 1) (m := k + 1) (by omega) (by omega))) ?_
         refine l_v rfl (r_assign rfl) ?_
         refine l_nil ?_
         intro a_ ha_
         refine ⟨k + 1, ⟨(hM123.forget (.cons _ (.refl _))), ?_, (((hF106.keep0 hK117).keepB hK122 hBk119 rfl).keep0 (Keeps.drew _)), (((hF107.keep0 hK117).keepB hK122 hBk119 rfl).keep0 (Keeps.drew _)), (((hF108.keep0 hK117).keep hK122 (fun y hy => by simp only [List.mem_cons, List.not_mem_nil, or_false] at hy; subst hy; exact (hF108.keep0 hK117).notin hBk119 (by decide))).keep0 (Keeps.drew _))⟩, by omega, ha_.sub ⟨rfl, rfl, rfl, rfl, rfl, rfl, rfl, rfl, rfl, rfl, rfl, rfl, rfl, rfl, rfl, trivial⟩⟩
         exact ⟨by omega, trivial⟩
        ·skip
         have hp131 : ¬ (x113.E = x27.a.E) := of_decide_eq_false h129
         refine s_take hS125 rfl (gy rfl rfl rfl rfl h129) rfl rfl (fun w h => r_loadA Tryz.isAgg24 Tryz.sizeOf24 (Pt.size _) rfl (h.1.base (i := 0) rfl)) ?_
         refine s_take hS125 rfl (gy rfl rfl rfl rfl h129) rfl rfl (fun w h => r_fieldAddr ARep.fld_who rfl) ?_
         refine s_take hS125 rfl (gy rfl rfl rfl rfl h129) rfl rfl (fun w h => r_fieldAddr Cipher.fld_E rfl) ?_
         refine s_take hS125 rfl (gy rfl rfl rfl rfl h129) rfl rfl (fun w h => r_loadA Tryz.isAgg24 Tryz.sizeOf24 (Pt.size _) rfl (Holds.sub (Holds.sub (h.1.base (i := 2) rfl) (ARep.sub_who _)) (Cipher.sub_E _))) ?_
         refine s_take hS125 rfl (gy rfl rfl rfl rfl h129) rfl rfl (fun w h => r_eqPt Tryz.eqGuardType24 Tryz.underlying24 rfl rfl) ?_
         refine s_take hS125 rfl (gn rfl) rfl rfl (fun w h => r_pickF rfl h129 rfl) ?_
         refine s_nil ?_
         refine ways (decide (x113.E = x27.a.who.E)) (fun h132 => ?_) (fun h132 => ?_)
         ·skip
          have hp133 : x113.E = x27.a.who.E := of_decide_eq_true h132
          refine c_condT rfl h132 ?_
          refine c_exit rfl ?_
          refine c_reg ?_
          refine l_v rfl (r_move rfl) ?_
          refine l_v rfl (r_add (r := ((k + 1 : Nat) : Int)) rfl rfl (nadd (i := k) (k := 1) (m := k + 1) (by omega) (by omega))) ?_
          refine l_v rfl (r_assign rfl) ?_
          refine l_nil ?_
          intro a_ ha_
          refine ⟨k + 1, ⟨(hM123.forget (.cons _ (.refl _))), ?_, (((hF106.keep0 hK117).keepB hK122 hBk119 rfl).keep0 (Keeps.drew _)), (((hF107.keep0 hK117).keepB hK122 hBk119 rfl).keep0 (Keeps.drew _)), (((hF108.keep0 hK117).keep hK122 (fun y hy => by simp only [List.mem_cons, List.not_mem_nil, or_false] at hy; subst hy; exact (hF108.keep0 hK117).notin hBk119 (by decide))).keep0 (Keeps.drew _))⟩, by omega, ha_.sub ⟨rfl, rfl, rfl, rfl, rfl, rfl, rfl, rfl, rfl, rfl, rfl, rfl, rfl, rfl, rfl, trivial⟩⟩
          exact ⟨by omega, trivial⟩
         ·skip
          have hp134 : ¬ (x113.E = x27.a.who.E) := of_decide_eq_false h132
          have hpl := hoth _ (of_decide_eq_false h126) (of_decide_eq_false h129) hp134
          have hpl1 : decide (((placeOf S x113.E).1 : Nat) = (placeOf (stepS S x27.by_ ((Action.atv x27.a ((S.ver + 1))))).2 x113.E).1) = true := decide_eq_true (congrArg (fun p => p.1) hpl)
          have hpl2 : decide (((placeOf S x113.E).2.1 : Nat) = (placeOf (stepS S x27.by_ ((Action.atv x27.a ((S.ver + 1))))).2 x113.E).2.1) = true := decide_eq_true (congrArg (fun p => p.2.1) hpl)
          have hpl3 : decide ((placeOf S x113.E).2.2 = (placeOf (stepS S x27.by_ ((Action.atv x27.a ((S.ver + 1))))).2 x113.E).2.2) = true := decide_eq_true (congrArg (fun p => p.2.2) hpl)
          refine c_condF rfl h132 ?_
          refine c_skip ?_
          refine c_sr ?_
          refine l_v rfl (r_loadA Tryz.isAgg37 Tryz.sizeOf37 (SRep.size _) rfl (hM123.base (i := 3) rfl)) ?_
          refine l_v rfl (r_loadA Tryz.isAgg24 Tryz.sizeOf24 (Pt.size _) rfl (hM123.base (i := 0) rfl)) ?_
          refine l_call (gn rfl) rfl rfl (r_call Tryz.call26 rfl) (f26 (((hF106.keep0 hK117).keepB hK122 hBk119 rfl).keep0 (Keeps.drew _)).stv x113.E) ?_
          rintro v135 w136 ⟨rfl, hK137⟩
          have hM138 := hM123.keep hK137
          refine l_v rfl (r_move rfl) ?_
          refine l_v rfl (r_extract rfl rfl) ?_
          refine l_v rfl (r_extract rfl rfl) ?_
          refine l_v rfl (r_extract rfl rfl) ?_
          refine l_alloc hM138 rfl zv_Pt ?_
          intro b139 w140 hM141 hK142 hB143
          replace hM141 : Mem w [] [(b139, (Pt.cells Pt.zero), 24), (b114, (Pt.cells x113.E), 24), (g59 11, (SRep.cells ((SRep.mk ((stepS S x27.by_ ((Action.atv x27.a ((S.ver + 1))))).2.ver) ((stepS S x27.by_ ((Action.atv x27.a ((S.ver + 1))))).2.key) qo51.t ((stepS S x27.by_ ((Action.atv x27.a ((S.ver + 1))))).2.acc) qo51.p qo51.s qo51.i qo51.a qo51.b))), 37), (b28, (ARep.cells ((ARep.mk ((S.ver + 1)) x27.a.kind x27.a.who x27.a.E x27.a.role x27.q.t x27.a.acc x27.q.p))), 42), (b14, (SRep.cells ((SRep.mk S.ver S.key q.t S.acc q.p q.s q.i q.a q.b))), 37)] w140 := hM141
          refine l_v rfl (r_assign rfl) ?_
          refine l_v rfl (r_assign rfl) ?_
          have hBk144 := hM141.blk (i := 0) rfl
          refine l_store hM141 (i := 0) rfl Tryz.sizeOf24 rfl rfl (Pt.size _) (by rw [Pt.size]; decide) (Pt.one _) (put_whole _ _ ((Pt.size _).trans (Pt.size _).symm)) ?_
          intro w145 hM146 hK147
          replace hM146 : Mem w [] [(b139, (Pt.cells ((placeOf S x113.E).2.2)), 24), (b114, (Pt.cells x113.E), 24), (g59 11, (SRep.cells ((SRep.mk ((stepS S x27.by_ ((Action.atv x27.a ((S.ver + 1))))).2.ver) ((stepS S x27.by_ ((Action.atv x27.a ((S.ver + 1))))).2.key) qo51.t ((stepS S x27.by_ ((Action.atv x27.a ((S.ver + 1))))).2.acc) qo51.p qo51.s qo51.i qo51.a qo51.b))), 37), (b28, (ARep.cells ((ARep.mk ((S.ver + 1)) x27.a.kind x27.a.who x27.a.E x27.a.role x27.q.t x27.a.acc x27.q.p))), 42), (b14, (SRep.cells ((SRep.mk S.ver S.key q.t S.acc q.p q.s q.i q.a q.b))), 37)] w145 := hM146
          refine l_nil ?_
          refine c_sr ?_
          refine l_v rfl (r_loadA Tryz.isAgg37 Tryz.sizeOf37 (SRep.size _) rfl (hM146.base (i := 2) rfl)) ?_
          refine l_v rfl (r_loadA Tryz.isAgg24 Tryz.sizeOf24 (Pt.size _) rfl (hM146.base (i := 1) rfl)) ?_
          refine l_call (gn rfl) rfl rfl (r_call Tryz.call26 rfl) (f26 ((((((hF107.keep0 hK117).keepB hK122 hBk119 rfl).keep0 (Keeps.drew _)).keep0 hK137).keep0 hK142).keepB hK147 hBk144 rfl).stv x113.E) ?_
          rintro v148 w149 ⟨rfl, hK150⟩
          have hM151 := hM146.keep hK150
          refine l_v rfl (r_move rfl) ?_
          refine l_v rfl (r_extract rfl rfl) ?_
          refine l_v rfl (r_extract rfl rfl) ?_
          refine l_v rfl (r_extract rfl rfl) ?_
          refine l_alloc hM151 rfl zv_Pt ?_
          intro b152 w153 hM154 hK155 hB156
          replace hM154 : Mem w [] [(b152, (Pt.cells Pt.zero), 24), (b139, (Pt.cells ((placeOf S x113.E).2.2)), 24), (b114, (Pt.cells x113.E), 24), (g59 11, (SRep.cells ((SRep.mk ((stepS S x27.by_ ((Action.atv x27.a ((S.ver + 1))))).2.ver) ((stepS S x27.by_ ((Action.atv x27.a ((S.ver + 1))))).2.key) qo51.t ((stepS S x27.by_ ((Action.atv x27.a ((S.ver + 1))))).2.acc) qo51.p qo51.s qo51.i qo51.a qo51.b))), 37), (b28, (ARep.cells ((ARep.mk ((S.ver + 1)) x27.a.kind x27.a.who x27.a.E x27.a.role x27.q.t x27.a.acc x27.q.p))), 42), (b14, (SRep.cells ((SRep.mk S.ver S.key q.t S.acc q.p q.s q.i q.a q.b))), 37)] w153 := hM154
          refine l_v rfl (r_assign rfl) ?_
          refine l_v rfl (r_assign rfl) ?_
          have hBk157 := hM154.blk (i := 0) rfl
          refine l_store hM154 (i := 0) rfl Tryz.sizeOf24 rfl rfl (Pt.size _) (by rw [Pt.size]; decide) (Pt.one _) (put_whole _ _ ((Pt.size _).trans (Pt.size _).symm)) ?_
          intro w158 hM159 hK160
          replace hM159 : Mem w [] [(b152, (Pt.cells ((placeOf (stepS S x27.by_ ((Action.atv x27.a ((S.ver + 1))))).2 x113.E).2.2)), 24), (b139, (Pt.cells ((placeOf S x113.E).2.2)), 24), (b114, (Pt.cells x113.E), 24), (g59 11, (SRep.cells ((SRep.mk ((stepS S x27.by_ ((Action.atv x27.a ((S.ver + 1))))).2.ver) ((stepS S x27.by_ ((Action.atv x27.a ((S.ver + 1))))).2.key) qo51.t ((stepS S x27.by_ ((Action.atv x27.a ((S.ver + 1))))).2.acc) qo51.p qo51.s qo51.i qo51.a qo51.b))), 37), (b28, (ARep.cells ((ARep.mk ((S.ver + 1)) x27.a.kind x27.a.who x27.a.E x27.a.role x27.q.t x27.a.acc x27.q.p))), 42), (b14, (SRep.cells ((SRep.mk S.ver S.key q.t S.acc q.p q.s q.i q.a q.b))), 37)] w158 := hM159
          refine l_nil ?_
          refine c_sr ?_
          refine l_v rfl (r_move rfl) ?_
          refine l_v rfl (r_move rfl) ?_
          refine l_v rfl (r_neq (b := (!(decide (((placeOf S x113.E).1 : Nat) = (placeOf (stepS S x27.by_ ((Action.atv x27.a ((S.ver + 1))))).2 x113.E).1)))) rfl rfl (congrArg Bool.not (neq' ((placeOf S x113.E).1) ((placeOf (stepS S x27.by_ ((Action.atv x27.a ((S.ver + 1))))).2 x113.E).1)))) ?_
          refine l_v rfl (r_move rfl) ?_
          refine l_val (gy rfl rfl rfl rfl (congrArg Bool.not hpl1)) rfl rfl (r_move rfl) ?_
          refine l_val (gy rfl rfl rfl rfl (congrArg Bool.not hpl1)) rfl rfl (r_move rfl) ?_
          refine l_val (gy rfl rfl rfl rfl (congrArg Bool.not hpl1)) rfl rfl (r_neq (b := (!(decide (((placeOf S x113.E).2.1 : Nat) = (placeOf (stepS S x27.by_ ((Action.atv x27.a ((S.ver + 1))))).2 x113.E).2.1)))) rfl rfl (congrArg Bool.not (neq' ((placeOf S x113.E).2.1) ((placeOf (stepS S x27.by_ ((Action.atv x27.a ((S.ver + 1))))).2 x113.E).2.1)))) ?_
          refine l_v rfl (r_pickF rfl (congrArg Bool.not hpl1) rfl) ?_
          refine l_v rfl (r_move rfl) ?_
          refine l_val (gy rfl rfl rfl rfl (congrArg Bool.not hpl2)) rfl rfl (r_loadA Tryz.isAgg24 Tryz.sizeOf24 (Pt.size _) rfl (hM159.base (i := 1) rfl)) ?_
          refine l_val (gy rfl rfl rfl rfl (congrArg Bool.not hpl2)) rfl rfl (r_loadA Tryz.isAgg24 Tryz.sizeOf24 (Pt.size _) rfl (hM159.base (i := 0) rfl)) ?_
          refine l_val (gy rfl rfl rfl rfl (congrArg Bool.not hpl2)) rfl rfl (r_nePt Tryz.eqGuardType24 Tryz.underlying24 rfl rfl) ?_
          refine l_v rfl (r_pickF rfl (congrArg Bool.not hpl2) rfl) ?_
          refine l_nil ?_
          refine c_condF rfl (congrArg Bool.not hpl3) ?_
          refine c_skip ?_
          refine c_reg ?_
          refine l_v rfl (r_move rfl) ?_
          refine l_v rfl (r_add (r := ((k + 1 : Nat) : Int)) rfl rfl (nadd (i := k) (k := 1) (m := k + 1) (by omega) (by omega))) ?_
          refine l_v rfl (r_assign rfl) ?_
          refine l_nil ?_
          intro a_ ha_
          refine ⟨k + 1, ⟨(hM159.forget (.cons _ (.cons _ (.cons _ (.refl _))))), ?_, (((((((((hF106.keep0 hK117).keepB hK122 hBk119 rfl).keep0 (Keeps.drew _)).keep0 hK137).keep0 hK142).keepB hK147 hBk144 rfl).keep0 hK150).keep0 hK155).keepB hK160 hBk157 rfl), (((((((((hF107.keep0 hK117).keepB hK122 hBk119 rfl).keep0 (Keeps.drew _)).keep0 hK137).keep0 hK142).keepB hK147 hBk144 rfl).keep0 hK150).keep0 hK155).keepB hK160 hBk157 rfl), (((((((((hF108.keep0 hK117).keep hK122 (fun y hy => by simp only [List.mem_cons, List.not_mem_nil, or_false] at hy; subst hy; exact (hF108.keep0 hK117).notin hBk119 (by decide))).keep0 (Keeps.drew _)).keep0 hK137).keep0 hK142).keep hK147 (fun y hy => by simp only [List.mem_cons, List.not_mem_nil, or_false] at hy; subst hy; exact (((((hF108.keep0 hK117).keep hK122 (fun y hy => by simp only [List.mem_cons, List.not_mem_nil, or_false] at hy; subst hy; exact (hF108.keep0 hK117).notin hBk119 (by decide))).keep0 (Keeps.drew _)).keep0 hK137).keep0 hK142).notin hBk144 (by decide))).keep0 hK150).keep0 hK155).keep hK160 (fun y hy => by simp only [List.mem_cons, List.not_mem_nil, or_false] at hy; subst hy; exact ((((((((hF108.keep0 hK117).keep hK122 (fun y hy => by simp only [List.mem_cons, List.not_mem_nil, or_false] at hy; subst hy; exact (hF108.keep0 hK117).notin hBk119 (by decide))).keep0 (Keeps.drew _)).keep0 hK137).keep0 hK142).keep hK147 (fun y hy => by simp only [List.mem_cons, List.not_mem_nil, or_false] at hy; subst hy; exact (((((hF108.keep0 hK117).keep hK122 (fun y hy => by simp only [List.mem_cons, List.not_mem_nil, or_false] at hy; subst hy; exact (hF108.keep0 hK117).notin hBk119 (by decide))).keep0 (Keeps.drew _)).keep0 hK137).keep0 hK142).notin hBk144 (by decide))).keep0 hK150).keep0 hK155).notin hBk157 (by decide)))⟩, by omega, ha_.sub ⟨rfl, rfl, rfl, rfl, rfl, rfl, rfl, rfl, rfl, rfl, rfl, rfl, rfl, rfl, rfl, trivial⟩⟩
          exact ⟨by omega, trivial⟩
      ·skip
       have hp161 : ¬ ((k : Nat) < (((ciphers S) ++ (ciphers ((stepS S x27.by_ ((Action.atv x27.a ((S.ver + 1))))).2)))).length) := of_decide_eq_false h111
       refine c_condF rfl h111 ?_
       refine c_exit rfl ?_
       refine c_reg ?_
       refine l_v rfl (r_loadA Tryz.isAgg37 Tryz.sizeOf37 (SRep.size _) rfl (hM110.base (i := 0) rfl)) ?_
       have hBk162 := hM110.blk (i := 2) rfl
       refine l_store hM110 (i := 2) rfl Tryz.sizeOf37 rfl rfl (SRep.size _) (by rw [SRep.size]; decide) (SRep.one _) (put_whole _ _ ((SRep.size _).trans (SRep.size _).symm)) ?_
       intro w163 hM164 hK165
       replace hM164 : Mem w [] [(g59 11, (SRep.cells ((SRep.mk ((stepS S x27.by_ ((Action.atv x27.a ((S.ver + 1))))).2.ver) ((stepS S x27.by_ ((Action.atv x27.a ((S.ver + 1))))).2.key) qo51.t ((stepS S x27.by_ ((Action.atv x27.a ((S.ver + 1))))).2.acc) qo51.p qo51.s qo51.i qo51.a qo51.b))), 37), (b28, (ARep.cells ((ARep.mk ((S.ver + 1)) x27.a.kind x27.a.who x27.a.E x27.a.role x27.q.t x27.a.acc x27.q.p))), 42), (b14, (SRep.cells ((SRep.mk ((stepS S x27.by_ ((Action.atv x27.a ((S.ver + 1))))).2.ver) ((stepS S x27.by_ ((Action.atv x27.a ((S.ver + 1))))).2.key) qo51.t ((stepS S x27.by_ ((Action.atv x27.a ((S.ver + 1))))).2.acc) qo51.p qo51.s qo51.i qo51.a qo51.b))), 37)] w163 := hM164
       refine l_nil ?_
       refine c_reg ?_
       refine l_v rfl (r_move rfl) ?_
       refine l_v rfl (r_add (r := ((i + 1 : Nat) : Int)) rfl rfl (nadd (i := i) (k := 1) (m := i + 1) (by omega) (by omega))) ?_
       refine l_v rfl (r_assign rfl) ?_
       refine l_nil ?_
       intro a_ ha_
       refine ⟨(i + 1, (stepS S x27.by_ ((Action.atv x27.a ((S.ver + 1))))).2, qo51), ⟨(hM164.forget (.cons _ (.cons _ (.refl _)))), ?_⟩, by omega, ha_.sub ⟨rfl, rfl, rfl, rfl, rfl, rfl, trivial⟩⟩
       exact ⟨by omega, (hF107.keepB hK165 hBk162 rfl).lower hge2, hadT⟩
     ·skip
      have hp166 : ¬ (((stepS S x27.by_ ((Action.atv x27.a ((S.ver + 1))))).1 : Nat) = 0) := of_decide_eq_false h68
      have hkZ := plays_err hp166
      refine c_condT rfl (congrArg Bool.not h68) ?_
      refine c_seq ?_
      refine c_sr ?_
      refine l_v rfl (r_loadA Tryz.isAgg37 Tryz.sizeOf37 (SRep.size _) rfl (hM65.base (i := 0) rfl)) ?_
      refine l_v rfl (r_build rfl ((SRep.built _).trans (fill_nil))) ?_
      refine l_call (gn rfl) rfl rfl (r_call Tryz.call15 rfl) (f15z ((hO52.keep0 hK60).keepB hK66 hBk63 rfl).stv) ?_
      rintro v167 w168 ⟨rfl, hK169⟩
      have hM170 := hM65.keep hK169
      refine l_v rfl (r_not rfl) ?_
      refine l_nil ?_
      refine c_condF rfl (congrArg Bool.not hkZ) ?_
      refine c_skip ?_
      refine c_exit rfl ?_
      refine c_reg ?_
      refine l_v rfl (r_move rfl) ?_
      refine l_v rfl (r_add (r := ((i + 1 : Nat) : Int)) rfl rfl (nadd (i := i) (k := 1) (m := i + 1) (by omega) (by omega))) ?_
      refine l_v rfl (r_assign rfl) ?_
      refine l_nil ?_
      intro a_ ha_
      refine ⟨(i + 1, S, q), ⟨(hM170.forget (.cons _ (.cons _ (.refl _)))), ?_⟩, by omega, ha_.sub ⟨rfl, rfl, rfl, rfl, rfl, rfl, trivial⟩⟩
      exact ⟨by omega, ((((((((((hO.keep0 hK31).keepB hK36 hBk33 rfl).keepB hK40 hBk37 rfl).keep0 hK43).keep0 (Keeps.drew _)).keep0 hE49).keep0 hK55).keep0 hK60).keepB hK66 hBk63 rfl).keep0 hK169), hAd⟩
   ·skip
    have hp171 : ¬ ((i : Nat) < l.length) := of_decide_eq_false h25
    refine c_condF rfl h25 ?_
    refine c_exit rfl ?_
    refine c_sr ?_
    refine l_call (gn rfl) rfl rfl (r_call Tryz.call10 rfl) (f10) ?_
    rintro v172 w173 ⟨rfl, hK174⟩
    have hM175 := hM24.keep hK174
    refine l_v rfl (r_assign rfl) ?_
    refine l_nil ?_
    refine c_ret ?_
    refine ret1 rfl rfl ?_
    exact ⟨rfl, hM175.kp⟩
end Go.Proofs.YtekhaogjmmmniaaGreat
namespace Go.Proofs.YtekhaogjmmmniaaGreat
open Go Go.RowKit Go.ChangeShapes Go.WideShapes Go.ChangeAt
set_option maxRecDepth 100000

theorem cof61 : Tryz.prog.cellsOf 61 = 136 := by kernel_rfl
theorem weightsAll_mem {H : Type} {P : Program} {e : TypeId} {k : Nat} {d : DataW H} (hk : k ∈ d.weights P e) : ∀ {ds : List (DataW H)}, d ∈ ds → k ∈ DataW.weightsAll P e ds
  | d' :: ds, hd => by
    simp only [DataW.weightsAll, List.mem_append]
    rcases List.mem_cons.1 hd with rfl | hd
    · exact .inl hk
    · exact .inr (weightsAll_mem hk hd)
section
variable {H : Type} {enc : TypeId × Value → H} {w : World} {n : Nat} {cs : List Value} {x : DataW H × List MemPlace}
theorem rd_slP {α : Type} {P : α → Prop} {t e sz : Nat} {en : α → Array Value} (ht : Tryz.prog.underlying t = some (.slice e)) (hc : Tryz.prog.cellsOf e = sz) (hp : 0 < sz) (hb : 0 < Tryz.prog.bytesOf e) (hsz : ∀ y, (en y).size = sz)
    (he : ∀ {m : Nat} {cs' : List Value} {x' : DataW H × List MemPlace}, DataW.trod enc Tryz.prog w 0 (fun _ => true) true m e cs' = some x' → Szd e x'.1 → ∃ y : α, cs' = (en y).toList ∧ P y) (h : DataW.trod enc Tryz.prog w 0 (fun _ => true) true n t cs = some x) (hs : Szd t x.1) :
    ∃ (s : Sl) (l : List α), cs = [s.val] ∧ Row (fun _ => True) w s sz en l ∧ ∀ y ∈ l, P y := by
  rcases Deep.open_slice ht h with ⟨rfl, _⟩ | ⟨a, len, cap, m, k, D, Pl, rfl, _, hl, hm, hmm, hx, hel⟩
  · exact ⟨Sl.nil, [], rfl, Row.nil, fun y hy => by simp at hy⟩
  · simp only [if_true] at hmm
    subst hmm
    have hcap : m ≤ 140737488355328 := by
      have h1 := hs ((len + (m - len)) * Tryz.prog.bytesOf e) (by rw [hx]; simp [DataW.weights, ht])
      have h2 : m ≤ (len + (m - len)) * Tryz.prog.bytesOf e := by rw [Nat.add_sub_cancel' hl]; exact Nat.le_mul_of_pos_right _ hb
      have h3 := reachBytes_lt
      omega
    have hD : ∀ i, i < len → Szd e (D i) := fun i hi k hk => hs k (by
      rw [hx]
      simp only [DataW.weights, ht, List.mem_cons, List.mem_append]
      exact .inr (.inl (weightsAll_mem hk (List.mem_map.2 ⟨i, List.mem_range.2 hi, rfl⟩))))
    have hch : ∀ i, i < len → ∃ y : α, (∀ j, j < sz → w.cell? ((a.add (i * sz)).add j) = (en y)[j]?) ∧ P y := fun i hi => by
      obtain ⟨cs', h1, h2⟩ := hel i (by omega)
      obtain ⟨y, rfl, hP⟩ := he h2 (hD i hi)
      rw [hc] at h1
      obtain ⟨_, hlen, hcell⟩ := World.cells?_some h1
      refine ⟨y, fun j hj => ?_, hP⟩
      rw [hcell j hj, Array.getElem?_toList]
    by_cases hn : len = 0
    · subst hn
      exact ⟨⟨some a, 0, m⟩, [], rfl, ⟨rfl, Nat.zero_le _, Nat.zero_le _, fun h => (by cases h), fun i y hi => (by simp at hi)⟩, fun y hy => (by simp at hy)⟩
    · have hne : Nonempty α := ⟨(hch 0 (by omega)).choose⟩
      have : Inhabited α := Classical.inhabited_of_nonempty hne
      obtain ⟨f, hf⟩ := Deep.choose_lt hch
      obtain ⟨b, off, spot⟩ := a
      have hspot : spot = none := by
        have h0 := (hf 0 (by omega)).1 0 hp
        rw [Array.getElem?_eq_getElem (by rw [hsz]; exact hp)] at h0
        simpa [Addr.add] using World.cell?_spot h0
      subst hspot
      refine ⟨⟨some ⟨b, off, none⟩, len, m⟩, (List.range len).map f, rfl, ⟨by simp, hl, Nat.le_trans hl hcap, fun h => (by cases h), fun i y hi => ?_⟩, fun y hy => ?_⟩
      · have hil : i < len := by
          have := (List.getElem?_eq_some_iff.1 hi).1
          simpa using this
        have hy : f i = y := by simpa [hil] using hi
        subst hy
        refine ⟨b, off, rfl, trivial, fun j hj => ?_⟩
        rw [hsz] at hj
        have := (hf i hil).1 j hj
        rw [addr_off, addr_off] at this
        exact this
      · obtain ⟨i, hi, rfl⟩ := List.mem_map.1 hy
        exact (hf i (List.mem_range.1 hi)).2
theorem rd_Mv (h : DataW.trod enc Tryz.prog w 0 (fun _ => true) true n 61 cs = some x) (hz : Szd 61 x.1) : ∃ y : Mv, cs = y.cells.toList ∧ AcV (fun _ => True) w y.q y.a := by
  obtain ⟨xs, m, _, hx0, hl, hx, hf⟩ := DataW.trod_struct Tryz.underlying61 h
  rw [hx0] at hz
  rw [cof61] at hl
  obtain ⟨z0, hz0, h0⟩ := fld hx hf Tryz.underlying61 0 rfl cof24
  obtain ⟨y0, e0⟩ := rd_Pt Tryz.underlying24 cof24 h0
  obtain ⟨z1, hz1, h1⟩ := fld hx hf Tryz.underlying61 1 rfl cof42
  obtain ⟨S, q, e1, hA⟩ := rd_Action h1 (hz.fld Tryz.underlying61 rfl hz1)
  refine ⟨⟨y0, S, q⟩, ?_, hA⟩
  exact glue (Mv.parts _) 0 (by simp [hl, Mv.parts, Pt.size, ARep.size]) (by simpa [-List.drop_one, GlueP, Mv.parts, Mv.act, Pt.size, ARep.size] using ⟨e0, e1⟩)
end
theorem arg_Moves {H : Type} {enc : TypeId × Value → H} {W : World} {base : Nat} {v : Value} {d : DataW H} {p : List MemPlace} (hv : Value.okWide Tryz.prog W .any base 57 v) (h : DataW.Trod enc Tryz.prog W 0 (fun _ => true) true 57 v d p) (hz : Szd 57 d) :
    ∃ (s : Sl) (l : List Mv), v = s.val ∧ Row (fun _ => True) W s 136 Mv.cells l ∧ MvV W l := by
  obtain ⟨a, len, cap, rfl⟩ := okWide_slice Tryz.underlying57 hv
  obtain ⟨fuel, hf⟩ := h
  obtain ⟨s, l, hy, hR, hP⟩ := rd_slP (en := Mv.cells) (P := fun y => AcV (fun _ => True) W y.q y.a) Tryz.underlying57 cof61 (by decide) (of_decide_eq_true (by kernel_rfl)) Mv.size rd_Mv hf hz
  exact ⟨s, l, by simpa [Value.cells] using hy, hR, hP⟩
end Go.Proofs.YtekhaogjmmmniaaGreat
