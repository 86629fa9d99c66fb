/- Part 6 of the proof of RolesFirstSaid: what the functions reached compute, in plain words and by walks through their code. No statement of the rows is proved here. -/
import Derived.Test.YtekhaogjmmmniaaGreatRows
import Derived.ProofKit
import Derived.SizedLaws
import Derived.OpenShut
import Derived.Deep.Slices
import Derived.Test.YtekhaogjmmmniaaGreatPackFirstE
namespace Go.Proofs.YtekhaogjmmmniaaGreat
open Go Go.RowKit

set_option maxHeartbeats 4000000 in
theorem f13 {A : Nat → Prop} {w : World} {S : State} {q : Six} (hS : StV A w q S) {B : Nat → Prop} {a : Action} {qa : Two} (hA : AcV B w qa a) (by_ : Pt) : Ret 13 #[.agg (S.rep q).cells, .agg by_.cells, .agg (a.rep qa).cells] w
    (fun v w' => ∃ q', v = .tuple #[.agg ((stepS S by_ a).2.rep q').cells, .int .i64 (((stepS S by_ a).1 : Nat) : Int)] ∧ OwnSt w.heap.size w' q' (stepS S by_ a).2 ∧ Keeps [] w w') := by
  obtain ⟨hn1, hn2, hn3, hn4, hn5, hn6⟩ := hS.bd
  have hM0 := Mem.start w
  refine enter Tryz.func13 rfl rfl ?_
  refine c_seq ?_
  refine c_reg ?_
  refine l_box hM0 rfl rfl ?_
  intro b1 w2 hM3 hK4 hB5
  replace hM3 : Mem w [] [(b1, (SRep.cells ((SRep.mk S.ver S.key q.t S.acc q.p q.s q.i q.a q.b))), 37)] w2 := hM3
  have hNb1 : w.heap.size ≤ b1 := Nat.le_trans hM0.kp.size hB5
  refine l_box hM3 rfl rfl ?_
  intro b6 w7 hM8 hK9 hB10
  replace hM8 : Mem w [] [(b6, (Pt.cells by_), 24), (b1, (SRep.cells ((SRep.mk S.ver S.key q.t S.acc q.p q.s q.i q.a q.b))), 37)] w7 := hM8
  have hNb6 : w.heap.size ≤ b6 := Nat.le_trans hM3.kp.size hB10
  refine l_box hM8 rfl rfl ?_
  intro b11 w12 hM13 hK14 hB15
  replace hM13 : Mem w [] [(b11, (ARep.cells ((ARep.mk a.ver a.kind a.who a.E a.role qa.t a.acc qa.p))), 42), (b6, (Pt.cells by_), 24), (b1, (SRep.cells ((SRep.mk S.ver S.key q.t S.acc q.p q.s q.i q.a q.b))), 37)] w12 := hM13
  have hNb11 : w.heap.size ≤ b11 := Nat.le_trans hM8.kp.size hB15
  refine l_alloc hM13 rfl SRep.zv ?_
  intro b16 w17 hM18 hK19 hB20
  replace hM18 : Mem w [] [(b16, (SRep.cells SRep.zero), 37), (b11, (ARep.cells ((ARep.mk a.ver a.kind a.who a.E a.role qa.t a.acc qa.p))), 42), (b6, (Pt.cells by_), 24), (b1, (SRep.cells ((SRep.mk S.ver S.key q.t S.acc q.p q.s q.i q.a q.b))), 37)] w17 := hM18
  have hNb16 : w.heap.size ≤ b16 := Nat.le_trans hM13.kp.size hB20
  refine l_val (gn rfl) rfl rfl (r_assign rfl) ?_
  refine l_nil ?_
  refine c_seq ?_
  refine c_seq ?_
  refine c_reg ?_
  refine l_val (gn rfl) rfl rfl (r_loadA Tryz.isAgg37 Tryz.sizeOf37 (SRep.size _) rfl (hM18.base (i := 3) rfl)) ?_
  refine l_call (gn rfl) rfl rfl (r_call Tryz.call28 rfl) (f28o (S := S) (q := q) (hS.keep0 hM18.kp)) ?_
  rintro v21 w22 ⟨rfl, hK23⟩
  have hM24 := hM18.keep hK23
  refine l_val (gn rfl) rfl rfl (r_not rfl) ?_
  refine l_val (gn rfl) rfl rfl (r_move rfl) ?_
  refine ways (okS S) (fun h25 => ?_) (fun h25 => ?_)
  ·skip
   refine l_val (gy rfl rfl rfl rfl (congrArg Bool.not h25)) rfl rfl (r_loadA Tryz.isAgg42 Tryz.sizeOf42 (ARep.size _) rfl (hM24.base (i := 1) rfl)) ?_
   refine l_call (gy rfl rfl rfl rfl (congrArg Bool.not h25)) rfl rfl (r_call Tryz.call29 rfl) (f29 (hA.keep0 hM24.kp)) ?_
   rintro v26 w27 ⟨rfl, hK28⟩
   have hM29 := hM24.keep hK28
   refine l_val (gy rfl rfl rfl rfl (congrArg Bool.not h25)) rfl rfl (r_not rfl) ?_
   refine l_val (gn rfl) rfl rfl (r_pickF rfl (congrArg Bool.not h25) rfl) ?_
   refine l_nil ?_
   refine ways (okAct a) (fun h30 => ?_) (fun h30 => ?_)
   ·skip
    refine c_condF rfl (congrArg Bool.not h30) ?_
    refine c_skip ?_
    refine c_seq ?_
    refine c_seq ?_
    refine c_reg ?_
    refine l_val (gn rfl) rfl rfl (r_fieldAddr ARep.fld_ver rfl) ?_
    refine l_val (gn rfl) rfl rfl (r_load1 (v := vU32 a.ver) Tryz.isAgg22 rfl (Holds.sub (hM29.base (i := 1) rfl) (ARep.sub_ver _))) ?_
    refine l_val (gn rfl) rfl rfl (r_convI (r := ((a.ver.toNat : Nat) : Int)) Tryz.underlying22 Tryz.underlying65 rfl (wu64_32 _)) ?_
    refine l_val (gn rfl) rfl rfl (r_fieldAddr SRep.fld_ver rfl) ?_
    refine l_val (gn rfl) rfl rfl (r_load1 (v := vU32 S.ver) Tryz.isAgg22 rfl (Holds.sub (hM29.base (i := 3) rfl) (SRep.sub_ver _))) ?_
    refine l_val (gn rfl) rfl rfl (r_convI (r := ((S.ver.toNat : Nat) : Int)) Tryz.underlying22 Tryz.underlying65 rfl (wu64_32 _)) ?_
    refine l_val (gn rfl) rfl rfl (r_add (r := ((S.ver.toNat + 1 : Nat) : Int)) rfl rfl (u64add S.ver.toNat 1 (by have := UInt32.toNat_lt S.ver; omega))) ?_
    refine l_val (gn rfl) rfl rfl (r_neq (b := (!(decide ((a.ver.toNat : Nat) = S.ver.toNat + 1)))) rfl rfl (congrArg Bool.not (neq' a.ver.toNat (S.ver.toNat + 1)))) ?_
    refine l_nil ?_
    refine ways (decide ((a.ver.toNat : Nat) = S.ver.toNat + 1)) (fun h31 => ?_) (fun h31 => ?_)
    ·skip
     have hp32 : (a.ver.toNat : Nat) = S.ver.toNat + 1 := of_decide_eq_true h31
     refine c_condF rfl (congrArg Bool.not h31) ?_
     refine c_skip ?_
     refine c_seq ?_
     refine c_seq ?_
     refine c_reg ?_
     refine l_val (gn rfl) rfl rfl (r_fieldAddr SRep.fld_seats rfl) ?_
     refine l_val (gn rfl) rfl rfl (r_load1 (v := Sl.val q.s) Tryz.isAgg32 rfl (Holds.sub (hM29.base (i := 3) rfl) (SRep.sub_seats _))) ?_
     refine l_val (gn rfl) rfl rfl (r_lenR Tryz.underlying32 rfl (hS.seats.keep0 hM29.kp).len) ?_
     refine l_val (gn rfl) rfl rfl (r_eql (b := decide ((S.seats.length : Nat) = 0)) rfl rfl (neq' S.seats.length 0)) ?_
     refine l_nil ?_
     refine ways (decide ((S.seats.length : Nat) = 0)) (fun h33 => ?_) (fun h33 => ?_)
     ·skip
      have hp34 : (S.seats.length : Nat) = 0 := of_decide_eq_true h33
      refine c_condT rfl h33 ?_
      refine c_seq ?_
      refine c_reg ?_
      refine l_val (gn rfl) rfl rfl (r_build rfl ((SRep.built _).trans (fill_nil))) ?_
      refine l_store hM29 (i := 0) rfl Tryz.sizeOf37 rfl rfl (SRep.size _) (by rw [SRep.size]; decide) (SRep.one _) (put_whole _ _ ((SRep.size _).trans (SRep.size _).symm)) ?_
      intro w35 hM36 hK37
      replace hM36 : Mem w [] [(b16, (SRep.cells SRep.zero), 37), (b11, (ARep.cells ((ARep.mk a.ver a.kind a.who a.E a.role qa.t a.acc qa.p))), 42), (b6, (Pt.cells by_), 24), (b1, (SRep.cells ((SRep.mk S.ver S.key q.t S.acc q.p q.s q.i q.a q.b))), 37)] w35 := hM36
      refine l_val (gn rfl) rfl rfl (r_assign rfl) ?_
      refine l_nil ?_
      refine c_ret ?_
      refine retCT rfl Tryz.isAgg37 Tryz.sizeOf37 (SRep.size _) rfl (hM36.base (i := 0) rfl) rfl ?_
      have hd : stepS S by_ a = (197, State.zero) := by simp only [stepS, h25, h30, h31, h33, Bool.and_true, cond_true] <;> rfl
      exact ⟨Six.nil, by rw [hd] <;> rfl, by rw [hd]; exact ownZero _ _, hM36.kp⟩
     ·skip
      have hp38 : ¬ ((S.seats.length : Nat) = 0) := of_decide_eq_false h33
      refine c_condF rfl h33 ?_
      refine c_skip ?_
      refine c_seq ?_
      refine c_reg ?_
      refine l_val (gn rfl) rfl rfl (r_loadA Tryz.isAgg37 Tryz.sizeOf37 (SRep.size _) rfl (hM29.base (i := 3) rfl)) ?_
      refine l_call (gn rfl) rfl rfl (r_call Tryz.call30 rfl) (f30 (S := S) (q := q) (hS.keep0 hM29.kp) (ok_total h25)) ?_
      rintro v39 w40 ⟨qo43, rfl, hO44, hK41⟩
      have hM42 := hM29.keep hK41
      have hlhO44_0 : b16 < (w27).heap.size := (hM29.blk (i := 0) rfl).lt
      have hlhO44_1 : b11 < (w27).heap.size := (hM29.blk (i := 1) rfl).lt
      have hlhO44_2 : b6 < (w27).heap.size := (hM29.blk (i := 2) rfl).lt
      have hlhO44_3 : b1 < (w27).heap.size := (hM29.blk (i := 3) rfl).lt
      have hgew40 : w27.heap.size ≤ w40.heap.size := hK41.size
      have hge0w40 : w.heap.size ≤ w27.heap.size := hM29.kp.size
      have hneb16b11 : b16 ≠ b11 := fun e => by have := nodup_get hM29.nd (i := 0) (j := 1) rfl (by rw [e]; rfl); cases this
      have hneb16b6 : b16 ≠ b6 := fun e => by have := nodup_get hM29.nd (i := 0) (j := 2) rfl (by rw [e]; rfl); cases this
      have hneb16b1 : b16 ≠ b1 := fun e => by have := nodup_get hM29.nd (i := 0) (j := 3) rfl (by rw [e]; rfl); cases this
      have hneb11b6 : b11 ≠ b6 := fun e => by have := nodup_get hM29.nd (i := 1) (j := 2) rfl (by rw [e]; rfl); cases this
      have hneb11b1 : b11 ≠ b1 := fun e => by have := nodup_get hM29.nd (i := 1) (j := 3) rfl (by rw [e]; rfl); cases this
      have hneb6b1 : b6 ≠ b1 := fun e => by have := nodup_get hM29.nd (i := 2) (j := 3) rfl (by rw [e]; rfl); cases this
      refine l_store hM42 (i := 3) rfl Tryz.sizeOf37 rfl rfl (SRep.size _) (by rw [SRep.size]; decide) (SRep.one _) (put_whole _ _ ((SRep.size _).trans (SRep.size _).symm)) ?_
      intro w45 hM46 hK47
      replace hM46 : Mem w [] [(b16, (SRep.cells SRep.zero), 37), (b11, (ARep.cells ((ARep.mk a.ver a.kind a.who a.E a.role qa.t a.acc qa.p))), 42), (b6, (Pt.cells by_), 24), (b1, (SRep.cells ((SRep.mk S.ver S.key qo43.t S.acc qo43.p qo43.s qo43.i qo43.a qo43.b))), 37)] w45 := hM46
      refine l_nil ?_
      refine c_seq ?_
      refine c_regD (Mem w [] [(b16, (SRep.cells SRep.zero), 37), (b11, (ARep.cells ((ARep.mk a.ver a.kind a.who a.E a.role qa.t a.acc qa.p))), 42), (b6, (Pt.cells by_), 24), (b1, (SRep.cells ((SRep.mk S.ver S.key qo43.t S.acc qo43.p qo43.s qo43.i qo43.a qo43.b))), 37)]) [7, 9] [(0, true), (1, true), (3, true), (4, true), (2, false), (6, true), (5, false), (7, false), (8, false), (9, false)] (by kernel_rfl) ?_
      have hM48 := hM46.drew
      refine s_take hM48 rfl (gn rfl) rfl rfl (fun w h => r_fieldAddr ARep.fld_title rfl) ?_
      refine s_take hM48 rfl (gn rfl) rfl rfl (fun w h => r_load1 (v := Sl.val qa.t) Tryz.isAgg27 rfl (Holds.sub (h.base (i := 1) rfl) (ARep.sub_title _))) ?_
      refine s_take hM48 rfl (gn rfl) rfl rfl (fun w h => r_fieldAddr ARep.fld_pass rfl) ?_
      refine s_take hM48 rfl (gn rfl) rfl rfl (fun w h => r_load1 (v := Sl.val qa.p) Tryz.isAgg27 rfl (Holds.sub (h.base (i := 1) rfl) (ARep.sub_pass _))) ?_
      have hsz50 : w40.heap.size ≤ w45.drew.heap.size := by have := hK47.size; have := (Keeps.drew w45).size; omega
      refine s_call rfl (gn rfl) rfl rfl (r_call Tryz.call31 rfl) (f31 (hA.title.keep0 hM48.kp)) ?_
      rintro v51 w52 ⟨sn55, rfl, hO56, hK53⟩
      have hM54 := hM48.keep hK53
      have hltsn55_0 : b16 < (w45.drew).heap.size := (hM48.blk (i := 0) rfl).lt
      have hltsn55_1 : b11 < (w45.drew).heap.size := (hM48.blk (i := 1) rfl).lt
      have hltsn55_2 : b6 < (w45.drew).heap.size := (hM48.blk (i := 2) rfl).lt
      have hltsn55_3 : b1 < (w45.drew).heap.size := (hM48.blk (i := 3) rfl).lt
      have hszsn55 : w.heap.size ≤ (w45.drew).heap.size := hM48.kp.size
      refine ⟨.inr hM54, ?_⟩
      refine s_take hM54 rfl (gn rfl) rfl rfl (fun w h => r_fieldAddr ARep.fld_title rfl) ?_
      have hsz57 : w40.heap.size ≤ w52.heap.size := by have := hK47.size; have := (Keeps.drew w45).size; have := hK53.size; omega
      refine s_call rfl (gn rfl) rfl rfl (r_call Tryz.call31 rfl) (f31 (hA.pass.keep0 hM54.kp)) ?_
      rintro v58 w59 ⟨sn62, rfl, hO63, hK60⟩
      have hM61 := hM54.keep hK60
      have hltsn62_0 : b16 < (w52).heap.size := (hM54.blk (i := 0) rfl).lt
      have hltsn62_1 : b11 < (w52).heap.size := (hM54.blk (i := 1) rfl).lt
      have hltsn62_2 : b6 < (w52).heap.size := (hM54.blk (i := 2) rfl).lt
      have hltsn62_3 : b1 < (w52).heap.size := (hM54.blk (i := 3) rfl).lt
      have hszsn62 : w.heap.size ≤ (w52).heap.size := hM54.kp.size
      have hzsn55_sn62 : ∀ b, sn55.val.ownBlock = some b → b < (w52).heap.size := fun b h => (hO56.own.lt b h).2
      refine ⟨.inr hM61, ?_⟩
      refine s_store hM61 (j := 1) rfl rfl Tryz.sizeOf27 rfl rfl rfl (by rw [ARep.size]; decide) (one_one rfl) (ARep.put_title _ _) ?_
      intro w64 hM65 hK66
      replace hM65 : Mem w [] [(b16, (SRep.cells SRep.zero), 37), (b11, (ARep.cells ((ARep.mk a.ver a.kind a.who a.E a.role sn55 a.acc qa.p))), 42), (b6, (Pt.cells by_), 24), (b1, (SRep.cells ((SRep.mk S.ver S.key qo43.t S.acc qo43.p qo43.s qo43.i qo43.a qo43.b))), 37)] w64 := hM65
      refine ⟨.inl rfl, ?_⟩
      refine s_val rfl (gn rfl) rfl rfl (r_fieldAddr ARep.fld_pass rfl) (.inl rfl) ?_
      refine s_store hM65 (j := 1) rfl rfl Tryz.sizeOf27 rfl rfl rfl (by rw [ARep.size]; decide) (one_one rfl) (ARep.put_pass _ _) ?_
      intro w67 hM68 hK69
      replace hM68 : Mem w [] [(b16, (SRep.cells SRep.zero), 37), (b11, (ARep.cells ((ARep.mk a.ver a.kind a.who a.E a.role sn55 a.acc sn62))), 42), (b6, (Pt.cells by_), 24), (b1, (SRep.cells ((SRep.mk S.ver S.key qo43.t S.acc qo43.p qo43.s qo43.i qo43.a qo43.b))), 37)] w67 := hM68
      refine ⟨.inl rfl, ?_⟩
      refine s_nil ?_
      refine c_seq ?_
      refine c_regD (Mem w [] [(b16, (SRep.cells SRep.zero), 37), (b11, (ARep.cells ((ARep.mk a.ver a.kind a.who a.E a.role sn55 a.acc sn62))), 42), (b6, (Pt.cells by_), 24), (b1, (SRep.cells ((SRep.mk S.ver S.key qo43.t S.acc qo43.p qo43.s qo43.i qo43.a qo43.b))), 37)]) [] [(0, true), (1, true), (2, true), (3, true), (4, false), (5, true), (6, false), (7, true)] (by kernel_rfl) ?_
      have hM70 := hM68.drew
      refine s_take hM70 rfl (gn rfl) rfl rfl (fun w h => r_loadA Tryz.isAgg24 Tryz.sizeOf24 (Pt.size _) rfl (h.base (i := 2) rfl)) ?_
      refine s_take hM70 rfl (gn rfl) rfl rfl (fun w h => r_loadA Tryz.isAgg42 Tryz.sizeOf42 (ARep.size _) rfl (h.base (i := 1) rfl)) ?_
      refine s_take hM70 rfl (gn rfl) rfl rfl (fun w h => r_loadA Tryz.isAgg37 Tryz.sizeOf37 (SRep.size _) rfl (h.base (i := 3) rfl)) ?_
      refine s_take hM70 rfl (gn rfl) rfl rfl (fun w h => r_loadA Tryz.isAgg24 Tryz.sizeOf24 (Pt.size _) rfl (h.base (i := 2) rfl)) ?_
      refine s_call rfl (gn rfl) rfl rfl (r_call Tryz.call17 rfl) (f17 (((((((hO44.stv.keep hK47 (fun x hx => by simp only [List.mem_cons, List.not_mem_nil, or_false] at hx; omega)).keep0 (Keeps.drew _)).keep0 hK53).keep0 hK60).keep hK66 (fun x hx => by simp only [List.mem_cons, List.not_mem_nil, or_false] at hx; omega)).keep hK69 (fun x hx => by simp only [List.mem_cons, List.not_mem_nil, or_false] at hx; omega)).keep0 (Keeps.drew _)) by_) ?_
      rintro v72 w73 ⟨rfl, hK74⟩
      have hM75 := hM70.keep hK74
      refine ⟨.inr hM75, ?_⟩
      refine s_take hM75 rfl (gn rfl) rfl rfl (fun w h => r_build rfl (StepR.built _ _ _ _)) ?_
      refine s_box hM75 rfl rfl rfl ?_
      intro b76 w77 hM78 hK79 hB80
      replace hM78 : Mem w [] [(b76, (StepR.cells ((StepR.mk b1 by_ ((ARep.mk a.ver a.kind a.who a.E a.role sn55 a.acc sn62)) (roleOf S.seats by_)))), 79), (b16, (SRep.cells SRep.zero), 37), (b11, (ARep.cells ((ARep.mk a.ver a.kind a.who a.E a.role sn55 a.acc sn62))), 42), (b6, (Pt.cells by_), 24), (b1, (SRep.cells ((SRep.mk S.ver S.key qo43.t S.acc qo43.p qo43.s qo43.i qo43.a qo43.b))), 37)] w77 := hM78
      have hNb76 : w.heap.size ≤ b76 := Nat.le_trans hM75.kp.size hB80
      refine ⟨.inr (hM78.forget (.cons _ (.refl _))), ?_⟩
      refine s_take (hM78.forget (.cons _ (.refl _))) rfl (gn rfl) rfl rfl (fun w h => r_assign rfl) ?_
      refine s_nil ?_
      refine c_seq ?_
      refine c_reg ?_
      refine l_val (gn rfl) rfl rfl (r_move rfl) ?_
      have hO81 : OwnSt ((w27).heap.size) w77 qo43 S := ((((hO44.keepT (hO44.keepT ((((hO44.keepT hO44 hK47 (fun x hx => by simp only [List.mem_cons, List.not_mem_nil, or_false] at hx; omega)).keep0 (Keeps.drew _)).keep0 hK53).keep0 hK60) hK66 (fun x hx => by simp only [List.mem_cons, List.not_mem_nil, or_false] at hx; omega)) hK69 (fun x hx => by simp only [List.mem_cons, List.not_mem_nil, or_false] at hx; omega)).keep0 (Keeps.drew _)).keep0 hK74).keep0 hK79)
      have hB81 : StB ((w27).heap.size) w77 b1 qo43 S := ⟨hM78.blk (i := 4) rfl, by omega, hO81⟩
      have hbs81 : w40.heap.size ≤ b76 := by have := hB80; have := hK47.size; have := (Keeps.drew w45).size; have := hK53.size; have := hK60.size; have := hK66.size; have := hK69.size; have := (Keeps.drew w67).size; have := hK74.size; omega
      have hx81 : Holds w77 b76 0 (StepR.cells ⟨b1, by_, a.rep ⟨sn55, sn62⟩, roleOf S.seats by_⟩) := hM78.base (i := 0) rfl
      refine l_call (gn rfl) rfl rfl (r_call Tryz.call32 rfl) (f32 hx81 hB81) ?_
      rintro v82 w83 ⟨rfl, hK84⟩
      have hM85 := hM78.keep hK84
      refine l_val (gn rfl) rfl rfl (r_assign rfl) ?_
      refine l_nil ?_
      refine c_seq ?_
      refine c_seq ?_
      refine c_reg ?_
      refine l_val (gn rfl) rfl rfl (r_move rfl) ?_
      refine l_val (gn rfl) rfl rfl (r_eql (b := decide ((mayE S by_ a (roleOf S.seats by_) : Nat) = 0)) rfl rfl (neq' (mayE S by_ a (roleOf S.seats by_)) 0)) ?_
      refine l_nil ?_
      refine ways (decide ((mayE S by_ a (roleOf S.seats by_) : Nat) = 0)) (fun h86 => ?_) (fun h86 => ?_)
      ·skip
       have hp87 : (mayE S by_ a (roleOf S.seats by_) : Nat) = 0 := of_decide_eq_true h86
       refine c_condT rfl h86 ?_
       refine c_reg ?_
       refine l_val (gn rfl) rfl rfl (r_move rfl) ?_
       have hO88 : OwnSt ((w27).heap.size) w83 qo43 S := (((((hO44.keepT (hO44.keepT ((((hO44.keepT hO44 hK47 (fun x hx => by simp only [List.mem_cons, List.not_mem_nil, or_false] at hx; omega)).keep0 (Keeps.drew _)).keep0 hK53).keep0 hK60) hK66 (fun x hx => by simp only [List.mem_cons, List.not_mem_nil, or_false] at hx; omega)) hK69 (fun x hx => by simp only [List.mem_cons, List.not_mem_nil, or_false] at hx; omega)).keep0 (Keeps.drew _)).keep0 hK74).keep0 hK79).keep0 hK84)
       have hB88 : StB ((w27).heap.size) w83 b1 qo43 S := ⟨hM85.blk (i := 4) rfl, by omega, hO88⟩
       have hbs88 : w40.heap.size ≤ b76 := by have := hB80; have := hK47.size; have := (Keeps.drew w45).size; have := hK53.size; have := hK60.size; have := hK66.size; have := hK69.size; have := (Keeps.drew w67).size; have := hK74.size; have := hK79.size; omega
       have hx88 : Holds w83 b76 0 (StepR.cells ⟨b1, by_, a.rep ⟨sn55, sn62⟩, roleOf S.seats by_⟩) := hM85.base (i := 0) rfl
       have hlq88 : ∀ k ∈ qo43.bs, ((w27).heap.size) ≤ k ∧ k < w40.heap.size := hO44.lo
       have hnot88 : ∀ {x : Nat}, x ≠ b1 → w40.heap.size ≤ x → x ∉ b1 :: qo43.bs := fun h1 h2 hm => by cases hm with | head => exact h1 rfl | tail _ hm => have := (hlq88 _ hm).2; omega
       have hbx88 : b76 ∉ b1 :: qo43.bs := hnot88 (fun e => by omega) (by omega)
       have hC88 : ActM ((w27).heap.size) w83 b1 qo43 ⟨sn55, sn62⟩ a := ⟨((((((((hO56.keep0 hK60).keepL hK66 (fun x hx => by simp only [List.mem_cons, List.not_mem_nil, or_false] at hx; omega)).keepL hK69 (fun x hx => by simp only [List.mem_cons, List.not_mem_nil, or_false] at hx; omega)).keep0 (Keeps.drew _)).keep0 hK74).keep0 hK79).keep0 hK84).lower (by omega)), (((((((hO63.keepL hK66 (fun x hx => by simp only [List.mem_cons, List.not_mem_nil, or_false] at hx; omega)).keepL hK69 (fun x hx => by simp only [List.mem_cons, List.not_mem_nil, or_false] at hx; omega)).keep0 (Keeps.drew _)).keep0 hK74).keep0 hK79).keep0 hK84).lower (by omega)), (fun x hx hc => by have h1 := ((((((((hO56.keep0 hK60).keepL hK66 (fun x hx => by simp only [List.mem_cons, List.not_mem_nil, or_false] at hx; omega)).keepL hK69 (fun x hx => by simp only [List.mem_cons, List.not_mem_nil, or_false] at hx; omega)).keep0 (Keeps.drew _)).keep0 hK74).keep0 hK79).keep0 hK84).own.lt x hc).1; exact hnot88 (fun e => by omega) (by omega) hx), (fun x hx hc => by have h1 := (((((((hO63.keepL hK66 (fun x hx => by simp only [List.mem_cons, List.not_mem_nil, or_false] at hx; omega)).keepL hK69 (fun x hx => by simp only [List.mem_cons, List.not_mem_nil, or_false] at hx; omega)).keep0 (Keeps.drew _)).keep0 hK74).keep0 hK79).keep0 hK84).own.lt x hc).1; exact hnot88 (fun e => by omega) (by omega) hx)⟩
       have hme88 : a.kind = 5 ∨ a.kind = 14 → hasK Seat.key S.seats by_ = true := fun h => has_role (may_me (of_decide_eq_true h86) h)
       have hU88 := Ups.of (okS_iff.1 h25)
       have hbw88 : (w27).heap.size ≤ w83.heap.size := by have := hK47.size; have := (Keeps.drew w45).size; have := hK53.size; have := hK60.size; have := hK66.size; have := hK69.size; have := (Keeps.drew w67).size; have := hK74.size; have := hK79.size; have := hK84.size; omega
       have hlow88 : ∀ {x : Nat}, x ≠ b1 → x < ((w27).heap.size) → x ∉ b1 :: qo43.bs := fun h1 h2 hm => by cases hm with | head => exact h1 rfl | tail _ hm => have := (hlq88 _ hm).1; omega
       refine l_call (gn rfl) rfl rfl (r_call Tryz.call33 rfl) (f33 hx88 hbx88 hB88 hbw88 hC88 hU88 hme88) ?_
       rintro v91 w92 ⟨q89, rfl, hB90, hK93⟩
       have hM94 := hM85.swap (i := 4) rfl hK93 (fun y hy => .inr (by cases hy with | head => omega | tail _ hm => have := (hlq88 _ hm).1; omega)) (show ∀ x ∈ [b76, b16, b11, b6, b1], x = b1 ∨ x ∉ b1 :: qo43.bs from List.forall_mem_cons.2 ⟨.inr hbx88, List.forall_mem_cons.2 ⟨.inr (hlow88 (by omega) (by omega)), List.forall_mem_cons.2 ⟨.inr (hlow88 (by omega) (by omega)), List.forall_mem_cons.2 ⟨.inr (hlow88 (by omega) (by omega)), List.forall_mem_cons.2 ⟨.inl rfl, (fun x hx => by cases hx)⟩⟩⟩⟩⟩) hB90.blk
       replace hM94 : Mem w [] [(b76, (StepR.cells ((StepR.mk b1 by_ ((ARep.mk a.ver a.kind a.who a.E a.role sn55 a.acc sn62)) (roleOf S.seats by_)))), 79), (b16, (SRep.cells SRep.zero), 37), (b11, (ARep.cells ((ARep.mk a.ver a.kind a.who a.E a.role sn55 a.acc sn62))), 42), (b6, (Pt.cells by_), 24), (b1, (SRep.cells ((SRep.mk ((doS S by_ a (roleOf S.seats by_)).2.ver) ((doS S by_ a (roleOf S.seats by_)).2.key) q89.t ((doS S by_ a (roleOf S.seats by_)).2.acc) q89.p q89.s q89.i q89.a q89.b))), 37)] w92 := hM94
       refine l_val (gn rfl) rfl rfl (r_assign rfl) ?_
       refine l_nil ?_
       refine c_seq ?_
       refine c_seq ?_
       refine c_reg ?_
       refine l_val (gn rfl) rfl rfl (r_move rfl) ?_
       refine l_val (gn rfl) rfl rfl (r_neq (b := (!(decide (((doS S by_ a (roleOf S.seats by_)).1 : Nat) = 0)))) rfl rfl (congrArg Bool.not (neq' ((doS S by_ a (roleOf S.seats by_)).1) 0))) ?_
       refine l_nil ?_
       refine ways (decide (((doS S by_ a (roleOf S.seats by_)).1 : Nat) = 0)) (fun h95 => ?_) (fun h95 => ?_)
       ·skip
        have hp96 : ((doS S by_ a (roleOf S.seats by_)).1 : Nat) = 0 := of_decide_eq_true h95
        refine c_condF rfl (congrArg Bool.not h95) ?_
        refine c_skip ?_
        refine c_seq ?_
        refine c_reg ?_
        refine l_val (gn rfl) rfl rfl (r_fieldAddr ARep.fld_ver rfl) ?_
        refine l_val (gn rfl) rfl rfl (r_load1 (v := vU32 a.ver) Tryz.isAgg22 rfl (Holds.sub (hM94.base (i := 2) rfl) (ARep.sub_ver _))) ?_
        refine l_val (gn rfl) rfl rfl (r_fieldAddr SRep.fld_ver rfl) ?_
        refine l_store hM94 (i := 4) rfl Tryz.sizeOf22 rfl rfl rfl (by rw [SRep.size]; decide) (one_one rfl) (SRep.put_ver _ _) ?_
        intro w97 hM98 hK99
        replace hM98 : Mem w [] [(b76, (StepR.cells ((StepR.mk b1 by_ ((ARep.mk a.ver a.kind a.who a.E a.role sn55 a.acc sn62)) (roleOf S.seats by_)))), 79), (b16, (SRep.cells SRep.zero), 37), (b11, (ARep.cells ((ARep.mk a.ver a.kind a.who a.E a.role sn55 a.acc sn62))), 42), (b6, (Pt.cells by_), 24), (b1, (SRep.cells ((SRep.mk a.ver ((doS S by_ a (roleOf S.seats by_)).2.key) q89.t ((doS S by_ a (roleOf S.seats by_)).2.acc) q89.p q89.s q89.i q89.a q89.b))), 37)] w97 := hM98
        refine l_nil ?_
        refine c_seq ?_
        refine c_reg ?_
        refine l_val (gn rfl) rfl rfl (r_loadA Tryz.isAgg37 Tryz.sizeOf37 (SRep.size _) rfl (hM98.base (i := 4) rfl)) ?_
        refine l_store hM98 (i := 1) rfl Tryz.sizeOf37 rfl rfl (SRep.size _) (by rw [SRep.size]; decide) (SRep.one _) (put_whole _ _ ((SRep.size _).trans (SRep.size _).symm)) ?_
        intro w100 hM101 hK102
        replace hM101 : Mem w [] [(b76, (StepR.cells ((StepR.mk b1 by_ ((ARep.mk a.ver a.kind a.who a.E a.role sn55 a.acc sn62)) (roleOf S.seats by_)))), 79), (b16, (SRep.cells ((SRep.mk a.ver ((doS S by_ a (roleOf S.seats by_)).2.key) q89.t ((doS S by_ a (roleOf S.seats by_)).2.acc) q89.p q89.s q89.i q89.a q89.b))), 37), (b11, (ARep.cells ((ARep.mk a.ver a.kind a.who a.E a.role sn55 a.acc sn62))), 42), (b6, (Pt.cells by_), 24), (b1, (SRep.cells ((SRep.mk a.ver ((doS S by_ a (roleOf S.seats by_)).2.key) q89.t ((doS S by_ a (roleOf S.seats by_)).2.acc) q89.p q89.s q89.i q89.a q89.b))), 37)] w100 := hM101
        refine l_val (gn rfl) rfl rfl (r_assign rfl) ?_
        refine l_nil ?_
        refine c_ret ?_
        refine retCT rfl Tryz.isAgg37 Tryz.sizeOf37 (SRep.size _) rfl (hM101.base (i := 1) rfl) rfl ?_
        have hd : stepS S by_ a = (0, { (doS S by_ a (roleOf S.seats by_)).2 with ver := a.ver }) := by simp only [stepS, h25, h30, h31, h33, h86, h95, Bool.and_true, cond_true, cond_false] <;> rfl
        exact ⟨q89, by rw [hd] <;> rfl, by rw [hd]; exact (((hB90.own.keepL hK99 (fun x hx => by simp only [List.mem_cons, List.not_mem_nil, or_false] at hx; omega)).keepL hK102 (fun x hx => by simp only [List.mem_cons, List.not_mem_nil, or_false] at hx; omega)).ver _).lower (by omega), hM101.kp⟩
       ·skip
        have hp103 : ¬ (((doS S by_ a (roleOf S.seats by_)).1 : Nat) = 0) := of_decide_eq_false h95
        refine c_condT rfl (congrArg Bool.not h95) ?_
        refine c_seq ?_
        refine c_reg ?_
        refine l_val (gn rfl) rfl rfl (r_build rfl ((SRep.built _).trans (fill_nil))) ?_
        refine l_val (gn rfl) rfl rfl (r_move rfl) ?_
        refine l_store hM94 (i := 1) rfl Tryz.sizeOf37 rfl rfl (SRep.size _) (by rw [SRep.size]; decide) (SRep.one _) (put_whole _ _ ((SRep.size _).trans (SRep.size _).symm)) ?_
        intro w104 hM105 hK106
        replace hM105 : Mem w [] [(b76, (StepR.cells ((StepR.mk b1 by_ ((ARep.mk a.ver a.kind a.who a.E a.role sn55 a.acc sn62)) (roleOf S.seats by_)))), 79), (b16, (SRep.cells SRep.zero), 37), (b11, (ARep.cells ((ARep.mk a.ver a.kind a.who a.E a.role sn55 a.acc sn62))), 42), (b6, (Pt.cells by_), 24), (b1, (SRep.cells ((SRep.mk ((doS S by_ a (roleOf S.seats by_)).2.ver) ((doS S by_ a (roleOf S.seats by_)).2.key) q89.t ((doS S by_ a (roleOf S.seats by_)).2.acc) q89.p q89.s q89.i q89.a q89.b))), 37)] w104 := hM105
        refine l_val (gn rfl) rfl rfl (r_assign rfl) ?_
        refine l_nil ?_
        refine c_ret ?_
        refine retCT rfl Tryz.isAgg37 Tryz.sizeOf37 (SRep.size _) rfl (hM105.base (i := 1) rfl) rfl ?_
        have hd : stepS S by_ a = ((doS S by_ a (roleOf S.seats by_)).1, State.zero) := by simp only [stepS, h25, h30, h31, h33, h86, h95, Bool.and_true, cond_true, cond_false] <;> rfl
        exact ⟨Six.nil, by rw [hd] <;> rfl, by rw [hd]; exact ownZero _ _, hM105.kp⟩
      ·skip
       have hp107 : ¬ ((mayE S by_ a (roleOf S.seats by_) : Nat) = 0) := of_decide_eq_false h86
       refine c_condF rfl h86 ?_
       refine c_skip ?_
       refine c_seq ?_
       refine c_seq ?_
       refine c_reg ?_
       refine l_val (gn rfl) rfl rfl (r_move rfl) ?_
       refine l_val (gn rfl) rfl rfl (r_neq (b := (!(decide ((mayE S by_ a (roleOf S.seats by_) : Nat) = 0)))) rfl rfl (congrArg Bool.not (neq' (mayE S by_ a (roleOf S.seats by_)) 0))) ?_
       refine l_nil ?_
       refine c_condT rfl (congrArg Bool.not h86) ?_
       refine c_seq ?_
       refine c_reg ?_
       refine l_val (gn rfl) rfl rfl (r_build rfl ((SRep.built _).trans (fill_nil))) ?_
       refine l_val (gn rfl) rfl rfl (r_move rfl) ?_
       refine l_store hM85 (i := 1) rfl Tryz.sizeOf37 rfl rfl (SRep.size _) (by rw [SRep.size]; decide) (SRep.one _) (put_whole _ _ ((SRep.size _).trans (SRep.size _).symm)) ?_
       intro w108 hM109 hK110
       replace hM109 : Mem w [] [(b76, (StepR.cells ((StepR.mk b1 by_ ((ARep.mk a.ver a.kind a.who a.E a.role sn55 a.acc sn62)) (roleOf S.seats by_)))), 79), (b16, (SRep.cells SRep.zero), 37), (b11, (ARep.cells ((ARep.mk a.ver a.kind a.who a.E a.role sn55 a.acc sn62))), 42), (b6, (Pt.cells by_), 24), (b1, (SRep.cells ((SRep.mk S.ver S.key qo43.t S.acc qo43.p qo43.s qo43.i qo43.a qo43.b))), 37)] w108 := hM109
       refine l_val (gn rfl) rfl rfl (r_assign rfl) ?_
       refine l_nil ?_
       refine c_ret ?_
       refine retCT rfl Tryz.isAgg37 Tryz.sizeOf37 (SRep.size _) rfl (hM109.base (i := 1) rfl) rfl ?_
       have hd : stepS S by_ a = (mayE S by_ a (roleOf S.seats by_), State.zero) := by simp only [stepS, h25, h30, h31, h33, h86, Bool.and_true, cond_true, cond_false] <;> rfl
       exact ⟨Six.nil, by rw [hd] <;> rfl, by rw [hd]; exact ownZero _ _, hM109.kp⟩
    ·skip
     have hp111 : ¬ ((a.ver.toNat : Nat) = S.ver.toNat + 1) := of_decide_eq_false h31
     refine c_condT rfl (congrArg Bool.not h31) ?_
     refine c_seq ?_
     refine c_reg ?_
     refine l_val (gn rfl) rfl rfl (r_build rfl ((SRep.built _).trans (fill_nil))) ?_
     refine l_store hM29 (i := 0) rfl Tryz.sizeOf37 rfl rfl (SRep.size _) (by rw [SRep.size]; decide) (SRep.one _) (put_whole _ _ ((SRep.size _).trans (SRep.size _).symm)) ?_
     intro w112 hM113 hK114
     replace hM113 : Mem w [] [(b16, (SRep.cells SRep.zero), 37), (b11, (ARep.cells ((ARep.mk a.ver a.kind a.who a.E a.role qa.t a.acc qa.p))), 42), (b6, (Pt.cells by_), 24), (b1, (SRep.cells ((SRep.mk S.ver S.key q.t S.acc q.p q.s q.i q.a q.b))), 37)] w112 := hM113
     refine l_val (gn rfl) rfl rfl (r_assign rfl) ?_
     refine l_nil ?_
     refine c_ret ?_
     refine retCT rfl Tryz.isAgg37 Tryz.sizeOf37 (SRep.size _) rfl (hM113.base (i := 0) rfl) rfl ?_
     have hd : stepS S by_ a = (190, State.zero) := by simp only [stepS, h25, h30, h31, Bool.and_true, cond_true, cond_false] <;> rfl
     exact ⟨Six.nil, by rw [hd] <;> rfl, by rw [hd]; exact ownZero _ _, hM113.kp⟩
   ·skip
    refine c_condT rfl (congrArg Bool.not h30) ?_
    refine c_seq ?_
    refine c_reg ?_
    refine l_val (gn rfl) rfl rfl (r_build rfl ((SRep.built _).trans (fill_nil))) ?_
    refine l_store hM29 (i := 0) rfl Tryz.sizeOf37 rfl rfl (SRep.size _) (by rw [SRep.size]; decide) (SRep.one _) (put_whole _ _ ((SRep.size _).trans (SRep.size _).symm)) ?_
    intro w115 hM116 hK117
    replace hM116 : Mem w [] [(b16, (SRep.cells SRep.zero), 37), (b11, (ARep.cells ((ARep.mk a.ver a.kind a.who a.E a.role qa.t a.acc qa.p))), 42), (b6, (Pt.cells by_), 24), (b1, (SRep.cells ((SRep.mk S.ver S.key q.t S.acc q.p q.s q.i q.a q.b))), 37)] w115 := hM116
    refine l_val (gn rfl) rfl rfl (r_assign rfl) ?_
    refine l_nil ?_
    refine c_ret ?_
    refine retCT rfl Tryz.isAgg37 Tryz.sizeOf37 (SRep.size _) rfl (hM116.base (i := 0) rfl) rfl ?_
    have hd : stepS S by_ a = (2, State.zero) := by simp only [stepS, h25, h30, Bool.and_false, cond_false] <;> rfl
    exact ⟨Six.nil, by rw [hd] <;> rfl, by rw [hd]; exact ownZero _ _, hM116.kp⟩
  ·skip
   refine l_off (gno rfl rfl rfl rfl (congrArg Bool.not h25)) rfl rfl ?_
   refine l_off (gno rfl rfl rfl rfl (congrArg Bool.not h25)) rfl rfl ?_
   refine l_off (gno rfl rfl rfl rfl (congrArg Bool.not h25)) rfl rfl ?_
   refine l_val (gn rfl) rfl rfl (r_pickT rfl (congrArg Bool.not h25) rfl) ?_
   refine l_nil ?_
   refine c_condT rfl rfl ?_
   refine c_seq ?_
   refine c_reg ?_
   refine l_val (gn rfl) rfl rfl (r_build rfl ((SRep.built _).trans (fill_nil))) ?_
   refine l_store hM24 (i := 0) rfl Tryz.sizeOf37 rfl rfl (SRep.size _) (by rw [SRep.size]; decide) (SRep.one _) (put_whole _ _ ((SRep.size _).trans (SRep.size _).symm)) ?_
   intro w118 hM119 hK120
   replace hM119 : Mem w [] [(b16, (SRep.cells SRep.zero), 37), (b11, (ARep.cells ((ARep.mk a.ver a.kind a.who a.E a.role qa.t a.acc qa.p))), 42), (b6, (Pt.cells by_), 24), (b1, (SRep.cells ((SRep.mk S.ver S.key q.t S.acc q.p q.s q.i q.a q.b))), 37)] w118 := hM119
   refine l_val (gn rfl) rfl rfl (r_assign rfl) ?_
   refine l_nil ?_
   refine c_ret ?_
   refine retCT rfl Tryz.isAgg37 Tryz.sizeOf37 (SRep.size _) rfl (hM119.base (i := 0) rfl) rfl ?_
   have hd : stepS S by_ a = (2, State.zero) := by simp only [stepS, h25, Bool.false_and, cond_false] <;> rfl
   exact ⟨Six.nil, by rw [hd] <;> rfl, by rw [hd]; exact ownZero _ _, hM119.kp⟩
end Go.Proofs.YtekhaogjmmmniaaGreat
namespace Go.Proofs.YtekhaogjmmmniaaGreat
open Go Go.RowKit
section
variable {base g o i off : Nat} {w : World} {q : Six} {Z : State} {v : Array Value}
theorem OwnSt.el_t (h : OwnSt base w q Z) {x : UInt8} (hi : Z.title[i]? = some x) (ha : q.t.a = some ⟨g, o, none⟩) (hput : ∃ x', put (encB x) off v = encB x') (hk : off + v.size ≤ 1) :
    ∃ cur Z', Blk w g cur 5 ∧ o + i * 1 + off + v.size ≤ cur.size ∧ OwnSt base (w.setRow g (put cur (o + i * 1 + off) v)) q Z' ∧ g ∈ q.bs ∧ Z'.title.length = Z.title.length ∧ Z'.pass.length = Z.pass.length ∧ Z'.seats.length = Z.seats.length ∧ Z'.invites.length = Z.invites.length ∧ Z'.asks.length = Z.asks.length ∧ Z'.bans.length = Z.bans.length := by
  obtain ⟨x', hput⟩ := hput
  obtain ⟨cur, h0, h1, h2, h3, h4⟩ := h.t.set enB hi ha hput hk
  have hg : q.t.val.ownBlock = some g := by simp [Sl.val, ha, Value.ownBlock]
  have k := Keeps.setRow w g (put cur (o + i * 1 + off) v)
  have sep := h.sep
  simp only [List.pairwise_cons, List.mem_cons, List.not_mem_nil, or_false, forall_eq_or_imp, forall_eq, false_imp_iff, implies_true, List.Pairwise.nil, and_true] at sep
  obtain ⟨⟨s01, s02, s03, s04, s05⟩, ⟨s12, s13, s14, s15⟩, ⟨s23, s24, s25⟩, ⟨s34, s35⟩, s45⟩ := sep
  have ne : ∀ {s : Sl}, Sep2 s q.t → ∀ x ∈ [g], s.val.ownBlock ≠ some x := fun hs x hx hc => by
    simp only [List.mem_cons, List.not_mem_nil, or_false] at hx
    subst hx
    exact hs x hc hg
  refine ⟨cur, { Z with title := Z.title.set i x' }, h2, h3, ⟨h4, h.p.keep k (ne s01.symm), h.s.keep k (ne s02.symm), h.i.keep k (ne s03.symm), h.a.keep k (ne s04.symm), h.b.keep k (ne s05.symm), h.sep⟩, mem_bs.2 ⟨q.t, by simp [Six.sls], hg⟩, List.length_set, rfl, rfl, rfl, rfl, rfl⟩
theorem OwnSt.el_p (h : OwnSt base w q Z) {x : UInt8} (hi : Z.pass[i]? = some x) (ha : q.p.a = some ⟨g, o, none⟩) (hput : ∃ x', put (encB x) off v = encB x') (hk : off + v.size ≤ 1) :
    ∃ cur Z', Blk w g cur 5 ∧ o + i * 1 + off + v.size ≤ cur.size ∧ OwnSt base (w.setRow g (put cur (o + i * 1 + off) v)) q Z' ∧ g ∈ q.bs ∧ Z'.title.length = Z.title.length ∧ Z'.pass.length = Z.pass.length ∧ Z'.seats.length = Z.seats.length ∧ Z'.invites.length = Z.invites.length ∧ Z'.asks.length = Z.asks.length ∧ Z'.bans.length = Z.bans.length := by
  obtain ⟨x', hput⟩ := hput
  obtain ⟨cur, h0, h1, h2, h3, h4⟩ := h.p.set enB hi ha hput hk
  have hg : q.p.val.ownBlock = some g := by simp [Sl.val, ha, Value.ownBlock]
  have k := Keeps.setRow w g (put cur (o + i * 1 + off) v)
  have sep := h.sep
  simp only [List.pairwise_cons, List.mem_cons, List.not_mem_nil, or_false, forall_eq_or_imp, forall_eq, false_imp_iff, implies_true, List.Pairwise.nil, and_true] at sep
  obtain ⟨⟨s01, s02, s03, s04, s05⟩, ⟨s12, s13, s14, s15⟩, ⟨s23, s24, s25⟩, ⟨s34, s35⟩, s45⟩ := sep
  have ne : ∀ {s : Sl}, Sep2 s q.p → ∀ x ∈ [g], s.val.ownBlock ≠ some x := fun hs x hx hc => by
    simp only [List.mem_cons, List.not_mem_nil, or_false] at hx
    subst hx
    exact hs x hc hg
  refine ⟨cur, { Z with pass := Z.pass.set i x' }, h2, h3, ⟨h.t.keep k (ne s01), h4, h.s.keep k (ne s12.symm), h.i.keep k (ne s13.symm), h.a.keep k (ne s14.symm), h.b.keep k (ne s15.symm), h.sep⟩, mem_bs.2 ⟨q.p, by simp [Six.sls], hg⟩, rfl, List.length_set, rfl, rfl, rfl, rfl⟩
theorem OwnSt.el_s (h : OwnSt base w q Z) {x : Seat} (hi : Z.seats[i]? = some x) (ha : q.s.a = some ⟨g, o, none⟩) (hput : ∃ x', put (Seat.cells x) off v = Seat.cells x') (hk : off + v.size ≤ 66) :
    ∃ cur Z', Blk w g cur 73 ∧ o + i * 66 + off + v.size ≤ cur.size ∧ OwnSt base (w.setRow g (put cur (o + i * 66 + off) v)) q Z' ∧ g ∈ q.bs ∧ Z'.title.length = Z.title.length ∧ Z'.pass.length = Z.pass.length ∧ Z'.seats.length = Z.seats.length ∧ Z'.invites.length = Z.invites.length ∧ Z'.asks.length = Z.asks.length ∧ Z'.bans.length = Z.bans.length := by
  obtain ⟨x', hput⟩ := hput
  obtain ⟨cur, h0, h1, h2, h3, h4⟩ := h.s.set enSeat hi ha hput hk
  have hg : q.s.val.ownBlock = some g := by simp [Sl.val, ha, Value.ownBlock]
  have k := Keeps.setRow w g (put cur (o + i * 66 + off) v)
  have sep := h.sep
  simp only [List.pairwise_cons, List.mem_cons, List.not_mem_nil, or_false, forall_eq_or_imp, forall_eq, false_imp_iff, implies_true, List.Pairwise.nil, and_true] at sep
  obtain ⟨⟨s01, s02, s03, s04, s05⟩, ⟨s12, s13, s14, s15⟩, ⟨s23, s24, s25⟩, ⟨s34, s35⟩, s45⟩ := sep
  have ne : ∀ {s : Sl}, Sep2 s q.s → ∀ x ∈ [g], s.val.ownBlock ≠ some x := fun hs x hx hc => by
    simp only [List.mem_cons, List.not_mem_nil, or_false] at hx
    subst hx
    exact hs x hc hg
  refine ⟨cur, { Z with seats := Z.seats.set i x' }, h2, h3, ⟨h.t.keep k (ne s02), h.p.keep k (ne s12), h4, h.i.keep k (ne s23.symm), h.a.keep k (ne s24.symm), h.b.keep k (ne s25.symm), h.sep⟩, mem_bs.2 ⟨q.s, by simp [Six.sls], hg⟩, rfl, rfl, List.length_set, rfl, rfl, rfl⟩
theorem OwnSt.el_i (h : OwnSt base w q Z) {x : Invite} (hi : Z.invites[i]? = some x) (ha : q.i.a = some ⟨g, o, none⟩) (hput : ∃ x', put (Invite.cells x) off v = Invite.cells x') (hk : off + v.size ≤ 129) :
    ∃ cur Z', Blk w g cur 82 ∧ o + i * 129 + off + v.size ≤ cur.size ∧ OwnSt base (w.setRow g (put cur (o + i * 129 + off) v)) q Z' ∧ g ∈ q.bs ∧ Z'.title.length = Z.title.length ∧ Z'.pass.length = Z.pass.length ∧ Z'.seats.length = Z.seats.length ∧ Z'.invites.length = Z.invites.length ∧ Z'.asks.length = Z.asks.length ∧ Z'.bans.length = Z.bans.length := by
  obtain ⟨x', hput⟩ := hput
  obtain ⟨cur, h0, h1, h2, h3, h4⟩ := h.i.set enInvite hi ha hput hk
  have hg : q.i.val.ownBlock = some g := by simp [Sl.val, ha, Value.ownBlock]
  have k := Keeps.setRow w g (put cur (o + i * 129 + off) v)
  have sep := h.sep
  simp only [List.pairwise_cons, List.mem_cons, List.not_mem_nil, or_false, forall_eq_or_imp, forall_eq, false_imp_iff, implies_true, List.Pairwise.nil, and_true] at sep
  obtain ⟨⟨s01, s02, s03, s04, s05⟩, ⟨s12, s13, s14, s15⟩, ⟨s23, s24, s25⟩, ⟨s34, s35⟩, s45⟩ := sep
  have ne : ∀ {s : Sl}, Sep2 s q.i → ∀ x ∈ [g], s.val.ownBlock ≠ some x := fun hs x hx hc => by
    simp only [List.mem_cons, List.not_mem_nil, or_false] at hx
    subst hx
    exact hs x hc hg
  refine ⟨cur, { Z with invites := Z.invites.set i x' }, h2, h3, ⟨h.t.keep k (ne s03), h.p.keep k (ne s13), h.s.keep k (ne s23), h4, h.a.keep k (ne s34.symm), h.b.keep k (ne s35.symm), h.sep⟩, mem_bs.2 ⟨q.i, by simp [Six.sls], hg⟩, rfl, rfl, rfl, List.length_set, rfl, rfl⟩
theorem OwnSt.el_a (h : OwnSt base w q Z) {x : Ask} (hi : Z.asks[i]? = some x) (ha : q.a.a = some ⟨g, o, none⟩) (hput : ∃ x', put (Ask.cells x) off v = Ask.cells x') (hk : off + v.size ≤ 65) :
    ∃ cur Z', Blk w g cur 84 ∧ o + i * 65 + off + v.size ≤ cur.size ∧ OwnSt base (w.setRow g (put cur (o + i * 65 + off) v)) q Z' ∧ g ∈ q.bs ∧ Z'.title.length = Z.title.length ∧ Z'.pass.length = Z.pass.length ∧ Z'.seats.length = Z.seats.length ∧ Z'.invites.length = Z.invites.length ∧ Z'.asks.length = Z.asks.length ∧ Z'.bans.length = Z.bans.length := by
  obtain ⟨x', hput⟩ := hput
  obtain ⟨cur, h0, h1, h2, h3, h4⟩ := h.a.set enAsk hi ha hput hk
  have hg : q.a.val.ownBlock = some g := by simp [Sl.val, ha, Value.ownBlock]
  have k := Keeps.setRow w g (put cur (o + i * 65 + off) v)
  have sep := h.sep
  simp only [List.pairwise_cons, List.mem_cons, List.not_mem_nil, or_false, forall_eq_or_imp, forall_eq, false_imp_iff, implies_true, List.Pairwise.nil, and_true] at sep
  obtain ⟨⟨s01, s02, s03, s04, s05⟩, ⟨s12, s13, s14, s15⟩, ⟨s23, s24, s25⟩, ⟨s34, s35⟩, s45⟩ := sep
  have ne : ∀ {s : Sl}, Sep2 s q.a → ∀ x ∈ [g], s.val.ownBlock ≠ some x := fun hs x hx hc => by
    simp only [List.mem_cons, List.not_mem_nil, or_false] at hx
    subst hx
    exact hs x hc hg
  refine ⟨cur, { Z with asks := Z.asks.set i x' }, h2, h3, ⟨h.t.keep k (ne s04), h.p.keep k (ne s14), h.s.keep k (ne s24), h.i.keep k (ne s34), h4, h.b.keep k (ne s45.symm), h.sep⟩, mem_bs.2 ⟨q.a, by simp [Six.sls], hg⟩, rfl, rfl, rfl, rfl, List.length_set, rfl⟩
theorem OwnSt.el_b (h : OwnSt base w q Z) {x : Ban} (hi : Z.bans[i]? = some x) (ha : q.b.a = some ⟨g, o, none⟩) (hput : ∃ x', put (Ban.cells x) off v = Ban.cells x') (hk : off + v.size ≤ 128) :
    ∃ cur Z', Blk w g cur 86 ∧ o + i * 128 + off + v.size ≤ cur.size ∧ OwnSt base (w.setRow g (put cur (o + i * 128 + off) v)) q Z' ∧ g ∈ q.bs ∧ Z'.title.length = Z.title.length ∧ Z'.pass.length = Z.pass.length ∧ Z'.seats.length = Z.seats.length ∧ Z'.invites.length = Z.invites.length ∧ Z'.asks.length = Z.asks.length ∧ Z'.bans.length = Z.bans.length := by
  obtain ⟨x', hput⟩ := hput
  obtain ⟨cur, h0, h1, h2, h3, h4⟩ := h.b.set enBan hi ha hput hk
  have hg : q.b.val.ownBlock = some g := by simp [Sl.val, ha, Value.ownBlock]
  have k := Keeps.setRow w g (put cur (o + i * 128 + off) v)
  have sep := h.sep
  simp only [List.pairwise_cons, List.mem_cons, List.not_mem_nil, or_false, forall_eq_or_imp, forall_eq, false_imp_iff, implies_true, List.Pairwise.nil, and_true] at sep
  obtain ⟨⟨s01, s02, s03, s04, s05⟩, ⟨s12, s13, s14, s15⟩, ⟨s23, s24, s25⟩, ⟨s34, s35⟩, s45⟩ := sep
  have ne : ∀ {s : Sl}, Sep2 s q.b → ∀ x ∈ [g], s.val.ownBlock ≠ some x := fun hs x hx hc => by
    simp only [List.mem_cons, List.not_mem_nil, or_false] at hx
    subst hx
    exact hs x hc hg
  refine ⟨cur, { Z with bans := Z.bans.set i x' }, h2, h3, ⟨h.t.keep k (ne s05), h.p.keep k (ne s15), h.s.keep k (ne s25), h.i.keep k (ne s35), h.a.keep k (ne s45), h4, h.sep⟩, mem_bs.2 ⟨q.b, by simp [Six.sls], hg⟩, rfl, rfl, rfl, rfl, rfl, List.length_set⟩
end
theorem put_in {cs sub d : Array Value} {o1 o2 : Nat} (hs : Sub cs o1 sub) (hf : o1 + sub.size ≤ cs.size) (h2 : o2 + d.size ≤ sub.size) : put cs (o1 + o2) d = put cs o1 (put sub o2 d) := by
  apply Array.ext_getElem?
  intro j
  have hps := put_size sub o2 d h2
  rw [put_getElem? _ _ _ (by omega), put_getElem? _ _ _ (by rw [hps]; exact hf), hps]
  by_cases h1 : o1 ≤ j ∧ j < o1 + sub.size
  · rw [if_pos h1, put_getElem? _ _ _ h2]
    by_cases h3 : o1 + o2 ≤ j ∧ j < o1 + o2 + d.size
    · rw [if_pos h3, if_pos (by omega)]
      congr 1; omega
    · rw [if_neg h3, if_neg (by omega), ← hs (j - o1) (by omega)]
      congr 1; omega
  · rw [if_neg h1, if_neg (by omega)]
theorem Pt.put_at (p : Pt) (i : Nat) (hi : i < 32) (c : UInt8) : put p.cells i #[vU8 c] = Pt.cells (p.set i c) := by
  apply Array.ext_getElem?
  intro j
  rw [put_getElem? _ _ _ (by rw [Pt.size]; simp; omega)]
  by_cases h : i = j
  · subst h
    rw [if_pos ⟨by omega, by simp⟩, Pt.get _ _ hi]; simp
  · rw [if_neg (by simp; omega)]
    by_cases hj : j < 32
    · rw [Pt.get _ _ hj, Pt.get _ _ hj, Vector.getElem_set_ne _ _ h]
    · rw [Array.getElem?_eq_none (by rw [Pt.size]; omega), Array.getElem?_eq_none (by rw [Pt.size]; omega)]
theorem put_inv (x : Invite) (c : UInt8) : ∃ x', put (Invite.cells x) (65 + 0 + 0 * 1) #[vU8 c] = Invite.cells x' := by
  have h1 := Pt.put_at x.by_.E 0 (by decide) c
  have h2 : put (Cipher.cells x.by_) (0 + 0) #[vU8 c] = put (Cipher.cells x.by_) 0 (put (Pt.cells x.by_.E) 0 #[vU8 c]) := put_in (Cipher.sub_E x.by_) (by rw [Pt.size, Cipher.size]; decide) (by rw [Pt.size]; simp)
  rw [h1, Cipher.put_E] at h2
  have h3 : put (Invite.cells x) (65 + (0 + 0)) #[vU8 c] = put (Invite.cells x) 65 (put (Cipher.cells x.by_) (0 + 0) #[vU8 c]) := put_in (Invite.sub_by_ x) (by rw [Cipher.size, Invite.size]; decide) (by rw [Cipher.size]; simp)
  rw [h2, Invite.put_by_] at h3
  exact ⟨_, h3⟩
theorem put_ban (x : Ban) (c : UInt8) : ∃ x', put (Ban.cells x) (64 + 0 + 0 * 1) #[vU8 c] = Ban.cells x' := by
  have h1 := Pt.put_at x.by_.E 0 (by decide) c
  have h2 : put (Cipher.cells x.by_) (0 + 0) #[vU8 c] = put (Cipher.cells x.by_) 0 (put (Pt.cells x.by_.E) 0 #[vU8 c]) := put_in (Cipher.sub_E x.by_) (by rw [Pt.size, Cipher.size]; decide) (by rw [Pt.size]; simp)
  rw [h1, Cipher.put_E] at h2
  have h3 : put (Ban.cells x) (64 + (0 + 0)) #[vU8 c] = put (Ban.cells x) 64 (put (Cipher.cells x.by_) (0 + 0) #[vU8 c]) := put_in (Ban.sub_by_ x) (by rw [Cipher.size, Ban.size]; decide) (by rw [Cipher.size]; simp)
  rw [h2, Ban.put_by_] at h3
  exact ⟨_, h3⟩
theorem put_seat (x : Seat) (c : UInt32) : ∃ x', put (Seat.cells x) 65 #[vU32 c] = Seat.cells x' := ⟨_, Seat.put_joined x c⟩
theorem put_ask (x : Ask) (c : UInt32) : ∃ x', put (Ask.cells x) 64 #[vU32 c] = Ask.cells x' := ⟨_, Ask.put_at_ x c⟩
theorem put_byte (x c : UInt8) : ∃ x', put (encB x) 0 #[vU8 c] = encB x' := ⟨c, rfl⟩
theorem wu32 (x y : UInt32) : IntKind.u32.wrap ((x.toNat : Int) + (y.toNat : Int)) = ((x + y).toNat : Int) := by
  have := x.toNat_lt
  simp [IntKind.wrap, IntKind.bits, IntKind.signed, UInt32.toNat_add]

section steps
variable {n : Nat} {env : List (Nat × Value)} {W w : World} {L : List Ent} {N : Pst} {E : List (Nat × Pst)} {R : Pst} {ops : Array Oper} {rest : List Oper}
variable {ty : TypeId} {pos : String} {af : Array Edge} {p y : Operand} {T : TypeId} {v : Value} {base g off : Nat} {q : Six} {Z : State} {e : TypeId}
variable {S : World → Prop} {late : List Nat} {r : List (Nat × Bool)} {ld : Bool} {j : Nat}
/-- As long as they were. -/
def Len (Z Z' : State) : Prop := Z'.title.length = Z.title.length ∧ Z'.pass.length = Z.pass.length ∧ Z'.seats.length = Z.seats.length ∧ Z'.invites.length = Z.invites.length ∧ Z'.asks.length = Z.asks.length ∧ Z'.bans.length = Z.bans.length
theorem Len.trans {A B C : State} (h : Len A B) (k : Len B C) : Len A C := ⟨k.1.trans h.1, k.2.1.trans h.2.1, k.2.2.1.trans h.2.2.1, k.2.2.2.1.trans h.2.2.2.1, k.2.2.2.2.1.trans h.2.2.2.2.1, k.2.2.2.2.2.trans h.2.2.2.2.2⟩
theorem Len.refl (A : State) : Len A A := ⟨rfl, rfl, rfl, rfl, rfl, rfl⟩
theorem keepOw {X : List Nat} (hM : Mem W X L w) {cs : Array Value} (hX : ∀ k ∈ q.bs, k ∈ X) (hL : ∀ x ∈ L.map Prod.fst, x ∉ q.bs) (hg : g ∈ q.bs) : Mem W X L (w.setRow g cs) ∧ Keeps q.bs w (w.setRow g cs) := by
  have k : Keeps q.bs w (w.setRow g cs) := (Keeps.setRow w g cs).mono fun x hx => by simp only [List.mem_cons, List.not_mem_nil, or_false] at hx; subst hx; exact hg
  exact ⟨⟨hM.kp.then k fun y hy => .inl (hX y hy), fun e he => (hM.has e he).keep k (hL e.1 (List.mem_map_of_mem he)), hM.own, hM.nd⟩, k⟩
theorem l_storeEl {X : List Nat} (hM : Mem W X L w) (hX : ∀ k ∈ q.bs, k ∈ X) (hL : ∀ x ∈ L.map Prod.fst, x ∉ q.bs) (H : ∃ cur Z', Blk w g cur e ∧ off + v.cells.size ≤ cur.size ∧ OwnSt base (w.setRow g (put cur off v.cells)) q Z' ∧ g ∈ q.bs ∧ Len Z Z')
    (hs : ∀ w, (sizeOf T).run Tryz.prog w = .ok v.cells.size w) (hx : ev env p = some (.pointer (some ⟨g, off, none⟩))) (hv : ev env y = some v) (h1 : ∀ c ∈ v.cells, c.oneCell' = true)
    (h : ∀ w' Z', Mem W X L w' → Keeps q.bs w w' → OwnSt base w' q Z' → Len Z Z' → AT n env w' (LW ops rest N E R)) :
    AT n env w (LW ops (⟨none, .store T p y, ty, pos, af, none⟩ :: rest) N E R) := by
  obtain ⟨cur, Z', h2, h3, h4, h5, h6⟩ := H
  obtain ⟨k1, k2⟩ := keepOw hM hX hL h5
  exact l_skip (gn rfl) rfl (r_store hs hx hv rfl h2 h3 h1) (h _ Z' k1 k2 h4 h6)
theorem s_storeEl {X : List Nat} (hM : Mem W X L w) (hX : ∀ k ∈ q.bs, k ∈ X) (hL : ∀ x ∈ L.map Prod.fst, x ∉ q.bs) (H : ∃ cur Z', Blk w g cur e ∧ off + v.cells.size ≤ cur.size ∧ OwnSt base (w.setRow g (put cur off v.cells)) q Z' ∧ g ∈ q.bs ∧ Len Z Z')
    (hj : ops[j]? = some ⟨none, .store T p y, ty, pos, af, none⟩) (hs : ∀ w, (sizeOf T).run Tryz.prog w = .ok v.cells.size w) (hx : ev env p = some (.pointer (some ⟨g, off, none⟩))) (hv : ev env y = some v) (h1 : ∀ c ∈ v.cells, c.oneCell' = true)
    (h : ∀ w' Z', Mem W X L w' → Keeps q.bs w w' → OwnSt base w' q Z' → Len Z Z' → ((ld || late.contains j) = true ∨ S w') ∧ AT n env w' (SW ops S late r (ld || late.contains j) N E R)) :
    AT n env w (SW ops S late ((j, false) :: r) ld N E R) := by
  obtain ⟨cur, Z', h2, h3, h4, h5, h6⟩ := H
  obtain ⟨k1, k2⟩ := keepOw hM hX hL h5
  have h' := h _ Z' k1 k2 h4 h6
  exact s_skip hj (gn rfl) rfl (r_store hs hx hv rfl h2 h3 h1) h'.1 h'.2
variable {d : Option Nat} {x : Operand} {gd : Option (Nat × Bool)}
/-- A field of a value. -/
theorem r_field {s f : Nat} {fs : Array Field} {fl : Field} {cs : Array Value} {u : Value} (hu : Tryz.prog.underlying s = some (.struct fs)) (hf : fs[f]? = some fl) (hp : (part fl.type cs fl.offset).run Tryz.prog w = .ok u w) (hx : ev env x = some (.agg cs)) :
    Run n env w ⟨d, .field s x f, ty, pos, af, gd⟩ (.value u) w := fun a ha => by
  simp [execOp, ha.eval hx, Instr.field, run_underlying hu, hf, asAgg, hp]
end steps
end Go.Proofs.YtekhaogjmmmniaaGreat
namespace Go.Proofs.YtekhaogjmmmniaaGreat
open Go Go.RowKit

set_option maxHeartbeats 4000000 in
theorem f19 {w : World} {base : Nat} {q : Six} {S : State} (hO : OwnSt base w q S) : Ret 19 #[.agg (S.rep q).cells] w (fun v w' => v = .tuple #[] ∧ Keeps q.bs w w') := by
  obtain ⟨hn1, hn2, hn3, hn4, hn5, hn6⟩ := hO.stv.bd
  have hM0 : Mem w q.bs [] w := ⟨Keeps.refl _ _, by simp, by simp, by simp⟩
  refine enter Tryz.func19 rfl rfl ?_
  refine c_seq ?_
  refine c_reg ?_
  refine l_box hM0 rfl rfl ?_
  intro b1 w2 hM3 hK4 hB5
  replace hM3 : Mem w q.bs [(b1, (SRep.cells ((SRep.mk S.ver S.key q.t S.acc q.p q.s q.i q.a q.b))), 37)] w2 := hM3
  refine l_nil ?_
  refine c_seq ?_
  refine c_seq ?_
  refine c_reg ?_
  refine l_val (gn rfl) rfl rfl (r_assign rfl) ?_
  refine l_nil ?_
  refine c_block ?_
  have hLb : ∀ x ∈ [b1], x ∉ q.bs := fun x hx hm => by simp only [List.mem_cons, List.not_mem_nil, or_false] at hx; have := (hO.lo x hm).2; omega
  refine c_loop (ι := Nat) (fun ki w_ => Mem w q.bs [(b1, (SRep.cells ((SRep.mk S.ver S.key q.t S.acc q.p q.s q.i q.a q.b))), 37)] w_ ∧ (ki ≤ S.invites.length ∧ ∃ Z : State, OwnSt base w_ q Z ∧ Len S Z)) (fun ki => [(0, Value.agg (SRep.cells ((SRep.mk S.ver S.key q.t S.acc q.p q.s q.i q.a q.b)))), (1, Value.pointer (some ⟨b1, 0, none⟩)), (2, Value.int .i64 ((ki : Nat) : Int))]) (fun ki => S.invites.length - ki) 0 ⟨hM3, Nat.zero_le _, S, (hO.keep0 hK4), Len.refl _⟩ ⟨rfl, rfl, rfl, trivial⟩ ?_
  rintro ki w6 ⟨hM7, hkinvites, Zinvites, hZinvites, hLninvites⟩
  obtain ⟨hLtinvites, hLpinvites, hLsinvites, hLiinvites, hLainvites, hLbinvites⟩ := hLninvites
  have hLninvites : Len S Zinvites := ⟨hLtinvites, hLpinvites, hLsinvites, hLiinvites, hLainvites, hLbinvites⟩
  have hbdinvites := hZinvites.stv.bd
  refine c_seq ?_
  refine c_seq ?_
  refine c_reg ?_
  refine l_val (gn rfl) rfl rfl (r_move rfl) ?_
  refine l_val (gn rfl) rfl rfl (r_fieldAddr SRep.fld_invites rfl) ?_
  refine l_val (gn rfl) rfl rfl (r_load1 (v := Sl.val q.i) Tryz.isAgg33 rfl (Holds.sub (hM7.base (i := 0) rfl) (SRep.sub_invites _))) ?_
  refine l_val (gn rfl) rfl rfl (r_lenR Tryz.underlying33 rfl hZinvites.stv.invites.len) ?_
  refine l_val (gn rfl) rfl rfl (r_lss (b := decide ((ki : Nat) < Zinvites.invites.length)) rfl rfl (nlt ki Zinvites.invites.length)) ?_
  refine l_nil ?_
  refine ways (decide ((ki : Nat) < Zinvites.invites.length)) (fun h8 => ?_) (fun h8 => ?_)
  ·skip
   have hp9 : (ki : Nat) < Zinvites.invites.length := of_decide_eq_true h8
   refine c_condT rfl h8 ?_
   refine c_skip ?_
   refine c_seq ?_
   refine c_block ?_
   refine c_regD (fun w_ => Mem w q.bs [(b1, (SRep.cells ((SRep.mk S.ver S.key q.t S.acc q.p q.s q.i q.a q.b))), 37)] w_ ∧ OwnSt base w_ q Zinvites) [13] [(0, true), (1, true), (2, true), (3, true), (4, true), (5, true), (6, true), (7, true), (8, true), (9, true), (10, true), (11, true), (12, true), (13, false)] (by kernel_rfl) ?_
   have hM10 := hM7.drew
   refine s_take ⟨hM10, (hZinvites.keep0 (Keeps.drew _))⟩ rfl (gn rfl) rfl rfl (fun w h => r_fieldAddr SRep.fld_invites rfl) ?_
   refine s_take ⟨hM10, (hZinvites.keep0 (Keeps.drew _))⟩ rfl (gn rfl) rfl rfl (fun w h => r_load1 (v := Sl.val q.i) Tryz.isAgg33 rfl (Holds.sub (h.1.base (i := 0) rfl) (SRep.sub_invites _))) ?_
   refine s_take ⟨hM10, (hZinvites.keep0 (Keeps.drew _))⟩ rfl (gn rfl) rfl rfl (fun w h => r_move rfl) ?_
   have hlt12 : ki < Zinvites.invites.length := by first | assumption | omega
   obtain ⟨x12, hx12⟩ : ∃ x, Zinvites.invites[ki]? = some x := ⟨_, List.getElem?_eq_getElem hlt12⟩
   obtain ⟨p12, o12, ha12, hA12, -⟩ := (hZinvites.keep0 (Keeps.drew _)).stv.invites.at_ _ _ hx12
   refine s_take ⟨hM10, (hZinvites.keep0 (Keeps.drew _))⟩ rfl (gn rfl) rfl rfl (fun w h => r_indexR Tryz.underlying33 Tryz.sizeOf82 ⟨_, h.2.stv.invites⟩ rfl ha12 rfl hlt12) ?_
   refine s_take ⟨hM10, (hZinvites.keep0 (Keeps.drew _))⟩ rfl (gn rfl) rfl rfl (fun w h => r_fieldAddr Invite.fld_by_ rfl) ?_
   refine s_take ⟨hM10, (hZinvites.keep0 (Keeps.drew _))⟩ rfl (gn rfl) rfl rfl (fun w h => r_fieldAddr Cipher.fld_E rfl) ?_
   refine s_take ⟨hM10, (hZinvites.keep0 (Keeps.drew _))⟩ rfl (gn rfl) rfl rfl (fun w h => r_indexArr Tryz.underlying24 Tryz.sizeOf5 rfl rfl (by decide)) ?_
   refine s_take ⟨hM10, (hZinvites.keep0 (Keeps.drew _))⟩ rfl (gn rfl) rfl rfl (fun w h => r_load1 (v := vU8 (x12.by_.E[0])) Tryz.isAgg5 rfl (Holds.sub (Holds.sub (Holds.sub (h.2.stv.invites.ix hx12 ha12) (Invite.sub_by_ _)) (Cipher.sub_E _)) (sub_at (i := 0) (by decide)))) ?_
   refine s_take ⟨hM10, (hZinvites.keep0 (Keeps.drew _))⟩ rfl (gn rfl) rfl rfl (fun w h => r_add (r := (((x12.by_.E[0]) + 1 : UInt8).toNat : Int)) rfl rfl (wu8 (x12.by_.E[0]) 1)) ?_
   refine s_take ⟨hM10, (hZinvites.keep0 (Keeps.drew _))⟩ rfl (gn rfl) rfl rfl (fun w h => r_indexR Tryz.underlying33 Tryz.sizeOf82 ⟨_, h.2.stv.invites⟩ rfl ha12 rfl hlt12) ?_
   refine s_take ⟨hM10, (hZinvites.keep0 (Keeps.drew _))⟩ rfl (gn rfl) rfl rfl (fun w h => r_fieldAddr Invite.fld_by_ rfl) ?_
   refine s_take ⟨hM10, (hZinvites.keep0 (Keeps.drew _))⟩ rfl (gn rfl) rfl rfl (fun w h => r_fieldAddr Cipher.fld_E rfl) ?_
   refine s_take ⟨hM10, (hZinvites.keep0 (Keeps.drew _))⟩ rfl (gn rfl) rfl rfl (fun w h => r_indexArr Tryz.underlying24 Tryz.sizeOf5 rfl rfl (by decide)) ?_
   refine s_storeEl (v := vU8 (((x12.by_.E[0]) + 1))) hM10 (fun k hk => hk) hLb (OwnSt.el_i (hZinvites.keep0 (Keeps.drew _)) hx12 ha12 (off := 65 + 0 + 0 * 1) (put_inv _ _) (by simp [vU8, Value.cells])) rfl Tryz.sizeOf5 rfl rfl (one_one rfl) ?_
   intro w14 Z13 hM15 hK16 hZ17 hL18
   refine ⟨.inl rfl, ?_⟩
   refine s_nil ?_
   refine c_reg ?_
   refine l_val (gn rfl) rfl rfl (r_move rfl) ?_
   refine l_val (gn rfl) rfl rfl (r_add (r := ((ki + 1 : Nat) : Int)) rfl rfl (nadd (i := ki) (k := 1) (m := ki + 1) (by omega) (by omega))) ?_
   refine l_val (gn rfl) rfl rfl (r_assign rfl) ?_
   refine l_nil ?_
   intro a_ ha_
   refine ⟨ki + 1, ⟨hM15, ?_⟩, by omega, ha_.sub ⟨rfl, rfl, rfl, trivial⟩⟩
   exact ⟨by omega, Z13, hZ17, hLninvites.trans hL18⟩
  ·skip
   have hp19 : ¬ ((ki : Nat) < Zinvites.invites.length) := of_decide_eq_false h8
   refine c_condF rfl h8 ?_
   refine c_exit rfl ?_
   refine c_seq ?_
   refine c_seq ?_
   refine c_reg ?_
   refine l_val (gn rfl) rfl rfl (r_assign rfl) ?_
   refine l_nil ?_
   refine c_block ?_
   refine c_loop (ι := Nat) (fun kb w_ => Mem w q.bs [(b1, (SRep.cells ((SRep.mk S.ver S.key q.t S.acc q.p q.s q.i q.a q.b))), 37)] w_ ∧ (kb ≤ S.bans.length ∧ ∃ Z : State, OwnSt base w_ q Z ∧ Len S Z)) (fun kb => [(0, Value.agg (SRep.cells ((SRep.mk S.ver S.key q.t S.acc q.p q.s q.i q.a q.b)))), (1, Value.pointer (some ⟨b1, 0, none⟩)), (2, Value.int .i64 ((ki : Nat) : Int)), (12, Value.bool (decide ((ki : Nat) < Zinvites.invites.length))), (3, Value.int .i64 ((kb : Nat) : Int))]) (fun kb => S.bans.length - kb) 0 ⟨hM7, Nat.zero_le _, Zinvites, hZinvites, hLninvites⟩ ⟨rfl, rfl, rfl, rfl, rfl, trivial⟩ ?_
   rintro kb w20 ⟨hM21, hkbans, Zbans, hZbans, hLnbans⟩
   obtain ⟨hLtbans, hLpbans, hLsbans, hLibans, hLabans, hLbbans⟩ := hLnbans
   have hLnbans : Len S Zbans := ⟨hLtbans, hLpbans, hLsbans, hLibans, hLabans, hLbbans⟩
   have hbdbans := hZbans.stv.bd
   refine c_seq ?_
   refine c_seq ?_
   refine c_reg ?_
   refine l_val (gn rfl) rfl rfl (r_move rfl) ?_
   refine l_val (gn rfl) rfl rfl (r_fieldAddr SRep.fld_bans rfl) ?_
   refine l_val (gn rfl) rfl rfl (r_load1 (v := Sl.val q.b) Tryz.isAgg35 rfl (Holds.sub (hM21.base (i := 0) rfl) (SRep.sub_bans _))) ?_
   refine l_val (gn rfl) rfl rfl (r_lenR Tryz.underlying35 rfl hZbans.stv.bans.len) ?_
   refine l_val (gn rfl) rfl rfl (r_lss (b := decide ((kb : Nat) < Zbans.bans.length)) rfl rfl (nlt kb Zbans.bans.length)) ?_
   refine l_nil ?_
   refine ways (decide ((kb : Nat) < Zbans.bans.length)) (fun h22 => ?_) (fun h22 => ?_)
   ·skip
    have hp23 : (kb : Nat) < Zbans.bans.length := of_decide_eq_true h22
    refine c_condT rfl h22 ?_
    refine c_skip ?_
    refine c_seq ?_
    refine c_block ?_
    refine c_regD (fun w_ => Mem w q.bs [(b1, (SRep.cells ((SRep.mk S.ver S.key q.t S.acc q.p q.s q.i q.a q.b))), 37)] w_ ∧ OwnSt base w_ q Zbans) [13] [(0, true), (1, true), (2, true), (3, true), (4, true), (5, true), (6, true), (7, true), (8, true), (9, true), (10, true), (11, true), (12, true), (13, false)] (by kernel_rfl) ?_
    have hM24 := hM21.drew
    refine s_take ⟨hM24, (hZbans.keep0 (Keeps.drew _))⟩ rfl (gn rfl) rfl rfl (fun w h => r_fieldAddr SRep.fld_bans rfl) ?_
    refine s_take ⟨hM24, (hZbans.keep0 (Keeps.drew _))⟩ rfl (gn rfl) rfl rfl (fun w h => r_load1 (v := Sl.val q.b) Tryz.isAgg35 rfl (Holds.sub (h.1.base (i := 0) rfl) (SRep.sub_bans _))) ?_
    refine s_take ⟨hM24, (hZbans.keep0 (Keeps.drew _))⟩ rfl (gn rfl) rfl rfl (fun w h => r_move rfl) ?_
    have hlt26 : kb < Zbans.bans.length := by first | assumption | omega
    obtain ⟨x26, hx26⟩ : ∃ x, Zbans.bans[kb]? = some x := ⟨_, List.getElem?_eq_getElem hlt26⟩
    obtain ⟨p26, o26, ha26, hA26, -⟩ := (hZbans.keep0 (Keeps.drew _)).stv.bans.at_ _ _ hx26
    refine s_take ⟨hM24, (hZbans.keep0 (Keeps.drew _))⟩ rfl (gn rfl) rfl rfl (fun w h => r_indexR Tryz.underlying35 Tryz.sizeOf86 ⟨_, h.2.stv.bans⟩ rfl ha26 rfl hlt26) ?_
    refine s_take ⟨hM24, (hZbans.keep0 (Keeps.drew _))⟩ rfl (gn rfl) rfl rfl (fun w h => r_fieldAddr Ban.fld_by_ rfl) ?_
    refine s_take ⟨hM24, (hZbans.keep0 (Keeps.drew _))⟩ rfl (gn rfl) rfl rfl (fun w h => r_fieldAddr Cipher.fld_E rfl) ?_
    refine s_take ⟨hM24, (hZbans.keep0 (Keeps.drew _))⟩ rfl (gn rfl) rfl rfl (fun w h => r_indexArr Tryz.underlying24 Tryz.sizeOf5 rfl rfl (by decide)) ?_
    refine s_take ⟨hM24, (hZbans.keep0 (Keeps.drew _))⟩ rfl (gn rfl) rfl rfl (fun w h => r_load1 (v := vU8 (x26.by_.E[0])) Tryz.isAgg5 rfl (Holds.sub (Holds.sub (Holds.sub (h.2.stv.bans.ix hx26 ha26) (Ban.sub_by_ _)) (Cipher.sub_E _)) (sub_at (i := 0) (by decide)))) ?_
    refine s_take ⟨hM24, (hZbans.keep0 (Keeps.drew _))⟩ rfl (gn rfl) rfl rfl (fun w h => r_add (r := (((x26.by_.E[0]) + 1 : UInt8).toNat : Int)) rfl rfl (wu8 (x26.by_.E[0]) 1)) ?_
    refine s_take ⟨hM24, (hZbans.keep0 (Keeps.drew _))⟩ rfl (gn rfl) rfl rfl (fun w h => r_indexR Tryz.underlying35 Tryz.sizeOf86 ⟨_, h.2.stv.bans⟩ rfl ha26 rfl hlt26) ?_
    refine s_take ⟨hM24, (hZbans.keep0 (Keeps.drew _))⟩ rfl (gn rfl) rfl rfl (fun w h => r_fieldAddr Ban.fld_by_ rfl) ?_
    refine s_take ⟨hM24, (hZbans.keep0 (Keeps.drew _))⟩ rfl (gn rfl) rfl rfl (fun w h => r_fieldAddr Cipher.fld_E rfl) ?_
    refine s_take ⟨hM24, (hZbans.keep0 (Keeps.drew _))⟩ rfl (gn rfl) rfl rfl (fun w h => r_indexArr Tryz.underlying24 Tryz.sizeOf5 rfl rfl (by decide)) ?_
    refine s_storeEl (v := vU8 (((x26.by_.E[0]) + 1))) hM24 (fun k hk => hk) hLb (OwnSt.el_b (hZbans.keep0 (Keeps.drew _)) hx26 ha26 (off := 64 + 0 + 0 * 1) (put_ban _ _) (by simp [vU8, Value.cells])) rfl Tryz.sizeOf5 rfl rfl (one_one rfl) ?_
    intro w28 Z27 hM29 hK30 hZ31 hL32
    refine ⟨.inl rfl, ?_⟩
    refine s_nil ?_
    refine c_reg ?_
    refine l_val (gn rfl) rfl rfl (r_move rfl) ?_
    refine l_val (gn rfl) rfl rfl (r_add (r := ((kb + 1 : Nat) : Int)) rfl rfl (nadd (i := kb) (k := 1) (m := kb + 1) (by omega) (by omega))) ?_
    refine l_val (gn rfl) rfl rfl (r_assign rfl) ?_
    refine l_nil ?_
    intro a_ ha_
    refine ⟨kb + 1, ⟨hM29, ?_⟩, by omega, ha_.sub ⟨rfl, rfl, rfl, rfl, rfl, trivial⟩⟩
    exact ⟨by omega, Z27, hZ31, hLnbans.trans hL32⟩
   ·skip
    have hp33 : ¬ ((kb : Nat) < Zbans.bans.length) := of_decide_eq_false h22
    refine c_condF rfl h22 ?_
    refine c_exit rfl ?_
    refine c_seq ?_
    refine c_seq ?_
    refine c_reg ?_
    refine l_val (gn rfl) rfl rfl (r_assign rfl) ?_
    refine l_nil ?_
    refine c_block ?_
    refine c_loop (ι := Nat) (fun kt w_ => Mem w q.bs [(b1, (SRep.cells ((SRep.mk S.ver S.key q.t S.acc q.p q.s q.i q.a q.b))), 37)] w_ ∧ (kt ≤ S.title.length ∧ ∃ Z : State, OwnSt base w_ q Z ∧ Len S Z)) (fun kt => [(0, Value.agg (SRep.cells ((SRep.mk S.ver S.key q.t S.acc q.p q.s q.i q.a q.b)))), (1, Value.pointer (some ⟨b1, 0, none⟩)), (2, Value.int .i64 ((ki : Nat) : Int)), (12, Value.bool (decide ((ki : Nat) < Zinvites.invites.length))), (3, Value.int .i64 ((kb : Nat) : Int)), (32, Value.bool (decide ((kb : Nat) < Zbans.bans.length))), (4, Value.int .i64 ((kt : Nat) : Int))]) (fun kt => S.title.length - kt) 0 ⟨hM21, Nat.zero_le _, Zbans, hZbans, hLnbans⟩ ⟨rfl, rfl, rfl, rfl, rfl, rfl, rfl, trivial⟩ ?_
    rintro kt w34 ⟨hM35, hktitle, Ztitle, hZtitle, hLntitle⟩
    obtain ⟨hLttitle, hLptitle, hLstitle, hLititle, hLatitle, hLbtitle⟩ := hLntitle
    have hLntitle : Len S Ztitle := ⟨hLttitle, hLptitle, hLstitle, hLititle, hLatitle, hLbtitle⟩
    have hbdtitle := hZtitle.stv.bd
    refine c_seq ?_
    refine c_seq ?_
    refine c_reg ?_
    refine l_val (gn rfl) rfl rfl (r_move rfl) ?_
    refine l_val (gn rfl) rfl rfl (r_fieldAddr SRep.fld_title rfl) ?_
    refine l_val (gn rfl) rfl rfl (r_load1 (v := Sl.val q.t) Tryz.isAgg27 rfl (Holds.sub (hM35.base (i := 0) rfl) (SRep.sub_title _))) ?_
    refine l_val (gn rfl) rfl rfl (r_lenR Tryz.underlying27 rfl hZtitle.stv.title.len) ?_
    refine l_val (gn rfl) rfl rfl (r_lss (b := decide ((kt : Nat) < Ztitle.title.length)) rfl rfl (nlt kt Ztitle.title.length)) ?_
    refine l_nil ?_
    refine ways (decide ((kt : Nat) < Ztitle.title.length)) (fun h36 => ?_) (fun h36 => ?_)
    ·skip
     have hp37 : (kt : Nat) < Ztitle.title.length := of_decide_eq_true h36
     refine c_condT rfl h36 ?_
     refine c_skip ?_
     refine c_seq ?_
     refine c_block ?_
     refine c_reg ?_
     refine l_val (gn rfl) rfl rfl (r_fieldAddr SRep.fld_title rfl) ?_
     refine l_val (gn rfl) rfl rfl (r_load1 (v := Sl.val q.t) Tryz.isAgg27 rfl (Holds.sub (hM35.base (i := 0) rfl) (SRep.sub_title _))) ?_
     refine l_val (gn rfl) rfl rfl (r_move rfl) ?_
     have hlt38 : kt < Ztitle.title.length := by first | assumption | omega
     obtain ⟨x38, hx38⟩ : ∃ x, Ztitle.title[kt]? = some x := ⟨_, List.getElem?_eq_getElem hlt38⟩
     obtain ⟨p38, o38, ha38, hA38, -⟩ := hZtitle.stv.title.at_ _ _ hx38
     refine l_val (gn rfl) rfl rfl (r_indexR Tryz.underlying27 Tryz.sizeOf5 ⟨_, hZtitle.stv.title⟩ rfl ha38 rfl hlt38) ?_
     refine l_val (gn rfl) rfl rfl (r_load1 (v := vU8 x38) Tryz.isAgg5 rfl (hZtitle.stv.title.ix hx38 ha38)) ?_
     refine l_val (gn rfl) rfl rfl (r_add (r := ((x38 + 1 : UInt8).toNat : Int)) rfl rfl (wu8 x38 1)) ?_
     refine l_val (gn rfl) rfl rfl (r_indexR Tryz.underlying27 Tryz.sizeOf5 ⟨_, hZtitle.stv.title⟩ rfl ha38 rfl hlt38) ?_
     refine l_storeEl (v := vU8 ((x38 + 1))) hM35 (fun k hk => hk) hLb (OwnSt.el_t hZtitle hx38 ha38 (off := 0) (put_byte _ _) (by simp [vU8, Value.cells])) Tryz.sizeOf5 rfl rfl (one_one rfl) ?_
     intro w40 Z39 hM41 hK42 hZ43 hL44
     refine l_nil ?_
     refine c_reg ?_
     refine l_val (gn rfl) rfl rfl (r_move rfl) ?_
     refine l_val (gn rfl) rfl rfl (r_add (r := ((kt + 1 : Nat) : Int)) rfl rfl (nadd (i := kt) (k := 1) (m := kt + 1) (by omega) (by omega))) ?_
     refine l_val (gn rfl) rfl rfl (r_assign rfl) ?_
     refine l_nil ?_
     intro a_ ha_
     refine ⟨kt + 1, ⟨hM41, ?_⟩, by omega, ha_.sub ⟨rfl, rfl, rfl, rfl, rfl, rfl, rfl, trivial⟩⟩
     exact ⟨by omega, Z39, hZ43, hLntitle.trans hL44⟩
    ·skip
     have hp45 : ¬ ((kt : Nat) < Ztitle.title.length) := of_decide_eq_false h36
     refine c_condF rfl h36 ?_
     refine c_exit rfl ?_
     refine c_seq ?_
     refine c_seq ?_
     refine c_reg ?_
     refine l_val (gn rfl) rfl rfl (r_assign rfl) ?_
     refine l_nil ?_
     refine c_block ?_
     refine c_loop (ι := Nat) (fun kp w_ => Mem w q.bs [(b1, (SRep.cells ((SRep.mk S.ver S.key q.t S.acc q.p q.s q.i q.a q.b))), 37)] w_ ∧ (kp ≤ S.pass.length ∧ ∃ Z : State, OwnSt base w_ q Z ∧ Len S Z)) (fun kp => [(0, Value.agg (SRep.cells ((SRep.mk S.ver S.key q.t S.acc q.p q.s q.i q.a q.b)))), (1, Value.pointer (some ⟨b1, 0, none⟩)), (2, Value.int .i64 ((ki : Nat) : Int)), (12, Value.bool (decide ((ki : Nat) < Zinvites.invites.length))), (3, Value.int .i64 ((kb : Nat) : Int)), (32, Value.bool (decide ((kb : Nat) < Zbans.bans.length))), (4, Value.int .i64 ((kt : Nat) : Int)), (52, Value.bool (decide ((kt : Nat) < Ztitle.title.length))), (5, Value.int .i64 ((kp : Nat) : Int))]) (fun kp => S.pass.length - kp) 0 ⟨hM35, Nat.zero_le _, Ztitle, hZtitle, hLntitle⟩ ⟨rfl, rfl, rfl, rfl, rfl, rfl, rfl, rfl, rfl, trivial⟩ ?_
     rintro kp w46 ⟨hM47, hkpass, Zpass, hZpass, hLnpass⟩
     obtain ⟨hLtpass, hLppass, hLspass, hLipass, hLapass, hLbpass⟩ := hLnpass
     have hLnpass : Len S Zpass := ⟨hLtpass, hLppass, hLspass, hLipass, hLapass, hLbpass⟩
     have hbdpass := hZpass.stv.bd
     refine c_seq ?_
     refine c_seq ?_
     refine c_reg ?_
     refine l_val (gn rfl) rfl rfl (r_move rfl) ?_
     refine l_val (gn rfl) rfl rfl (r_fieldAddr SRep.fld_pass rfl) ?_
     refine l_val (gn rfl) rfl rfl (r_load1 (v := Sl.val q.p) Tryz.isAgg27 rfl (Holds.sub (hM47.base (i := 0) rfl) (SRep.sub_pass _))) ?_
     refine l_val (gn rfl) rfl rfl (r_lenR Tryz.underlying27 rfl hZpass.stv.pass.len) ?_
     refine l_val (gn rfl) rfl rfl (r_lss (b := decide ((kp : Nat) < Zpass.pass.length)) rfl rfl (nlt kp Zpass.pass.length)) ?_
     refine l_nil ?_
     refine ways (decide ((kp : Nat) < Zpass.pass.length)) (fun h48 => ?_) (fun h48 => ?_)
     ·skip
      have hp49 : (kp : Nat) < Zpass.pass.length := of_decide_eq_true h48
      refine c_condT rfl h48 ?_
      refine c_skip ?_
      refine c_seq ?_
      refine c_block ?_
      refine c_reg ?_
      refine l_val (gn rfl) rfl rfl (r_fieldAddr SRep.fld_pass rfl) ?_
      refine l_val (gn rfl) rfl rfl (r_load1 (v := Sl.val q.p) Tryz.isAgg27 rfl (Holds.sub (hM47.base (i := 0) rfl) (SRep.sub_pass _))) ?_
      refine l_val (gn rfl) rfl rfl (r_move rfl) ?_
      have hlt50 : kp < Zpass.pass.length := by first | assumption | omega
      obtain ⟨x50, hx50⟩ : ∃ x, Zpass.pass[kp]? = some x := ⟨_, List.getElem?_eq_getElem hlt50⟩
      obtain ⟨p50, o50, ha50, hA50, -⟩ := hZpass.stv.pass.at_ _ _ hx50
      refine l_val (gn rfl) rfl rfl (r_indexR Tryz.underlying27 Tryz.sizeOf5 ⟨_, hZpass.stv.pass⟩ rfl ha50 rfl hlt50) ?_
      refine l_val (gn rfl) rfl rfl (r_load1 (v := vU8 x50) Tryz.isAgg5 rfl (hZpass.stv.pass.ix hx50 ha50)) ?_
      refine l_val (gn rfl) rfl rfl (r_add (r := ((x50 + 1 : UInt8).toNat : Int)) rfl rfl (wu8 x50 1)) ?_
      refine l_val (gn rfl) rfl rfl (r_indexR Tryz.underlying27 Tryz.sizeOf5 ⟨_, hZpass.stv.pass⟩ rfl ha50 rfl hlt50) ?_
      refine l_storeEl (v := vU8 ((x50 + 1))) hM47 (fun k hk => hk) hLb (OwnSt.el_p hZpass hx50 ha50 (off := 0) (put_byte _ _) (by simp [vU8, Value.cells])) Tryz.sizeOf5 rfl rfl (one_one rfl) ?_
      intro w52 Z51 hM53 hK54 hZ55 hL56
      refine l_nil ?_
      refine c_reg ?_
      refine l_val (gn rfl) rfl rfl (r_move rfl) ?_
      refine l_val (gn rfl) rfl rfl (r_add (r := ((kp + 1 : Nat) : Int)) rfl rfl (nadd (i := kp) (k := 1) (m := kp + 1) (by omega) (by omega))) ?_
      refine l_val (gn rfl) rfl rfl (r_assign rfl) ?_
      refine l_nil ?_
      intro a_ ha_
      refine ⟨kp + 1, ⟨hM53, ?_⟩, by omega, ha_.sub ⟨rfl, rfl, rfl, rfl, rfl, rfl, rfl, rfl, rfl, trivial⟩⟩
      exact ⟨by omega, Z51, hZ55, hLnpass.trans hL56⟩
     ·skip
      have hp57 : ¬ ((kp : Nat) < Zpass.pass.length) := of_decide_eq_false h48
      refine c_condF rfl h48 ?_
      refine c_exit rfl ?_
      refine c_seq ?_
      refine c_seq ?_
      refine c_reg ?_
      refine l_val (gn rfl) rfl rfl (r_assign rfl) ?_
      refine l_nil ?_
      refine c_block ?_
      refine c_loop (ι := Nat) (fun ks w_ => Mem w q.bs [(b1, (SRep.cells ((SRep.mk S.ver S.key q.t S.acc q.p q.s q.i q.a q.b))), 37)] w_ ∧ (ks ≤ S.seats.length ∧ ∃ Z : State, OwnSt base w_ q Z ∧ Len S Z)) (fun ks => [(0, Value.agg (SRep.cells ((SRep.mk S.ver S.key q.t S.acc q.p q.s q.i q.a q.b)))), (1, Value.pointer (some ⟨b1, 0, none⟩)), (2, Value.int .i64 ((ki : Nat) : Int)), (12, Value.bool (decide ((ki : Nat) < Zinvites.invites.length))), (3, Value.int .i64 ((kb : Nat) : Int)), (32, Value.bool (decide ((kb : Nat) < Zbans.bans.length))), (4, Value.int .i64 ((kt : Nat) : Int)), (52, Value.bool (decide ((kt : Nat) < Ztitle.title.length))), (5, Value.int .i64 ((kp : Nat) : Int)), (66, Value.bool (decide ((kp : Nat) < Zpass.pass.length))), (6, Value.int .i64 ((ks : Nat) : Int))]) (fun ks => S.seats.length - ks) 0 ⟨hM47, Nat.zero_le _, Zpass, hZpass, hLnpass⟩ ⟨rfl, rfl, rfl, rfl, rfl, rfl, rfl, rfl, rfl, rfl, rfl, trivial⟩ ?_
      rintro ks w58 ⟨hM59, hkseats, Zseats, hZseats, hLnseats⟩
      obtain ⟨hLtseats, hLpseats, hLsseats, hLiseats, hLaseats, hLbseats⟩ := hLnseats
      have hLnseats : Len S Zseats := ⟨hLtseats, hLpseats, hLsseats, hLiseats, hLaseats, hLbseats⟩
      have hbdseats := hZseats.stv.bd
      refine c_seq ?_
      refine c_seq ?_
      refine c_reg ?_
      refine l_val (gn rfl) rfl rfl (r_move rfl) ?_
      refine l_val (gn rfl) rfl rfl (r_fieldAddr SRep.fld_seats rfl) ?_
      refine l_val (gn rfl) rfl rfl (r_load1 (v := Sl.val q.s) Tryz.isAgg32 rfl (Holds.sub (hM59.base (i := 0) rfl) (SRep.sub_seats _))) ?_
      refine l_val (gn rfl) rfl rfl (r_lenR Tryz.underlying32 rfl hZseats.stv.seats.len) ?_
      refine l_val (gn rfl) rfl rfl (r_lss (b := decide ((ks : Nat) < Zseats.seats.length)) rfl rfl (nlt ks Zseats.seats.length)) ?_
      refine l_nil ?_
      refine ways (decide ((ks : Nat) < Zseats.seats.length)) (fun h60 => ?_) (fun h60 => ?_)
      ·skip
       have hp61 : (ks : Nat) < Zseats.seats.length := of_decide_eq_true h60
       refine c_condT rfl h60 ?_
       refine c_skip ?_
       refine c_seq ?_
       refine c_block ?_
       refine c_reg ?_
       refine l_val (gn rfl) rfl rfl (r_fieldAddr SRep.fld_seats rfl) ?_
       refine l_val (gn rfl) rfl rfl (r_load1 (v := Sl.val q.s) Tryz.isAgg32 rfl (Holds.sub (hM59.base (i := 0) rfl) (SRep.sub_seats _))) ?_
       refine l_val (gn rfl) rfl rfl (r_move rfl) ?_
       have hlt62 : ks < Zseats.seats.length := by first | assumption | omega
       obtain ⟨x62, hx62⟩ : ∃ x, Zseats.seats[ks]? = some x := ⟨_, List.getElem?_eq_getElem hlt62⟩
       obtain ⟨p62, o62, ha62, hA62, -⟩ := hZseats.stv.seats.at_ _ _ hx62
       refine l_val (gn rfl) rfl rfl (r_indexR Tryz.underlying32 Tryz.sizeOf73 ⟨_, hZseats.stv.seats⟩ rfl ha62 rfl hlt62) ?_
       refine l_val (gn rfl) rfl rfl (r_fieldAddr Seat.fld_joined rfl) ?_
       refine l_val (gn rfl) rfl rfl (r_load1 (v := vU32 x62.joined) Tryz.isAgg22 rfl (Holds.sub (hZseats.stv.seats.ix hx62 ha62) (Seat.sub_joined _))) ?_
       refine l_val (gn rfl) rfl rfl (r_add (r := ((x62.joined + 1 : UInt32).toNat : Int)) rfl rfl (wu32 x62.joined 1)) ?_
       refine l_val (gn rfl) rfl rfl (r_indexR Tryz.underlying32 Tryz.sizeOf73 ⟨_, hZseats.stv.seats⟩ rfl ha62 rfl hlt62) ?_
       refine l_val (gn rfl) rfl rfl (r_fieldAddr Seat.fld_joined rfl) ?_
       refine l_storeEl (v := vU32 ((x62.joined + 1))) hM59 (fun k hk => hk) hLb (OwnSt.el_s hZseats hx62 ha62 (off := 65) (put_seat _ _) (by simp [vU32, Value.cells])) Tryz.sizeOf22 rfl rfl (one_one rfl) ?_
       intro w64 Z63 hM65 hK66 hZ67 hL68
       refine l_nil ?_
       refine c_reg ?_
       refine l_val (gn rfl) rfl rfl (r_move rfl) ?_
       refine l_val (gn rfl) rfl rfl (r_add (r := ((ks + 1 : Nat) : Int)) rfl rfl (nadd (i := ks) (k := 1) (m := ks + 1) (by omega) (by omega))) ?_
       refine l_val (gn rfl) rfl rfl (r_assign rfl) ?_
       refine l_nil ?_
       intro a_ ha_
       refine ⟨ks + 1, ⟨hM65, ?_⟩, by omega, ha_.sub ⟨rfl, rfl, rfl, rfl, rfl, rfl, rfl, rfl, rfl, rfl, rfl, trivial⟩⟩
       exact ⟨by omega, Z63, hZ67, hLnseats.trans hL68⟩
      ·skip
       have hp69 : ¬ ((ks : Nat) < Zseats.seats.length) := of_decide_eq_false h60
       refine c_condF rfl h60 ?_
       refine c_exit rfl ?_
       refine c_seq ?_
       refine c_reg ?_
       refine l_val (gn rfl) rfl rfl (r_assign rfl) ?_
       refine l_nil ?_
       refine c_block ?_
       refine c_loop (ι := Nat) (fun ka w_ => Mem w q.bs [(b1, (SRep.cells ((SRep.mk S.ver S.key q.t S.acc q.p q.s q.i q.a q.b))), 37)] w_ ∧ (ka ≤ S.asks.length ∧ ∃ Z : State, OwnSt base w_ q Z ∧ Len S Z)) (fun ka => [(0, Value.agg (SRep.cells ((SRep.mk S.ver S.key q.t S.acc q.p q.s q.i q.a q.b)))), (1, Value.pointer (some ⟨b1, 0, none⟩)), (2, Value.int .i64 ((ki : Nat) : Int)), (12, Value.bool (decide ((ki : Nat) < Zinvites.invites.length))), (3, Value.int .i64 ((kb : Nat) : Int)), (32, Value.bool (decide ((kb : Nat) < Zbans.bans.length))), (4, Value.int .i64 ((kt : Nat) : Int)), (52, Value.bool (decide ((kt : Nat) < Ztitle.title.length))), (5, Value.int .i64 ((kp : Nat) : Int)), (66, Value.bool (decide ((kp : Nat) < Zpass.pass.length))), (6, Value.int .i64 ((ks : Nat) : Int)), (80, Value.bool (decide ((ks : Nat) < Zseats.seats.length))), (7, Value.int .i64 ((ka : Nat) : Int))]) (fun ka => S.asks.length - ka) 0 ⟨hM59, Nat.zero_le _, Zseats, hZseats, hLnseats⟩ ⟨rfl, rfl, rfl, rfl, rfl, rfl, rfl, rfl, rfl, rfl, rfl, rfl, rfl, trivial⟩ ?_
       rintro ka w70 ⟨hM71, hkasks, Zasks, hZasks, hLnasks⟩
       obtain ⟨hLtasks, hLpasks, hLsasks, hLiasks, hLaasks, hLbasks⟩ := hLnasks
       have hLnasks : Len S Zasks := ⟨hLtasks, hLpasks, hLsasks, hLiasks, hLaasks, hLbasks⟩
       have hbdasks := hZasks.stv.bd
       refine c_seq ?_
       refine c_seq ?_
       refine c_reg ?_
       refine l_val (gn rfl) rfl rfl (r_move rfl) ?_
       refine l_val (gn rfl) rfl rfl (r_fieldAddr SRep.fld_asks rfl) ?_
       refine l_val (gn rfl) rfl rfl (r_load1 (v := Sl.val q.a) Tryz.isAgg34 rfl (Holds.sub (hM71.base (i := 0) rfl) (SRep.sub_asks _))) ?_
       refine l_val (gn rfl) rfl rfl (r_lenR Tryz.underlying34 rfl hZasks.stv.asks.len) ?_
       refine l_val (gn rfl) rfl rfl (r_lss (b := decide ((ka : Nat) < Zasks.asks.length)) rfl rfl (nlt ka Zasks.asks.length)) ?_
       refine l_nil ?_
       refine ways (decide ((ka : Nat) < Zasks.asks.length)) (fun h72 => ?_) (fun h72 => ?_)
       ·skip
        have hp73 : (ka : Nat) < Zasks.asks.length := of_decide_eq_true h72
        refine c_condT rfl h72 ?_
        refine c_skip ?_
        refine c_seq ?_
        refine c_block ?_
        refine c_reg ?_
        refine l_val (gn rfl) rfl rfl (r_fieldAddr SRep.fld_asks rfl) ?_
        refine l_val (gn rfl) rfl rfl (r_load1 (v := Sl.val q.a) Tryz.isAgg34 rfl (Holds.sub (hM71.base (i := 0) rfl) (SRep.sub_asks _))) ?_
        refine l_val (gn rfl) rfl rfl (r_move rfl) ?_
        have hlt74 : ka < Zasks.asks.length := by first | assumption | omega
        obtain ⟨x74, hx74⟩ : ∃ x, Zasks.asks[ka]? = some x := ⟨_, List.getElem?_eq_getElem hlt74⟩
        obtain ⟨p74, o74, ha74, hA74, -⟩ := hZasks.stv.asks.at_ _ _ hx74
        refine l_val (gn rfl) rfl rfl (r_indexR Tryz.underlying34 Tryz.sizeOf84 ⟨_, hZasks.stv.asks⟩ rfl ha74 rfl hlt74) ?_
        refine l_val (gn rfl) rfl rfl (r_fieldAddr Ask.fld_at_ rfl) ?_
        refine l_val (gn rfl) rfl rfl (r_load1 (v := vU32 x74.at_) Tryz.isAgg22 rfl (Holds.sub (hZasks.stv.asks.ix hx74 ha74) (Ask.sub_at_ _))) ?_
        refine l_val (gn rfl) rfl rfl (r_add (r := ((x74.at_ + 1 : UInt32).toNat : Int)) rfl rfl (wu32 x74.at_ 1)) ?_
        refine l_val (gn rfl) rfl rfl (r_indexR Tryz.underlying34 Tryz.sizeOf84 ⟨_, hZasks.stv.asks⟩ rfl ha74 rfl hlt74) ?_
        refine l_val (gn rfl) rfl rfl (r_fieldAddr Ask.fld_at_ rfl) ?_
        refine l_storeEl (v := vU32 ((x74.at_ + 1))) hM71 (fun k hk => hk) hLb (OwnSt.el_a hZasks hx74 ha74 (off := 64) (put_ask _ _) (by simp [vU32, Value.cells])) Tryz.sizeOf22 rfl rfl (one_one rfl) ?_
        intro w76 Z75 hM77 hK78 hZ79 hL80
        refine l_nil ?_
        refine c_reg ?_
        refine l_val (gn rfl) rfl rfl (r_move rfl) ?_
        refine l_val (gn rfl) rfl rfl (r_add (r := ((ka + 1 : Nat) : Int)) rfl rfl (nadd (i := ka) (k := 1) (m := ka + 1) (by omega) (by omega))) ?_
        refine l_val (gn rfl) rfl rfl (r_assign rfl) ?_
        refine l_nil ?_
        intro a_ ha_
        refine ⟨ka + 1, ⟨hM77, ?_⟩, by omega, ha_.sub ⟨rfl, rfl, rfl, rfl, rfl, rfl, rfl, rfl, rfl, rfl, rfl, rfl, rfl, trivial⟩⟩
        exact ⟨by omega, Z75, hZ79, hLnasks.trans hL80⟩
       ·skip
        have hp81 : ¬ ((ka : Nat) < Zasks.asks.length) := of_decide_eq_false h72
        refine c_condF rfl h72 ?_
        refine c_exit rfl ?_
        refine ret0 rfl ?_
        exact ⟨rfl, hM71.kp⟩
end Go.Proofs.YtekhaogjmmmniaaGreat
namespace Go.Proofs.YtekhaogjmmmniaaGreat
open Go Go.RowKit

/-- A block of another type is none of a state's own. -/
theorem OwnSt.notin {base : Nat} {w : World} {q : Six} {S : State} (h : OwnSt base w q S) {y : Nat} {cs : Array Value} {t : TypeId} (hb : Blk w y cs t) (ht : [5, 73, 82, 84, 86].contains t = false) : y ∉ q.bs := by
  intro hm
  obtain ⟨s, hs, he⟩ := mem_bs.1 hm
  have key : ∀ {α : Type} {sz : Nat} {enc : α → Array Value} {l : List α} {e : TypeId} {s : Sl}, Own base e w s sz enc l → s.val.ownBlock = some y → t = e := fun ho he => by
    rcases ho.own.2 with ⟨h1, _⟩ | ⟨g, cap, cur, h1, _, hg, _⟩
    · rw [h1] at he; cases he
    · rw [h1] at he
      simp only [Value.ownBlock, Option.some.injEq] at he
      subst he
      unfold Blk at hb
      rw [hb] at hg
      simp only [Option.some.injEq, Obj.cells.injEq] at hg
      exact hg.2.1
  simp only [Six.sls, List.mem_cons, List.not_mem_nil, or_false] at hs
  simp only [List.contains_cons, List.contains_nil, Bool.or_false, Bool.or_eq_false_iff, beq_eq_false_iff_ne, ne_eq] at ht
  rcases hs with rfl | rfl | rfl | rfl | rfl | rfl
  · exact ht.1 (key h.t he)
  · exact ht.1 (key h.p he)
  · exact ht.2.1 (key h.s he)
  · exact ht.2.2.1 (key h.i he)
  · exact ht.2.2.2.1 (key h.a he)
  · exact ht.2.2.2.2 (key h.b he)
theorem f13h {A B : Nat → Prop} {w : World} {S S' : State} {q : Six} {a : Action} {qa : Two} {n : Nat} (hS : StV A w q S) (hA : AcV B w qa a) (by_ : Pt) (h : stepS S by_ a = (n, S')) : Ret 13 #[.agg (S.rep q).cells, .agg by_.cells, .agg (a.rep qa).cells] w
    (fun v w' => ∃ q', v = .tuple #[.agg (S'.rep q').cells, .int .i64 ((n : Nat) : Int)] ∧ OwnSt w.heap.size w' q' S' ∧ Keeps [] w w') :=
  (f13 hS hA by_).mono fun v w' ⟨q', h1, h2, h3⟩ => by
    rw [h] at h1 h2
    exact ⟨q', h1, h2, h3⟩
def addAct (v : UInt32) (who : Cipher) : Action := ⟨v, 1, who, Pt.zero, 1, [], Access.zero, []⟩
theorem addV (A : Nat → Prop) (w : World) (v : UInt32) (who : Cipher) : AcV A w ⟨Sl.nil, Sl.nil⟩ (addAct v who) := ⟨Row.nil, Row.nil⟩
def groupB : State := { groupA with ver := 1, seats := [⟨personOf 97, 2, 0⟩, ⟨personOf 98, 1, 1⟩] }
theorem okB' : okS groupB = true := by
  rw [okS_iff]
  refine ⟨by decide, .inl rfl, by decide, by decide, by decide, by decide, by decide, ?_, ?_, ?_, ?_, ?_, ?_, ?_⟩
  · exact up_rising (who := Seat.who) (by
      unfold UpK
      simp only [groupB, List.pairwise_cons, List.mem_cons, List.not_mem_nil, or_false, forall_eq, false_imp_iff, implies_true, List.Pairwise.nil, and_true]
      decide)
  · intro i x y h1 h2; simp [groupB, groupA, newGroup] at h2
  · intro i x y h1 h2; simp [groupB, groupA, newGroup] at h2
  · intro i x y h1 h2; simp [groupB, groupA, newGroup] at h2
  · rw [apart_iff]
    simp only [ciphers, groupB, groupA, newGroup, List.map_cons, List.map_nil, List.append_nil, List.pairwise_cons, List.mem_cons, List.not_mem_nil, or_false, forall_eq, false_imp_iff, implies_true, List.Pairwise.nil, and_true]
    decide
  · intro x hx; simp [groupB] at hx; rcases hx with rfl | rfl <;> rfl
  · intro x hx; simp [groupB, groupA, newGroup] at hx
theorem okAdd1 : okAct (addAct 1 (personOf 98)) = true := by decide
theorem okAdd2 : okAct (addAct 2 (personOf 99)) = true := by decide
theorem roleA : roleOf groupA.seats (ptOf 97) = 2 := by decide
theorem roleB : roleOf groupB.seats (ptOf 98) = 1 := by decide
theorem mayA : mayE groupA (ptOf 97) (addAct 1 (personOf 98)) 2 = 0 := by decide
theorem mayB : mayE groupB (ptOf 98) (addAct 2 (personOf 99)) 1 = 191 := by decide
theorem doA : doS groupA (ptOf 97) (addAct 1 (personOf 98)) 2 = (0, { groupB with ver := 0 }) := by kernel_rfl
theorem step1 : stepS groupA (ptOf 97) (addAct 1 (personOf 98)) = (0, groupB) := by
  unfold stepS
  rw [okA, okAdd1, roleA, mayA, doA]; rfl
theorem step2 : stepS groupB (ptOf 98) (addAct 2 (personOf 99)) = (191, State.zero) := by
  unfold stepS
  rw [okB', okAdd2, roleB, mayB]; rfl
end Go.Proofs.YtekhaogjmmmniaaGreat
namespace Go.Proofs.YtekhaogjmmmniaaGreat
open Go Go.RowKit

theorem f10 {w : World} : Ret 10 #[] w (fun v w' => v = .bool true ∧ Keeps [] w w') := by
  have hxB : groupB.seats[1]? = some (Seat.mk (personOf 98) 1 1) := rfl
  have hM0 := Mem.start w
  refine enter Tryz.func10 rfl rfl ?_
  refine c_seq ?_
  refine c_reg ?_
  refine l_val (gn rfl) rfl rfl (r_assign rfl) ?_
  refine l_nil ?_
  refine c_seq ?_
  refine c_reg ?_
  refine l_call (gn rfl) rfl rfl (r_call Tryz.call22 rfl) (f22) ?_
  rintro v3 w4 ⟨qo1, rfl, hO2, hK5⟩
  have hM6 := hM0.keep hK5
  refine l_val (gn rfl) rfl rfl (r_move rfl) ?_
  refine l_val (gn rfl) rfl rfl (r_extract rfl rfl) ?_
  refine l_val (gn rfl) rfl rfl (r_extract rfl rfl) ?_
  refine l_alloc hM6 rfl SRep.zv ?_
  intro b7 w8 hM9 hK10 hB11
  replace hM9 : Mem w [] [(b7, (SRep.cells SRep.zero), 37)] w8 := hM9
  have hBk12 := hM9.blk (i := 0) rfl
  refine l_store hM9 (i := 0) rfl Tryz.sizeOf37 rfl rfl (SRep.size _) (by rw [SRep.size]; decide) (SRep.one _) (put_whole _ _ ((SRep.size _).trans (SRep.size _).symm)) ?_
  intro w13 hM14 hK15
  replace hM14 : Mem w [] [(b7, (SRep.cells ((SRep.mk groupA.ver groupA.key qo1.t groupA.acc qo1.p qo1.s qo1.i qo1.a qo1.b))), 37)] w13 := hM14
  refine l_val (gn rfl) rfl rfl (r_assign rfl) ?_
  refine l_nil ?_
  refine c_seq ?_
  have hM16 := hM14.drew
  have hS17 := And.intro hM16 (((hO2.keep0 hK10).keepX hK15 (fun y hy => by simp only [List.mem_cons, List.not_mem_nil, or_false] at hy; subst hy; exact (hO2.keep0 hK10).notin hBk12 (by decide))).keep0 (Keeps.drew _))
  refine c_regA (fun w_ => Mem w [] [(b7, (SRep.cells ((SRep.mk groupA.ver groupA.key qo1.t groupA.acc qo1.p qo1.s qo1.i qo1.a qo1.b))), 37)] w_ ∧ OwnSt ((w).heap.size) w_ qo1 groupA) [] [⟨9, 3, (SRep.cells SRep.zero), 37⟩] [] [(0, true), (1, false), (2, true), (3, false), (4, true), (5, false), (6, true), (7, true), (8, true)] [(10, false), (11, true)] (by kernel_rfl) ⟨⟨_, _, _, rfl, _, SRep.zv, rfl⟩, trivial⟩ (by simp) (fun _ _ k h => ⟨h.1.keep k, h.2.keep0 k⟩) hS17 ?_
  refine a_take hS17 rfl rfl (gn rfl) rfl rfl (fun w h => r_loadA Tryz.isAgg37 Tryz.sizeOf37 (SRep.size _) rfl (h.1.base (i := 0) rfl)) ?_
  refine a_call rfl rfl (gn rfl) rfl rfl rfl ?_
  intro w18 hE19
  have hM20 := hM16.keep hE19
  refine ⟨_, _, _, r_call Tryz.call27 rfl, f27 97, ?_⟩
  rintro v21 w22 ⟨rfl, hK23⟩
  have hM24 := hM20.keep hK23
  have hS25 := And.intro hM24 (((((hO2.keep0 hK10).keepX hK15 (fun y hy => by simp only [List.mem_cons, List.not_mem_nil, or_false] at hy; subst hy; exact (hO2.keep0 hK10).notin hBk12 (by decide))).keep0 (Keeps.drew _)).keep0 hE19).keep0 hK23)
  refine ⟨hS25, hK23, ?_⟩
  refine a_take hS25 rfl rfl (gn rfl) rfl rfl (fun w h => r_field Tryz.underlying40 rfl (partA _ Tryz.isAgg24 Tryz.sizeOf24 (Pt.size _) (Cipher.sub_E _)) rfl) ?_
  refine a_call rfl rfl (gn rfl) rfl rfl rfl ?_
  intro w26 hE27
  have hM28 := hM24.keep hE27
  refine ⟨_, _, _, r_call Tryz.call27 rfl, f27 98, ?_⟩
  rintro v29 w30 ⟨rfl, hK31⟩
  have hM32 := hM28.keep hK31
  have hS33 := And.intro hM32 (((((((hO2.keep0 hK10).keepX hK15 (fun y hy => by simp only [List.mem_cons, List.not_mem_nil, or_false] at hy; subst hy; exact (hO2.keep0 hK10).notin hBk12 (by decide))).keep0 (Keeps.drew _)).keep0 hE19).keep0 hK23).keep0 hE27).keep0 hK31)
  refine ⟨hS33, hK31, ?_⟩
  refine a_take hS33 rfl rfl (gn rfl) rfl rfl (fun w h => r_build rfl ((ARep.built _).trans (fill_cons rfl rfl (by rw [ARep.size]; decide) (ARep.put_ver _ 1) (fill_cons rfl rfl (by rw [ARep.size]; decide) (ARep.put_kind _ 1) (fill_cons rfl (Cipher.size _) (by rw [ARep.size]; decide) (ARep.put_who _ ((personOf 98))) (fill_cons rfl rfl (by rw [ARep.size]; decide) (ARep.put_role _ 1) (fill_nil))))))) ?_
  refine a_call rfl rfl (gn rfl) rfl rfl rfl ?_
  intro w34 hE35
  have hM36 := hM32.keep hE35
  refine ⟨_, _, _, r_call Tryz.call13 rfl, f13h (S := groupA) (q := qo1) (a := (addAct 1 (personOf 98))) (qa := ⟨Sl.nil, Sl.nil⟩) ((((((((hO2.keep0 hK10).keepX hK15 (fun y hy => by simp only [List.mem_cons, List.not_mem_nil, or_false] at hy; subst hy; exact (hO2.keep0 hK10).notin hBk12 (by decide))).keep0 (Keeps.drew _)).keep0 hE19).keep0 hK23).keep0 hE27).keep0 hK31).keep0 hE35).stv (addV (fun _ => True) _ _ _) ((personOf 97).E) step1, ?_⟩
  rintro v39 w40 ⟨qo37, rfl, hO38, hK41⟩
  have hM42 := hM36.keep hK41
  have hS43 := And.intro hM42 (((((((((hO2.keep0 hK10).keepX hK15 (fun y hy => by simp only [List.mem_cons, List.not_mem_nil, or_false] at hy; subst hy; exact (hO2.keep0 hK10).notin hBk12 (by decide))).keep0 (Keeps.drew _)).keep0 hE19).keep0 hK23).keep0 hE27).keep0 hK31).keep0 hE35).keep0 hK41)
  refine ⟨hS43, hK41, ?_⟩
  refine a_take hS43 rfl rfl (gn rfl) rfl rfl (fun w h => r_move rfl) ?_
  refine a_take hS43 rfl rfl (gn rfl) rfl rfl (fun w h => r_extract rfl rfl) ?_
  refine a_take hS43 rfl rfl (gn rfl) rfl rfl (fun w h => r_extract rfl rfl) ?_
  refine a_nil hM42 hM16.kp.size hM16.lt rfl rfl ?_
  intro w44 g45 hK46 hM47 hg48
  change AT _ (_ :: _) _ _
  replace hM47 : Mem w [] [(g45 9, (SRep.cells SRep.zero), 37), (b7, (SRep.cells ((SRep.mk groupA.ver groupA.key qo1.t groupA.acc qo1.p qo1.s qo1.i qo1.a qo1.b))), 37)] w44 := hM47
  have hBk49 := hM47.blk (i := 0) rfl
  refine s_store hM47 (j := 0) rfl rfl Tryz.sizeOf37 rfl rfl (SRep.size _) (by rw [SRep.size]; decide) (SRep.one _) (put_whole _ _ ((SRep.size _).trans (SRep.size _).symm)) ?_
  intro w50 hM51 hK52
  replace hM51 : Mem w [] [(g45 9, (SRep.cells ((SRep.mk groupB.ver groupB.key qo37.t groupB.acc qo37.p qo37.s qo37.i qo37.a qo37.b))), 37), (b7, (SRep.cells ((SRep.mk groupA.ver groupA.key qo1.t groupA.acc qo1.p qo1.s qo1.i qo1.a qo1.b))), 37)] w50 := hM51
  have hS53 := And.intro (hM51.forget (.cons _ (.refl _))) (((((((((((hO2.keep0 hK10).keepX hK15 (fun y hy => by simp only [List.mem_cons, List.not_mem_nil, or_false] at hy; subst hy; exact (hO2.keep0 hK10).notin hBk12 (by decide))).keep0 (Keeps.drew _)).keep0 hE19).keep0 hK23).keep0 hE27).keep0 hK31).keep0 hE35).keep0 hK41).keep0 hK46).keepX hK52 (fun y hy => by simp only [List.mem_cons, List.not_mem_nil, or_false] at hy; subst hy; exact ((((((((((hO2.keep0 hK10).keepX hK15 (fun y hy => by simp only [List.mem_cons, List.not_mem_nil, or_false] at hy; subst hy; exact (hO2.keep0 hK10).notin hBk12 (by decide))).keep0 (Keeps.drew _)).keep0 hE19).keep0 hK23).keep0 hE27).keep0 hK31).keep0 hE35).keep0 hK41).keep0 hK46).notin hBk49 (by decide)))
  refine ⟨.inr hS53, ?_⟩
  refine s_take hS53 rfl (gn rfl) rfl rfl (fun w h => r_assign rfl) ?_
  refine s_nil ?_
  refine c_seq ?_
  have hM54 := hM51.drew
  have hS55 := And.intro hM54 (And.intro ((((((((((((hO2.keep0 hK10).keepX hK15 (fun y hy => by simp only [List.mem_cons, List.not_mem_nil, or_false] at hy; subst hy; exact (hO2.keep0 hK10).notin hBk12 (by decide))).keep0 (Keeps.drew _)).keep0 hE19).keep0 hK23).keep0 hE27).keep0 hK31).keep0 hE35).keep0 hK41).keep0 hK46).keepX hK52 (fun y hy => by simp only [List.mem_cons, List.not_mem_nil, or_false] at hy; subst hy; exact ((((((((((hO2.keep0 hK10).keepX hK15 (fun y hy => by simp only [List.mem_cons, List.not_mem_nil, or_false] at hy; subst hy; exact (hO2.keep0 hK10).notin hBk12 (by decide))).keep0 (Keeps.drew _)).keep0 hE19).keep0 hK23).keep0 hE27).keep0 hK31).keep0 hE35).keep0 hK41).keep0 hK46).notin hBk49 (by decide))).keep0 (Keeps.drew _)) (((hO38.keep0 hK46).keepX hK52 (fun y hy => by simp only [List.mem_cons, List.not_mem_nil, or_false] at hy; subst hy; exact (hO38.keep0 hK46).notin hBk49 (by decide))).keep0 (Keeps.drew _)))
  refine c_regA (fun w_ => Mem w [] [(g45 9, (SRep.cells ((SRep.mk groupB.ver groupB.key qo37.t groupB.acc qo37.p qo37.s qo37.i qo37.a qo37.b))), 37), (b7, (SRep.cells ((SRep.mk groupA.ver groupA.key qo1.t groupA.acc qo1.p qo1.s qo1.i qo1.a qo1.b))), 37)] w_ ∧ OwnSt ((w).heap.size) w_ qo1 groupA ∧ OwnSt ((w34).heap.size) w_ qo37 groupB) [] [⟨9, 5, (SRep.cells SRep.zero), 37⟩] [] [(0, true), (1, false), (2, true), (3, false), (4, true), (5, false), (6, true), (7, true), (8, true)] [(10, false), (11, true)] (by kernel_rfl) ⟨⟨_, _, _, rfl, _, SRep.zv, rfl⟩, trivial⟩ (by simp) (fun _ _ k h => ⟨h.1.keep k, h.2.1.keep0 k, h.2.2.keep0 k⟩) hS55 ?_
  refine a_take hS55 rfl rfl (gn rfl) rfl rfl (fun w h => r_loadA Tryz.isAgg37 Tryz.sizeOf37 (SRep.size _) rfl (h.1.base (i := 0) rfl)) ?_
  refine a_call rfl rfl (gn rfl) rfl rfl rfl ?_
  intro w56 hE57
  have hM58 := hM54.keep hE57
  refine ⟨_, _, _, r_call Tryz.call27 rfl, f27 98, ?_⟩
  rintro v59 w60 ⟨rfl, hK61⟩
  have hM62 := hM58.keep hK61
  have hS63 := And.intro hM62 (And.intro ((((((((((((((hO2.keep0 hK10).keepX hK15 (fun y hy => by simp only [List.mem_cons, List.not_mem_nil, or_false] at hy; subst hy; exact (hO2.keep0 hK10).notin hBk12 (by decide))).keep0 (Keeps.drew _)).keep0 hE19).keep0 hK23).keep0 hE27).keep0 hK31).keep0 hE35).keep0 hK41).keep0 hK46).keepX hK52 (fun y hy => by simp only [List.mem_cons, List.not_mem_nil, or_false] at hy; subst hy; exact ((((((((((hO2.keep0 hK10).keepX hK15 (fun y hy => by simp only [List.mem_cons, List.not_mem_nil, or_false] at hy; subst hy; exact (hO2.keep0 hK10).notin hBk12 (by decide))).keep0 (Keeps.drew _)).keep0 hE19).keep0 hK23).keep0 hE27).keep0 hK31).keep0 hE35).keep0 hK41).keep0 hK46).notin hBk49 (by decide))).keep0 (Keeps.drew _)).keep0 hE57).keep0 hK61) (((((hO38.keep0 hK46).keepX hK52 (fun y hy => by simp only [List.mem_cons, List.not_mem_nil, or_false] at hy; subst hy; exact (hO38.keep0 hK46).notin hBk49 (by decide))).keep0 (Keeps.drew _)).keep0 hE57).keep0 hK61))
  refine ⟨hS63, hK61, ?_⟩
  refine a_take hS63 rfl rfl (gn rfl) rfl rfl (fun w h => r_field Tryz.underlying40 rfl (partA _ Tryz.isAgg24 Tryz.sizeOf24 (Pt.size _) (Cipher.sub_E _)) rfl) ?_
  refine a_call rfl rfl (gn rfl) rfl rfl rfl ?_
  intro w64 hE65
  have hM66 := hM62.keep hE65
  refine ⟨_, _, _, r_call Tryz.call27 rfl, f27 99, ?_⟩
  rintro v67 w68 ⟨rfl, hK69⟩
  have hM70 := hM66.keep hK69
  have hS71 := And.intro hM70 (And.intro ((((((((((((((((hO2.keep0 hK10).keepX hK15 (fun y hy => by simp only [List.mem_cons, List.not_mem_nil, or_false] at hy; subst hy; exact (hO2.keep0 hK10).notin hBk12 (by decide))).keep0 (Keeps.drew _)).keep0 hE19).keep0 hK23).keep0 hE27).keep0 hK31).keep0 hE35).keep0 hK41).keep0 hK46).keepX hK52 (fun y hy => by simp only [List.mem_cons, List.not_mem_nil, or_false] at hy; subst hy; exact ((((((((((hO2.keep0 hK10).keepX hK15 (fun y hy => by simp only [List.mem_cons, List.not_mem_nil, or_false] at hy; subst hy; exact (hO2.keep0 hK10).notin hBk12 (by decide))).keep0 (Keeps.drew _)).keep0 hE19).keep0 hK23).keep0 hE27).keep0 hK31).keep0 hE35).keep0 hK41).keep0 hK46).notin hBk49 (by decide))).keep0 (Keeps.drew _)).keep0 hE57).keep0 hK61).keep0 hE65).keep0 hK69) (((((((hO38.keep0 hK46).keepX hK52 (fun y hy => by simp only [List.mem_cons, List.not_mem_nil, or_false] at hy; subst hy; exact (hO38.keep0 hK46).notin hBk49 (by decide))).keep0 (Keeps.drew _)).keep0 hE57).keep0 hK61).keep0 hE65).keep0 hK69))
  refine ⟨hS71, hK69, ?_⟩
  refine a_take hS71 rfl rfl (gn rfl) rfl rfl (fun w h => r_build rfl ((ARep.built _).trans (fill_cons rfl rfl (by rw [ARep.size]; decide) (ARep.put_ver _ 2) (fill_cons rfl rfl (by rw [ARep.size]; decide) (ARep.put_kind _ 1) (fill_cons rfl (Cipher.size _) (by rw [ARep.size]; decide) (ARep.put_who _ ((personOf 99))) (fill_cons rfl rfl (by rw [ARep.size]; decide) (ARep.put_role _ 1) (fill_nil))))))) ?_
  refine a_call rfl rfl (gn rfl) rfl rfl rfl ?_
  intro w72 hE73
  have hM74 := hM70.keep hE73
  refine ⟨_, _, _, r_call Tryz.call13 rfl, f13h (S := groupB) (q := qo37) (a := (addAct 2 (personOf 99))) (qa := ⟨Sl.nil, Sl.nil⟩) ((((((((hO38.keep0 hK46).keepX hK52 (fun y hy => by simp only [List.mem_cons, List.not_mem_nil, or_false] at hy; subst hy; exact (hO38.keep0 hK46).notin hBk49 (by decide))).keep0 (Keeps.drew _)).keep0 hE57).keep0 hK61).keep0 hE65).keep0 hK69).keep0 hE73).stv (addV (fun _ => True) _ _ _) ((personOf 98).E) step2, ?_⟩
  rintro v77 w78 ⟨qo75, rfl, hO76, hK79⟩
  have hM80 := hM74.keep hK79
  have hS81 := And.intro hM80 (And.intro ((((((((((((((((((hO2.keep0 hK10).keepX hK15 (fun y hy => by simp only [List.mem_cons, List.not_mem_nil, or_false] at hy; subst hy; exact (hO2.keep0 hK10).notin hBk12 (by decide))).keep0 (Keeps.drew _)).keep0 hE19).keep0 hK23).keep0 hE27).keep0 hK31).keep0 hE35).keep0 hK41).keep0 hK46).keepX hK52 (fun y hy => by simp only [List.mem_cons, List.not_mem_nil, or_false] at hy; subst hy; exact ((((((((((hO2.keep0 hK10).keepX hK15 (fun y hy => by simp only [List.mem_cons, List.not_mem_nil, or_false] at hy; subst hy; exact (hO2.keep0 hK10).notin hBk12 (by decide))).keep0 (Keeps.drew _)).keep0 hE19).keep0 hK23).keep0 hE27).keep0 hK31).keep0 hE35).keep0 hK41).keep0 hK46).notin hBk49 (by decide))).keep0 (Keeps.drew _)).keep0 hE57).keep0 hK61).keep0 hE65).keep0 hK69).keep0 hE73).keep0 hK79) (((((((((hO38.keep0 hK46).keepX hK52 (fun y hy => by simp only [List.mem_cons, List.not_mem_nil, or_false] at hy; subst hy; exact (hO38.keep0 hK46).notin hBk49 (by decide))).keep0 (Keeps.drew _)).keep0 hE57).keep0 hK61).keep0 hE65).keep0 hK69).keep0 hE73).keep0 hK79))
  refine ⟨hS81, hK79, ?_⟩
  refine a_take hS81 rfl rfl (gn rfl) rfl rfl (fun w h => r_move rfl) ?_
  refine a_take hS81 rfl rfl (gn rfl) rfl rfl (fun w h => r_extract rfl rfl) ?_
  refine a_take hS81 rfl rfl (gn rfl) rfl rfl (fun w h => r_extract rfl rfl) ?_
  refine a_nil hM80 hM54.kp.size hM54.lt rfl rfl ?_
  intro w82 g83 hK84 hM85 hg86
  change AT _ (_ :: _) _ _
  replace hM85 : Mem w [] [(g83 9, (SRep.cells SRep.zero), 37), (g45 9, (SRep.cells ((SRep.mk groupB.ver groupB.key qo37.t groupB.acc qo37.p qo37.s qo37.i qo37.a qo37.b))), 37), (b7, (SRep.cells ((SRep.mk groupA.ver groupA.key qo1.t groupA.acc qo1.p qo1.s qo1.i qo1.a qo1.b))), 37)] w82 := hM85
  have hBk87 := hM85.blk (i := 0) rfl
  refine s_store hM85 (j := 0) rfl rfl Tryz.sizeOf37 rfl rfl (SRep.size _) (by rw [SRep.size]; decide) (SRep.one _) (put_whole _ _ ((SRep.size _).trans (SRep.size _).symm)) ?_
  intro w88 hM89 hK90
  replace hM89 : Mem w [] [(g83 9, (SRep.cells ((SRep.mk State.zero.ver State.zero.key qo75.t State.zero.acc qo75.p qo75.s qo75.i qo75.a qo75.b))), 37), (g45 9, (SRep.cells ((SRep.mk groupB.ver groupB.key qo37.t groupB.acc qo37.p qo37.s qo37.i qo37.a qo37.b))), 37), (b7, (SRep.cells ((SRep.mk groupA.ver groupA.key qo1.t groupA.acc qo1.p qo1.s qo1.i qo1.a qo1.b))), 37)] w88 := hM89
  have hS91 := And.intro (hM89.forget (.cons _ (.refl _))) (And.intro ((((((((((((((((((((hO2.keep0 hK10).keepX hK15 (fun y hy => by simp only [List.mem_cons, List.not_mem_nil, or_false] at hy; subst hy; exact (hO2.keep0 hK10).notin hBk12 (by decide))).keep0 (Keeps.drew _)).keep0 hE19).keep0 hK23).keep0 hE27).keep0 hK31).keep0 hE35).keep0 hK41).keep0 hK46).keepX hK52 (fun y hy => by simp only [List.mem_cons, List.not_mem_nil, or_false] at hy; subst hy; exact ((((((((((hO2.keep0 hK10).keepX hK15 (fun y hy => by simp only [List.mem_cons, List.not_mem_nil, or_false] at hy; subst hy; exact (hO2.keep0 hK10).notin hBk12 (by decide))).keep0 (Keeps.drew _)).keep0 hE19).keep0 hK23).keep0 hE27).keep0 hK31).keep0 hE35).keep0 hK41).keep0 hK46).notin hBk49 (by decide))).keep0 (Keeps.drew _)).keep0 hE57).keep0 hK61).keep0 hE65).keep0 hK69).keep0 hE73).keep0 hK79).keep0 hK84).keepX hK90 (fun y hy => by simp only [List.mem_cons, List.not_mem_nil, or_false] at hy; subst hy; exact (((((((((((((((((((hO2.keep0 hK10).keepX hK15 (fun y hy => by simp only [List.mem_cons, List.not_mem_nil, or_false] at hy; subst hy; exact (hO2.keep0 hK10).notin hBk12 (by decide))).keep0 (Keeps.drew _)).keep0 hE19).keep0 hK23).keep0 hE27).keep0 hK31).keep0 hE35).keep0 hK41).keep0 hK46).keepX hK52 (fun y hy => by simp only [List.mem_cons, List.not_mem_nil, or_false] at hy; subst hy; exact ((((((((((hO2.keep0 hK10).keepX hK15 (fun y hy => by simp only [List.mem_cons, List.not_mem_nil, or_false] at hy; subst hy; exact (hO2.keep0 hK10).notin hBk12 (by decide))).keep0 (Keeps.drew _)).keep0 hE19).keep0 hK23).keep0 hE27).keep0 hK31).keep0 hE35).keep0 hK41).keep0 hK46).notin hBk49 (by decide))).keep0 (Keeps.drew _)).keep0 hE57).keep0 hK61).keep0 hE65).keep0 hK69).keep0 hE73).keep0 hK79).keep0 hK84).notin hBk87 (by decide))) (((((((((((hO38.keep0 hK46).keepX hK52 (fun y hy => by simp only [List.mem_cons, List.not_mem_nil, or_false] at hy; subst hy; exact (hO38.keep0 hK46).notin hBk49 (by decide))).keep0 (Keeps.drew _)).keep0 hE57).keep0 hK61).keep0 hE65).keep0 hK69).keep0 hE73).keep0 hK79).keep0 hK84).keepX hK90 (fun y hy => by simp only [List.mem_cons, List.not_mem_nil, or_false] at hy; subst hy; exact ((((((((((hO38.keep0 hK46).keepX hK52 (fun y hy => by simp only [List.mem_cons, List.not_mem_nil, or_false] at hy; subst hy; exact (hO38.keep0 hK46).notin hBk49 (by decide))).keep0 (Keeps.drew _)).keep0 hE57).keep0 hK61).keep0 hE65).keep0 hK69).keep0 hE73).keep0 hK79).keep0 hK84).notin hBk87 (by decide))))
  refine ⟨.inr hS91, ?_⟩
  refine s_take hS91 rfl (gn rfl) rfl rfl (fun w h => r_assign rfl) ?_
  refine s_nil ?_
  refine c_seq ?_
  refine c_regD (fun w_ => Mem w [] [(g83 9, (SRep.cells ((SRep.mk State.zero.ver State.zero.key qo75.t State.zero.acc qo75.p qo75.s qo75.i qo75.a qo75.b))), 37), (g45 9, (SRep.cells ((SRep.mk groupB.ver groupB.key qo37.t groupB.acc qo37.p qo37.s qo37.i qo37.a qo37.b))), 37), (b7, (SRep.cells ((SRep.mk groupA.ver groupA.key qo1.t groupA.acc qo1.p qo1.s qo1.i qo1.a qo1.b))), 37)] w_ ∧ OwnSt ((w).heap.size) w_ qo1 groupA ∧ OwnSt ((w34).heap.size) w_ qo37 groupB ∧ OwnSt ((w72).heap.size) w_ qo75 State.zero) [] [(0, true), (1, true), (2, true), (3, true), (4, true), (5, true), (6, true), (7, true), (8, true), (9, true), (10, true), (11, true), (12, true), (13, true), (14, true), (15, true), (16, true), (17, true), (18, false), (19, true), (20, true), (21, true), (22, true), (23, true), (24, true), (25, true), (26, true), (27, true), (28, true), (29, true), (30, true), (31, true)] (by kernel_rfl) ?_
  have hM92 := hM89.drew
  have hS94 := And.intro hM92 (And.intro (((((((((((((((((((((hO2.keep0 hK10).keepX hK15 (fun y hy => by simp only [List.mem_cons, List.not_mem_nil, or_false] at hy; subst hy; exact (hO2.keep0 hK10).notin hBk12 (by decide))).keep0 (Keeps.drew _)).keep0 hE19).keep0 hK23).keep0 hE27).keep0 hK31).keep0 hE35).keep0 hK41).keep0 hK46).keepX hK52 (fun y hy => by simp only [List.mem_cons, List.not_mem_nil, or_false] at hy; subst hy; exact ((((((((((hO2.keep0 hK10).keepX hK15 (fun y hy => by simp only [List.mem_cons, List.not_mem_nil, or_false] at hy; subst hy; exact (hO2.keep0 hK10).notin hBk12 (by decide))).keep0 (Keeps.drew _)).keep0 hE19).keep0 hK23).keep0 hE27).keep0 hK31).keep0 hE35).keep0 hK41).keep0 hK46).notin hBk49 (by decide))).keep0 (Keeps.drew _)).keep0 hE57).keep0 hK61).keep0 hE65).keep0 hK69).keep0 hE73).keep0 hK79).keep0 hK84).keepX hK90 (fun y hy => by simp only [List.mem_cons, List.not_mem_nil, or_false] at hy; subst hy; exact (((((((((((((((((((hO2.keep0 hK10).keepX hK15 (fun y hy => by simp only [List.mem_cons, List.not_mem_nil, or_false] at hy; subst hy; exact (hO2.keep0 hK10).notin hBk12 (by decide))).keep0 (Keeps.drew _)).keep0 hE19).keep0 hK23).keep0 hE27).keep0 hK31).keep0 hE35).keep0 hK41).keep0 hK46).keepX hK52 (fun y hy => by simp only [List.mem_cons, List.not_mem_nil, or_false] at hy; subst hy; exact ((((((((((hO2.keep0 hK10).keepX hK15 (fun y hy => by simp only [List.mem_cons, List.not_mem_nil, or_false] at hy; subst hy; exact (hO2.keep0 hK10).notin hBk12 (by decide))).keep0 (Keeps.drew _)).keep0 hE19).keep0 hK23).keep0 hE27).keep0 hK31).keep0 hE35).keep0 hK41).keep0 hK46).notin hBk49 (by decide))).keep0 (Keeps.drew _)).keep0 hE57).keep0 hK61).keep0 hE65).keep0 hK69).keep0 hE73).keep0 hK79).keep0 hK84).notin hBk87 (by decide))).keep0 (Keeps.drew _)) (And.intro ((((((((((((hO38.keep0 hK46).keepX hK52 (fun y hy => by simp only [List.mem_cons, List.not_mem_nil, or_false] at hy; subst hy; exact (hO38.keep0 hK46).notin hBk49 (by decide))).keep0 (Keeps.drew _)).keep0 hE57).keep0 hK61).keep0 hE65).keep0 hK69).keep0 hE73).keep0 hK79).keep0 hK84).keepX hK90 (fun y hy => by simp only [List.mem_cons, List.not_mem_nil, or_false] at hy; subst hy; exact ((((((((((hO38.keep0 hK46).keepX hK52 (fun y hy => by simp only [List.mem_cons, List.not_mem_nil, or_false] at hy; subst hy; exact (hO38.keep0 hK46).notin hBk49 (by decide))).keep0 (Keeps.drew _)).keep0 hE57).keep0 hK61).keep0 hE65).keep0 hK69).keep0 hE73).keep0 hK79).keep0 hK84).notin hBk87 (by decide))).keep0 (Keeps.drew _)) (((hO76.keep0 hK84).keepX hK90 (fun y hy => by simp only [List.mem_cons, List.not_mem_nil, or_false] at hy; subst hy; exact (hO76.keep0 hK84).notin hBk87 (by decide))).keep0 (Keeps.drew _))))
  refine s_take hS94 rfl (gn rfl) rfl rfl (fun w h => r_move rfl) ?_
  refine s_take hS94 rfl (gn rfl) rfl rfl (fun w h => r_move rfl) ?_
  refine s_take hS94 rfl (gy rfl rfl rfl rfl rfl) rfl rfl (fun w h => r_move rfl) ?_
  refine s_take hS94 rfl (gy rfl rfl rfl rfl rfl) rfl rfl (fun w h => r_eql (b := true) rfl rfl (by decide)) ?_
  refine s_take hS94 rfl (gn rfl) rfl rfl (fun w h => r_pickT rfl rfl rfl) ?_
  refine s_take hS94 rfl (gn rfl) rfl rfl (fun w h => r_move rfl) ?_
  refine s_take hS94 rfl (gy rfl rfl rfl rfl rfl) rfl rfl (fun w h => r_fieldAddr SRep.fld_seats rfl) ?_
  refine s_take hS94 rfl (gy rfl rfl rfl rfl rfl) rfl rfl (fun w h => r_load1 (v := Sl.val qo37.s) Tryz.isAgg32 rfl (Holds.sub (h.1.base (i := 1) rfl) (SRep.sub_seats _))) ?_
  refine s_take hS94 rfl (gy rfl rfl rfl rfl rfl) rfl rfl (fun w h => r_lenR Tryz.underlying32 rfl h.2.2.1.stv.seats.len) ?_
  refine s_take hS94 rfl (gy rfl rfl rfl rfl rfl) rfl rfl (fun w h => r_eql (b := decide ((groupB.seats.length : Nat) = 2)) rfl rfl (neq' groupB.seats.length 2)) ?_
  refine s_take hS94 rfl (gn rfl) rfl rfl (fun w h => r_pickT rfl rfl rfl) ?_
  refine s_take hS94 rfl (gn rfl) rfl rfl (fun w h => r_move rfl) ?_
  refine s_take hS94 rfl (gy rfl rfl rfl rfl rfl) rfl rfl (fun w h => r_fieldAddr SRep.fld_seats rfl) ?_
  refine s_take hS94 rfl (gy rfl rfl rfl rfl rfl) rfl rfl (fun w h => r_load1 (v := Sl.val qo37.s) Tryz.isAgg32 rfl (Holds.sub (h.1.base (i := 1) rfl) (SRep.sub_seats _))) ?_
  have hlt95 : 1 < groupB.seats.length := (List.getElem?_eq_some_iff.1 hxB).1
  obtain ⟨p95, o95, ha95, hA95, -⟩ := ((((((((((((hO38.keep0 hK46).keepX hK52 (fun y hy => by simp only [List.mem_cons, List.not_mem_nil, or_false] at hy; subst hy; exact (hO38.keep0 hK46).notin hBk49 (by decide))).keep0 (Keeps.drew _)).keep0 hE57).keep0 hK61).keep0 hE65).keep0 hK69).keep0 hE73).keep0 hK79).keep0 hK84).keepX hK90 (fun y hy => by simp only [List.mem_cons, List.not_mem_nil, or_false] at hy; subst hy; exact ((((((((((hO38.keep0 hK46).keepX hK52 (fun y hy => by simp only [List.mem_cons, List.not_mem_nil, or_false] at hy; subst hy; exact (hO38.keep0 hK46).notin hBk49 (by decide))).keep0 (Keeps.drew _)).keep0 hE57).keep0 hK61).keep0 hE65).keep0 hK69).keep0 hE73).keep0 hK79).keep0 hK84).notin hBk87 (by decide))).keep0 (Keeps.drew _)).stv.seats.at_ _ _ hxB
  refine s_take hS94 rfl (gy rfl rfl rfl rfl rfl) rfl rfl (fun w h => r_indexR Tryz.underlying32 Tryz.sizeOf73 ⟨_, h.2.2.1.stv.seats⟩ rfl ha95 rfl hlt95) ?_
  refine s_take hS94 rfl (gy rfl rfl rfl rfl rfl) rfl rfl (fun w h => r_fieldAddr Seat.fld_who rfl) ?_
  refine s_take hS94 rfl (gy rfl rfl rfl rfl rfl) rfl rfl (fun w h => r_fieldAddr Cipher.fld_E rfl) ?_
  refine s_take hS94 rfl (gy rfl rfl rfl rfl rfl) rfl rfl (fun w h => r_loadA Tryz.isAgg24 Tryz.sizeOf24 (Pt.size _) rfl (Holds.sub (Holds.sub (h.2.2.1.stv.seats.ix hxB ha95) (Seat.sub_who _)) (Cipher.sub_E _))) ?_
  refine s_call rfl (gy rfl rfl rfl rfl rfl) rfl rfl (r_call Tryz.call27 rfl) (f27 98) ?_
  rintro v96 w97 ⟨rfl, hK98⟩
  have hM99 := hM92.keep hK98
  have hS100 := And.intro hM99 (And.intro ((((((((((((((((((((((hO2.keep0 hK10).keepX hK15 (fun y hy => by simp only [List.mem_cons, List.not_mem_nil, or_false] at hy; subst hy; exact (hO2.keep0 hK10).notin hBk12 (by decide))).keep0 (Keeps.drew _)).keep0 hE19).keep0 hK23).keep0 hE27).keep0 hK31).keep0 hE35).keep0 hK41).keep0 hK46).keepX hK52 (fun y hy => by simp only [List.mem_cons, List.not_mem_nil, or_false] at hy; subst hy; exact ((((((((((hO2.keep0 hK10).keepX hK15 (fun y hy => by simp only [List.mem_cons, List.not_mem_nil, or_false] at hy; subst hy; exact (hO2.keep0 hK10).notin hBk12 (by decide))).keep0 (Keeps.drew _)).keep0 hE19).keep0 hK23).keep0 hE27).keep0 hK31).keep0 hE35).keep0 hK41).keep0 hK46).notin hBk49 (by decide))).keep0 (Keeps.drew _)).keep0 hE57).keep0 hK61).keep0 hE65).keep0 hK69).keep0 hE73).keep0 hK79).keep0 hK84).keepX hK90 (fun y hy => by simp only [List.mem_cons, List.not_mem_nil, or_false] at hy; subst hy; exact (((((((((((((((((((hO2.keep0 hK10).keepX hK15 (fun y hy => by simp only [List.mem_cons, List.not_mem_nil, or_false] at hy; subst hy; exact (hO2.keep0 hK10).notin hBk12 (by decide))).keep0 (Keeps.drew _)).keep0 hE19).keep0 hK23).keep0 hE27).keep0 hK31).keep0 hE35).keep0 hK41).keep0 hK46).keepX hK52 (fun y hy => by simp only [List.mem_cons, List.not_mem_nil, or_false] at hy; subst hy; exact ((((((((((hO2.keep0 hK10).keepX hK15 (fun y hy => by simp only [List.mem_cons, List.not_mem_nil, or_false] at hy; subst hy; exact (hO2.keep0 hK10).notin hBk12 (by decide))).keep0 (Keeps.drew _)).keep0 hE19).keep0 hK23).keep0 hE27).keep0 hK31).keep0 hE35).keep0 hK41).keep0 hK46).notin hBk49 (by decide))).keep0 (Keeps.drew _)).keep0 hE57).keep0 hK61).keep0 hE65).keep0 hK69).keep0 hE73).keep0 hK79).keep0 hK84).notin hBk87 (by decide))).keep0 (Keeps.drew _)).keep0 hK98) (And.intro (((((((((((((hO38.keep0 hK46).keepX hK52 (fun y hy => by simp only [List.mem_cons, List.not_mem_nil, or_false] at hy; subst hy; exact (hO38.keep0 hK46).notin hBk49 (by decide))).keep0 (Keeps.drew _)).keep0 hE57).keep0 hK61).keep0 hE65).keep0 hK69).keep0 hE73).keep0 hK79).keep0 hK84).keepX hK90 (fun y hy => by simp only [List.mem_cons, List.not_mem_nil, or_false] at hy; subst hy; exact ((((((((((hO38.keep0 hK46).keepX hK52 (fun y hy => by simp only [List.mem_cons, List.not_mem_nil, or_false] at hy; subst hy; exact (hO38.keep0 hK46).notin hBk49 (by decide))).keep0 (Keeps.drew _)).keep0 hE57).keep0 hK61).keep0 hE65).keep0 hK69).keep0 hE73).keep0 hK79).keep0 hK84).notin hBk87 (by decide))).keep0 (Keeps.drew _)).keep0 hK98) ((((hO76.keep0 hK84).keepX hK90 (fun y hy => by simp only [List.mem_cons, List.not_mem_nil, or_false] at hy; subst hy; exact (hO76.keep0 hK84).notin hBk87 (by decide))).keep0 (Keeps.drew _)).keep0 hK98)))
  refine ⟨.inr hS100, ?_⟩
  refine s_take hS100 rfl (gy rfl rfl rfl rfl rfl) rfl rfl (fun w h => r_field Tryz.underlying40 rfl (partA _ Tryz.isAgg24 Tryz.sizeOf24 (Pt.size _) (Cipher.sub_E _)) rfl) ?_
  refine s_take hS100 rfl (gy rfl rfl rfl rfl rfl) rfl rfl (fun w h => r_eqPt Tryz.eqGuardType24 Tryz.underlying24 rfl rfl) ?_
  refine s_take hS100 rfl (gn rfl) rfl rfl (fun w h => r_pickT rfl rfl rfl) ?_
  refine s_take hS100 rfl (gn rfl) rfl rfl (fun w h => r_move rfl) ?_
  refine s_take hS100 rfl (gy rfl rfl rfl rfl (decide_eq_true rfl)) rfl rfl (fun w h => r_fieldAddr SRep.fld_ver rfl) ?_
  refine s_take hS100 rfl (gy rfl rfl rfl rfl (decide_eq_true rfl)) rfl rfl (fun w h => r_load1 (v := vU32 groupB.ver) Tryz.isAgg22 rfl (Holds.sub (h.1.base (i := 1) rfl) (SRep.sub_ver _))) ?_
  refine s_take hS100 rfl (gy rfl rfl rfl rfl (decide_eq_true rfl)) rfl rfl (fun w h => r_eql (b := decide ((groupB.ver : UInt32) = 1)) rfl rfl (u32eq groupB.ver 1)) ?_
  refine s_take hS100 rfl (gn rfl) rfl rfl (fun w h => r_pickT rfl (decide_eq_true rfl) rfl) ?_
  refine s_take hS100 rfl (gn rfl) rfl rfl (fun w h => r_move rfl) ?_
  refine s_take hS100 rfl (gy rfl rfl rfl rfl rfl) rfl rfl (fun w h => r_move rfl) ?_
  refine s_take hS100 rfl (gy rfl rfl rfl rfl rfl) rfl rfl (fun w h => r_eql (b := true) rfl rfl (by decide)) ?_
  refine s_take hS100 rfl (gn rfl) rfl rfl (fun w h => r_pickT rfl rfl rfl) ?_
  refine s_take hS100 rfl (gn rfl) rfl rfl (fun w h => r_assign rfl) ?_
  refine s_nil ?_
  refine c_ret ?_
  refine ret1 rfl rfl ?_
  exact ⟨rfl, hM99.kp⟩
end Go.Proofs.YtekhaogjmmmniaaGreat
namespace Go.Proofs.YtekhaogjmmmniaaGreat
open Go Go.RowKit

theorem sameState_refl (S : State) : sameState S S = true := by simp [sameState]
theorem f15r {A B : Nat → Prop} {w : World} {S : State} {q q2 : Six} (hS : StV A w q S) (hT : StV B w q2 S) : Ret 15 #[.agg (S.rep q).cells, .agg (S.rep q2).cells] w (fun v w' => v = .bool true ∧ Keeps [] w w') :=
  (f15 hS hT).mono fun v w' h => ⟨by rw [h.1, sameState_refl], h.2⟩
theorem StV.lt {A : Nat → Prop} {w : World} {q : Six} {S : State} (h : StV A w q S) : StV (fun b => A b ∧ b < w.heap.size) w q S :=
  ⟨h.title.lt (fun _ => by simp [encB]), h.pass.lt (fun _ => by simp [encB]), h.seats.lt (fun e => by rw [Seat.size]; decide), h.invites.lt (fun e => by rw [Invite.size]; decide), h.asks.lt (fun e => by rw [Ask.size]; decide), h.bans.lt (fun e => by rw [Ban.size]; decide)⟩
theorem Own.notin {α : Type} {base : Nat} {e : TypeId} {w : World} {s : Sl} {sz : Nat} {enc : α → Array Value} {l : List α} (ho : Own base e w s sz enc l) {y : Nat} {cs : Array Value} {t : TypeId} (hb : Blk w y cs t) (ht : t ≠ e) : s.val.ownBlock ≠ some y := fun he => by
  rcases ho.own.2 with ⟨h1, _⟩ | ⟨g, cap, cur, h1, _, hg, _⟩
  · rw [h1] at he; cases he
  · rw [h1] at he
    simp only [Value.ownBlock, Option.some.injEq] at he
    subst he
    unfold Blk at hb
    rw [hb] at hg
    simp only [Option.some.injEq, Obj.cells.injEq] at hg
    exact ht hg.2.1
/-- Behind what turned a state's own blocks. -/
theorem Mem.off {W w w' : World} {X : List Nat} {L : List Ent} {base : Nat} {q : Six} {S : State} (h : Mem W X L w) (k : Keeps q.bs w w') (hO : OwnSt base w q S) (hW : W.heap.size ≤ base) (ht : L.all (fun e => ![5, 73, 82, 84, 86].contains e.2.2) = true) : Mem W X L w' :=
  ⟨h.kp.then k (fun y hy => .inr (Nat.le_trans hW (hO.lo y hy).1)), fun e he => (h.has e he).keep k (hO.notin (h.has e he) (by have := List.all_eq_true.1 ht e he; simpa using this)), h.own, h.nd⟩
end Go.Proofs.YtekhaogjmmmniaaGreat
namespace Go.Proofs.YtekhaogjmmmniaaGreat
open Go Go.RowKit

set_option maxHeartbeats 4000000 in
theorem f4 {A B : Nat → Prop} {w : World} {st sp : Sl} {lt lp : List UInt8} (hT : Row A w st 1 encB lt) (hP : Row B w sp 1 encB lp) (key : Pub) (acc : Access) (who : Cipher) :
    Ret 4 #[.agg key.cells, st.val, .agg acc.cells, sp.val, .agg who.cells] w (fun v w' => v = .bool true ∧ Keeps [] w w') := by
  have hT1 := hT.lt (fun _ => by simp [encB])
  have hP1 := hP.lt (fun _ => by simp [encB])
  have hn1 := hT.bd
  have hn2 := hP.bd
  have hM0 := Mem.start w
  refine enter Tryz.func4 rfl rfl ?_
  refine c_seq ?_
  refine c_reg ?_
  refine l_box hM0 rfl rfl ?_
  intro b1 w2 hM3 hK4 hB5
  replace hM3 : Mem w [] [(b1, (Pub.cells key), 26)] w2 := hM3
  refine l_box hM3 rfl rfl ?_
  intro b6 w7 hM8 hK9 hB10
  replace hM8 : Mem w [] [(b6, (Access.cells acc), 31), (b1, (Pub.cells key), 26)] w7 := hM8
  refine l_box hM8 rfl rfl ?_
  intro b11 w12 hM13 hK14 hB15
  replace hM13 : Mem w [] [(b11, (Cipher.cells who), 40), (b6, (Access.cells acc), 31), (b1, (Pub.cells key), 26)] w12 := hM13
  refine l_val (gn rfl) rfl rfl (r_assign rfl) ?_
  refine l_nil ?_
  refine c_seq ?_
  refine c_seq ?_
  refine c_reg ?_
  refine l_val (gn rfl) rfl rfl (r_move rfl) ?_
  refine l_val (gn rfl) rfl rfl (r_lenR Tryz.underlying27 rfl (hT1.keep0 hM13.kp).len) ?_
  refine l_val (gn rfl) rfl rfl (r_gtr (b := decide ((5000 : Nat) < lt.length)) rfl rfl (nlt 5000 lt.length)) ?_
  refine l_val (gn rfl) rfl rfl (r_move rfl) ?_
  refine ways (decide ((5000 : Nat) < lt.length)) (fun h16 => ?_) (fun h16 => ?_)
  ·skip
   have hp17 : (5000 : Nat) < lt.length := of_decide_eq_true h16
   refine l_off (gno rfl rfl rfl rfl h16) rfl rfl ?_
   refine l_off (gno rfl rfl rfl rfl h16) rfl rfl ?_
   refine l_off (gno rfl rfl rfl rfl h16) rfl rfl ?_
   refine l_val (gn rfl) rfl rfl (r_pickT rfl h16 rfl) ?_
   refine l_nil ?_
   refine c_condT rfl rfl ?_
   refine c_seq ?_
   refine c_reg ?_
   refine l_call (gn rfl) rfl rfl (r_call Tryz.call10 rfl) (f10) ?_
   rintro v18 w19 ⟨rfl, hK20⟩
   have hM21 := hM13.keep hK20
   refine l_val (gn rfl) rfl rfl (r_assign rfl) ?_
   refine l_nil ?_
   refine c_ret ?_
   refine ret1 rfl rfl ?_
   exact ⟨rfl, hM21.kp⟩
  ·skip
   have hp22 : ¬ ((5000 : Nat) < lt.length) := of_decide_eq_false h16
   refine l_val (gy rfl rfl rfl rfl h16) rfl rfl (r_move rfl) ?_
   refine l_val (gy rfl rfl rfl rfl h16) rfl rfl (r_lenR Tryz.underlying27 rfl (hP1.keep0 hM13.kp).len) ?_
   refine l_val (gy rfl rfl rfl rfl h16) rfl rfl (r_gtr (b := decide ((5000 : Nat) < lp.length)) rfl rfl (nlt 5000 lp.length)) ?_
   refine l_val (gn rfl) rfl rfl (r_pickF rfl h16 rfl) ?_
   refine l_nil ?_
   refine ways (decide ((5000 : Nat) < lp.length)) (fun h23 => ?_) (fun h23 => ?_)
   ·skip
    have hp24 : (5000 : Nat) < lp.length := of_decide_eq_true h23
    refine c_condT rfl h23 ?_
    refine c_seq ?_
    refine c_reg ?_
    refine l_call (gn rfl) rfl rfl (r_call Tryz.call10 rfl) (f10) ?_
    rintro v25 w26 ⟨rfl, hK27⟩
    have hM28 := hM13.keep hK27
    refine l_val (gn rfl) rfl rfl (r_assign rfl) ?_
    refine l_nil ?_
    refine c_ret ?_
    refine ret1 rfl rfl ?_
    exact ⟨rfl, hM28.kp⟩
   ·skip
    have hp29 : ¬ ((5000 : Nat) < lp.length) := of_decide_eq_false h23
    refine c_condF rfl h23 ?_
    refine c_skip ?_
    refine c_seq ?_
    refine c_reg ?_
    have hBsz30 : w.heap.size ≤ (w12).heap.size := hM13.kp.size
    have hBlz30 : b11 < (w12).heap.size ∧ b6 < (w12).heap.size ∧ b1 < (w12).heap.size := ⟨(hM13.blk (i := 0) rfl).lt, (hM13.blk (i := 1) rfl).lt, (hM13.blk (i := 2) rfl).lt⟩
    refine l_slice0 (enc := encB) (base := (w12).heap.size) hM13 elB rfl (Nat.le_refl _) ?_
    intro sb31 w32 hM33 hK34 hO35
    refine l_val (gn rfl) rfl rfl (r_move rfl) ?_
    refine l_append (l := []) (m := lt) (s := sb31) (s2 := st) (enc := encB) hM33 elB enB rfl (gn rfl) rfl rfl hO35 (hT1.keep0 hM33.kp) (by simp; omega) (by have := hK34.size; omega) hBsz30 (by simpa using hBlz30) ?_
    intro sa36 w37 Y38 hM39 hK40 hY41 hO42
    have hBsz43 : w.heap.size ≤ (w37).heap.size := hM39.kp.size
    have hBlz43 : b11 < (w37).heap.size ∧ b6 < (w37).heap.size ∧ b1 < (w37).heap.size := ⟨(hM39.blk (i := 0) rfl).lt, (hM39.blk (i := 1) rfl).lt, (hM39.blk (i := 2) rfl).lt⟩
    have hzsa36_z43 : ∀ b, sa36.val.ownBlock = some b → b < (w37).heap.size := fun b h => (hO42.own.lt b h).2
    refine l_slice0 (enc := encB) (base := (w37).heap.size) hM39 elB rfl (Nat.le_refl _) ?_
    intro sb44 w45 hM46 hK47 hO48
    refine l_val (gn rfl) rfl rfl (r_move rfl) ?_
    refine l_append (l := []) (m := lp) (s := sb44) (s2 := sp) (enc := encB) hM46 elB enB rfl (gn rfl) rfl rfl hO48 (hP1.keep0 hM46.kp) (by simp; omega) (by have := hK47.size; omega) hBsz43 (by simpa using hBlz43) ?_
    intro sa49 w50 Y51 hM52 hK53 hY54 hO55
    refine l_val (gn rfl) rfl rfl (r_assign rfl) ?_
    refine l_val (gn rfl) rfl rfl (r_assign rfl) ?_
    refine l_nil ?_
    refine c_seq ?_
    refine c_reg ?_
    refine l_val (gn rfl) rfl rfl (r_loadA Tryz.isAgg26 Tryz.sizeOf26 (Pub.size _) rfl (hM52.base (i := 2) rfl)) ?_
    refine l_val (gn rfl) rfl rfl (r_move rfl) ?_
    refine l_val (gn rfl) rfl rfl (r_loadA Tryz.isAgg31 Tryz.sizeOf31 (Access.size _) rfl (hM52.base (i := 1) rfl)) ?_
    refine l_val (gn rfl) rfl rfl (r_move rfl) ?_
    refine l_val (gn rfl) rfl rfl (r_loadA Tryz.isAgg40 Tryz.sizeOf40 (Cipher.size _) rfl (hM52.base (i := 0) rfl)) ?_
    have hge1 : w.heap.size ≤ (w50).heap.size := hM52.kp.size
    have hltssa36_1 : ∀ k, sa36.val.ownBlock = some k → k < (w50).heap.size := fun k hk => (((hO42.keep0 hK47).keepN hK53 hY54 hzsa36_z43).own.lt k hk).2
    have hltssa49_1 : ∀ k, sa49.val.ownBlock = some k → k < (w50).heap.size := fun k hk => (hO55.own.lt k hk).2
    refine l_call (gn rfl) rfl rfl (r_call Tryz.call20 rfl) (f20 (((hO42.keep0 hK47).keepN hK53 hY54 hzsa36_z43).row enB) (hO55.row enB) key acc who) ?_
    rintro v58 w59 ⟨qo56, rfl, hO57, hK60⟩
    have hM61 := hM52.keep hK60
    refine l_val (gn rfl) rfl rfl (r_move rfl) ?_
    refine l_val (gn rfl) rfl rfl (r_extract rfl rfl) ?_
    refine l_val (gn rfl) rfl rfl (r_extract rfl rfl) ?_
    refine l_alloc hM61 rfl SRep.zv ?_
    intro b62 w63 hM64 hK65 hB66
    replace hM64 : Mem w [] [(b62, (SRep.cells SRep.zero), 37), (b11, (Cipher.cells who), 40), (b6, (Access.cells acc), 31), (b1, (Pub.cells key), 26)] w63 := hM64
    have hBk67 := hM64.blk (i := 0) rfl
    refine l_store hM64 (i := 0) rfl Tryz.sizeOf37 rfl rfl (SRep.size _) (by rw [SRep.size]; decide) (SRep.one _) (put_whole _ _ ((SRep.size _).trans (SRep.size _).symm)) ?_
    intro w68 hM69 hK70
    replace hM69 : Mem w [] [(b62, (SRep.cells ((SRep.mk ((ifOk (newGroup key lt acc lp who)).ver) ((ifOk (newGroup key lt acc lp who)).key) qo56.t ((ifOk (newGroup key lt acc lp who)).acc) qo56.p qo56.s qo56.i qo56.a qo56.b))), 37), (b11, (Cipher.cells who), 40), (b6, (Access.cells acc), 31), (b1, (Pub.cells key), 26)] w68 := hM69
    refine l_val (gn rfl) rfl rfl (r_assign rfl) ?_
    refine l_nil ?_
    refine c_seq ?_
    refine c_reg ?_
    refine l_val (gn rfl) rfl rfl (r_loadA Tryz.isAgg26 Tryz.sizeOf26 (Pub.size _) rfl (hM69.base (i := 3) rfl)) ?_
    refine l_val (gn rfl) rfl rfl (r_move rfl) ?_
    refine l_val (gn rfl) rfl rfl (r_loadA Tryz.isAgg31 Tryz.sizeOf31 (Access.size _) rfl (hM69.base (i := 2) rfl)) ?_
    refine l_val (gn rfl) rfl rfl (r_move rfl) ?_
    refine l_val (gn rfl) rfl rfl (r_loadA Tryz.isAgg40 Tryz.sizeOf40 (Cipher.size _) rfl (hM69.base (i := 1) rfl)) ?_
    refine l_call (gn rfl) rfl rfl (r_call Tryz.call21 rfl) (f21 (hT1.keep0 hM69.kp) (hP1.keep0 hM69.kp) key acc who) ?_
    rintro v73 w74 ⟨qo71, rfl, hO72, hK75⟩
    have hM76 := hM69.keep hK75
    have hV77 := hO72.lt
    refine l_val (gn rfl) rfl rfl (r_move rfl) ?_
    refine l_val (gn rfl) rfl rfl (r_extract rfl rfl) ?_
    refine l_val (gn rfl) rfl rfl (r_extract rfl rfl) ?_
    refine l_alloc hM76 rfl SRep.zv ?_
    intro b78 w79 hM80 hK81 hB82
    replace hM80 : Mem w [] [(b78, (SRep.cells SRep.zero), 37), (b62, (SRep.cells ((SRep.mk ((ifOk (newGroup key lt acc lp who)).ver) ((ifOk (newGroup key lt acc lp who)).key) qo56.t ((ifOk (newGroup key lt acc lp who)).acc) qo56.p qo56.s qo56.i qo56.a qo56.b))), 37), (b11, (Cipher.cells who), 40), (b6, (Access.cells acc), 31), (b1, (Pub.cells key), 26)] w79 := hM80
    have hBk83 := hM80.blk (i := 0) rfl
    refine l_store hM80 (i := 0) rfl Tryz.sizeOf37 rfl rfl (SRep.size _) (by rw [SRep.size]; decide) (SRep.one _) (put_whole _ _ ((SRep.size _).trans (SRep.size _).symm)) ?_
    intro w84 hM85 hK86
    replace hM85 : Mem w [] [(b78, (SRep.cells ((SRep.mk ((ifOk (newGroup key lt acc lp who)).ver) ((ifOk (newGroup key lt acc lp who)).key) qo71.t ((ifOk (newGroup key lt acc lp who)).acc) qo71.p qo71.s qo71.i qo71.a qo71.b))), 37), (b62, (SRep.cells ((SRep.mk ((ifOk (newGroup key lt acc lp who)).ver) ((ifOk (newGroup key lt acc lp who)).key) qo56.t ((ifOk (newGroup key lt acc lp who)).acc) qo56.p qo56.s qo56.i qo56.a qo56.b))), 37), (b11, (Cipher.cells who), 40), (b6, (Access.cells acc), 31), (b1, (Pub.cells key), 26)] w84 := hM85
    refine l_val (gn rfl) rfl rfl (r_assign rfl) ?_
    refine l_nil ?_
    refine c_seq ?_
    refine c_seq ?_
    refine c_reg ?_
    refine l_val (gn rfl) rfl rfl (r_move rfl) ?_
    refine l_val (gn rfl) rfl rfl (r_move rfl) ?_
    refine l_val (gn rfl) rfl rfl (r_neq (b := (!(decide ((errOk (newGroup key lt acc lp who) : Nat) = errOk (newGroup key lt acc lp who))))) rfl rfl (congrArg Bool.not (neq' (errOk (newGroup key lt acc lp who)) (errOk (newGroup key lt acc lp who))))) ?_
    refine l_val (gn rfl) rfl rfl (r_move rfl) ?_
    refine l_val (gy rfl rfl rfl rfl (congrArg Bool.not (decide_eq_true rfl))) rfl rfl (r_loadA Tryz.isAgg37 Tryz.sizeOf37 (SRep.size _) rfl (hM85.base (i := 1) rfl)) ?_
    refine l_val (gy rfl rfl rfl rfl (congrArg Bool.not (decide_eq_true rfl))) rfl rfl (r_loadA Tryz.isAgg37 Tryz.sizeOf37 (SRep.size _) rfl (hM85.base (i := 0) rfl)) ?_
    refine l_call (gy rfl rfl rfl rfl (congrArg Bool.not (decide_eq_true rfl))) rfl rfl (r_call Tryz.call15 rfl) (f15r (((((hO57.keep0 hK65).keepX hK70 (fun y hy => by simp only [List.mem_cons, List.not_mem_nil, or_false] at hy; subst hy; exact (hO57.keep0 hK65).notin hBk67 (by decide))).keep0 hK75).keep0 hK81).keepX hK86 (fun y hy => by simp only [List.mem_cons, List.not_mem_nil, or_false] at hy; subst hy; exact ((((hO57.keep0 hK65).keepX hK70 (fun y hy => by simp only [List.mem_cons, List.not_mem_nil, or_false] at hy; subst hy; exact (hO57.keep0 hK65).notin hBk67 (by decide))).keep0 hK75).keep0 hK81).notin hBk83 (by decide))).stv ((hV77.keep0 hK81).keep hK86 (fun y hy h => by simp only [List.mem_cons, List.not_mem_nil, or_false] at hy; subst hy; have := h.2; omega))) ?_
    rintro v87 w88 ⟨rfl, hK89⟩
    have hM90 := hM85.keep hK89
    refine l_val (gy rfl rfl rfl rfl (congrArg Bool.not (decide_eq_true rfl))) rfl rfl (r_not rfl) ?_
    refine l_val (gn rfl) rfl rfl (r_pickF rfl (congrArg Bool.not (decide_eq_true rfl)) rfl) ?_
    refine l_nil ?_
    refine c_condF rfl rfl ?_
    refine c_skip ?_
    refine c_seq ?_
    refine c_reg ?_
    refine l_val (gn rfl) rfl rfl (r_loadA Tryz.isAgg37 Tryz.sizeOf37 (SRep.size _) rfl (hM90.base (i := 1) rfl)) ?_
    have hsp91 := ((((((hO57.keep0 hK65).keepX hK70 (fun y hy => by simp only [List.mem_cons, List.not_mem_nil, or_false] at hy; subst hy; exact (hO57.keep0 hK65).notin hBk67 (by decide))).keep0 hK75).keep0 hK81).keepX hK86 (fun y hy => by simp only [List.mem_cons, List.not_mem_nil, or_false] at hy; subst hy; exact ((((hO57.keep0 hK65).keepX hK70 (fun y hy => by simp only [List.mem_cons, List.not_mem_nil, or_false] at hy; subst hy; exact (hO57.keep0 hK65).notin hBk67 (by decide))).keep0 hK75).keep0 hK81).notin hBk83 (by decide))).keep0 hK89)
    refine l_call (gn rfl) rfl rfl (r_call Tryz.call19 rfl) (f19 hsp91) ?_
    rintro v92 w93 ⟨rfl, hK94⟩
    have hM95 := hM90.off hK94 hsp91 hge1 rfl
    refine l_nil ?_
    refine c_seq ?_
    refine c_reg ?_
    refine l_val (gn rfl) rfl rfl (r_move rfl) ?_
    refine l_val (gn rfl) rfl rfl (r_bstrR rfl (((((((((((hO42.keep0 hK47).keepN hK53 hY54 hzsa36_z43).keep0 hK60).keep0 hK65).keep hK70 (fun y hy => by simp only [List.mem_cons, List.not_mem_nil, or_false] at hy; subst hy; exact ((((hO42.keep0 hK47).keepN hK53 hY54 hzsa36_z43).keep0 hK60).keep0 hK65).notin hBk67 (by decide))).keep0 hK75).keep0 hK81).keep hK86 (fun y hy => by simp only [List.mem_cons, List.not_mem_nil, or_false] at hy; subst hy; exact (((((((hO42.keep0 hK47).keepN hK53 hY54 hzsa36_z43).keep0 hK60).keep0 hK65).keep hK70 (fun y hy => by simp only [List.mem_cons, List.not_mem_nil, or_false] at hy; subst hy; exact ((((hO42.keep0 hK47).keepN hK53 hY54 hzsa36_z43).keep0 hK60).keep0 hK65).notin hBk67 (by decide))).keep0 hK75).keep0 hK81).notin hBk83 (by decide))).keep0 hK89).keep hK94 (fun y hy hc => by have := hltssa36_1 y hc; have := (hsp91.lo y hy).1; omega)).row enB)) ?_
    refine l_val (gn rfl) rfl rfl (r_move rfl) ?_
    refine l_val (gn rfl) rfl rfl (r_bstrR rfl (hT1.keep0 hM95.kp)) ?_
    refine l_val (gn rfl) rfl rfl (r_streq rfl rfl) ?_
    refine l_val (gn rfl) rfl rfl (r_move rfl) ?_
    refine l_val (gy rfl rfl rfl rfl (decide_eq_true rfl)) rfl rfl (r_move rfl) ?_
    refine l_val (gy rfl rfl rfl rfl (decide_eq_true rfl)) rfl rfl (r_bstrR rfl (((((((((hO55.keep0 hK60).keep0 hK65).keep hK70 (fun y hy => by simp only [List.mem_cons, List.not_mem_nil, or_false] at hy; subst hy; exact ((hO55.keep0 hK60).keep0 hK65).notin hBk67 (by decide))).keep0 hK75).keep0 hK81).keep hK86 (fun y hy => by simp only [List.mem_cons, List.not_mem_nil, or_false] at hy; subst hy; exact (((((hO55.keep0 hK60).keep0 hK65).keep hK70 (fun y hy => by simp only [List.mem_cons, List.not_mem_nil, or_false] at hy; subst hy; exact ((hO55.keep0 hK60).keep0 hK65).notin hBk67 (by decide))).keep0 hK75).keep0 hK81).notin hBk83 (by decide))).keep0 hK89).keep hK94 (fun y hy hc => by have := hltssa49_1 y hc; have := (hsp91.lo y hy).1; omega)).row enB)) ?_
    refine l_val (gy rfl rfl rfl rfl (decide_eq_true rfl)) rfl rfl (r_move rfl) ?_
    refine l_val (gy rfl rfl rfl rfl (decide_eq_true rfl)) rfl rfl (r_bstrR rfl (hP1.keep0 hM95.kp)) ?_
    refine l_val (gy rfl rfl rfl rfl (decide_eq_true rfl)) rfl rfl (r_streq rfl rfl) ?_
    refine l_val (gn rfl) rfl rfl (r_pickT rfl (decide_eq_true rfl) rfl) ?_
    refine l_val (gn rfl) rfl rfl (r_move rfl) ?_
    refine l_call (gy rfl rfl rfl rfl (decide_eq_true rfl)) rfl rfl (r_call Tryz.call10 rfl) (f10) ?_
    rintro v96 w97 ⟨rfl, hK98⟩
    have hM99 := hM95.keep hK98
    refine l_val (gn rfl) rfl rfl (r_pickT rfl (decide_eq_true rfl) rfl) ?_
    refine l_val (gn rfl) rfl rfl (r_assign rfl) ?_
    refine l_nil ?_
    refine c_ret ?_
    refine ret1 rfl rfl ?_
    exact ⟨rfl, hM99.kp⟩
end Go.Proofs.YtekhaogjmmmniaaGreat
namespace Go.Proofs.YtekhaogjmmmniaaGreat
open Go Go.RowKit Go.ChangeShapes Go.WideShapes Go.ChangeAt

theorem Tryz.own : ownKnob Tryz.prog.godebug = none := by kernel_rfl
theorem Tryz.laidOut : laidOutB Tryz.prog = true := by kernel_rfl
theorem cof5 : Tryz.prog.cellsOf 5 = 1 := by kernel_rfl
theorem cof28 : Tryz.prog.cellsOf 28 = 1 := by kernel_rfl
theorem cof29 : Tryz.prog.cellsOf 29 = 1 := by kernel_rfl
theorem cof24 : Tryz.prog.cellsOf 24 = 32 := by kernel_rfl
theorem cof26 : Tryz.prog.cellsOf 26 = 64 := by kernel_rfl
theorem cof31 : Tryz.prog.cellsOf 31 = 3 := by kernel_rfl
theorem cof40 : Tryz.prog.cellsOf 40 = 64 := by kernel_rfl
def GlueP (cs : List Value) : Nat → List (Array Value) → Prop
  | _, [] => True
  | off, p :: r => (cs.drop off).take p.size = p.toList ∧ GlueP cs (off + p.size) r
theorem glue {cs : List Value} : ∀ (ps : List (Array Value)) (off : Nat), cs.length = off + (ps.map Array.size).sum → GlueP cs off ps → cs.drop off = (cat ps).toList
  | [], off, hl, _ => by
    simp only [List.map_nil, List.sum_nil, Nat.add_zero] at hl
    rw [List.drop_of_length_le (by omega)]; rfl
  | p :: r, off, hl, h => by
    simp only [List.map_cons, List.sum_cons] at hl
    have ih := glue r (off + p.size) (by omega) h.2
    rw [cat_cons, ← ih, ← h.1, ← List.drop_drop, List.take_append_drop]

section
variable {H : Type} {enc : TypeId × Value → H} {w : World} {n : Nat} {cs : List Value} {x : DataW H × List MemPlace}

theorem fld {t : TypeId} {fs : Array Field} {xs : List (DataW H × List MemPlace)} {m : Nat} (hx : xs.length = fs.size) (hf : ∀ (i : Nat) (f : Field), fs[i]? = some f → DataW.trod enc Tryz.prog w 0 (fun _ => true) true m f.type ((cs.drop f.offset).take (Tryz.prog.cellsOf f.type)) = xs[i]?) (_ht : Tryz.prog.underlying t = some (.struct fs))
    (i : Nat) {f : Field} (hi : fs[i]? = some f) {sz : Nat} (hs : Tryz.prog.cellsOf f.type = sz) : ∃ y, xs[i]? = some y ∧ DataW.trod enc Tryz.prog w 0 (fun _ => true) true m f.type ((cs.drop f.offset).take sz) = some y := by
  have hl : i < xs.length := by rw [hx]; exact (Array.getElem?_eq_some_iff.1 hi).1
  have h := hf i f hi
  rw [hs, List.getElem?_eq_getElem hl] at h
  exact ⟨_, List.getElem?_eq_getElem hl, h⟩
theorem rd_u8 {t : TypeId} (ht : Tryz.prog.underlying t = some (.int .u8)) (h : DataW.trod enc Tryz.prog w 0 (fun _ => true) true n t cs = some x) : ∃ c : UInt8, cs = [vU8 c] := by
  obtain ⟨z, rfl, _, hw⟩ := DataW.trod_int ht h
  have h1 : 0 ≤ z ∧ z ≤ 255 := by
    have e1 : IntKind.u8.min = 0 := rfl
    have e2 : IntKind.u8.max = 255 := rfl
    simpa [Lit.wf, e1, e2] using hw
  refine ⟨UInt8.ofNat z.toNat, ?_⟩
  have : ((UInt8.ofNat z.toNat).toNat : Int) = z := by simp only [UInt8.toNat_ofNat']; omega
  rw [vU8, this]
theorem rd_Pt {t : TypeId} (ht : Tryz.prog.underlying t = some (.array 32 5)) (hc : Tryz.prog.cellsOf t = 32) (h : DataW.trod enc Tryz.prog w 0 (fun _ => true) true n t cs = some x) : ∃ p : Pt, cs = p.cells.toList := by
  obtain ⟨xs, m, _, _, hl, hx, hf⟩ := DataW.trod_array ht h
  rw [hc] at hl
  have hb : ∀ i, i < 32 → ∃ c : UInt8, cs[i]? = some (vU8 c) := fun i hi => by
    have h1 := hf i hi
    rw [cof5, Nat.mul_one, List.getElem?_eq_getElem (by omega)] at h1
    obtain ⟨c, hc'⟩ := rd_u8 Tryz.underlying5 h1
    refine ⟨c, ?_⟩
    have h2 : ((cs.drop i).take 1)[0]? = some (vU8 c) := by rw [hc']; rfl
    rw [List.getElem?_take_of_lt (by decide), List.getElem?_drop] at h2
    exact h2
  obtain ⟨f, hf'⟩ := Deep.choose_lt hb
  refine ⟨Vector.ofFn fun i : Fin 32 => f i, ?_⟩
  apply List.ext_getElem?
  intro i
  by_cases hi : i < 32
  · rw [hf' i hi, Array.getElem?_toList, Pt.get _ _ hi]; simp
  · rw [List.getElem?_eq_none (by omega), List.getElem?_eq_none (by rw [Array.length_toList, Pt.size]; omega)]
theorem rd_Pub (h : DataW.trod enc Tryz.prog w 0 (fun _ => true) true n 26 cs = some x) : ∃ y : Pub, cs = y.cells.toList := by
  obtain ⟨xs, m, _, _, hl, hx, hf⟩ := DataW.trod_struct Tryz.underlying26 h
  rw [cof26] at hl
  obtain ⟨z0, hz0, h0⟩ := fld hx hf Tryz.underlying26 0 rfl cof24
  obtain ⟨y0, e0⟩ := rd_Pt Tryz.underlying24 cof24 h0
  obtain ⟨z1, hz1, h1⟩ := fld hx hf Tryz.underlying26 1 rfl cof24
  obtain ⟨y1, e1⟩ := rd_Pt Tryz.underlying24 cof24 h1
  refine ⟨⟨y0, y1⟩, ?_⟩
  exact glue (Pub.parts _) 0 (by simp [hl, Pub.parts, Pt.size]) (by simpa [-List.drop_one, GlueP, Pub.parts, Pt.size, Pub.size, Access.size, Cipher.size] using ⟨e0, e1⟩)
theorem rd_Access (h : DataW.trod enc Tryz.prog w 0 (fun _ => true) true n 31 cs = some x) : ∃ y : Access, cs = y.cells.toList := by
  obtain ⟨xs, m, _, _, hl, hx, hf⟩ := DataW.trod_struct Tryz.underlying31 h
  rw [cof31] at hl
  obtain ⟨z0, hz0, h0⟩ := fld hx hf Tryz.underlying31 0 rfl cof28
  obtain ⟨y0, e0⟩ := rd_u8 Tryz.underlying28 h0
  obtain ⟨z1, hz1, h1⟩ := fld hx hf Tryz.underlying31 1 rfl cof28
  obtain ⟨y1, e1⟩ := rd_u8 Tryz.underlying28 h1
  obtain ⟨z2, hz2, h2⟩ := fld hx hf Tryz.underlying31 2 rfl cof29
  obtain ⟨y2, e2⟩ := rd_u8 Tryz.underlying29 h2
  refine ⟨⟨y0, y1, y2⟩, ?_⟩
  exact glue (Access.parts _) 0 (by simp [hl, Access.parts]) (by simpa [-List.drop_one, GlueP, Access.parts, Pt.size, Pub.size, Access.size, Cipher.size] using ⟨e0, e1, e2⟩)
theorem rd_Cipher (h : DataW.trod enc Tryz.prog w 0 (fun _ => true) true n 40 cs = some x) : ∃ y : Cipher, cs = y.cells.toList := by
  obtain ⟨xs, m, _, _, hl, hx, hf⟩ := DataW.trod_struct Tryz.underlying40 h
  rw [cof40] at hl
  obtain ⟨z0, hz0, h0⟩ := fld hx hf Tryz.underlying40 0 rfl cof24
  obtain ⟨y0, e0⟩ := rd_Pt Tryz.underlying24 cof24 h0
  obtain ⟨z1, hz1, h1⟩ := fld hx hf Tryz.underlying40 1 rfl cof24
  obtain ⟨y1, e1⟩ := rd_Pt Tryz.underlying24 cof24 h1
  refine ⟨⟨y0, y1⟩, ?_⟩
  exact glue (Cipher.parts _) 0 (by simp [hl, Cipher.parts, Pt.size]) (by simpa [-List.drop_one, GlueP, Cipher.parts, Pt.size, Pub.size, Access.size, Cipher.size] using ⟨e0, e1⟩)
/-- What was read is not more than the form's reach. -/
def Szd (t : TypeId) (d : DataW H) : Prop := ∀ k ∈ d.weights Tryz.prog t, k ≤ reachBytes
theorem Szd.fld {t : TypeId} {fs : Array Field} {xs : List (DataW H × List MemPlace)} (ht : Tryz.prog.underlying t = some (.struct fs)) (h : Szd t (.agg (xs.map (·.1)))) {i : Nat} {f : Field} {y : DataW H × List MemPlace} (hi : fs[i]? = some f) (hy : xs[i]? = some y) : Szd f.type y.1 := fun k hk => by
  refine h k ?_
  simp only [DataW.weights, ht]
  exact DataW.weights_mem_each (j := i) (by rw [List.getElem?_map, Array.getElem?_toList, hi]; rfl) (by rw [List.getElem?_map, hy]; rfl) k hk
theorem rd_sl {α : Type} {t e sz : Nat} {en : α → Array Value} (ht : Tryz.prog.underlying t = some (.slice e)) (hc : Tryz.prog.cellsOf e = sz) (hp : 0 < sz) (hb : 0 < Tryz.prog.bytesOf e) (hsz : ∀ y, (en y).size = sz)
    (he : ∀ {m : Nat} {cs' : List Value} {x' : DataW H × List MemPlace}, DataW.trod enc Tryz.prog w 0 (fun _ => true) true m e cs' = some x' → ∃ y : α, cs' = (en y).toList) (h : DataW.trod enc Tryz.prog w 0 (fun _ => true) true n t cs = some x) (hs : Szd t x.1) :
    ∃ (s : Sl) (l : List α), cs = [s.val] ∧ Row (fun _ => True) w s sz en l := by
  rcases Deep.open_slice ht h with ⟨rfl, _⟩ | ⟨a, len, cap, m, k, D, Pl, rfl, _, hl, hm, hmm, hx, hel⟩
  · exact ⟨Sl.nil, [], rfl, Row.nil⟩
  · simp only [if_true] at hmm
    subst hmm
    have hcap : m ≤ 140737488355328 := by
      have h1 := hs ((len + (m - len)) * Tryz.prog.bytesOf e) (by rw [hx]; simp [DataW.weights, ht])
      have h2 : m ≤ (len + (m - len)) * Tryz.prog.bytesOf e := by rw [Nat.add_sub_cancel' hl]; exact Nat.le_mul_of_pos_right _ hb
      have h3 := reachBytes_lt
      omega
    have hch : ∀ i, i < len → ∃ y : α, ∀ j, j < sz → w.cell? ((a.add (i * sz)).add j) = (en y)[j]? := fun i hi => by
      obtain ⟨cs', h1, h2⟩ := hel i (by omega)
      obtain ⟨y, rfl⟩ := he h2
      rw [hc] at h1
      obtain ⟨_, hlen, hcell⟩ := World.cells?_some h1
      refine ⟨y, fun j hj => ?_⟩
      rw [hcell j hj, Array.getElem?_toList]
    by_cases hn : len = 0
    · subst hn
      exact ⟨⟨some a, 0, m⟩, [], rfl, ⟨rfl, Nat.zero_le _, Nat.zero_le _, fun h => (by cases h), fun i y hi => (by simp at hi)⟩⟩
    · have hne : Nonempty α := ⟨(hch 0 (by omega)).choose⟩
      have : Inhabited α := Classical.inhabited_of_nonempty hne
      obtain ⟨f, hf⟩ := Deep.choose_lt hch
      obtain ⟨b, off, spot⟩ := a
      have hspot : spot = none := by
        have h0 := hf 0 (by omega) 0 hp
        rw [Array.getElem?_eq_getElem (by rw [hsz]; exact hp)] at h0
        simpa [Addr.add] using World.cell?_spot h0
      subst hspot
      refine ⟨⟨some ⟨b, off, none⟩, len, m⟩, (List.range len).map f, rfl, ⟨by simp, hl, Nat.le_trans hl hcap, fun h => (by cases h), fun i y hi => ?_⟩⟩
      have hil : i < len := by
        have := (List.getElem?_eq_some_iff.1 hi).1
        simpa using this
      have hy : f i = y := by simpa [hil] using hi
      subst hy
      refine ⟨b, off, rfl, trivial, fun j hj => ?_⟩
      rw [hsz] at hj
      have := hf i hil j hj
      rw [addr_off, addr_off] at this
      exact this
theorem rd_B (h : DataW.trod enc Tryz.prog w 0 (fun _ => true) true n 5 cs = some x) : ∃ y : UInt8, cs = (encB y).toList := by
  obtain ⟨c, rfl⟩ := rd_u8 Tryz.underlying5 h
  exact ⟨c, rfl⟩
end
end Go.Proofs.YtekhaogjmmmniaaGreat
namespace Go.Proofs.YtekhaogjmmmniaaGreat
open Go Go.RowKit Go.ChangeShapes Go.WideShapes Go.ChangeAt
set_option maxRecDepth 100000

theorem szds {H : Type} {ts : List TypeId} {ds : List (DataW H)} (h : (DataW.weightsEach Tryz.prog ts ds).all (· ≤ reachBytes) = true) (j : Nat) {t : TypeId} {d : DataW H} (ht : ts[j]? = some t) (hd : ds[j]? = some d) : Szd t d :=
  fun k hk => of_decide_eq_true (List.all_eq_true.1 h k (DataW.weights_mem_each ht hd k hk))

section
variable {H : Type} {enc : TypeId × Value → H} {W : World} {base : Nat} {v : Value} {d : DataW H} {p : List MemPlace}
theorem arg_Pub (hv : Value.okWide Tryz.prog W .any base 26 v) (h : DataW.Trod enc Tryz.prog W 0 (fun _ => true) true 26 v d p) : ∃ y : Pub, v = .agg y.cells := by
  obtain ⟨cs, rfl, _⟩ := okWide_struct Tryz.underlying26 hv
  obtain ⟨fuel, hf⟩ := h
  obtain ⟨y, hy⟩ := rd_Pub hf
  exact ⟨y, congrArg Value.agg (Array.toList_inj.1 hy)⟩
theorem arg_Access (hv : Value.okWide Tryz.prog W .any base 31 v) (h : DataW.Trod enc Tryz.prog W 0 (fun _ => true) true 31 v d p) : ∃ y : Access, v = .agg y.cells := by
  obtain ⟨cs, rfl, _⟩ := okWide_struct Tryz.underlying31 hv
  obtain ⟨fuel, hf⟩ := h
  obtain ⟨y, hy⟩ := rd_Access hf
  exact ⟨y, congrArg Value.agg (Array.toList_inj.1 hy)⟩
theorem arg_Cipher (hv : Value.okWide Tryz.prog W .any base 40 v) (h : DataW.Trod enc Tryz.prog W 0 (fun _ => true) true 40 v d p) : ∃ y : Cipher, v = .agg y.cells := by
  obtain ⟨cs, rfl, _⟩ := okWide_struct Tryz.underlying40 hv
  obtain ⟨fuel, hf⟩ := h
  obtain ⟨y, hy⟩ := rd_Cipher hf
  exact ⟨y, congrArg Value.agg (Array.toList_inj.1 hy)⟩
theorem arg_B (hv : Value.okWide Tryz.prog W .any base 27 v) (h : DataW.Trod enc Tryz.prog W 0 (fun _ => true) true 27 v d p) (hz : Szd 27 d) : ∃ (s : Sl) (l : List UInt8), v = s.val ∧ Row (fun _ => True) W s 1 encB l := by
  obtain ⟨a, len, cap, rfl⟩ := okWide_slice Tryz.underlying27 hv
  obtain ⟨fuel, hf⟩ := h
  obtain ⟨s, l, hy, hR⟩ := rd_sl (en := encB) Tryz.underlying27 cof5 (by decide) (of_decide_eq_true (by kernel_rfl)) (fun _ => rfl) rd_B hf hz
  exact ⟨s, l, by simpa [Value.cells] using hy, hR⟩
end
theorem Ret.said {f : FuncId} {args : Array Value} {w : World} {Q : Ending → World → Prop} (h : Ret f args w (fun v w' => v = .bool true ∧ Keeps [] w w')) (hm : ∀ w', Keeps [] w w' → Q (.returned (.bool true)) w') : Calls Tryz.prog f args w Q :=
  Calls.mono h fun e w' he => by
    cases e with
    | returned v => obtain ⟨rfl, hK⟩ := he; exact hm w' hK
    | panicked c => exact he.elim
    | outgrown => exact he.elim
end Go.Proofs.YtekhaogjmmmniaaGreat
