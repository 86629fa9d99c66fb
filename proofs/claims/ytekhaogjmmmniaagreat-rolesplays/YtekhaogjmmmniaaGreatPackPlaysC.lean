/- Part 3 of the proof of RolesPlaysSaid: what the functions reached compute, in plain words and by walks through their code. No statement of the rows is proved here. -/
import Derived.Test.YtekhaogjmmmniaaGreatPackPlaysB
namespace Go.Proofs.YtekhaogjmmmniaaGreat
open Go Go.RowKit

theorem f46 {w : World} (x : Seat) : Ret 46 #[.agg x.cells] w (fun v w' => v = .agg x.who.cells ∧ Keeps [] w w') := by
  have hM0 := Mem.start w
  refine enter Tryz.func46 rfl rfl ?_
  refine c_sr ?_
  refine l_box hM0 rfl rfl ?_
  intro b1 w2 hM3 hK4 hB5
  replace hM3 : Mem w [] [(b1, (Seat.cells x), 73)] w2 := hM3
  refine l_alloc hM3 rfl Cipher.zv ?_
  intro b6 w7 hM8 hK9 hB10
  replace hM8 : Mem w [] [(b6, (Cipher.cells Cipher.zero), 40), (b1, (Seat.cells x), 73)] w7 := hM8
  refine l_nil ?_
  refine c_sr ?_
  refine l_v rfl (r_fieldAddr Seat.fld_who rfl) ?_
  refine l_v rfl (r_loadA Tryz.isAgg40 Tryz.sizeOf40 (Cipher.size _) rfl (Holds.sub (hM8.base (i := 1) rfl) (Seat.sub_who _))) ?_
  refine l_store hM8 (i := 0) rfl Tryz.sizeOf40 rfl rfl (Cipher.size _) (by rw [Cipher.size]; decide) (Cipher.one _) (put_whole _ _ ((Cipher.size _).trans (Cipher.size _).symm)) ?_
  intro w11 hM12 hK13
  replace hM12 : Mem w [] [(b6, (Cipher.cells x.who), 40), (b1, (Seat.cells x), 73)] w11 := hM12
  refine l_nil ?_
  refine c_ret ?_
  refine retC rfl Tryz.isAgg40 Tryz.sizeOf40 (Cipher.size _) rfl (hM12.base (i := 0) rfl) ?_
  exact ⟨rfl, hM12.kp⟩
theorem f45 {A : Nat → Prop} {w : World} {s : Sl} {l : List Seat} {b : Nat} {ks : List Pt} (hR : Row A w s 66 Seat.cells l) (hA : ¬ A b) (hm : MapB w b ks) :
    Ret 45 #[s.val, .func (.func 46) #[] #[], .map (some b)] w (fun v w' => ∃ r : Bool, v = .bool r ∧ (r = true ↔ OkRoll ks (l.map Seat.who)) ∧ (r = true → MapB w' b (ks ++ (l.map Seat.who).map Cipher.E)) ∧ Keeps [b] w w') := by
  have hn := hR.bd
  have hX : ∀ x ∈ [b], ¬ A x := by simpa using hA
  have hM0 : Mem w [b] [] w := ⟨Keeps.refl _ _, by simp, by simp, by simp⟩
  have hbl := hm.lt
  refine enter Tryz.func45 rfl rfl ?_
  refine c_sr ?_
  refine l_v rfl (r_assign rfl) ?_
  refine l_nil ?_
  refine c_seq ?_
  refine c_sr ?_
  refine l_v rfl (r_move rfl) ?_
  refine l_v rfl (r_lenR Tryz.underlying32 rfl hR.len) ?_
  refine l_v rfl (r_gtr (b := decide ((40 : Nat) < l.length)) rfl rfl (nlt 40 l.length)) ?_
  refine l_nil ?_
  refine ways (decide ((40 : Nat) < l.length)) (fun h1 => ?_) (fun h1 => ?_)
  ·skip
   have hp2 : (40 : Nat) < l.length := of_decide_eq_true h1
   refine c_condT rfl h1 ?_
   refine c_sr ?_
   refine l_v rfl (r_assign rfl) ?_
   refine l_nil ?_
   refine c_ret ?_
   refine ret1 rfl rfl ?_
   refine ⟨false, rfl, ⟨fun e => (by cases e), fun hok => ?_⟩, fun e => (by cases e), hM0.kp⟩
   have := hok.1; simp at this; omega
  ·skip
   have hp3 : ¬ ((40 : Nat) < l.length) := of_decide_eq_false h1
   refine c_condF rfl h1 ?_
   refine c_skip ?_
   refine c_sr ?_
   refine l_alloc hM0 rfl zv_Pt ?_
   intro b4 w5 hM6 hK7 hB8
   replace hM6 : Mem w [b] [(b4, (Pt.cells Pt.zero), 24)] w5 := hM6
   have hNb4 : w.heap.size ≤ b4 := Nat.le_trans hM0.kp.size hB8
   refine l_nil ?_
   refine c_seq ?_
   refine c_sr ?_
   refine l_v rfl (r_move rfl) ?_
   refine l_v rfl (r_lenR Tryz.underlying32 rfl (hR.keep hM6.kp hX).len) ?_
   refine l_v rfl (r_move rfl) ?_
   refine l_nil ?_
   refine c_block ?_
   refine c_loop (ι := Nat × Pt) (fun p_ w_ => Mem w [b] [(b4, (Pt.cells p_.2), 24)] w_ ∧ (p_.1 ≤ l.length ∧ RollTo ks (l.map Seat.who) p_.1 p_.2 ∧ MapB w_ b (ks ++ ((l.map Seat.who).take p_.1).map Cipher.E))) (fun p_ => [(0, Sl.val s), (1, Value.func (Fn.func 46) #[] #[]), (2, Value.map (some b)), (13, Value.bool (decide ((40 : Nat) < l.length))), (7, Value.pointer (some ⟨b4, 0, none⟩)), (14, Sl.val s), (15, Value.int .i64 ((l.length : Nat) : Int)), (16, Value.int .i64 ((p_.1 : Nat) : Int))]) (fun p_ => l.length - p_.1) (0, Pt.zero) ⟨hM6, Nat.zero_le _, RollTo.start _ _ _, by simpa using (hm.keep0 hK7)⟩ ⟨rfl, rfl, rfl, rfl, rfl, rfl, rfl, rfl, trivial⟩ ?_
   rintro ⟨i, t⟩ w9 ⟨hM10, hk, hro, hmp⟩
   change AT _ [(0, Sl.val s), (1, Value.func (Fn.func 46) #[] #[]), (2, Value.map (some b)), (13, Value.bool (decide ((40 : Nat) < l.length))), (7, Value.pointer (some ⟨b4, 0, none⟩)), (14, Sl.val s), (15, Value.int .i64 ((l.length : Nat) : Int)), (16, Value.int .i64 ((i : Nat) : Int))] _ _
   replace hM10 : Mem w [b] [(b4, (Pt.cells t), 24)] w9 := hM10
   refine c_sr ?_
   refine l_v rfl (r_lss (b := decide ((i : Nat) < l.length)) rfl rfl (nlt i l.length)) ?_
   refine l_nil ?_
   refine c_seq ?_
   refine ways (decide ((i : Nat) < l.length)) (fun h11 => ?_) (fun h11 => ?_)
   ·skip
    have hp12 : (i : Nat) < l.length := of_decide_eq_true h11
    refine c_condT rfl h11 ?_
    refine c_skip ?_
    refine c_seq ?_
    refine c_block ?_
    refine c_sr ?_
    refine l_v rfl (r_move rfl) ?_
    have hlt13 : i < l.length := by first | assumption | omega
    obtain ⟨x13, hx13⟩ : ∃ x, l[i]? = some x := ⟨_, List.getElem?_eq_getElem hlt13⟩
    obtain ⟨p13, o13, ha13, hA13, -⟩ := (hR.keep hM10.kp hX).at_ _ _ hx13
    refine l_v rfl (r_indexR Tryz.underlying32 Tryz.sizeOf73 ⟨_, (hR.keep hM10.kp hX)⟩ rfl ha13 rfl hlt13) ?_
    refine l_v rfl (r_loadA Tryz.isAgg73 Tryz.sizeOf73 (Seat.size _) rfl ((hR.keep hM10.kp hX).ix hx13 ha13)) ?_
    refine l_alloc hM10 rfl Seat.zv ?_
    intro b14 w15 hM16 hK17 hB18
    replace hM16 : Mem w [b] [(b14, (Seat.cells Seat.zero), 73), (b4, (Pt.cells t), 24)] w15 := hM16
    have hNb14 : w.heap.size ≤ b14 := Nat.le_trans hM10.kp.size hB18
    refine l_v rfl (r_assign rfl) ?_
    refine l_store hM16 (i := 0) rfl Tryz.sizeOf73 rfl rfl (Seat.size _) (by rw [Seat.size]; decide) (Seat.one _) (put_whole _ _ ((Seat.size _).trans (Seat.size _).symm)) ?_
    intro w19 hM20 hK21
    replace hM20 : Mem w [b] [(b14, (Seat.cells x13), 73), (b4, (Pt.cells t), 24)] w19 := hM20
    refine l_nil ?_
    refine c_sr ?_
    refine l_v rfl (r_move rfl) ?_
    refine l_v rfl (r_loadA Tryz.isAgg73 Tryz.sizeOf73 (Seat.size _) rfl (hM20.base (i := 0) rfl)) ?_
    refine l_call (gn rfl) rfl rfl (r_callv (cap := []) rfl Tryz.call46 rfl) (f46 x13) ?_
    rintro v22 w23 ⟨rfl, hK24⟩
    have hM25 := hM20.keep hK24
    refine l_alloc hM25 rfl Cipher.zv ?_
    intro b26 w27 hM28 hK29 hB30
    replace hM28 : Mem w [b] [(b26, (Cipher.cells Cipher.zero), 40), (b14, (Seat.cells x13), 73), (b4, (Pt.cells t), 24)] w27 := hM28
    have hNb26 : w.heap.size ≤ b26 := Nat.le_trans hM25.kp.size hB30
    refine l_store hM28 (i := 0) rfl Tryz.sizeOf40 rfl rfl (Cipher.size _) (by rw [Cipher.size]; decide) (Cipher.one _) (put_whole _ _ ((Cipher.size _).trans (Cipher.size _).symm)) ?_
    intro w31 hM32 hK33
    replace hM32 : Mem w [b] [(b26, (Cipher.cells x13.who), 40), (b14, (Seat.cells x13), 73), (b4, (Pt.cells t), 24)] w31 := hM32
    refine l_nil ?_
    refine c_seq ?_
    refine c_seq ?_
    refine c_regD (fun w_ => Mem w [b] [(b26, (Cipher.cells x13.who), 40), (b14, (Seat.cells x13), 73), (b4, (Pt.cells t), 24)] w_ ∧ MapB w_ b (ks ++ ((l.map Seat.who).take i).map Cipher.E)) [] [(0, true), (1, true), (2, true), (3, true), (4, true), (5, true), (6, true), (7, true), (8, true), (9, true), (10, true), (11, true), (12, false), (13, true), (14, true), (15, true)] (by kernel_rfl) ?_
    have hM34 := hM32.drew
    refine s_take ⟨hM34, ((((((hmp.keep0 hK17).keep hK21 (by simp; omega)).keep0 hK24).keep0 hK29).keep hK33 (by simp; omega)).keep0 (Keeps.drew _))⟩ rfl (gn rfl) rfl rfl (fun w h => r_move rfl) ?_
    refine s_take ⟨hM34, ((((((hmp.keep0 hK17).keep hK21 (by simp; omega)).keep0 hK24).keep0 hK29).keep hK33 (by simp; omega)).keep0 (Keeps.drew _))⟩ rfl (gn rfl) rfl rfl (fun w h => r_fieldAddr Cipher.fld_E rfl) ?_
    refine s_take ⟨hM34, ((((((hmp.keep0 hK17).keep hK21 (by simp; omega)).keep0 hK24).keep0 hK29).keep hK33 (by simp; omega)).keep0 (Keeps.drew _))⟩ rfl (gn rfl) rfl rfl (fun w h => r_loadA Tryz.isAgg24 Tryz.sizeOf24 (Pt.size _) rfl (Holds.sub (h.1.base (i := 0) rfl) (Cipher.sub_E _))) ?_
    refine s_take ⟨hM34, ((((((hmp.keep0 hK17).keep hK21 (by simp; omega)).keep0 hK24).keep0 hK29).keep hK33 (by simp; omega)).keep0 (Keeps.drew _))⟩ rfl (gn rfl) rfl rfl (fun w h => r_lookup h.2 rfl rfl) ?_
    refine s_take ⟨hM34, ((((((hmp.keep0 hK17).keep hK21 (by simp; omega)).keep0 hK24).keep0 hK29).keep hK33 (by simp; omega)).keep0 (Keeps.drew _))⟩ rfl (gn rfl) rfl rfl (fun w h => r_gtr (b := decide ((0 : Nat) < seen ((ks ++ ((l.map Seat.who).take i).map Cipher.E)) x13.who.E)) rfl rfl (nlt 0 (seen ((ks ++ ((l.map Seat.who).take i).map Cipher.E)) x13.who.E))) ?_
    refine s_take ⟨hM34, ((((((hmp.keep0 hK17).keep hK21 (by simp; omega)).keep0 hK24).keep0 hK29).keep hK33 (by simp; omega)).keep0 (Keeps.drew _))⟩ rfl (gn rfl) rfl rfl (fun w h => r_move rfl) ?_
    refine ways (decide ((0 : Nat) < seen ((ks ++ ((l.map Seat.who).take i).map Cipher.E)) x13.who.E)) (fun h36 => ?_) (fun h36 => ?_)
    ·skip
     have hp37 : (0 : Nat) < seen ((ks ++ ((l.map Seat.who).take i).map Cipher.E)) x13.who.E := of_decide_eq_true h36
     refine s_off ⟨hM34, ((((((hmp.keep0 hK17).keep hK21 (by simp; omega)).keep0 hK24).keep0 hK29).keep hK33 (by simp; omega)).keep0 (Keeps.drew _))⟩ rfl (gno rfl rfl rfl rfl h36) rfl rfl ?_
     refine s_off ⟨hM34, ((((((hmp.keep0 hK17).keep hK21 (by simp; omega)).keep0 hK24).keep0 hK29).keep hK33 (by simp; omega)).keep0 (Keeps.drew _))⟩ rfl (gno rfl rfl rfl rfl h36) rfl rfl ?_
     refine s_off ⟨hM34, ((((((hmp.keep0 hK17).keep hK21 (by simp; omega)).keep0 hK24).keep0 hK29).keep hK33 (by simp; omega)).keep0 (Keeps.drew _))⟩ rfl (gno rfl rfl rfl rfl h36) rfl rfl ?_
     refine s_off ⟨hM34, ((((((hmp.keep0 hK17).keep hK21 (by simp; omega)).keep0 hK24).keep0 hK29).keep hK33 (by simp; omega)).keep0 (Keeps.drew _))⟩ rfl (gnu rfl rfl rfl rfl) rfl rfl ?_
     refine s_off ⟨hM34, ((((((hmp.keep0 hK17).keep hK21 (by simp; omega)).keep0 hK24).keep0 hK29).keep hK33 (by simp; omega)).keep0 (Keeps.drew _))⟩ rfl (gnu rfl rfl rfl rfl) rfl rfl ?_
     refine s_off ⟨hM34, ((((((hmp.keep0 hK17).keep hK21 (by simp; omega)).keep0 hK24).keep0 hK29).keep hK33 (by simp; omega)).keep0 (Keeps.drew _))⟩ rfl (gnu rfl rfl rfl rfl) rfl rfl ?_
     refine s_offx (.inr ⟨hM34, ((((((hmp.keep0 hK17).keep hK21 (by simp; omega)).keep0 hK24).keep0 hK29).keep hK33 (by simp; omega)).keep0 (Keeps.drew _))⟩) rfl (gnu rfl rfl rfl rfl) rfl rfl ?_
     refine s_off ⟨hM34, ((((((hmp.keep0 hK17).keep hK21 (by simp; omega)).keep0 hK24).keep0 hK29).keep hK33 (by simp; omega)).keep0 (Keeps.drew _))⟩ rfl (gnu rfl rfl rfl rfl) rfl rfl ?_
     refine s_off ⟨hM34, ((((((hmp.keep0 hK17).keep hK21 (by simp; omega)).keep0 hK24).keep0 hK29).keep hK33 (by simp; omega)).keep0 (Keeps.drew _))⟩ rfl (gno rfl rfl rfl rfl h36) rfl rfl ?_
     refine s_take ⟨hM34, ((((((hmp.keep0 hK17).keep hK21 (by simp; omega)).keep0 hK24).keep0 hK29).keep hK33 (by simp; omega)).keep0 (Keeps.drew _))⟩ rfl (gn rfl) rfl rfl (fun w h => r_pickT rfl h36 rfl) ?_
     refine s_nil ?_
     refine c_condT rfl rfl ?_
     refine c_sr ?_
     refine l_v rfl (r_assign rfl) ?_
     refine l_nil ?_
     refine c_ret ?_
     refine ret1 rfl rfl ?_
     refine ⟨false, rfl, ⟨fun e => (by cases e), fun hok => ?_⟩, fun e => (by cases e), hM34.kp⟩
     exact (RollTo.seen (by rw [List.getElem?_map, hx13]; rfl) (seen_yes (by assumption)) hok).elim
    ·skip
     have hp38 : ¬ ((0 : Nat) < seen ((ks ++ ((l.map Seat.who).take i).map Cipher.E)) x13.who.E) := of_decide_eq_false h36
     refine s_take ⟨hM34, ((((((hmp.keep0 hK17).keep hK21 (by simp; omega)).keep0 hK24).keep0 hK29).keep hK33 (by simp; omega)).keep0 (Keeps.drew _))⟩ rfl (gy rfl rfl rfl rfl h36) rfl rfl (fun w h => r_move rfl) ?_
     refine s_take ⟨hM34, ((((((hmp.keep0 hK17).keep hK21 (by simp; omega)).keep0 hK24).keep0 hK29).keep hK33 (by simp; omega)).keep0 (Keeps.drew _))⟩ rfl (gy rfl rfl rfl rfl h36) rfl rfl (fun w h => r_gtr (b := decide ((0 : Nat) < i)) rfl rfl (nlt 0 i)) ?_
     refine s_take ⟨hM34, ((((((hmp.keep0 hK17).keep hK21 (by simp; omega)).keep0 hK24).keep0 hK29).keep hK33 (by simp; omega)).keep0 (Keeps.drew _))⟩ rfl (gy rfl rfl rfl rfl h36) rfl rfl (fun w h => r_move rfl) ?_
     refine ways (decide ((0 : Nat) < i)) (fun h39 => ?_) (fun h39 => ?_)
     ·skip
      have hp40 : (0 : Nat) < i := of_decide_eq_true h39
      refine s_take ⟨hM34, ((((((hmp.keep0 hK17).keep hK21 (by simp; omega)).keep0 hK24).keep0 hK29).keep hK33 (by simp; omega)).keep0 (Keeps.drew _))⟩ rfl (gy rfl rfl rfl rfl h39) rfl rfl (fun w h => r_sliceArr Tryz.underlying24 Tryz.sizeOf5 rfl) ?_
      refine s_take ⟨hM34, ((((((hmp.keep0 hK17).keep hK21 (by simp; omega)).keep0 hK24).keep0 hK29).keep hK33 (by simp; omega)).keep0 (Keeps.drew _))⟩ rfl (gy rfl rfl rfl rfl h39) rfl rfl (fun w h => r_fieldAddr Cipher.fld_E rfl) ?_
      refine s_take ⟨hM34, ((((((hmp.keep0 hK17).keep hK21 (by simp; omega)).keep0 hK24).keep0 hK29).keep hK33 (by simp; omega)).keep0 (Keeps.drew _))⟩ rfl (gy rfl rfl rfl rfl h39) rfl rfl (fun w h => r_sliceArr Tryz.underlying24 Tryz.sizeOf5 rfl) ?_
      refine s_call rfl (gy rfl rfl rfl rfl h39) rfl rfl (r_call Tryz.call88 rfl) (f88 (hM34.base (i := 2) rfl) (Holds.sub (hM34.base (i := 0) rfl) (Cipher.sub_E _))) ?_
      rintro v41 w42 ⟨rfl, hK43⟩
      have hM44 := hM34.keep hK43
      refine ⟨.inr ⟨hM44, (((((((hmp.keep0 hK17).keep hK21 (by simp; omega)).keep0 hK24).keep0 hK29).keep hK33 (by simp; omega)).keep0 (Keeps.drew _)).keep0 hK43)⟩, ?_⟩
      refine s_take ⟨hM44, (((((((hmp.keep0 hK17).keep hK21 (by simp; omega)).keep0 hK24).keep0 hK29).keep hK33 (by simp; omega)).keep0 (Keeps.drew _)).keep0 hK43)⟩ rfl (gy rfl rfl rfl rfl h39) rfl rfl (fun w h => r_geq (b := decide ((((0 : Nat) : Int) : Int) ≤ (ptCmp t x13.who.E : Int))) rfl rfl rfl) ?_
      refine s_take ⟨hM44, (((((((hmp.keep0 hK17).keep hK21 (by simp; omega)).keep0 hK24).keep0 hK29).keep hK33 (by simp; omega)).keep0 (Keeps.drew _)).keep0 hK43)⟩ rfl (gy rfl rfl rfl rfl h36) rfl rfl (fun w h => r_pickT rfl h39 rfl) ?_
      refine s_take ⟨hM44, (((((((hmp.keep0 hK17).keep hK21 (by simp; omega)).keep0 hK24).keep0 hK29).keep hK33 (by simp; omega)).keep0 (Keeps.drew _)).keep0 hK43)⟩ rfl (gn rfl) rfl rfl (fun w h => r_pickF rfl h36 rfl) ?_
      refine s_nil ?_
      refine ways (decide ((((0 : Nat) : Int) : Int) ≤ (ptCmp t x13.who.E : Int))) (fun h45 => ?_) (fun h45 => ?_)
      ·skip
       have hp46 : (((0 : Nat) : Int) : Int) ≤ (ptCmp t x13.who.E : Int) := of_decide_eq_true h45
       refine c_condT rfl h45 ?_
       refine c_sr ?_
       refine l_v rfl (r_assign rfl) ?_
       refine l_nil ?_
       refine c_ret ?_
       refine ret1 rfl rfl ?_
       refine ⟨false, rfl, ⟨fun e => (by cases e), fun hok => ?_⟩, fun e => (by cases e), hM44.kp⟩
       exact (hro.down (by rw [List.getElem?_map, hx13]; rfl) (by assumption) (cmp_yes (by assumption)) hok).elim
      ·skip
       have hp47 : ¬ ((((0 : Nat) : Int) : Int) ≤ (ptCmp t x13.who.E : Int)) := of_decide_eq_false h45
       refine c_condF rfl h45 ?_
       refine c_skip ?_
       refine c_sr ?_
       refine l_v rfl (r_move rfl) ?_
       refine l_v rfl (r_fieldAddr Cipher.fld_E rfl) ?_
       refine l_v rfl (r_loadA Tryz.isAgg24 Tryz.sizeOf24 (Pt.size _) rfl (Holds.sub (hM44.base (i := 0) rfl) (Cipher.sub_E _))) ?_
       refine l_mapUpdate hM44 (((((((hmp.keep0 hK17).keep hK21 (by simp; omega)).keep0 hK24).keep0 hK29).keep hK33 (by simp; omega)).keep0 (Keeps.drew _)).keep0 hK43) (seen_no (by assumption)) rfl rfl rfl (by simp) (by simp; omega) ?_
       intro w48 hM49 hK50 hm51
       refine l_nil ?_
       refine c_reg ?_
       refine l_v rfl (r_fieldAddr Cipher.fld_E rfl) ?_
       refine l_v rfl (r_loadA Tryz.isAgg24 Tryz.sizeOf24 (Pt.size _) rfl (Holds.sub (hM49.base (i := 0) rfl) (Cipher.sub_E _))) ?_
       refine l_store hM49 (i := 2) rfl Tryz.sizeOf24 rfl rfl (Pt.size _) (by rw [Pt.size]; decide) (Pt.one _) (put_whole _ _ ((Pt.size _).trans (Pt.size _).symm)) ?_
       intro w52 hM53 hK54
       replace hM53 : Mem w [b] [(b26, (Cipher.cells x13.who), 40), (b14, (Seat.cells x13), 73), (b4, (Pt.cells x13.who.E), 24)] w52 := hM53
       refine l_nil ?_
       refine c_reg ?_
       refine l_v rfl (r_add (r := ((i + 1 : Nat) : Int)) rfl rfl (nadd (i := i) (k := 1) (m := i + 1) (by omega) (by omega))) ?_
       refine l_v rfl (r_move rfl) ?_
       refine l_nil ?_
       intro a_ ha_
       refine ⟨(i + 1, x13.who.E), ⟨(hM53.forget (.cons _ (.cons _ (.refl _)))), ?_⟩, by omega, ha_.sub ⟨rfl, rfl, rfl, rfl, rfl, rfl, rfl, rfl, trivial⟩⟩
       exact ⟨by omega, hro.step (by rw [List.getElem?_map, hx13]; rfl) (seen_no (by assumption)) (fun h0 => by first | exact cmp_no (by assumption) | exact absurd h0 (by assumption)), by rw [take_step (show (l.map Seat.who)[i]? = some _ from by rw [List.getElem?_map, hx13]; rfl), List.map_append, ← List.append_assoc]; exact (hm51.keep hK54 (by simp; omega))⟩
     ·skip
      have hp55 : ¬ ((0 : Nat) < i) := of_decide_eq_false h39
      refine s_off ⟨hM34, ((((((hmp.keep0 hK17).keep hK21 (by simp; omega)).keep0 hK24).keep0 hK29).keep hK33 (by simp; omega)).keep0 (Keeps.drew _))⟩ rfl (gno rfl rfl rfl rfl h39) rfl rfl ?_
      refine s_off ⟨hM34, ((((((hmp.keep0 hK17).keep hK21 (by simp; omega)).keep0 hK24).keep0 hK29).keep hK33 (by simp; omega)).keep0 (Keeps.drew _))⟩ rfl (gno rfl rfl rfl rfl h39) rfl rfl ?_
      refine s_off ⟨hM34, ((((((hmp.keep0 hK17).keep hK21 (by simp; omega)).keep0 hK24).keep0 hK29).keep hK33 (by simp; omega)).keep0 (Keeps.drew _))⟩ rfl (gno rfl rfl rfl rfl h39) rfl rfl ?_
      refine s_offx (.inr ⟨hM34, ((((((hmp.keep0 hK17).keep hK21 (by simp; omega)).keep0 hK24).keep0 hK29).keep hK33 (by simp; omega)).keep0 (Keeps.drew _))⟩) rfl (gno rfl rfl rfl rfl h39) rfl rfl ?_
      refine s_off ⟨hM34, ((((((hmp.keep0 hK17).keep hK21 (by simp; omega)).keep0 hK24).keep0 hK29).keep hK33 (by simp; omega)).keep0 (Keeps.drew _))⟩ rfl (gno rfl rfl rfl rfl h39) rfl rfl ?_
      refine s_take ⟨hM34, ((((((hmp.keep0 hK17).keep hK21 (by simp; omega)).keep0 hK24).keep0 hK29).keep hK33 (by simp; omega)).keep0 (Keeps.drew _))⟩ rfl (gy rfl rfl rfl rfl h36) rfl rfl (fun w h => r_pickF rfl h39 rfl) ?_
      refine s_take ⟨hM34, ((((((hmp.keep0 hK17).keep hK21 (by simp; omega)).keep0 hK24).keep0 hK29).keep hK33 (by simp; omega)).keep0 (Keeps.drew _))⟩ rfl (gn rfl) rfl rfl (fun w h => r_pickF rfl h36 rfl) ?_
      refine s_nil ?_
      refine c_condF rfl rfl ?_
      refine c_skip ?_
      refine c_sr ?_
      refine l_v rfl (r_move rfl) ?_
      refine l_v rfl (r_fieldAddr Cipher.fld_E rfl) ?_
      refine l_v rfl (r_loadA Tryz.isAgg24 Tryz.sizeOf24 (Pt.size _) rfl (Holds.sub (hM34.base (i := 0) rfl) (Cipher.sub_E _))) ?_
      refine l_mapUpdate hM34 ((((((hmp.keep0 hK17).keep hK21 (by simp; omega)).keep0 hK24).keep0 hK29).keep hK33 (by simp; omega)).keep0 (Keeps.drew _)) (seen_no (by assumption)) rfl rfl rfl (by simp) (by simp; omega) ?_
      intro w56 hM57 hK58 hm59
      refine l_nil ?_
      refine c_reg ?_
      refine l_v rfl (r_fieldAddr Cipher.fld_E rfl) ?_
      refine l_v rfl (r_loadA Tryz.isAgg24 Tryz.sizeOf24 (Pt.size _) rfl (Holds.sub (hM57.base (i := 0) rfl) (Cipher.sub_E _))) ?_
      refine l_store hM57 (i := 2) rfl Tryz.sizeOf24 rfl rfl (Pt.size _) (by rw [Pt.size]; decide) (Pt.one _) (put_whole _ _ ((Pt.size _).trans (Pt.size _).symm)) ?_
      intro w60 hM61 hK62
      replace hM61 : Mem w [b] [(b26, (Cipher.cells x13.who), 40), (b14, (Seat.cells x13), 73), (b4, (Pt.cells x13.who.E), 24)] w60 := hM61
      refine l_nil ?_
      refine c_reg ?_
      refine l_v rfl (r_add (r := ((i + 1 : Nat) : Int)) rfl rfl (nadd (i := i) (k := 1) (m := i + 1) (by omega) (by omega))) ?_
      refine l_v rfl (r_move rfl) ?_
      refine l_nil ?_
      intro a_ ha_
      refine ⟨(i + 1, x13.who.E), ⟨(hM61.forget (.cons _ (.cons _ (.refl _)))), ?_⟩, by omega, ha_.sub ⟨rfl, rfl, rfl, rfl, rfl, rfl, rfl, rfl, trivial⟩⟩
      exact ⟨by omega, hro.step (by rw [List.getElem?_map, hx13]; rfl) (seen_no (by assumption)) (fun h0 => by first | exact cmp_no (by assumption) | exact absurd h0 (by assumption)), by rw [take_step (show (l.map Seat.who)[i]? = some _ from by rw [List.getElem?_map, hx13]; rfl), List.map_append, ← List.append_assoc]; exact (hm59.keep hK62 (by simp; omega))⟩
   ·skip
    have hp63 : ¬ ((i : Nat) < l.length) := of_decide_eq_false h11
    refine c_condF rfl h11 ?_
    refine c_exit rfl ?_
    refine c_sr ?_
    refine l_v rfl (r_assign rfl) ?_
    refine l_nil ?_
    refine c_ret ?_
    refine ret1 rfl rfl ?_
    exact ⟨true, rfl, ⟨fun _ => hro.done (by simpa using (show l.length ≤ 40 from by omega)) (by simpa using (show ¬ i < l.length from by assumption)), fun _ => rfl⟩, fun _ => by have := hmp; rw [List.take_of_length_le (by simp; omega)] at this; exact this, hM10.kp⟩
theorem f48 {w : World} (x : Invite) : Ret 48 #[.agg x.cells] w (fun v w' => v = .agg x.who.cells ∧ Keeps [] w w') := by
  have hM0 := Mem.start w
  refine enter Tryz.func48 rfl rfl ?_
  refine c_sr ?_
  refine l_box hM0 rfl rfl ?_
  intro b1 w2 hM3 hK4 hB5
  replace hM3 : Mem w [] [(b1, (Invite.cells x), 82)] w2 := hM3
  refine l_alloc hM3 rfl Cipher.zv ?_
  intro b6 w7 hM8 hK9 hB10
  replace hM8 : Mem w [] [(b6, (Cipher.cells Cipher.zero), 40), (b1, (Invite.cells x), 82)] w7 := hM8
  refine l_nil ?_
  refine c_sr ?_
  refine l_v rfl (r_fieldAddr Invite.fld_who rfl) ?_
  refine l_v rfl (r_loadA Tryz.isAgg40 Tryz.sizeOf40 (Cipher.size _) rfl (Holds.sub (hM8.base (i := 1) rfl) (Invite.sub_who _))) ?_
  refine l_store hM8 (i := 0) rfl Tryz.sizeOf40 rfl rfl (Cipher.size _) (by rw [Cipher.size]; decide) (Cipher.one _) (put_whole _ _ ((Cipher.size _).trans (Cipher.size _).symm)) ?_
  intro w11 hM12 hK13
  replace hM12 : Mem w [] [(b6, (Cipher.cells x.who), 40), (b1, (Invite.cells x), 82)] w11 := hM12
  refine l_nil ?_
  refine c_ret ?_
  refine retC rfl Tryz.isAgg40 Tryz.sizeOf40 (Cipher.size _) rfl (hM12.base (i := 0) rfl) ?_
  exact ⟨rfl, hM12.kp⟩
theorem f47 {A : Nat → Prop} {w : World} {s : Sl} {l : List Invite} {b : Nat} {ks : List Pt} (hR : Row A w s 129 Invite.cells l) (hA : ¬ A b) (hm : MapB w b ks) :
    Ret 47 #[s.val, .func (.func 48) #[] #[], .map (some b)] w (fun v w' => ∃ r : Bool, v = .bool r ∧ (r = true ↔ OkRoll ks (l.map Invite.who)) ∧ (r = true → MapB w' b (ks ++ (l.map Invite.who).map Cipher.E)) ∧ Keeps [b] w w') := by
  have hn := hR.bd
  have hX : ∀ x ∈ [b], ¬ A x := by simpa using hA
  have hM0 : Mem w [b] [] w := ⟨Keeps.refl _ _, by simp, by simp, by simp⟩
  have hbl := hm.lt
  refine enter Tryz.func47 rfl rfl ?_
  refine c_sr ?_
  refine l_v rfl (r_assign rfl) ?_
  refine l_nil ?_
  refine c_seq ?_
  refine c_sr ?_
  refine l_v rfl (r_move rfl) ?_
  refine l_v rfl (r_lenR Tryz.underlying33 rfl hR.len) ?_
  refine l_v rfl (r_gtr (b := decide ((40 : Nat) < l.length)) rfl rfl (nlt 40 l.length)) ?_
  refine l_nil ?_
  refine ways (decide ((40 : Nat) < l.length)) (fun h1 => ?_) (fun h1 => ?_)
  ·skip
   have hp2 : (40 : Nat) < l.length := of_decide_eq_true h1
   refine c_condT rfl h1 ?_
   refine c_sr ?_
   refine l_v rfl (r_assign rfl) ?_
   refine l_nil ?_
   refine c_ret ?_
   refine ret1 rfl rfl ?_
   refine ⟨false, rfl, ⟨fun e => (by cases e), fun hok => ?_⟩, fun e => (by cases e), hM0.kp⟩
   have := hok.1; simp at this; omega
  ·skip
   have hp3 : ¬ ((40 : Nat) < l.length) := of_decide_eq_false h1
   refine c_condF rfl h1 ?_
   refine c_skip ?_
   refine c_sr ?_
   refine l_alloc hM0 rfl zv_Pt ?_
   intro b4 w5 hM6 hK7 hB8
   replace hM6 : Mem w [b] [(b4, (Pt.cells Pt.zero), 24)] w5 := hM6
   have hNb4 : w.heap.size ≤ b4 := Nat.le_trans hM0.kp.size hB8
   refine l_nil ?_
   refine c_seq ?_
   refine c_sr ?_
   refine l_v rfl (r_move rfl) ?_
   refine l_v rfl (r_lenR Tryz.underlying33 rfl (hR.keep hM6.kp hX).len) ?_
   refine l_v rfl (r_move rfl) ?_
   refine l_nil ?_
   refine c_block ?_
   refine c_loop (ι := Nat × Pt) (fun p_ w_ => Mem w [b] [(b4, (Pt.cells p_.2), 24)] w_ ∧ (p_.1 ≤ l.length ∧ RollTo ks (l.map Invite.who) p_.1 p_.2 ∧ MapB w_ b (ks ++ ((l.map Invite.who).take p_.1).map Cipher.E))) (fun p_ => [(0, Sl.val s), (1, Value.func (Fn.func 48) #[] #[]), (2, Value.map (some b)), (13, Value.bool (decide ((40 : Nat) < l.length))), (7, Value.pointer (some ⟨b4, 0, none⟩)), (14, Sl.val s), (15, Value.int .i64 ((l.length : Nat) : Int)), (16, Value.int .i64 ((p_.1 : Nat) : Int))]) (fun p_ => l.length - p_.1) (0, Pt.zero) ⟨hM6, Nat.zero_le _, RollTo.start _ _ _, by simpa using (hm.keep0 hK7)⟩ ⟨rfl, rfl, rfl, rfl, rfl, rfl, rfl, rfl, trivial⟩ ?_
   rintro ⟨i, t⟩ w9 ⟨hM10, hk, hro, hmp⟩
   change AT _ [(0, Sl.val s), (1, Value.func (Fn.func 48) #[] #[]), (2, Value.map (some b)), (13, Value.bool (decide ((40 : Nat) < l.length))), (7, Value.pointer (some ⟨b4, 0, none⟩)), (14, Sl.val s), (15, Value.int .i64 ((l.length : Nat) : Int)), (16, Value.int .i64 ((i : Nat) : Int))] _ _
   replace hM10 : Mem w [b] [(b4, (Pt.cells t), 24)] w9 := hM10
   refine c_sr ?_
   refine l_v rfl (r_lss (b := decide ((i : Nat) < l.length)) rfl rfl (nlt i l.length)) ?_
   refine l_nil ?_
   refine c_seq ?_
   refine ways (decide ((i : Nat) < l.length)) (fun h11 => ?_) (fun h11 => ?_)
   ·skip
    have hp12 : (i : Nat) < l.length := of_decide_eq_true h11
    refine c_condT rfl h11 ?_
    refine c_skip ?_
    refine c_seq ?_
    refine c_block ?_
    refine c_sr ?_
    refine l_v rfl (r_move rfl) ?_
    have hlt13 : i < l.length := by first | assumption | omega
    obtain ⟨x13, hx13⟩ : ∃ x, l[i]? = some x := ⟨_, List.getElem?_eq_getElem hlt13⟩
    obtain ⟨p13, o13, ha13, hA13, -⟩ := (hR.keep hM10.kp hX).at_ _ _ hx13
    refine l_v rfl (r_indexR Tryz.underlying33 Tryz.sizeOf82 ⟨_, (hR.keep hM10.kp hX)⟩ rfl ha13 rfl hlt13) ?_
    refine l_v rfl (r_loadA Tryz.isAgg82 Tryz.sizeOf82 (Invite.size _) rfl ((hR.keep hM10.kp hX).ix hx13 ha13)) ?_
    refine l_alloc hM10 rfl Invite.zv ?_
    intro b14 w15 hM16 hK17 hB18
    replace hM16 : Mem w [b] [(b14, (Invite.cells Invite.zero), 82), (b4, (Pt.cells t), 24)] w15 := hM16
    have hNb14 : w.heap.size ≤ b14 := Nat.le_trans hM10.kp.size hB18
    refine l_v rfl (r_assign rfl) ?_
    refine l_store hM16 (i := 0) rfl Tryz.sizeOf82 rfl rfl (Invite.size _) (by rw [Invite.size]; decide) (Invite.one _) (put_whole _ _ ((Invite.size _).trans (Invite.size _).symm)) ?_
    intro w19 hM20 hK21
    replace hM20 : Mem w [b] [(b14, (Invite.cells x13), 82), (b4, (Pt.cells t), 24)] w19 := hM20
    refine l_nil ?_
    refine c_sr ?_
    refine l_v rfl (r_move rfl) ?_
    refine l_v rfl (r_loadA Tryz.isAgg82 Tryz.sizeOf82 (Invite.size _) rfl (hM20.base (i := 0) rfl)) ?_
    refine l_call (gn rfl) rfl rfl (r_callv (cap := []) rfl Tryz.call48 rfl) (f48 x13) ?_
    rintro v22 w23 ⟨rfl, hK24⟩
    have hM25 := hM20.keep hK24
    refine l_alloc hM25 rfl Cipher.zv ?_
    intro b26 w27 hM28 hK29 hB30
    replace hM28 : Mem w [b] [(b26, (Cipher.cells Cipher.zero), 40), (b14, (Invite.cells x13), 82), (b4, (Pt.cells t), 24)] w27 := hM28
    have hNb26 : w.heap.size ≤ b26 := Nat.le_trans hM25.kp.size hB30
    refine l_store hM28 (i := 0) rfl Tryz.sizeOf40 rfl rfl (Cipher.size _) (by rw [Cipher.size]; decide) (Cipher.one _) (put_whole _ _ ((Cipher.size _).trans (Cipher.size _).symm)) ?_
    intro w31 hM32 hK33
    replace hM32 : Mem w [b] [(b26, (Cipher.cells x13.who), 40), (b14, (Invite.cells x13), 82), (b4, (Pt.cells t), 24)] w31 := hM32
    refine l_nil ?_
    refine c_seq ?_
    refine c_seq ?_
    refine c_regD (fun w_ => Mem w [b] [(b26, (Cipher.cells x13.who), 40), (b14, (Invite.cells x13), 82), (b4, (Pt.cells t), 24)] w_ ∧ MapB w_ b (ks ++ ((l.map Invite.who).take i).map Cipher.E)) [] [(0, true), (1, true), (2, true), (3, true), (4, true), (5, true), (6, true), (7, true), (8, true), (9, true), (10, true), (11, true), (12, false), (13, true), (14, true), (15, true)] (by kernel_rfl) ?_
    have hM34 := hM32.drew
    refine s_take ⟨hM34, ((((((hmp.keep0 hK17).keep hK21 (by simp; omega)).keep0 hK24).keep0 hK29).keep hK33 (by simp; omega)).keep0 (Keeps.drew _))⟩ rfl (gn rfl) rfl rfl (fun w h => r_move rfl) ?_
    refine s_take ⟨hM34, ((((((hmp.keep0 hK17).keep hK21 (by simp; omega)).keep0 hK24).keep0 hK29).keep hK33 (by simp; omega)).keep0 (Keeps.drew _))⟩ rfl (gn rfl) rfl rfl (fun w h => r_fieldAddr Cipher.fld_E rfl) ?_
    refine s_take ⟨hM34, ((((((hmp.keep0 hK17).keep hK21 (by simp; omega)).keep0 hK24).keep0 hK29).keep hK33 (by simp; omega)).keep0 (Keeps.drew _))⟩ rfl (gn rfl) rfl rfl (fun w h => r_loadA Tryz.isAgg24 Tryz.sizeOf24 (Pt.size _) rfl (Holds.sub (h.1.base (i := 0) rfl) (Cipher.sub_E _))) ?_
    refine s_take ⟨hM34, ((((((hmp.keep0 hK17).keep hK21 (by simp; omega)).keep0 hK24).keep0 hK29).keep hK33 (by simp; omega)).keep0 (Keeps.drew _))⟩ rfl (gn rfl) rfl rfl (fun w h => r_lookup h.2 rfl rfl) ?_
    refine s_take ⟨hM34, ((((((hmp.keep0 hK17).keep hK21 (by simp; omega)).keep0 hK24).keep0 hK29).keep hK33 (by simp; omega)).keep0 (Keeps.drew _))⟩ rfl (gn rfl) rfl rfl (fun w h => r_gtr (b := decide ((0 : Nat) < seen ((ks ++ ((l.map Invite.who).take i).map Cipher.E)) x13.who.E)) rfl rfl (nlt 0 (seen ((ks ++ ((l.map Invite.who).take i).map Cipher.E)) x13.who.E))) ?_
    refine s_take ⟨hM34, ((((((hmp.keep0 hK17).keep hK21 (by simp; omega)).keep0 hK24).keep0 hK29).keep hK33 (by simp; omega)).keep0 (Keeps.drew _))⟩ rfl (gn rfl) rfl rfl (fun w h => r_move rfl) ?_
    refine ways (decide ((0 : Nat) < seen ((ks ++ ((l.map Invite.who).take i).map Cipher.E)) x13.who.E)) (fun h36 => ?_) (fun h36 => ?_)
    ·skip
     have hp37 : (0 : Nat) < seen ((ks ++ ((l.map Invite.who).take i).map Cipher.E)) x13.who.E := of_decide_eq_true h36
     refine s_off ⟨hM34, ((((((hmp.keep0 hK17).keep hK21 (by simp; omega)).keep0 hK24).keep0 hK29).keep hK33 (by simp; omega)).keep0 (Keeps.drew _))⟩ rfl (gno rfl rfl rfl rfl h36) rfl rfl ?_
     refine s_off ⟨hM34, ((((((hmp.keep0 hK17).keep hK21 (by simp; omega)).keep0 hK24).keep0 hK29).keep hK33 (by simp; omega)).keep0 (Keeps.drew _))⟩ rfl (gno rfl rfl rfl rfl h36) rfl rfl ?_
     refine s_off ⟨hM34, ((((((hmp.keep0 hK17).keep hK21 (by simp; omega)).keep0 hK24).keep0 hK29).keep hK33 (by simp; omega)).keep0 (Keeps.drew _))⟩ rfl (gno rfl rfl rfl rfl h36) rfl rfl ?_
     refine s_off ⟨hM34, ((((((hmp.keep0 hK17).keep hK21 (by simp; omega)).keep0 hK24).keep0 hK29).keep hK33 (by simp; omega)).keep0 (Keeps.drew _))⟩ rfl (gnu rfl rfl rfl rfl) rfl rfl ?_
     refine s_off ⟨hM34, ((((((hmp.keep0 hK17).keep hK21 (by simp; omega)).keep0 hK24).keep0 hK29).keep hK33 (by simp; omega)).keep0 (Keeps.drew _))⟩ rfl (gnu rfl rfl rfl rfl) rfl rfl ?_
     refine s_off ⟨hM34, ((((((hmp.keep0 hK17).keep hK21 (by simp; omega)).keep0 hK24).keep0 hK29).keep hK33 (by simp; omega)).keep0 (Keeps.drew _))⟩ rfl (gnu rfl rfl rfl rfl) rfl rfl ?_
     refine s_offx (.inr ⟨hM34, ((((((hmp.keep0 hK17).keep hK21 (by simp; omega)).keep0 hK24).keep0 hK29).keep hK33 (by simp; omega)).keep0 (Keeps.drew _))⟩) rfl (gnu rfl rfl rfl rfl) rfl rfl ?_
     refine s_off ⟨hM34, ((((((hmp.keep0 hK17).keep hK21 (by simp; omega)).keep0 hK24).keep0 hK29).keep hK33 (by simp; omega)).keep0 (Keeps.drew _))⟩ rfl (gnu rfl rfl rfl rfl) rfl rfl ?_
     refine s_off ⟨hM34, ((((((hmp.keep0 hK17).keep hK21 (by simp; omega)).keep0 hK24).keep0 hK29).keep hK33 (by simp; omega)).keep0 (Keeps.drew _))⟩ rfl (gno rfl rfl rfl rfl h36) rfl rfl ?_
     refine s_take ⟨hM34, ((((((hmp.keep0 hK17).keep hK21 (by simp; omega)).keep0 hK24).keep0 hK29).keep hK33 (by simp; omega)).keep0 (Keeps.drew _))⟩ rfl (gn rfl) rfl rfl (fun w h => r_pickT rfl h36 rfl) ?_
     refine s_nil ?_
     refine c_condT rfl rfl ?_
     refine c_sr ?_
     refine l_v rfl (r_assign rfl) ?_
     refine l_nil ?_
     refine c_ret ?_
     refine ret1 rfl rfl ?_
     refine ⟨false, rfl, ⟨fun e => (by cases e), fun hok => ?_⟩, fun e => (by cases e), hM34.kp⟩
     exact (RollTo.seen (by rw [List.getElem?_map, hx13]; rfl) (seen_yes (by assumption)) hok).elim
    ·skip
     have hp38 : ¬ ((0 : Nat) < seen ((ks ++ ((l.map Invite.who).take i).map Cipher.E)) x13.who.E) := of_decide_eq_false h36
     refine s_take ⟨hM34, ((((((hmp.keep0 hK17).keep hK21 (by simp; omega)).keep0 hK24).keep0 hK29).keep hK33 (by simp; omega)).keep0 (Keeps.drew _))⟩ rfl (gy rfl rfl rfl rfl h36) rfl rfl (fun w h => r_move rfl) ?_
     refine s_take ⟨hM34, ((((((hmp.keep0 hK17).keep hK21 (by simp; omega)).keep0 hK24).keep0 hK29).keep hK33 (by simp; omega)).keep0 (Keeps.drew _))⟩ rfl (gy rfl rfl rfl rfl h36) rfl rfl (fun w h => r_gtr (b := decide ((0 : Nat) < i)) rfl rfl (nlt 0 i)) ?_
     refine s_take ⟨hM34, ((((((hmp.keep0 hK17).keep hK21 (by simp; omega)).keep0 hK24).keep0 hK29).keep hK33 (by simp; omega)).keep0 (Keeps.drew _))⟩ rfl (gy rfl rfl rfl rfl h36) rfl rfl (fun w h => r_move rfl) ?_
     refine ways (decide ((0 : Nat) < i)) (fun h39 => ?_) (fun h39 => ?_)
     ·skip
      have hp40 : (0 : Nat) < i := of_decide_eq_true h39
      refine s_take ⟨hM34, ((((((hmp.keep0 hK17).keep hK21 (by simp; omega)).keep0 hK24).keep0 hK29).keep hK33 (by simp; omega)).keep0 (Keeps.drew _))⟩ rfl (gy rfl rfl rfl rfl h39) rfl rfl (fun w h => r_sliceArr Tryz.underlying24 Tryz.sizeOf5 rfl) ?_
      refine s_take ⟨hM34, ((((((hmp.keep0 hK17).keep hK21 (by simp; omega)).keep0 hK24).keep0 hK29).keep hK33 (by simp; omega)).keep0 (Keeps.drew _))⟩ rfl (gy rfl rfl rfl rfl h39) rfl rfl (fun w h => r_fieldAddr Cipher.fld_E rfl) ?_
      refine s_take ⟨hM34, ((((((hmp.keep0 hK17).keep hK21 (by simp; omega)).keep0 hK24).keep0 hK29).keep hK33 (by simp; omega)).keep0 (Keeps.drew _))⟩ rfl (gy rfl rfl rfl rfl h39) rfl rfl (fun w h => r_sliceArr Tryz.underlying24 Tryz.sizeOf5 rfl) ?_
      refine s_call rfl (gy rfl rfl rfl rfl h39) rfl rfl (r_call Tryz.call88 rfl) (f88 (hM34.base (i := 2) rfl) (Holds.sub (hM34.base (i := 0) rfl) (Cipher.sub_E _))) ?_
      rintro v41 w42 ⟨rfl, hK43⟩
      have hM44 := hM34.keep hK43
      refine ⟨.inr ⟨hM44, (((((((hmp.keep0 hK17).keep hK21 (by simp; omega)).keep0 hK24).keep0 hK29).keep hK33 (by simp; omega)).keep0 (Keeps.drew _)).keep0 hK43)⟩, ?_⟩
      refine s_take ⟨hM44, (((((((hmp.keep0 hK17).keep hK21 (by simp; omega)).keep0 hK24).keep0 hK29).keep hK33 (by simp; omega)).keep0 (Keeps.drew _)).keep0 hK43)⟩ rfl (gy rfl rfl rfl rfl h39) rfl rfl (fun w h => r_geq (b := decide ((((0 : Nat) : Int) : Int) ≤ (ptCmp t x13.who.E : Int))) rfl rfl rfl) ?_
      refine s_take ⟨hM44, (((((((hmp.keep0 hK17).keep hK21 (by simp; omega)).keep0 hK24).keep0 hK29).keep hK33 (by simp; omega)).keep0 (Keeps.drew _)).keep0 hK43)⟩ rfl (gy rfl rfl rfl rfl h36) rfl rfl (fun w h => r_pickT rfl h39 rfl) ?_
      refine s_take ⟨hM44, (((((((hmp.keep0 hK17).keep hK21 (by simp; omega)).keep0 hK24).keep0 hK29).keep hK33 (by simp; omega)).keep0 (Keeps.drew _)).keep0 hK43)⟩ rfl (gn rfl) rfl rfl (fun w h => r_pickF rfl h36 rfl) ?_
      refine s_nil ?_
      refine ways (decide ((((0 : Nat) : Int) : Int) ≤ (ptCmp t x13.who.E : Int))) (fun h45 => ?_) (fun h45 => ?_)
      ·skip
       have hp46 : (((0 : Nat) : Int) : Int) ≤ (ptCmp t x13.who.E : Int) := of_decide_eq_true h45
       refine c_condT rfl h45 ?_
       refine c_sr ?_
       refine l_v rfl (r_assign rfl) ?_
       refine l_nil ?_
       refine c_ret ?_
       refine ret1 rfl rfl ?_
       refine ⟨false, rfl, ⟨fun e => (by cases e), fun hok => ?_⟩, fun e => (by cases e), hM44.kp⟩
       exact (hro.down (by rw [List.getElem?_map, hx13]; rfl) (by assumption) (cmp_yes (by assumption)) hok).elim
      ·skip
       have hp47 : ¬ ((((0 : Nat) : Int) : Int) ≤ (ptCmp t x13.who.E : Int)) := of_decide_eq_false h45
       refine c_condF rfl h45 ?_
       refine c_skip ?_
       refine c_sr ?_
       refine l_v rfl (r_move rfl) ?_
       refine l_v rfl (r_fieldAddr Cipher.fld_E rfl) ?_
       refine l_v rfl (r_loadA Tryz.isAgg24 Tryz.sizeOf24 (Pt.size _) rfl (Holds.sub (hM44.base (i := 0) rfl) (Cipher.sub_E _))) ?_
       refine l_mapUpdate hM44 (((((((hmp.keep0 hK17).keep hK21 (by simp; omega)).keep0 hK24).keep0 hK29).keep hK33 (by simp; omega)).keep0 (Keeps.drew _)).keep0 hK43) (seen_no (by assumption)) rfl rfl rfl (by simp) (by simp; omega) ?_
       intro w48 hM49 hK50 hm51
       refine l_nil ?_
       refine c_reg ?_
       refine l_v rfl (r_fieldAddr Cipher.fld_E rfl) ?_
       refine l_v rfl (r_loadA Tryz.isAgg24 Tryz.sizeOf24 (Pt.size _) rfl (Holds.sub (hM49.base (i := 0) rfl) (Cipher.sub_E _))) ?_
       refine l_store hM49 (i := 2) rfl Tryz.sizeOf24 rfl rfl (Pt.size _) (by rw [Pt.size]; decide) (Pt.one _) (put_whole _ _ ((Pt.size _).trans (Pt.size _).symm)) ?_
       intro w52 hM53 hK54
       replace hM53 : Mem w [b] [(b26, (Cipher.cells x13.who), 40), (b14, (Invite.cells x13), 82), (b4, (Pt.cells x13.who.E), 24)] w52 := hM53
       refine l_nil ?_
       refine c_reg ?_
       refine l_v rfl (r_add (r := ((i + 1 : Nat) : Int)) rfl rfl (nadd (i := i) (k := 1) (m := i + 1) (by omega) (by omega))) ?_
       refine l_v rfl (r_move rfl) ?_
       refine l_nil ?_
       intro a_ ha_
       refine ⟨(i + 1, x13.who.E), ⟨(hM53.forget (.cons _ (.cons _ (.refl _)))), ?_⟩, by omega, ha_.sub ⟨rfl, rfl, rfl, rfl, rfl, rfl, rfl, rfl, trivial⟩⟩
       exact ⟨by omega, hro.step (by rw [List.getElem?_map, hx13]; rfl) (seen_no (by assumption)) (fun h0 => by first | exact cmp_no (by assumption) | exact absurd h0 (by assumption)), by rw [take_step (show (l.map Invite.who)[i]? = some _ from by rw [List.getElem?_map, hx13]; rfl), List.map_append, ← List.append_assoc]; exact (hm51.keep hK54 (by simp; omega))⟩
     ·skip
      have hp55 : ¬ ((0 : Nat) < i) := of_decide_eq_false h39
      refine s_off ⟨hM34, ((((((hmp.keep0 hK17).keep hK21 (by simp; omega)).keep0 hK24).keep0 hK29).keep hK33 (by simp; omega)).keep0 (Keeps.drew _))⟩ rfl (gno rfl rfl rfl rfl h39) rfl rfl ?_
      refine s_off ⟨hM34, ((((((hmp.keep0 hK17).keep hK21 (by simp; omega)).keep0 hK24).keep0 hK29).keep hK33 (by simp; omega)).keep0 (Keeps.drew _))⟩ rfl (gno rfl rfl rfl rfl h39) rfl rfl ?_
      refine s_off ⟨hM34, ((((((hmp.keep0 hK17).keep hK21 (by simp; omega)).keep0 hK24).keep0 hK29).keep hK33 (by simp; omega)).keep0 (Keeps.drew _))⟩ rfl (gno rfl rfl rfl rfl h39) rfl rfl ?_
      refine s_offx (.inr ⟨hM34, ((((((hmp.keep0 hK17).keep hK21 (by simp; omega)).keep0 hK24).keep0 hK29).keep hK33 (by simp; omega)).keep0 (Keeps.drew _))⟩) rfl (gno rfl rfl rfl rfl h39) rfl rfl ?_
      refine s_off ⟨hM34, ((((((hmp.keep0 hK17).keep hK21 (by simp; omega)).keep0 hK24).keep0 hK29).keep hK33 (by simp; omega)).keep0 (Keeps.drew _))⟩ rfl (gno rfl rfl rfl rfl h39) rfl rfl ?_
      refine s_take ⟨hM34, ((((((hmp.keep0 hK17).keep hK21 (by simp; omega)).keep0 hK24).keep0 hK29).keep hK33 (by simp; omega)).keep0 (Keeps.drew _))⟩ rfl (gy rfl rfl rfl rfl h36) rfl rfl (fun w h => r_pickF rfl h39 rfl) ?_
      refine s_take ⟨hM34, ((((((hmp.keep0 hK17).keep hK21 (by simp; omega)).keep0 hK24).keep0 hK29).keep hK33 (by simp; omega)).keep0 (Keeps.drew _))⟩ rfl (gn rfl) rfl rfl (fun w h => r_pickF rfl h36 rfl) ?_
      refine s_nil ?_
      refine c_condF rfl rfl ?_
      refine c_skip ?_
      refine c_sr ?_
      refine l_v rfl (r_move rfl) ?_
      refine l_v rfl (r_fieldAddr Cipher.fld_E rfl) ?_
      refine l_v rfl (r_loadA Tryz.isAgg24 Tryz.sizeOf24 (Pt.size _) rfl (Holds.sub (hM34.base (i := 0) rfl) (Cipher.sub_E _))) ?_
      refine l_mapUpdate hM34 ((((((hmp.keep0 hK17).keep hK21 (by simp; omega)).keep0 hK24).keep0 hK29).keep hK33 (by simp; omega)).keep0 (Keeps.drew _)) (seen_no (by assumption)) rfl rfl rfl (by simp) (by simp; omega) ?_
      intro w56 hM57 hK58 hm59
      refine l_nil ?_
      refine c_reg ?_
      refine l_v rfl (r_fieldAddr Cipher.fld_E rfl) ?_
      refine l_v rfl (r_loadA Tryz.isAgg24 Tryz.sizeOf24 (Pt.size _) rfl (Holds.sub (hM57.base (i := 0) rfl) (Cipher.sub_E _))) ?_
      refine l_store hM57 (i := 2) rfl Tryz.sizeOf24 rfl rfl (Pt.size _) (by rw [Pt.size]; decide) (Pt.one _) (put_whole _ _ ((Pt.size _).trans (Pt.size _).symm)) ?_
      intro w60 hM61 hK62
      replace hM61 : Mem w [b] [(b26, (Cipher.cells x13.who), 40), (b14, (Invite.cells x13), 82), (b4, (Pt.cells x13.who.E), 24)] w60 := hM61
      refine l_nil ?_
      refine c_reg ?_
      refine l_v rfl (r_add (r := ((i + 1 : Nat) : Int)) rfl rfl (nadd (i := i) (k := 1) (m := i + 1) (by omega) (by omega))) ?_
      refine l_v rfl (r_move rfl) ?_
      refine l_nil ?_
      intro a_ ha_
      refine ⟨(i + 1, x13.who.E), ⟨(hM61.forget (.cons _ (.cons _ (.refl _)))), ?_⟩, by omega, ha_.sub ⟨rfl, rfl, rfl, rfl, rfl, rfl, rfl, rfl, trivial⟩⟩
      exact ⟨by omega, hro.step (by rw [List.getElem?_map, hx13]; rfl) (seen_no (by assumption)) (fun h0 => by first | exact cmp_no (by assumption) | exact absurd h0 (by assumption)), by rw [take_step (show (l.map Invite.who)[i]? = some _ from by rw [List.getElem?_map, hx13]; rfl), List.map_append, ← List.append_assoc]; exact (hm59.keep hK62 (by simp; omega))⟩
   ·skip
    have hp63 : ¬ ((i : Nat) < l.length) := of_decide_eq_false h11
    refine c_condF rfl h11 ?_
    refine c_exit rfl ?_
    refine c_sr ?_
    refine l_v rfl (r_assign rfl) ?_
    refine l_nil ?_
    refine c_ret ?_
    refine ret1 rfl rfl ?_
    exact ⟨true, rfl, ⟨fun _ => hro.done (by simpa using (show l.length ≤ 40 from by omega)) (by simpa using (show ¬ i < l.length from by assumption)), fun _ => rfl⟩, fun _ => by have := hmp; rw [List.take_of_length_le (by simp; omega)] at this; exact this, hM10.kp⟩
theorem f50 {w : World} (x : Ask) : Ret 50 #[.agg x.cells] w (fun v w' => v = .agg x.who.cells ∧ Keeps [] w w') := by
  have hM0 := Mem.start w
  refine enter Tryz.func50 rfl rfl ?_
  refine c_sr ?_
  refine l_box hM0 rfl rfl ?_
  intro b1 w2 hM3 hK4 hB5
  replace hM3 : Mem w [] [(b1, (Ask.cells x), 84)] w2 := hM3
  refine l_alloc hM3 rfl Cipher.zv ?_
  intro b6 w7 hM8 hK9 hB10
  replace hM8 : Mem w [] [(b6, (Cipher.cells Cipher.zero), 40), (b1, (Ask.cells x), 84)] w7 := hM8
  refine l_nil ?_
  refine c_sr ?_
  refine l_v rfl (r_fieldAddr Ask.fld_who rfl) ?_
  refine l_v rfl (r_loadA Tryz.isAgg40 Tryz.sizeOf40 (Cipher.size _) rfl (Holds.sub (hM8.base (i := 1) rfl) (Ask.sub_who _))) ?_
  refine l_store hM8 (i := 0) rfl Tryz.sizeOf40 rfl rfl (Cipher.size _) (by rw [Cipher.size]; decide) (Cipher.one _) (put_whole _ _ ((Cipher.size _).trans (Cipher.size _).symm)) ?_
  intro w11 hM12 hK13
  replace hM12 : Mem w [] [(b6, (Cipher.cells x.who), 40), (b1, (Ask.cells x), 84)] w11 := hM12
  refine l_nil ?_
  refine c_ret ?_
  refine retC rfl Tryz.isAgg40 Tryz.sizeOf40 (Cipher.size _) rfl (hM12.base (i := 0) rfl) ?_
  exact ⟨rfl, hM12.kp⟩
theorem f49 {A : Nat → Prop} {w : World} {s : Sl} {l : List Ask} {b : Nat} {ks : List Pt} (hR : Row A w s 65 Ask.cells l) (hA : ¬ A b) (hm : MapB w b ks) :
    Ret 49 #[s.val, .func (.func 50) #[] #[], .map (some b)] w (fun v w' => ∃ r : Bool, v = .bool r ∧ (r = true ↔ OkRoll ks (l.map Ask.who)) ∧ (r = true → MapB w' b (ks ++ (l.map Ask.who).map Cipher.E)) ∧ Keeps [b] w w') := by
  have hn := hR.bd
  have hX : ∀ x ∈ [b], ¬ A x := by simpa using hA
  have hM0 : Mem w [b] [] w := ⟨Keeps.refl _ _, by simp, by simp, by simp⟩
  have hbl := hm.lt
  refine enter Tryz.func49 rfl rfl ?_
  refine c_sr ?_
  refine l_v rfl (r_assign rfl) ?_
  refine l_nil ?_
  refine c_seq ?_
  refine c_sr ?_
  refine l_v rfl (r_move rfl) ?_
  refine l_v rfl (r_lenR Tryz.underlying34 rfl hR.len) ?_
  refine l_v rfl (r_gtr (b := decide ((40 : Nat) < l.length)) rfl rfl (nlt 40 l.length)) ?_
  refine l_nil ?_
  refine ways (decide ((40 : Nat) < l.length)) (fun h1 => ?_) (fun h1 => ?_)
  ·skip
   have hp2 : (40 : Nat) < l.length := of_decide_eq_true h1
   refine c_condT rfl h1 ?_
   refine c_sr ?_
   refine l_v rfl (r_assign rfl) ?_
   refine l_nil ?_
   refine c_ret ?_
   refine ret1 rfl rfl ?_
   refine ⟨false, rfl, ⟨fun e => (by cases e), fun hok => ?_⟩, fun e => (by cases e), hM0.kp⟩
   have := hok.1; simp at this; omega
  ·skip
   have hp3 : ¬ ((40 : Nat) < l.length) := of_decide_eq_false h1
   refine c_condF rfl h1 ?_
   refine c_skip ?_
   refine c_sr ?_
   refine l_alloc hM0 rfl zv_Pt ?_
   intro b4 w5 hM6 hK7 hB8
   replace hM6 : Mem w [b] [(b4, (Pt.cells Pt.zero), 24)] w5 := hM6
   have hNb4 : w.heap.size ≤ b4 := Nat.le_trans hM0.kp.size hB8
   refine l_nil ?_
   refine c_seq ?_
   refine c_sr ?_
   refine l_v rfl (r_move rfl) ?_
   refine l_v rfl (r_lenR Tryz.underlying34 rfl (hR.keep hM6.kp hX).len) ?_
   refine l_v rfl (r_move rfl) ?_
   refine l_nil ?_
   refine c_block ?_
   refine c_loop (ι := Nat × Pt) (fun p_ w_ => Mem w [b] [(b4, (Pt.cells p_.2), 24)] w_ ∧ (p_.1 ≤ l.length ∧ RollTo ks (l.map Ask.who) p_.1 p_.2 ∧ MapB w_ b (ks ++ ((l.map Ask.who).take p_.1).map Cipher.E))) (fun p_ => [(0, Sl.val s), (1, Value.func (Fn.func 50) #[] #[]), (2, Value.map (some b)), (13, Value.bool (decide ((40 : Nat) < l.length))), (7, Value.pointer (some ⟨b4, 0, none⟩)), (14, Sl.val s), (15, Value.int .i64 ((l.length : Nat) : Int)), (16, Value.int .i64 ((p_.1 : Nat) : Int))]) (fun p_ => l.length - p_.1) (0, Pt.zero) ⟨hM6, Nat.zero_le _, RollTo.start _ _ _, by simpa using (hm.keep0 hK7)⟩ ⟨rfl, rfl, rfl, rfl, rfl, rfl, rfl, rfl, trivial⟩ ?_
   rintro ⟨i, t⟩ w9 ⟨hM10, hk, hro, hmp⟩
   change AT _ [(0, Sl.val s), (1, Value.func (Fn.func 50) #[] #[]), (2, Value.map (some b)), (13, Value.bool (decide ((40 : Nat) < l.length))), (7, Value.pointer (some ⟨b4, 0, none⟩)), (14, Sl.val s), (15, Value.int .i64 ((l.length : Nat) : Int)), (16, Value.int .i64 ((i : Nat) : Int))] _ _
   replace hM10 : Mem w [b] [(b4, (Pt.cells t), 24)] w9 := hM10
   refine c_sr ?_
   refine l_v rfl (r_lss (b := decide ((i : Nat) < l.length)) rfl rfl (nlt i l.length)) ?_
   refine l_nil ?_
   refine c_seq ?_
   refine ways (decide ((i : Nat) < l.length)) (fun h11 => ?_) (fun h11 => ?_)
   ·skip
    have hp12 : (i : Nat) < l.length := of_decide_eq_true h11
    refine c_condT rfl h11 ?_
    refine c_skip ?_
    refine c_seq ?_
    refine c_block ?_
    refine c_sr ?_
    refine l_v rfl (r_move rfl) ?_
    have hlt13 : i < l.length := by first | assumption | omega
    obtain ⟨x13, hx13⟩ : ∃ x, l[i]? = some x := ⟨_, List.getElem?_eq_getElem hlt13⟩
    obtain ⟨p13, o13, ha13, hA13, -⟩ := (hR.keep hM10.kp hX).at_ _ _ hx13
    refine l_v rfl (r_indexR Tryz.underlying34 Tryz.sizeOf84 ⟨_, (hR.keep hM10.kp hX)⟩ rfl ha13 rfl hlt13) ?_
    refine l_v rfl (r_loadA Tryz.isAgg84 Tryz.sizeOf84 (Ask.size _) rfl ((hR.keep hM10.kp hX).ix hx13 ha13)) ?_
    refine l_alloc hM10 rfl Ask.zv ?_
    intro b14 w15 hM16 hK17 hB18
    replace hM16 : Mem w [b] [(b14, (Ask.cells Ask.zero), 84), (b4, (Pt.cells t), 24)] w15 := hM16
    have hNb14 : w.heap.size ≤ b14 := Nat.le_trans hM10.kp.size hB18
    refine l_v rfl (r_assign rfl) ?_
    refine l_store hM16 (i := 0) rfl Tryz.sizeOf84 rfl rfl (Ask.size _) (by rw [Ask.size]; decide) (Ask.one _) (put_whole _ _ ((Ask.size _).trans (Ask.size _).symm)) ?_
    intro w19 hM20 hK21
    replace hM20 : Mem w [b] [(b14, (Ask.cells x13), 84), (b4, (Pt.cells t), 24)] w19 := hM20
    refine l_nil ?_
    refine c_sr ?_
    refine l_v rfl (r_move rfl) ?_
    refine l_v rfl (r_loadA Tryz.isAgg84 Tryz.sizeOf84 (Ask.size _) rfl (hM20.base (i := 0) rfl)) ?_
    refine l_call (gn rfl) rfl rfl (r_callv (cap := []) rfl Tryz.call50 rfl) (f50 x13) ?_
    rintro v22 w23 ⟨rfl, hK24⟩
    have hM25 := hM20.keep hK24
    refine l_alloc hM25 rfl Cipher.zv ?_
    intro b26 w27 hM28 hK29 hB30
    replace hM28 : Mem w [b] [(b26, (Cipher.cells Cipher.zero), 40), (b14, (Ask.cells x13), 84), (b4, (Pt.cells t), 24)] w27 := hM28
    have hNb26 : w.heap.size ≤ b26 := Nat.le_trans hM25.kp.size hB30
    refine l_store hM28 (i := 0) rfl Tryz.sizeOf40 rfl rfl (Cipher.size _) (by rw [Cipher.size]; decide) (Cipher.one _) (put_whole _ _ ((Cipher.size _).trans (Cipher.size _).symm)) ?_
    intro w31 hM32 hK33
    replace hM32 : Mem w [b] [(b26, (Cipher.cells x13.who), 40), (b14, (Ask.cells x13), 84), (b4, (Pt.cells t), 24)] w31 := hM32
    refine l_nil ?_
    refine c_seq ?_
    refine c_seq ?_
    refine c_regD (fun w_ => Mem w [b] [(b26, (Cipher.cells x13.who), 40), (b14, (Ask.cells x13), 84), (b4, (Pt.cells t), 24)] w_ ∧ MapB w_ b (ks ++ ((l.map Ask.who).take i).map Cipher.E)) [] [(0, true), (1, true), (2, true), (3, true), (4, true), (5, true), (6, true), (7, true), (8, true), (9, true), (10, true), (11, true), (12, false), (13, true), (14, true), (15, true)] (by kernel_rfl) ?_
    have hM34 := hM32.drew
    refine s_take ⟨hM34, ((((((hmp.keep0 hK17).keep hK21 (by simp; omega)).keep0 hK24).keep0 hK29).keep hK33 (by simp; omega)).keep0 (Keeps.drew _))⟩ rfl (gn rfl) rfl rfl (fun w h => r_move rfl) ?_
    refine s_take ⟨hM34, ((((((hmp.keep0 hK17).keep hK21 (by simp; omega)).keep0 hK24).keep0 hK29).keep hK33 (by simp; omega)).keep0 (Keeps.drew _))⟩ rfl (gn rfl) rfl rfl (fun w h => r_fieldAddr Cipher.fld_E rfl) ?_
    refine s_take ⟨hM34, ((((((hmp.keep0 hK17).keep hK21 (by simp; omega)).keep0 hK24).keep0 hK29).keep hK33 (by simp; omega)).keep0 (Keeps.drew _))⟩ rfl (gn rfl) rfl rfl (fun w h => r_loadA Tryz.isAgg24 Tryz.sizeOf24 (Pt.size _) rfl (Holds.sub (h.1.base (i := 0) rfl) (Cipher.sub_E _))) ?_
    refine s_take ⟨hM34, ((((((hmp.keep0 hK17).keep hK21 (by simp; omega)).keep0 hK24).keep0 hK29).keep hK33 (by simp; omega)).keep0 (Keeps.drew _))⟩ rfl (gn rfl) rfl rfl (fun w h => r_lookup h.2 rfl rfl) ?_
    refine s_take ⟨hM34, ((((((hmp.keep0 hK17).keep hK21 (by simp; omega)).keep0 hK24).keep0 hK29).keep hK33 (by simp; omega)).keep0 (Keeps.drew _))⟩ rfl (gn rfl) rfl rfl (fun w h => r_gtr (b := decide ((0 : Nat) < seen ((ks ++ ((l.map Ask.who).take i).map Cipher.E)) x13.who.E)) rfl rfl (nlt 0 (seen ((ks ++ ((l.map Ask.who).take i).map Cipher.E)) x13.who.E))) ?_
    refine s_take ⟨hM34, ((((((hmp.keep0 hK17).keep hK21 (by simp; omega)).keep0 hK24).keep0 hK29).keep hK33 (by simp; omega)).keep0 (Keeps.drew _))⟩ rfl (gn rfl) rfl rfl (fun w h => r_move rfl) ?_
    refine ways (decide ((0 : Nat) < seen ((ks ++ ((l.map Ask.who).take i).map Cipher.E)) x13.who.E)) (fun h36 => ?_) (fun h36 => ?_)
    ·skip
     have hp37 : (0 : Nat) < seen ((ks ++ ((l.map Ask.who).take i).map Cipher.E)) x13.who.E := of_decide_eq_true h36
     refine s_off ⟨hM34, ((((((hmp.keep0 hK17).keep hK21 (by simp; omega)).keep0 hK24).keep0 hK29).keep hK33 (by simp; omega)).keep0 (Keeps.drew _))⟩ rfl (gno rfl rfl rfl rfl h36) rfl rfl ?_
     refine s_off ⟨hM34, ((((((hmp.keep0 hK17).keep hK21 (by simp; omega)).keep0 hK24).keep0 hK29).keep hK33 (by simp; omega)).keep0 (Keeps.drew _))⟩ rfl (gno rfl rfl rfl rfl h36) rfl rfl ?_
     refine s_off ⟨hM34, ((((((hmp.keep0 hK17).keep hK21 (by simp; omega)).keep0 hK24).keep0 hK29).keep hK33 (by simp; omega)).keep0 (Keeps.drew _))⟩ rfl (gno rfl rfl rfl rfl h36) rfl rfl ?_
     refine s_off ⟨hM34, ((((((hmp.keep0 hK17).keep hK21 (by simp; omega)).keep0 hK24).keep0 hK29).keep hK33 (by simp; omega)).keep0 (Keeps.drew _))⟩ rfl (gnu rfl rfl rfl rfl) rfl rfl ?_
     refine s_off ⟨hM34, ((((((hmp.keep0 hK17).keep hK21 (by simp; omega)).keep0 hK24).keep0 hK29).keep hK33 (by simp; omega)).keep0 (Keeps.drew _))⟩ rfl (gnu rfl rfl rfl rfl) rfl rfl ?_
     refine s_off ⟨hM34, ((((((hmp.keep0 hK17).keep hK21 (by simp; omega)).keep0 hK24).keep0 hK29).keep hK33 (by simp; omega)).keep0 (Keeps.drew _))⟩ rfl (gnu rfl rfl rfl rfl) rfl rfl ?_
     refine s_offx (.inr ⟨hM34, ((((((hmp.keep0 hK17).keep hK21 (by simp; omega)).keep0 hK24).keep0 hK29).keep hK33 (by simp; omega)).keep0 (Keeps.drew _))⟩) rfl (gnu rfl rfl rfl rfl) rfl rfl ?_
     refine s_off ⟨hM34, ((((((hmp.keep0 hK17).keep hK21 (by simp; omega)).keep0 hK24).keep0 hK29).keep hK33 (by simp; omega)).keep0 (Keeps.drew _))⟩ rfl (gnu rfl rfl rfl rfl) rfl rfl ?_
     refine s_off ⟨hM34, ((((((hmp.keep0 hK17).keep hK21 (by simp; omega)).keep0 hK24).keep0 hK29).keep hK33 (by simp; omega)).keep0 (Keeps.drew _))⟩ rfl (gno rfl rfl rfl rfl h36) rfl rfl ?_
     refine s_take ⟨hM34, ((((((hmp.keep0 hK17).keep hK21 (by simp; omega)).keep0 hK24).keep0 hK29).keep hK33 (by simp; omega)).keep0 (Keeps.drew _))⟩ rfl (gn rfl) rfl rfl (fun w h => r_pickT rfl h36 rfl) ?_
     refine s_nil ?_
     refine c_condT rfl rfl ?_
     refine c_sr ?_
     refine l_v rfl (r_assign rfl) ?_
     refine l_nil ?_
     refine c_ret ?_
     refine ret1 rfl rfl ?_
     refine ⟨false, rfl, ⟨fun e => (by cases e), fun hok => ?_⟩, fun e => (by cases e), hM34.kp⟩
     exact (RollTo.seen (by rw [List.getElem?_map, hx13]; rfl) (seen_yes (by assumption)) hok).elim
    ·skip
     have hp38 : ¬ ((0 : Nat) < seen ((ks ++ ((l.map Ask.who).take i).map Cipher.E)) x13.who.E) := of_decide_eq_false h36
     refine s_take ⟨hM34, ((((((hmp.keep0 hK17).keep hK21 (by simp; omega)).keep0 hK24).keep0 hK29).keep hK33 (by simp; omega)).keep0 (Keeps.drew _))⟩ rfl (gy rfl rfl rfl rfl h36) rfl rfl (fun w h => r_move rfl) ?_
     refine s_take ⟨hM34, ((((((hmp.keep0 hK17).keep hK21 (by simp; omega)).keep0 hK24).keep0 hK29).keep hK33 (by simp; omega)).keep0 (Keeps.drew _))⟩ rfl (gy rfl rfl rfl rfl h36) rfl rfl (fun w h => r_gtr (b := decide ((0 : Nat) < i)) rfl rfl (nlt 0 i)) ?_
     refine s_take ⟨hM34, ((((((hmp.keep0 hK17).keep hK21 (by simp; omega)).keep0 hK24).keep0 hK29).keep hK33 (by simp; omega)).keep0 (Keeps.drew _))⟩ rfl (gy rfl rfl rfl rfl h36) rfl rfl (fun w h => r_move rfl) ?_
     refine ways (decide ((0 : Nat) < i)) (fun h39 => ?_) (fun h39 => ?_)
     ·skip
      have hp40 : (0 : Nat) < i := of_decide_eq_true h39
      refine s_take ⟨hM34, ((((((hmp.keep0 hK17).keep hK21 (by simp; omega)).keep0 hK24).keep0 hK29).keep hK33 (by simp; omega)).keep0 (Keeps.drew _))⟩ rfl (gy rfl rfl rfl rfl h39) rfl rfl (fun w h => r_sliceArr Tryz.underlying24 Tryz.sizeOf5 rfl) ?_
      refine s_take ⟨hM34, ((((((hmp.keep0 hK17).keep hK21 (by simp; omega)).keep0 hK24).keep0 hK29).keep hK33 (by simp; omega)).keep0 (Keeps.drew _))⟩ rfl (gy rfl rfl rfl rfl h39) rfl rfl (fun w h => r_fieldAddr Cipher.fld_E rfl) ?_
      refine s_take ⟨hM34, ((((((hmp.keep0 hK17).keep hK21 (by simp; omega)).keep0 hK24).keep0 hK29).keep hK33 (by simp; omega)).keep0 (Keeps.drew _))⟩ rfl (gy rfl rfl rfl rfl h39) rfl rfl (fun w h => r_sliceArr Tryz.underlying24 Tryz.sizeOf5 rfl) ?_
      refine s_call rfl (gy rfl rfl rfl rfl h39) rfl rfl (r_call Tryz.call88 rfl) (f88 (hM34.base (i := 2) rfl) (Holds.sub (hM34.base (i := 0) rfl) (Cipher.sub_E _))) ?_
      rintro v41 w42 ⟨rfl, hK43⟩
      have hM44 := hM34.keep hK43
      refine ⟨.inr ⟨hM44, (((((((hmp.keep0 hK17).keep hK21 (by simp; omega)).keep0 hK24).keep0 hK29).keep hK33 (by simp; omega)).keep0 (Keeps.drew _)).keep0 hK43)⟩, ?_⟩
      refine s_take ⟨hM44, (((((((hmp.keep0 hK17).keep hK21 (by simp; omega)).keep0 hK24).keep0 hK29).keep hK33 (by simp; omega)).keep0 (Keeps.drew _)).keep0 hK43)⟩ rfl (gy rfl rfl rfl rfl h39) rfl rfl (fun w h => r_geq (b := decide ((((0 : Nat) : Int) : Int) ≤ (ptCmp t x13.who.E : Int))) rfl rfl rfl) ?_
      refine s_take ⟨hM44, (((((((hmp.keep0 hK17).keep hK21 (by simp; omega)).keep0 hK24).keep0 hK29).keep hK33 (by simp; omega)).keep0 (Keeps.drew _)).keep0 hK43)⟩ rfl (gy rfl rfl rfl rfl h36) rfl rfl (fun w h => r_pickT rfl h39 rfl) ?_
      refine s_take ⟨hM44, (((((((hmp.keep0 hK17).keep hK21 (by simp; omega)).keep0 hK24).keep0 hK29).keep hK33 (by simp; omega)).keep0 (Keeps.drew _)).keep0 hK43)⟩ rfl (gn rfl) rfl rfl (fun w h => r_pickF rfl h36 rfl) ?_
      refine s_nil ?_
      refine ways (decide ((((0 : Nat) : Int) : Int) ≤ (ptCmp t x13.who.E : Int))) (fun h45 => ?_) (fun h45 => ?_)
      ·skip
       have hp46 : (((0 : Nat) : Int) : Int) ≤ (ptCmp t x13.who.E : Int) := of_decide_eq_true h45
       refine c_condT rfl h45 ?_
       refine c_sr ?_
       refine l_v rfl (r_assign rfl) ?_
       refine l_nil ?_
       refine c_ret ?_
       refine ret1 rfl rfl ?_
       refine ⟨false, rfl, ⟨fun e => (by cases e), fun hok => ?_⟩, fun e => (by cases e), hM44.kp⟩
       exact (hro.down (by rw [List.getElem?_map, hx13]; rfl) (by assumption) (cmp_yes (by assumption)) hok).elim
      ·skip
       have hp47 : ¬ ((((0 : Nat) : Int) : Int) ≤ (ptCmp t x13.who.E : Int)) := of_decide_eq_false h45
       refine c_condF rfl h45 ?_
       refine c_skip ?_
       refine c_sr ?_
       refine l_v rfl (r_move rfl) ?_
       refine l_v rfl (r_fieldAddr Cipher.fld_E rfl) ?_
       refine l_v rfl (r_loadA Tryz.isAgg24 Tryz.sizeOf24 (Pt.size _) rfl (Holds.sub (hM44.base (i := 0) rfl) (Cipher.sub_E _))) ?_
       refine l_mapUpdate hM44 (((((((hmp.keep0 hK17).keep hK21 (by simp; omega)).keep0 hK24).keep0 hK29).keep hK33 (by simp; omega)).keep0 (Keeps.drew _)).keep0 hK43) (seen_no (by assumption)) rfl rfl rfl (by simp) (by simp; omega) ?_
       intro w48 hM49 hK50 hm51
       refine l_nil ?_
       refine c_reg ?_
       refine l_v rfl (r_fieldAddr Cipher.fld_E rfl) ?_
       refine l_v rfl (r_loadA Tryz.isAgg24 Tryz.sizeOf24 (Pt.size _) rfl (Holds.sub (hM49.base (i := 0) rfl) (Cipher.sub_E _))) ?_
       refine l_store hM49 (i := 2) rfl Tryz.sizeOf24 rfl rfl (Pt.size _) (by rw [Pt.size]; decide) (Pt.one _) (put_whole _ _ ((Pt.size _).trans (Pt.size _).symm)) ?_
       intro w52 hM53 hK54
       replace hM53 : Mem w [b] [(b26, (Cipher.cells x13.who), 40), (b14, (Ask.cells x13), 84), (b4, (Pt.cells x13.who.E), 24)] w52 := hM53
       refine l_nil ?_
       refine c_reg ?_
       refine l_v rfl (r_add (r := ((i + 1 : Nat) : Int)) rfl rfl (nadd (i := i) (k := 1) (m := i + 1) (by omega) (by omega))) ?_
       refine l_v rfl (r_move rfl) ?_
       refine l_nil ?_
       intro a_ ha_
       refine ⟨(i + 1, x13.who.E), ⟨(hM53.forget (.cons _ (.cons _ (.refl _)))), ?_⟩, by omega, ha_.sub ⟨rfl, rfl, rfl, rfl, rfl, rfl, rfl, rfl, trivial⟩⟩
       exact ⟨by omega, hro.step (by rw [List.getElem?_map, hx13]; rfl) (seen_no (by assumption)) (fun h0 => by first | exact cmp_no (by assumption) | exact absurd h0 (by assumption)), by rw [take_step (show (l.map Ask.who)[i]? = some _ from by rw [List.getElem?_map, hx13]; rfl), List.map_append, ← List.append_assoc]; exact (hm51.keep hK54 (by simp; omega))⟩
     ·skip
      have hp55 : ¬ ((0 : Nat) < i) := of_decide_eq_false h39
      refine s_off ⟨hM34, ((((((hmp.keep0 hK17).keep hK21 (by simp; omega)).keep0 hK24).keep0 hK29).keep hK33 (by simp; omega)).keep0 (Keeps.drew _))⟩ rfl (gno rfl rfl rfl rfl h39) rfl rfl ?_
      refine s_off ⟨hM34, ((((((hmp.keep0 hK17).keep hK21 (by simp; omega)).keep0 hK24).keep0 hK29).keep hK33 (by simp; omega)).keep0 (Keeps.drew _))⟩ rfl (gno rfl rfl rfl rfl h39) rfl rfl ?_
      refine s_off ⟨hM34, ((((((hmp.keep0 hK17).keep hK21 (by simp; omega)).keep0 hK24).keep0 hK29).keep hK33 (by simp; omega)).keep0 (Keeps.drew _))⟩ rfl (gno rfl rfl rfl rfl h39) rfl rfl ?_
      refine s_offx (.inr ⟨hM34, ((((((hmp.keep0 hK17).keep hK21 (by simp; omega)).keep0 hK24).keep0 hK29).keep hK33 (by simp; omega)).keep0 (Keeps.drew _))⟩) rfl (gno rfl rfl rfl rfl h39) rfl rfl ?_
      refine s_off ⟨hM34, ((((((hmp.keep0 hK17).keep hK21 (by simp; omega)).keep0 hK24).keep0 hK29).keep hK33 (by simp; omega)).keep0 (Keeps.drew _))⟩ rfl (gno rfl rfl rfl rfl h39) rfl rfl ?_
      refine s_take ⟨hM34, ((((((hmp.keep0 hK17).keep hK21 (by simp; omega)).keep0 hK24).keep0 hK29).keep hK33 (by simp; omega)).keep0 (Keeps.drew _))⟩ rfl (gy rfl rfl rfl rfl h36) rfl rfl (fun w h => r_pickF rfl h39 rfl) ?_
      refine s_take ⟨hM34, ((((((hmp.keep0 hK17).keep hK21 (by simp; omega)).keep0 hK24).keep0 hK29).keep hK33 (by simp; omega)).keep0 (Keeps.drew _))⟩ rfl (gn rfl) rfl rfl (fun w h => r_pickF rfl h36 rfl) ?_
      refine s_nil ?_
      refine c_condF rfl rfl ?_
      refine c_skip ?_
      refine c_sr ?_
      refine l_v rfl (r_move rfl) ?_
      refine l_v rfl (r_fieldAddr Cipher.fld_E rfl) ?_
      refine l_v rfl (r_loadA Tryz.isAgg24 Tryz.sizeOf24 (Pt.size _) rfl (Holds.sub (hM34.base (i := 0) rfl) (Cipher.sub_E _))) ?_
      refine l_mapUpdate hM34 ((((((hmp.keep0 hK17).keep hK21 (by simp; omega)).keep0 hK24).keep0 hK29).keep hK33 (by simp; omega)).keep0 (Keeps.drew _)) (seen_no (by assumption)) rfl rfl rfl (by simp) (by simp; omega) ?_
      intro w56 hM57 hK58 hm59
      refine l_nil ?_
      refine c_reg ?_
      refine l_v rfl (r_fieldAddr Cipher.fld_E rfl) ?_
      refine l_v rfl (r_loadA Tryz.isAgg24 Tryz.sizeOf24 (Pt.size _) rfl (Holds.sub (hM57.base (i := 0) rfl) (Cipher.sub_E _))) ?_
      refine l_store hM57 (i := 2) rfl Tryz.sizeOf24 rfl rfl (Pt.size _) (by rw [Pt.size]; decide) (Pt.one _) (put_whole _ _ ((Pt.size _).trans (Pt.size _).symm)) ?_
      intro w60 hM61 hK62
      replace hM61 : Mem w [b] [(b26, (Cipher.cells x13.who), 40), (b14, (Ask.cells x13), 84), (b4, (Pt.cells x13.who.E), 24)] w60 := hM61
      refine l_nil ?_
      refine c_reg ?_
      refine l_v rfl (r_add (r := ((i + 1 : Nat) : Int)) rfl rfl (nadd (i := i) (k := 1) (m := i + 1) (by omega) (by omega))) ?_
      refine l_v rfl (r_move rfl) ?_
      refine l_nil ?_
      intro a_ ha_
      refine ⟨(i + 1, x13.who.E), ⟨(hM61.forget (.cons _ (.cons _ (.refl _)))), ?_⟩, by omega, ha_.sub ⟨rfl, rfl, rfl, rfl, rfl, rfl, rfl, rfl, trivial⟩⟩
      exact ⟨by omega, hro.step (by rw [List.getElem?_map, hx13]; rfl) (seen_no (by assumption)) (fun h0 => by first | exact cmp_no (by assumption) | exact absurd h0 (by assumption)), by rw [take_step (show (l.map Ask.who)[i]? = some _ from by rw [List.getElem?_map, hx13]; rfl), List.map_append, ← List.append_assoc]; exact (hm59.keep hK62 (by simp; omega))⟩
   ·skip
    have hp63 : ¬ ((i : Nat) < l.length) := of_decide_eq_false h11
    refine c_condF rfl h11 ?_
    refine c_exit rfl ?_
    refine c_sr ?_
    refine l_v rfl (r_assign rfl) ?_
    refine l_nil ?_
    refine c_ret ?_
    refine ret1 rfl rfl ?_
    exact ⟨true, rfl, ⟨fun _ => hro.done (by simpa using (show l.length ≤ 40 from by omega)) (by simpa using (show ¬ i < l.length from by assumption)), fun _ => rfl⟩, fun _ => by have := hmp; rw [List.take_of_length_le (by simp; omega)] at this; exact this, hM10.kp⟩
theorem f52 {w : World} (x : Ban) : Ret 52 #[.agg x.cells] w (fun v w' => v = .agg x.who.cells ∧ Keeps [] w w') := by
  have hM0 := Mem.start w
  refine enter Tryz.func52 rfl rfl ?_
  refine c_sr ?_
  refine l_box hM0 rfl rfl ?_
  intro b1 w2 hM3 hK4 hB5
  replace hM3 : Mem w [] [(b1, (Ban.cells x), 86)] w2 := hM3
  refine l_alloc hM3 rfl Cipher.zv ?_
  intro b6 w7 hM8 hK9 hB10
  replace hM8 : Mem w [] [(b6, (Cipher.cells Cipher.zero), 40), (b1, (Ban.cells x), 86)] w7 := hM8
  refine l_nil ?_
  refine c_sr ?_
  refine l_v rfl (r_fieldAddr Ban.fld_who rfl) ?_
  refine l_v rfl (r_loadA Tryz.isAgg40 Tryz.sizeOf40 (Cipher.size _) rfl (Holds.sub (hM8.base (i := 1) rfl) (Ban.sub_who _))) ?_
  refine l_store hM8 (i := 0) rfl Tryz.sizeOf40 rfl rfl (Cipher.size _) (by rw [Cipher.size]; decide) (Cipher.one _) (put_whole _ _ ((Cipher.size _).trans (Cipher.size _).symm)) ?_
  intro w11 hM12 hK13
  replace hM12 : Mem w [] [(b6, (Cipher.cells x.who), 40), (b1, (Ban.cells x), 86)] w11 := hM12
  refine l_nil ?_
  refine c_ret ?_
  refine retC rfl Tryz.isAgg40 Tryz.sizeOf40 (Cipher.size _) rfl (hM12.base (i := 0) rfl) ?_
  exact ⟨rfl, hM12.kp⟩
theorem f51 {A : Nat → Prop} {w : World} {s : Sl} {l : List Ban} {b : Nat} {ks : List Pt} (hR : Row A w s 128 Ban.cells l) (hA : ¬ A b) (hm : MapB w b ks) :
    Ret 51 #[s.val, .func (.func 52) #[] #[], .map (some b)] w (fun v w' => ∃ r : Bool, v = .bool r ∧ (r = true ↔ OkRoll ks (l.map Ban.who)) ∧ (r = true → MapB w' b (ks ++ (l.map Ban.who).map Cipher.E)) ∧ Keeps [b] w w') := by
  have hn := hR.bd
  have hX : ∀ x ∈ [b], ¬ A x := by simpa using hA
  have hM0 : Mem w [b] [] w := ⟨Keeps.refl _ _, by simp, by simp, by simp⟩
  have hbl := hm.lt
  refine enter Tryz.func51 rfl rfl ?_
  refine c_sr ?_
  refine l_v rfl (r_assign rfl) ?_
  refine l_nil ?_
  refine c_seq ?_
  refine c_sr ?_
  refine l_v rfl (r_move rfl) ?_
  refine l_v rfl (r_lenR Tryz.underlying35 rfl hR.len) ?_
  refine l_v rfl (r_gtr (b := decide ((40 : Nat) < l.length)) rfl rfl (nlt 40 l.length)) ?_
  refine l_nil ?_
  refine ways (decide ((40 : Nat) < l.length)) (fun h1 => ?_) (fun h1 => ?_)
  ·skip
   have hp2 : (40 : Nat) < l.length := of_decide_eq_true h1
   refine c_condT rfl h1 ?_
   refine c_sr ?_
   refine l_v rfl (r_assign rfl) ?_
   refine l_nil ?_
   refine c_ret ?_
   refine ret1 rfl rfl ?_
   refine ⟨false, rfl, ⟨fun e => (by cases e), fun hok => ?_⟩, fun e => (by cases e), hM0.kp⟩
   have := hok.1; simp at this; omega
  ·skip
   have hp3 : ¬ ((40 : Nat) < l.length) := of_decide_eq_false h1
   refine c_condF rfl h1 ?_
   refine c_skip ?_
   refine c_sr ?_
   refine l_alloc hM0 rfl zv_Pt ?_
   intro b4 w5 hM6 hK7 hB8
   replace hM6 : Mem w [b] [(b4, (Pt.cells Pt.zero), 24)] w5 := hM6
   have hNb4 : w.heap.size ≤ b4 := Nat.le_trans hM0.kp.size hB8
   refine l_nil ?_
   refine c_seq ?_
   refine c_sr ?_
   refine l_v rfl (r_move rfl) ?_
   refine l_v rfl (r_lenR Tryz.underlying35 rfl (hR.keep hM6.kp hX).len) ?_
   refine l_v rfl (r_move rfl) ?_
   refine l_nil ?_
   refine c_block ?_
   refine c_loop (ι := Nat × Pt) (fun p_ w_ => Mem w [b] [(b4, (Pt.cells p_.2), 24)] w_ ∧ (p_.1 ≤ l.length ∧ RollTo ks (l.map Ban.who) p_.1 p_.2 ∧ MapB w_ b (ks ++ ((l.map Ban.who).take p_.1).map Cipher.E))) (fun p_ => [(0, Sl.val s), (1, Value.func (Fn.func 52) #[] #[]), (2, Value.map (some b)), (13, Value.bool (decide ((40 : Nat) < l.length))), (7, Value.pointer (some ⟨b4, 0, none⟩)), (14, Sl.val s), (15, Value.int .i64 ((l.length : Nat) : Int)), (16, Value.int .i64 ((p_.1 : Nat) : Int))]) (fun p_ => l.length - p_.1) (0, Pt.zero) ⟨hM6, Nat.zero_le _, RollTo.start _ _ _, by simpa using (hm.keep0 hK7)⟩ ⟨rfl, rfl, rfl, rfl, rfl, rfl, rfl, rfl, trivial⟩ ?_
   rintro ⟨i, t⟩ w9 ⟨hM10, hk, hro, hmp⟩
   change AT _ [(0, Sl.val s), (1, Value.func (Fn.func 52) #[] #[]), (2, Value.map (some b)), (13, Value.bool (decide ((40 : Nat) < l.length))), (7, Value.pointer (some ⟨b4, 0, none⟩)), (14, Sl.val s), (15, Value.int .i64 ((l.length : Nat) : Int)), (16, Value.int .i64 ((i : Nat) : Int))] _ _
   replace hM10 : Mem w [b] [(b4, (Pt.cells t), 24)] w9 := hM10
   refine c_sr ?_
   refine l_v rfl (r_lss (b := decide ((i : Nat) < l.length)) rfl rfl (nlt i l.length)) ?_
   refine l_nil ?_
   refine c_seq ?_
   refine ways (decide ((i : Nat) < l.length)) (fun h11 => ?_) (fun h11 => ?_)
   ·skip
    have hp12 : (i : Nat) < l.length := of_decide_eq_true h11
    refine c_condT rfl h11 ?_
    refine c_skip ?_
    refine c_seq ?_
    refine c_block ?_
    refine c_sr ?_
    refine l_v rfl (r_move rfl) ?_
    have hlt13 : i < l.length := by first | assumption | omega
    obtain ⟨x13, hx13⟩ : ∃ x, l[i]? = some x := ⟨_, List.getElem?_eq_getElem hlt13⟩
    obtain ⟨p13, o13, ha13, hA13, -⟩ := (hR.keep hM10.kp hX).at_ _ _ hx13
    refine l_v rfl (r_indexR Tryz.underlying35 Tryz.sizeOf86 ⟨_, (hR.keep hM10.kp hX)⟩ rfl ha13 rfl hlt13) ?_
    refine l_v rfl (r_loadA Tryz.isAgg86 Tryz.sizeOf86 (Ban.size _) rfl ((hR.keep hM10.kp hX).ix hx13 ha13)) ?_
    refine l_alloc hM10 rfl Ban.zv ?_
    intro b14 w15 hM16 hK17 hB18
    replace hM16 : Mem w [b] [(b14, (Ban.cells Ban.zero), 86), (b4, (Pt.cells t), 24)] w15 := hM16
    have hNb14 : w.heap.size ≤ b14 := Nat.le_trans hM10.kp.size hB18
    refine l_v rfl (r_assign rfl) ?_
    refine l_store hM16 (i := 0) rfl Tryz.sizeOf86 rfl rfl (Ban.size _) (by rw [Ban.size]; decide) (Ban.one _) (put_whole _ _ ((Ban.size _).trans (Ban.size _).symm)) ?_
    intro w19 hM20 hK21
    replace hM20 : Mem w [b] [(b14, (Ban.cells x13), 86), (b4, (Pt.cells t), 24)] w19 := hM20
    refine l_nil ?_
    refine c_sr ?_
    refine l_v rfl (r_move rfl) ?_
    refine l_v rfl (r_loadA Tryz.isAgg86 Tryz.sizeOf86 (Ban.size _) rfl (hM20.base (i := 0) rfl)) ?_
    refine l_call (gn rfl) rfl rfl (r_callv (cap := []) rfl Tryz.call52 rfl) (f52 x13) ?_
    rintro v22 w23 ⟨rfl, hK24⟩
    have hM25 := hM20.keep hK24
    refine l_alloc hM25 rfl Cipher.zv ?_
    intro b26 w27 hM28 hK29 hB30
    replace hM28 : Mem w [b] [(b26, (Cipher.cells Cipher.zero), 40), (b14, (Ban.cells x13), 86), (b4, (Pt.cells t), 24)] w27 := hM28
    have hNb26 : w.heap.size ≤ b26 := Nat.le_trans hM25.kp.size hB30
    refine l_store hM28 (i := 0) rfl Tryz.sizeOf40 rfl rfl (Cipher.size _) (by rw [Cipher.size]; decide) (Cipher.one _) (put_whole _ _ ((Cipher.size _).trans (Cipher.size _).symm)) ?_
    intro w31 hM32 hK33
    replace hM32 : Mem w [b] [(b26, (Cipher.cells x13.who), 40), (b14, (Ban.cells x13), 86), (b4, (Pt.cells t), 24)] w31 := hM32
    refine l_nil ?_
    refine c_seq ?_
    refine c_seq ?_
    refine c_regD (fun w_ => Mem w [b] [(b26, (Cipher.cells x13.who), 40), (b14, (Ban.cells x13), 86), (b4, (Pt.cells t), 24)] w_ ∧ MapB w_ b (ks ++ ((l.map Ban.who).take i).map Cipher.E)) [] [(0, true), (1, true), (2, true), (3, true), (4, true), (5, true), (6, true), (7, true), (8, true), (9, true), (10, true), (11, true), (12, false), (13, true), (14, true), (15, true)] (by kernel_rfl) ?_
    have hM34 := hM32.drew
    refine s_take ⟨hM34, ((((((hmp.keep0 hK17).keep hK21 (by simp; omega)).keep0 hK24).keep0 hK29).keep hK33 (by simp; omega)).keep0 (Keeps.drew _))⟩ rfl (gn rfl) rfl rfl (fun w h => r_move rfl) ?_
    refine s_take ⟨hM34, ((((((hmp.keep0 hK17).keep hK21 (by simp; omega)).keep0 hK24).keep0 hK29).keep hK33 (by simp; omega)).keep0 (Keeps.drew _))⟩ rfl (gn rfl) rfl rfl (fun w h => r_fieldAddr Cipher.fld_E rfl) ?_
    refine s_take ⟨hM34, ((((((hmp.keep0 hK17).keep hK21 (by simp; omega)).keep0 hK24).keep0 hK29).keep hK33 (by simp; omega)).keep0 (Keeps.drew _))⟩ rfl (gn rfl) rfl rfl (fun w h => r_loadA Tryz.isAgg24 Tryz.sizeOf24 (Pt.size _) rfl (Holds.sub (h.1.base (i := 0) rfl) (Cipher.sub_E _))) ?_
    refine s_take ⟨hM34, ((((((hmp.keep0 hK17).keep hK21 (by simp; omega)).keep0 hK24).keep0 hK29).keep hK33 (by simp; omega)).keep0 (Keeps.drew _))⟩ rfl (gn rfl) rfl rfl (fun w h => r_lookup h.2 rfl rfl) ?_
    refine s_take ⟨hM34, ((((((hmp.keep0 hK17).keep hK21 (by simp; omega)).keep0 hK24).keep0 hK29).keep hK33 (by simp; omega)).keep0 (Keeps.drew _))⟩ rfl (gn rfl) rfl rfl (fun w h => r_gtr (b := decide ((0 : Nat) < seen ((ks ++ ((l.map Ban.who).take i).map Cipher.E)) x13.who.E)) rfl rfl (nlt 0 (seen ((ks ++ ((l.map Ban.who).take i).map Cipher.E)) x13.who.E))) ?_
    refine s_take ⟨hM34, ((((((hmp.keep0 hK17).keep hK21 (by simp; omega)).keep0 hK24).keep0 hK29).keep hK33 (by simp; omega)).keep0 (Keeps.drew _))⟩ rfl (gn rfl) rfl rfl (fun w h => r_move rfl) ?_
    refine ways (decide ((0 : Nat) < seen ((ks ++ ((l.map Ban.who).take i).map Cipher.E)) x13.who.E)) (fun h36 => ?_) (fun h36 => ?_)
    ·skip
     have hp37 : (0 : Nat) < seen ((ks ++ ((l.map Ban.who).take i).map Cipher.E)) x13.who.E := of_decide_eq_true h36
     refine s_off ⟨hM34, ((((((hmp.keep0 hK17).keep hK21 (by simp; omega)).keep0 hK24).keep0 hK29).keep hK33 (by simp; omega)).keep0 (Keeps.drew _))⟩ rfl (gno rfl rfl rfl rfl h36) rfl rfl ?_
     refine s_off ⟨hM34, ((((((hmp.keep0 hK17).keep hK21 (by simp; omega)).keep0 hK24).keep0 hK29).keep hK33 (by simp; omega)).keep0 (Keeps.drew _))⟩ rfl (gno rfl rfl rfl rfl h36) rfl rfl ?_
     refine s_off ⟨hM34, ((((((hmp.keep0 hK17).keep hK21 (by simp; omega)).keep0 hK24).keep0 hK29).keep hK33 (by simp; omega)).keep0 (Keeps.drew _))⟩ rfl (gno rfl rfl rfl rfl h36) rfl rfl ?_
     refine s_off ⟨hM34, ((((((hmp.keep0 hK17).keep hK21 (by simp; omega)).keep0 hK24).keep0 hK29).keep hK33 (by simp; omega)).keep0 (Keeps.drew _))⟩ rfl (gnu rfl rfl rfl rfl) rfl rfl ?_
     refine s_off ⟨hM34, ((((((hmp.keep0 hK17).keep hK21 (by simp; omega)).keep0 hK24).keep0 hK29).keep hK33 (by simp; omega)).keep0 (Keeps.drew _))⟩ rfl (gnu rfl rfl rfl rfl) rfl rfl ?_
     refine s_off ⟨hM34, ((((((hmp.keep0 hK17).keep hK21 (by simp; omega)).keep0 hK24).keep0 hK29).keep hK33 (by simp; omega)).keep0 (Keeps.drew _))⟩ rfl (gnu rfl rfl rfl rfl) rfl rfl ?_
     refine s_offx (.inr ⟨hM34, ((((((hmp.keep0 hK17).keep hK21 (by simp; omega)).keep0 hK24).keep0 hK29).keep hK33 (by simp; omega)).keep0 (Keeps.drew _))⟩) rfl (gnu rfl rfl rfl rfl) rfl rfl ?_
     refine s_off ⟨hM34, ((((((hmp.keep0 hK17).keep hK21 (by simp; omega)).keep0 hK24).keep0 hK29).keep hK33 (by simp; omega)).keep0 (Keeps.drew _))⟩ rfl (gnu rfl rfl rfl rfl) rfl rfl ?_
     refine s_off ⟨hM34, ((((((hmp.keep0 hK17).keep hK21 (by simp; omega)).keep0 hK24).keep0 hK29).keep hK33 (by simp; omega)).keep0 (Keeps.drew _))⟩ rfl (gno rfl rfl rfl rfl h36) rfl rfl ?_
     refine s_take ⟨hM34, ((((((hmp.keep0 hK17).keep hK21 (by simp; omega)).keep0 hK24).keep0 hK29).keep hK33 (by simp; omega)).keep0 (Keeps.drew _))⟩ rfl (gn rfl) rfl rfl (fun w h => r_pickT rfl h36 rfl) ?_
     refine s_nil ?_
     refine c_condT rfl rfl ?_
     refine c_sr ?_
     refine l_v rfl (r_assign rfl) ?_
     refine l_nil ?_
     refine c_ret ?_
     refine ret1 rfl rfl ?_
     refine ⟨false, rfl, ⟨fun e => (by cases e), fun hok => ?_⟩, fun e => (by cases e), hM34.kp⟩
     exact (RollTo.seen (by rw [List.getElem?_map, hx13]; rfl) (seen_yes (by assumption)) hok).elim
    ·skip
     have hp38 : ¬ ((0 : Nat) < seen ((ks ++ ((l.map Ban.who).take i).map Cipher.E)) x13.who.E) := of_decide_eq_false h36
     refine s_take ⟨hM34, ((((((hmp.keep0 hK17).keep hK21 (by simp; omega)).keep0 hK24).keep0 hK29).keep hK33 (by simp; omega)).keep0 (Keeps.drew _))⟩ rfl (gy rfl rfl rfl rfl h36) rfl rfl (fun w h => r_move rfl) ?_
     refine s_take ⟨hM34, ((((((hmp.keep0 hK17).keep hK21 (by simp; omega)).keep0 hK24).keep0 hK29).keep hK33 (by simp; omega)).keep0 (Keeps.drew _))⟩ rfl (gy rfl rfl rfl rfl h36) rfl rfl (fun w h => r_gtr (b := decide ((0 : Nat) < i)) rfl rfl (nlt 0 i)) ?_
     refine s_take ⟨hM34, ((((((hmp.keep0 hK17).keep hK21 (by simp; omega)).keep0 hK24).keep0 hK29).keep hK33 (by simp; omega)).keep0 (Keeps.drew _))⟩ rfl (gy rfl rfl rfl rfl h36) rfl rfl (fun w h => r_move rfl) ?_
     refine ways (decide ((0 : Nat) < i)) (fun h39 => ?_) (fun h39 => ?_)
     ·skip
      have hp40 : (0 : Nat) < i := of_decide_eq_true h39
      refine s_take ⟨hM34, ((((((hmp.keep0 hK17).keep hK21 (by simp; omega)).keep0 hK24).keep0 hK29).keep hK33 (by simp; omega)).keep0 (Keeps.drew _))⟩ rfl (gy rfl rfl rfl rfl h39) rfl rfl (fun w h => r_sliceArr Tryz.underlying24 Tryz.sizeOf5 rfl) ?_
      refine s_take ⟨hM34, ((((((hmp.keep0 hK17).keep hK21 (by simp; omega)).keep0 hK24).keep0 hK29).keep hK33 (by simp; omega)).keep0 (Keeps.drew _))⟩ rfl (gy rfl rfl rfl rfl h39) rfl rfl (fun w h => r_fieldAddr Cipher.fld_E rfl) ?_
      refine s_take ⟨hM34, ((((((hmp.keep0 hK17).keep hK21 (by simp; omega)).keep0 hK24).keep0 hK29).keep hK33 (by simp; omega)).keep0 (Keeps.drew _))⟩ rfl (gy rfl rfl rfl rfl h39) rfl rfl (fun w h => r_sliceArr Tryz.underlying24 Tryz.sizeOf5 rfl) ?_
      refine s_call rfl (gy rfl rfl rfl rfl h39) rfl rfl (r_call Tryz.call88 rfl) (f88 (hM34.base (i := 2) rfl) (Holds.sub (hM34.base (i := 0) rfl) (Cipher.sub_E _))) ?_
      rintro v41 w42 ⟨rfl, hK43⟩
      have hM44 := hM34.keep hK43
      refine ⟨.inr ⟨hM44, (((((((hmp.keep0 hK17).keep hK21 (by simp; omega)).keep0 hK24).keep0 hK29).keep hK33 (by simp; omega)).keep0 (Keeps.drew _)).keep0 hK43)⟩, ?_⟩
      refine s_take ⟨hM44, (((((((hmp.keep0 hK17).keep hK21 (by simp; omega)).keep0 hK24).keep0 hK29).keep hK33 (by simp; omega)).keep0 (Keeps.drew _)).keep0 hK43)⟩ rfl (gy rfl rfl rfl rfl h39) rfl rfl (fun w h => r_geq (b := decide ((((0 : Nat) : Int) : Int) ≤ (ptCmp t x13.who.E : Int))) rfl rfl rfl) ?_
      refine s_take ⟨hM44, (((((((hmp.keep0 hK17).keep hK21 (by simp; omega)).keep0 hK24).keep0 hK29).keep hK33 (by simp; omega)).keep0 (Keeps.drew _)).keep0 hK43)⟩ rfl (gy rfl rfl rfl rfl h36) rfl rfl (fun w h => r_pickT rfl h39 rfl) ?_
      refine s_take ⟨hM44, (((((((hmp.keep0 hK17).keep hK21 (by simp; omega)).keep0 hK24).keep0 hK29).keep hK33 (by simp; omega)).keep0 (Keeps.drew _)).keep0 hK43)⟩ rfl (gn rfl) rfl rfl (fun w h => r_pickF rfl h36 rfl) ?_
      refine s_nil ?_
      refine ways (decide ((((0 : Nat) : Int) : Int) ≤ (ptCmp t x13.who.E : Int))) (fun h45 => ?_) (fun h45 => ?_)
      ·skip
       have hp46 : (((0 : Nat) : Int) : Int) ≤ (ptCmp t x13.who.E : Int) := of_decide_eq_true h45
       refine c_condT rfl h45 ?_
       refine c_sr ?_
       refine l_v rfl (r_assign rfl) ?_
       refine l_nil ?_
       refine c_ret ?_
       refine ret1 rfl rfl ?_
       refine ⟨false, rfl, ⟨fun e => (by cases e), fun hok => ?_⟩, fun e => (by cases e), hM44.kp⟩
       exact (hro.down (by rw [List.getElem?_map, hx13]; rfl) (by assumption) (cmp_yes (by assumption)) hok).elim
      ·skip
       have hp47 : ¬ ((((0 : Nat) : Int) : Int) ≤ (ptCmp t x13.who.E : Int)) := of_decide_eq_false h45
       refine c_condF rfl h45 ?_
       refine c_skip ?_
       refine c_sr ?_
       refine l_v rfl (r_move rfl) ?_
       refine l_v rfl (r_fieldAddr Cipher.fld_E rfl) ?_
       refine l_v rfl (r_loadA Tryz.isAgg24 Tryz.sizeOf24 (Pt.size _) rfl (Holds.sub (hM44.base (i := 0) rfl) (Cipher.sub_E _))) ?_
       refine l_mapUpdate hM44 (((((((hmp.keep0 hK17).keep hK21 (by simp; omega)).keep0 hK24).keep0 hK29).keep hK33 (by simp; omega)).keep0 (Keeps.drew _)).keep0 hK43) (seen_no (by assumption)) rfl rfl rfl (by simp) (by simp; omega) ?_
       intro w48 hM49 hK50 hm51
       refine l_nil ?_
       refine c_reg ?_
       refine l_v rfl (r_fieldAddr Cipher.fld_E rfl) ?_
       refine l_v rfl (r_loadA Tryz.isAgg24 Tryz.sizeOf24 (Pt.size _) rfl (Holds.sub (hM49.base (i := 0) rfl) (Cipher.sub_E _))) ?_
       refine l_store hM49 (i := 2) rfl Tryz.sizeOf24 rfl rfl (Pt.size _) (by rw [Pt.size]; decide) (Pt.one _) (put_whole _ _ ((Pt.size _).trans (Pt.size _).symm)) ?_
       intro w52 hM53 hK54
       replace hM53 : Mem w [b] [(b26, (Cipher.cells x13.who), 40), (b14, (Ban.cells x13), 86), (b4, (Pt.cells x13.who.E), 24)] w52 := hM53
       refine l_nil ?_
       refine c_reg ?_
       refine l_v rfl (r_add (r := ((i + 1 : Nat) : Int)) rfl rfl (nadd (i := i) (k := 1) (m := i + 1) (by omega) (by omega))) ?_
       refine l_v rfl (r_move rfl) ?_
       refine l_nil ?_
       intro a_ ha_
       refine ⟨(i + 1, x13.who.E), ⟨(hM53.forget (.cons _ (.cons _ (.refl _)))), ?_⟩, by omega, ha_.sub ⟨rfl, rfl, rfl, rfl, rfl, rfl, rfl, rfl, trivial⟩⟩
       exact ⟨by omega, hro.step (by rw [List.getElem?_map, hx13]; rfl) (seen_no (by assumption)) (fun h0 => by first | exact cmp_no (by assumption) | exact absurd h0 (by assumption)), by rw [take_step (show (l.map Ban.who)[i]? = some _ from by rw [List.getElem?_map, hx13]; rfl), List.map_append, ← List.append_assoc]; exact (hm51.keep hK54 (by simp; omega))⟩
     ·skip
      have hp55 : ¬ ((0 : Nat) < i) := of_decide_eq_false h39
      refine s_off ⟨hM34, ((((((hmp.keep0 hK17).keep hK21 (by simp; omega)).keep0 hK24).keep0 hK29).keep hK33 (by simp; omega)).keep0 (Keeps.drew _))⟩ rfl (gno rfl rfl rfl rfl h39) rfl rfl ?_
      refine s_off ⟨hM34, ((((((hmp.keep0 hK17).keep hK21 (by simp; omega)).keep0 hK24).keep0 hK29).keep hK33 (by simp; omega)).keep0 (Keeps.drew _))⟩ rfl (gno rfl rfl rfl rfl h39) rfl rfl ?_
      refine s_off ⟨hM34, ((((((hmp.keep0 hK17).keep hK21 (by simp; omega)).keep0 hK24).keep0 hK29).keep hK33 (by simp; omega)).keep0 (Keeps.drew _))⟩ rfl (gno rfl rfl rfl rfl h39) rfl rfl ?_
      refine s_offx (.inr ⟨hM34, ((((((hmp.keep0 hK17).keep hK21 (by simp; omega)).keep0 hK24).keep0 hK29).keep hK33 (by simp; omega)).keep0 (Keeps.drew _))⟩) rfl (gno rfl rfl rfl rfl h39) rfl rfl ?_
      refine s_off ⟨hM34, ((((((hmp.keep0 hK17).keep hK21 (by simp; omega)).keep0 hK24).keep0 hK29).keep hK33 (by simp; omega)).keep0 (Keeps.drew _))⟩ rfl (gno rfl rfl rfl rfl h39) rfl rfl ?_
      refine s_take ⟨hM34, ((((((hmp.keep0 hK17).keep hK21 (by simp; omega)).keep0 hK24).keep0 hK29).keep hK33 (by simp; omega)).keep0 (Keeps.drew _))⟩ rfl (gy rfl rfl rfl rfl h36) rfl rfl (fun w h => r_pickF rfl h39 rfl) ?_
      refine s_take ⟨hM34, ((((((hmp.keep0 hK17).keep hK21 (by simp; omega)).keep0 hK24).keep0 hK29).keep hK33 (by simp; omega)).keep0 (Keeps.drew _))⟩ rfl (gn rfl) rfl rfl (fun w h => r_pickF rfl h36 rfl) ?_
      refine s_nil ?_
      refine c_condF rfl rfl ?_
      refine c_skip ?_
      refine c_sr ?_
      refine l_v rfl (r_move rfl) ?_
      refine l_v rfl (r_fieldAddr Cipher.fld_E rfl) ?_
      refine l_v rfl (r_loadA Tryz.isAgg24 Tryz.sizeOf24 (Pt.size _) rfl (Holds.sub (hM34.base (i := 0) rfl) (Cipher.sub_E _))) ?_
      refine l_mapUpdate hM34 ((((((hmp.keep0 hK17).keep hK21 (by simp; omega)).keep0 hK24).keep0 hK29).keep hK33 (by simp; omega)).keep0 (Keeps.drew _)) (seen_no (by assumption)) rfl rfl rfl (by simp) (by simp; omega) ?_
      intro w56 hM57 hK58 hm59
      refine l_nil ?_
      refine c_reg ?_
      refine l_v rfl (r_fieldAddr Cipher.fld_E rfl) ?_
      refine l_v rfl (r_loadA Tryz.isAgg24 Tryz.sizeOf24 (Pt.size _) rfl (Holds.sub (hM57.base (i := 0) rfl) (Cipher.sub_E _))) ?_
      refine l_store hM57 (i := 2) rfl Tryz.sizeOf24 rfl rfl (Pt.size _) (by rw [Pt.size]; decide) (Pt.one _) (put_whole _ _ ((Pt.size _).trans (Pt.size _).symm)) ?_
      intro w60 hM61 hK62
      replace hM61 : Mem w [b] [(b26, (Cipher.cells x13.who), 40), (b14, (Ban.cells x13), 86), (b4, (Pt.cells x13.who.E), 24)] w60 := hM61
      refine l_nil ?_
      refine c_reg ?_
      refine l_v rfl (r_add (r := ((i + 1 : Nat) : Int)) rfl rfl (nadd (i := i) (k := 1) (m := i + 1) (by omega) (by omega))) ?_
      refine l_v rfl (r_move rfl) ?_
      refine l_nil ?_
      intro a_ ha_
      refine ⟨(i + 1, x13.who.E), ⟨(hM61.forget (.cons _ (.cons _ (.refl _)))), ?_⟩, by omega, ha_.sub ⟨rfl, rfl, rfl, rfl, rfl, rfl, rfl, rfl, trivial⟩⟩
      exact ⟨by omega, hro.step (by rw [List.getElem?_map, hx13]; rfl) (seen_no (by assumption)) (fun h0 => by first | exact cmp_no (by assumption) | exact absurd h0 (by assumption)), by rw [take_step (show (l.map Ban.who)[i]? = some _ from by rw [List.getElem?_map, hx13]; rfl), List.map_append, ← List.append_assoc]; exact (hm59.keep hK62 (by simp; omega))⟩
   ·skip
    have hp63 : ¬ ((i : Nat) < l.length) := of_decide_eq_false h11
    refine c_condF rfl h11 ?_
    refine c_exit rfl ?_
    refine c_sr ?_
    refine l_v rfl (r_assign rfl) ?_
    refine l_nil ?_
    refine c_ret ?_
    refine ret1 rfl rfl ?_
    exact ⟨true, rfl, ⟨fun _ => hro.done (by simpa using (show l.length ≤ 40 from by omega)) (by simpa using (show ¬ i < l.length from by assumption)), fun _ => rfl⟩, fun _ => by have := hmp; rw [List.take_of_length_le (by simp; omega)] at this; exact this, hM10.kp⟩
end Go.Proofs.YtekhaogjmmmniaaGreat
namespace Go.Proofs.YtekhaogjmmmniaaGreat
open Go Go.RowKit

theorem f54 {w : World} (x : Seat) : Ret 54 #[.agg x.cells] w (fun v w' => v = .bool (badSeat x) ∧ Keeps [] w w') := by
  have hM0 := Mem.start w
  refine enter Tryz.func54 rfl rfl ?_
  refine c_sr ?_
  refine l_box hM0 rfl rfl ?_
  intro b1 w2 hM3 hK4 hB5
  replace hM3 : Mem w [] [(b1, (Seat.cells x), 73)] w2 := hM3
  refine l_v rfl (r_assign rfl) ?_
  refine l_nil ?_
  refine c_sr ?_
  refine l_v rfl (r_fieldAddr Seat.fld_role rfl) ?_
  refine l_v rfl (r_load1 (v := vU8 x.role) Tryz.isAgg28 rfl (Holds.sub (hM3.base (i := 0) rfl) (Seat.sub_role _))) ?_
  refine l_call (gn rfl) rfl rfl (r_call Tryz.call55 rfl) (f55 x.role) ?_
  rintro v6 w7 ⟨rfl, hK8⟩
  have hM9 := hM3.keep hK8
  refine l_v rfl (r_not rfl) ?_
  refine l_v rfl (r_assign rfl) ?_
  refine l_nil ?_
  refine c_ret ?_
  refine ret1 rfl rfl ?_
  exact ⟨rfl, hM9.kp⟩
theorem f89 {A : Nat → Prop} {w : World} {s : Sl} {l : List Seat} (hR : Row A w s 66 Seat.cells l) : Ret 89 #[s.val, .func (.func 54) #[] #[]] w (fun v w' => v = .int .i64 (idxOf badSeat l) ∧ Keeps [] w w') := by
  have hn := hR.bd
  have hM0 := Mem.start w
  refine enter Tryz.func89 rfl rfl ?_
  refine c_sr ?_
  refine l_v rfl (r_assign rfl) ?_
  refine l_nil ?_
  refine c_seq ?_
  refine c_sr ?_
  refine l_v rfl (r_move rfl) ?_
  refine l_v rfl (r_lenR Tryz.underlying32 rfl hR.len) ?_
  refine l_v rfl (r_move rfl) ?_
  refine l_nil ?_
  refine c_block ?_
  refine c_loop (ι := Nat) (fun k w_ => Mem w [] [] w_ ∧ (k ≤ l.length ∧ ∀ j x, j < k → l[j]? = some x → badSeat x = false)) (fun k => [(0, Sl.val s), (1, Value.func (Fn.func 54) #[] #[]), (7, Value.int .i64 ((l.length : Nat) : Int)), (8, Value.int .i64 ((k : Nat) : Int))]) (fun k => l.length - k) 0 ⟨hM0, Nat.zero_le _, fun _ _ h => absurd h (Nat.not_lt_zero _)⟩ ⟨rfl, rfl, rfl, rfl, trivial⟩ ?_
  rintro k w1 ⟨hM2, hk, hno⟩
  refine c_sr ?_
  refine l_v rfl (r_lss (b := decide ((k : Nat) < l.length)) rfl rfl (nlt k l.length)) ?_
  refine l_nil ?_
  refine c_seq ?_
  refine ways (decide ((k : Nat) < l.length)) (fun h3 => ?_) (fun h3 => ?_)
  ·skip
   have hp4 : (k : Nat) < l.length := of_decide_eq_true h3
   refine c_condT rfl h3 ?_
   refine c_skip ?_
   refine c_seq ?_
   refine c_block ?_
   refine c_sr ?_
   refine l_v rfl (r_move rfl) ?_
   refine l_v rfl (r_assign rfl) ?_
   refine l_nil ?_
   refine c_sr ?_
   refine l_v rfl (r_move rfl) ?_
   refine l_v rfl (r_move rfl) ?_
   refine l_v rfl (r_move rfl) ?_
   have hlt5 : k < l.length := by first | assumption | omega
   obtain ⟨x5, hx5⟩ : ∃ x, l[k]? = some x := ⟨_, List.getElem?_eq_getElem hlt5⟩
   obtain ⟨p5, o5, ha5, hA5, -⟩ := (hR.keep0 hM2.kp).at_ _ _ hx5
   refine l_v rfl (r_indexR Tryz.underlying32 Tryz.sizeOf73 ⟨_, (hR.keep0 hM2.kp)⟩ rfl ha5 rfl hlt5) ?_
   refine l_v rfl (r_loadA Tryz.isAgg73 Tryz.sizeOf73 (Seat.size _) rfl ((hR.keep0 hM2.kp).ix hx5 ha5)) ?_
   refine l_call (gn rfl) rfl rfl (r_callv (cap := []) rfl Tryz.call54 rfl) (f54 x5) ?_
   rintro v6 w7 ⟨rfl, hK8⟩
   have hM9 := hM2.keep hK8
   refine l_nil ?_
   refine ways (badSeat x5) (fun h10 => ?_) (fun h10 => ?_)
   ·skip
    refine c_condT rfl h10 ?_
    refine c_sr ?_
    refine l_v rfl (r_move rfl) ?_
    refine l_v rfl (r_assign rfl) ?_
    refine l_nil ?_
    refine c_ret ?_
    refine ret1 rfl rfl ?_
    exact ⟨by rw [idxOf_at (p := badSeat) hx5 (by assumption) hno], hM9.kp⟩
   ·skip
    refine c_condF rfl h10 ?_
    refine c_skip ?_
    refine c_reg ?_
    refine l_v rfl (r_add (r := ((k + 1 : Nat) : Int)) rfl rfl (nadd (i := k) (k := 1) (m := k + 1) (by omega) (by omega))) ?_
    refine l_v rfl (r_move rfl) ?_
    refine l_nil ?_
    intro a_ ha_
    refine ⟨k + 1, ⟨hM9, ?_⟩, by omega, ha_.sub ⟨rfl, rfl, rfl, rfl, trivial⟩⟩
    exact ⟨by omega, no_step hx5 (by assumption) hno⟩
  ·skip
   have hp11 : ¬ ((k : Nat) < l.length) := of_decide_eq_false h3
   refine c_condF rfl h3 ?_
   refine c_exit rfl ?_
   refine c_sr ?_
   refine l_v rfl (r_assign rfl) ?_
   refine l_nil ?_
   refine c_ret ?_
   refine ret1 rfl rfl ?_
   exact ⟨by rw [idxOf_no (p := badSeat) (fun j y hj => hno j y (by omega))], hM2.kp⟩
theorem f53 {A : Nat → Prop} {w : World} {s : Sl} {l : List Seat} (hR : Row A w s 66 Seat.cells l) : Ret 53 #[s.val, .func (.func 54) #[] #[]] w (fun v w' => v = .bool (l.any badSeat) ∧ Keeps [] w w') := by
  have hM0 := Mem.start w
  refine enter Tryz.func53 rfl rfl ?_
  refine c_sr ?_
  refine l_v rfl (r_assign rfl) ?_
  refine l_nil ?_
  refine c_sr ?_
  refine l_v rfl (r_move rfl) ?_
  refine l_v rfl (r_move rfl) ?_
  refine l_call (gn rfl) rfl rfl (r_call Tryz.call89 rfl) (f89 hR) ?_
  rintro v1 w2 ⟨rfl, hK3⟩
  have hM4 := hM0.keep hK3
  refine l_v rfl (r_geq (b := decide ((((0 : Nat) : Int) : Int) ≤ (idxOf badSeat l : Int))) rfl rfl rfl) ?_
  refine l_v rfl (r_assign rfl) ?_
  refine l_nil ?_
  refine c_ret ?_
  refine ret1 rfl rfl ?_
  exact ⟨congrArg Value.bool (any_idx badSeat l), hM4.kp⟩
theorem f57 {w : World} (x : Invite) : Ret 57 #[.agg x.cells] w (fun v w' => v = .bool (badInvite x) ∧ Keeps [] w w') := by
  have hM0 := Mem.start w
  refine enter Tryz.func57 rfl rfl ?_
  refine c_sr ?_
  refine l_box hM0 rfl rfl ?_
  intro b1 w2 hM3 hK4 hB5
  replace hM3 : Mem w [] [(b1, (Invite.cells x), 82)] w2 := hM3
  refine l_v rfl (r_assign rfl) ?_
  refine l_nil ?_
  refine c_sr ?_
  refine l_v rfl (r_fieldAddr Invite.fld_role rfl) ?_
  refine l_v rfl (r_load1 (v := vU8 x.role) Tryz.isAgg28 rfl (Holds.sub (hM3.base (i := 0) rfl) (Invite.sub_role _))) ?_
  refine l_call (gn rfl) rfl rfl (r_call Tryz.call55 rfl) (f55 x.role) ?_
  rintro v6 w7 ⟨rfl, hK8⟩
  have hM9 := hM3.keep hK8
  refine l_v rfl (r_not rfl) ?_
  refine l_v rfl (r_assign rfl) ?_
  refine l_nil ?_
  refine c_ret ?_
  refine ret1 rfl rfl ?_
  exact ⟨rfl, hM9.kp⟩
theorem f90 {A : Nat → Prop} {w : World} {s : Sl} {l : List Invite} (hR : Row A w s 129 Invite.cells l) : Ret 90 #[s.val, .func (.func 57) #[] #[]] w (fun v w' => v = .int .i64 (idxOf badInvite l) ∧ Keeps [] w w') := by
  have hn := hR.bd
  have hM0 := Mem.start w
  refine enter Tryz.func90 rfl rfl ?_
  refine c_sr ?_
  refine l_v rfl (r_assign rfl) ?_
  refine l_nil ?_
  refine c_seq ?_
  refine c_sr ?_
  refine l_v rfl (r_move rfl) ?_
  refine l_v rfl (r_lenR Tryz.underlying33 rfl hR.len) ?_
  refine l_v rfl (r_move rfl) ?_
  refine l_nil ?_
  refine c_block ?_
  refine c_loop (ι := Nat) (fun k w_ => Mem w [] [] w_ ∧ (k ≤ l.length ∧ ∀ j x, j < k → l[j]? = some x → badInvite x = false)) (fun k => [(0, Sl.val s), (1, Value.func (Fn.func 57) #[] #[]), (7, Value.int .i64 ((l.length : Nat) : Int)), (8, Value.int .i64 ((k : Nat) : Int))]) (fun k => l.length - k) 0 ⟨hM0, Nat.zero_le _, fun _ _ h => absurd h (Nat.not_lt_zero _)⟩ ⟨rfl, rfl, rfl, rfl, trivial⟩ ?_
  rintro k w1 ⟨hM2, hk, hno⟩
  refine c_sr ?_
  refine l_v rfl (r_lss (b := decide ((k : Nat) < l.length)) rfl rfl (nlt k l.length)) ?_
  refine l_nil ?_
  refine c_seq ?_
  refine ways (decide ((k : Nat) < l.length)) (fun h3 => ?_) (fun h3 => ?_)
  ·skip
   have hp4 : (k : Nat) < l.length := of_decide_eq_true h3
   refine c_condT rfl h3 ?_
   refine c_skip ?_
   refine c_seq ?_
   refine c_block ?_
   refine c_sr ?_
   refine l_v rfl (r_move rfl) ?_
   refine l_v rfl (r_assign rfl) ?_
   refine l_nil ?_
   refine c_sr ?_
   refine l_v rfl (r_move rfl) ?_
   refine l_v rfl (r_move rfl) ?_
   refine l_v rfl (r_move rfl) ?_
   have hlt5 : k < l.length := by first | assumption | omega
   obtain ⟨x5, hx5⟩ : ∃ x, l[k]? = some x := ⟨_, List.getElem?_eq_getElem hlt5⟩
   obtain ⟨p5, o5, ha5, hA5, -⟩ := (hR.keep0 hM2.kp).at_ _ _ hx5
   refine l_v rfl (r_indexR Tryz.underlying33 Tryz.sizeOf82 ⟨_, (hR.keep0 hM2.kp)⟩ rfl ha5 rfl hlt5) ?_
   refine l_v rfl (r_loadA Tryz.isAgg82 Tryz.sizeOf82 (Invite.size _) rfl ((hR.keep0 hM2.kp).ix hx5 ha5)) ?_
   refine l_call (gn rfl) rfl rfl (r_callv (cap := []) rfl Tryz.call57 rfl) (f57 x5) ?_
   rintro v6 w7 ⟨rfl, hK8⟩
   have hM9 := hM2.keep hK8
   refine l_nil ?_
   refine ways (badInvite x5) (fun h10 => ?_) (fun h10 => ?_)
   ·skip
    refine c_condT rfl h10 ?_
    refine c_sr ?_
    refine l_v rfl (r_move rfl) ?_
    refine l_v rfl (r_assign rfl) ?_
    refine l_nil ?_
    refine c_ret ?_
    refine ret1 rfl rfl ?_
    exact ⟨by rw [idxOf_at (p := badInvite) hx5 (by assumption) hno], hM9.kp⟩
   ·skip
    refine c_condF rfl h10 ?_
    refine c_skip ?_
    refine c_reg ?_
    refine l_v rfl (r_add (r := ((k + 1 : Nat) : Int)) rfl rfl (nadd (i := k) (k := 1) (m := k + 1) (by omega) (by omega))) ?_
    refine l_v rfl (r_move rfl) ?_
    refine l_nil ?_
    intro a_ ha_
    refine ⟨k + 1, ⟨hM9, ?_⟩, by omega, ha_.sub ⟨rfl, rfl, rfl, rfl, trivial⟩⟩
    exact ⟨by omega, no_step hx5 (by assumption) hno⟩
  ·skip
   have hp11 : ¬ ((k : Nat) < l.length) := of_decide_eq_false h3
   refine c_condF rfl h3 ?_
   refine c_exit rfl ?_
   refine c_sr ?_
   refine l_v rfl (r_assign rfl) ?_
   refine l_nil ?_
   refine c_ret ?_
   refine ret1 rfl rfl ?_
   exact ⟨by rw [idxOf_no (p := badInvite) (fun j y hj => hno j y (by omega))], hM2.kp⟩
theorem f56 {A : Nat → Prop} {w : World} {s : Sl} {l : List Invite} (hR : Row A w s 129 Invite.cells l) : Ret 56 #[s.val, .func (.func 57) #[] #[]] w (fun v w' => v = .bool (l.any badInvite) ∧ Keeps [] w w') := by
  have hM0 := Mem.start w
  refine enter Tryz.func56 rfl rfl ?_
  refine c_sr ?_
  refine l_v rfl (r_assign rfl) ?_
  refine l_nil ?_
  refine c_sr ?_
  refine l_v rfl (r_move rfl) ?_
  refine l_v rfl (r_move rfl) ?_
  refine l_call (gn rfl) rfl rfl (r_call Tryz.call90 rfl) (f90 hR) ?_
  rintro v1 w2 ⟨rfl, hK3⟩
  have hM4 := hM0.keep hK3
  refine l_v rfl (r_geq (b := decide ((((0 : Nat) : Int) : Int) ≤ (idxOf badInvite l : Int))) rfl rfl rfl) ?_
  refine l_v rfl (r_assign rfl) ?_
  refine l_nil ?_
  refine c_ret ?_
  refine ret1 rfl rfl ?_
  exact ⟨congrArg Value.bool (any_idx badInvite l), hM4.kp⟩
theorem f28 {A : Nat → Prop} {w : World} {S : State} {q : Six} (hS : StV A w q S) : Ret 28 #[.agg (S.rep q).cells] w (fun v w' => ∃ r : Bool, v = .bool r ∧ (r = true ↔ OkState S) ∧ Keeps [] w w') := by
  have hs1 := hS.seats.lt (fun e => by rw [Seat.size]; decide)
  have hs2 := hS.invites.lt (fun e => by rw [Invite.size]; decide)
  have hs3 := hS.asks.lt (fun e => by rw [Ask.size]; decide)
  have hs4 := hS.bans.lt (fun e => by rw [Ban.size]; decide)
  obtain ⟨hn1, hn2, hn3, hn4, hn5, hn6⟩ := hS.bd
  have hM0 := Mem.start w
  refine enter Tryz.func28 rfl rfl ?_
  refine c_sr ?_
  refine l_box hM0 rfl rfl ?_
  intro b1 w2 hM3 hK4 hB5
  replace hM3 : Mem w [] [(b1, (SRep.cells ((SRep.mk S.ver S.key q.t S.acc q.p q.s q.i q.a q.b))), 37)] w2 := hM3
  refine l_v rfl (r_assign rfl) ?_
  refine l_nil ?_
  refine c_seq ?_
  refine c_seq ?_
  refine c_join (ι := Unit) (fun _ w_ => Mem w [] [(b1, (SRep.cells ((SRep.mk S.ver S.key q.t S.acc q.p q.s q.i q.a q.b))), 37)] w_) (fun _ => [(0, Value.agg (SRep.cells ((SRep.mk S.ver S.key q.t S.acc q.p q.s q.i q.a q.b)))), (1, Value.pointer (some ⟨b1, 0, none⟩)), (2, Value.bool false), (26, Value.bool (badHead S))]) ?_ ?_
  ·skip
   refine c_reg ?_
   refine l_v rfl (r_fieldAddr SRep.fld_title rfl) ?_
   refine l_v rfl (r_load1 (v := Sl.val q.t) Tryz.isAgg27 rfl (Holds.sub (hM3.base (i := 0) rfl) (SRep.sub_title _))) ?_
   refine l_v rfl (r_lenR Tryz.underlying27 rfl (hS.title.keep0 hM3.kp).len) ?_
   refine l_v rfl (r_gtr (b := decide ((200 : Nat) < S.title.length)) rfl rfl (nlt 200 S.title.length)) ?_
   refine l_v rfl (r_move rfl) ?_
   refine ways (decide ((200 : Nat) < S.title.length)) (fun h6 => ?_) (fun h6 => ?_)
   ·skip
    have hp7 : (200 : Nat) < S.title.length := of_decide_eq_true h6
    refine l_off (gno rfl rfl rfl rfl h6) rfl rfl ?_
    refine l_off (gno rfl rfl rfl rfl h6) rfl rfl ?_
    refine l_off (gno rfl rfl rfl rfl h6) rfl rfl ?_
    refine l_off (gno rfl rfl rfl rfl h6) rfl rfl ?_
    refine l_off (gno rfl rfl rfl rfl h6) rfl rfl ?_
    refine l_v rfl (r_pickT rfl h6 rfl) ?_
    refine l_v rfl (r_move rfl) ?_
    refine l_off (gno rfl rfl rfl rfl rfl) rfl rfl ?_
    refine l_off (gno rfl rfl rfl rfl rfl) rfl rfl ?_
    refine l_off (gno rfl rfl rfl rfl rfl) rfl rfl ?_
    refine l_off (gno rfl rfl rfl rfl rfl) rfl rfl ?_
    refine l_v rfl (r_pickT rfl rfl rfl) ?_
    refine l_v rfl (r_move rfl) ?_
    refine l_off (gno rfl rfl rfl rfl rfl) rfl rfl ?_
    refine l_off (gno rfl rfl rfl rfl rfl) rfl rfl ?_
    refine l_off (gno rfl rfl rfl rfl rfl) rfl rfl ?_
    refine l_off (gno rfl rfl rfl rfl rfl) rfl rfl ?_
    refine l_v rfl (r_pickT rfl rfl rfl) ?_
    refine l_nil ?_
    exact jn () hM3 ⟨rfl, rfl, rfl, okB (by rw [badHead_eq]; simp only [h6]; simp), trivial⟩
   ·skip
    have hp8 : ¬ ((200 : Nat) < S.title.length) := of_decide_eq_false h6
    refine l_val (gy rfl rfl rfl rfl h6) rfl rfl (r_fieldAddr SRep.fld_pass rfl) ?_
    refine l_val (gy rfl rfl rfl rfl h6) rfl rfl (r_load1 (v := Sl.val q.p) Tryz.isAgg27 rfl (Holds.sub (hM3.base (i := 0) rfl) (SRep.sub_pass _))) ?_
    refine l_val (gy rfl rfl rfl rfl h6) rfl rfl (r_lenR Tryz.underlying27 rfl (hS.pass.keep0 hM3.kp).len) ?_
    refine l_val (gy rfl rfl rfl rfl h6) rfl rfl (r_rem (r := ((S.pass.length % 16 : Nat) : Int)) rfl rfl (by decide) (u64rem S.pass.length 16)) ?_
    refine l_val (gy rfl rfl rfl rfl h6) rfl rfl (r_neq (b := (!(decide ((S.pass.length % 16 : Nat) = 0)))) rfl rfl (congrArg Bool.not (neq' (S.pass.length % 16) 0))) ?_
    refine l_v rfl (r_pickF rfl h6 rfl) ?_
    refine l_v rfl (r_move rfl) ?_
    refine ways (decide ((S.pass.length % 16 : Nat) = 0)) (fun h9 => ?_) (fun h9 => ?_)
    ·skip
     have hp10 : (S.pass.length % 16 : Nat) = 0 := of_decide_eq_true h9
     refine l_val (gy rfl rfl rfl rfl (congrArg Bool.not h9)) rfl rfl (r_fieldAddr SRep.fld_pass rfl) ?_
     refine l_val (gy rfl rfl rfl rfl (congrArg Bool.not h9)) rfl rfl (r_load1 (v := Sl.val q.p) Tryz.isAgg27 rfl (Holds.sub (hM3.base (i := 0) rfl) (SRep.sub_pass _))) ?_
     refine l_val (gy rfl rfl rfl rfl (congrArg Bool.not h9)) rfl rfl (r_lenR Tryz.underlying27 rfl (hS.pass.keep0 hM3.kp).len) ?_
     refine l_val (gy rfl rfl rfl rfl (congrArg Bool.not h9)) rfl rfl (r_gtr (b := decide ((16 : Nat) < S.pass.length)) rfl rfl (nlt 16 S.pass.length)) ?_
     refine l_v rfl (r_pickF rfl (congrArg Bool.not h9) rfl) ?_
     refine l_v rfl (r_move rfl) ?_
     refine ways (decide ((16 : Nat) < S.pass.length)) (fun h11 => ?_) (fun h11 => ?_)
     ·skip
      have hp12 : (16 : Nat) < S.pass.length := of_decide_eq_true h11
      refine l_off (gno rfl rfl rfl rfl h11) rfl rfl ?_
      refine l_off (gno rfl rfl rfl rfl h11) rfl rfl ?_
      refine l_off (gno rfl rfl rfl rfl h11) rfl rfl ?_
      refine l_off (gno rfl rfl rfl rfl h11) rfl rfl ?_
      refine l_v rfl (r_pickT rfl h11 rfl) ?_
      refine l_nil ?_
      exact jn () hM3 ⟨rfl, rfl, rfl, okB (by rw [badHead_eq]; simp only [h6, h9, h11]; simp), trivial⟩
     ·skip
      have hp13 : ¬ ((16 : Nat) < S.pass.length) := of_decide_eq_false h11
      refine l_val (gy rfl rfl rfl rfl h11) rfl rfl (r_fieldAddr SRep.fld_acc rfl) ?_
      refine l_val (gy rfl rfl rfl rfl h11) rfl rfl (r_loadA Tryz.isAgg31 Tryz.sizeOf31 (Access.size _) rfl (Holds.sub (hM3.base (i := 0) rfl) (SRep.sub_acc _))) ?_
      refine l_call (gy rfl rfl rfl rfl h11) rfl rfl (r_call Tryz.call44 rfl) (f44 S.acc) ?_
      rintro v14 w15 ⟨rfl, hK16⟩
      have hM17 := hM3.keep hK16
      refine l_val (gy rfl rfl rfl rfl h11) rfl rfl (r_not rfl) ?_
      refine l_v rfl (r_pickF rfl h11 rfl) ?_
      refine l_nil ?_
      exact jn () hM17 ⟨rfl, rfl, rfl, okB (by rw [badHead_eq]; simp only [h6, h9, h11]; simp), trivial⟩
    ·skip
     have hp18 : ¬ ((S.pass.length % 16 : Nat) = 0) := of_decide_eq_false h9
     refine l_off (gno rfl rfl rfl rfl (congrArg Bool.not h9)) rfl rfl ?_
     refine l_off (gno rfl rfl rfl rfl (congrArg Bool.not h9)) rfl rfl ?_
     refine l_off (gno rfl rfl rfl rfl (congrArg Bool.not h9)) rfl rfl ?_
     refine l_off (gno rfl rfl rfl rfl (congrArg Bool.not h9)) rfl rfl ?_
     refine l_v rfl (r_pickT rfl (congrArg Bool.not h9) rfl) ?_
     refine l_v rfl (r_move rfl) ?_
     refine l_off (gno rfl rfl rfl rfl rfl) rfl rfl ?_
     refine l_off (gno rfl rfl rfl rfl rfl) rfl rfl ?_
     refine l_off (gno rfl rfl rfl rfl rfl) rfl rfl ?_
     refine l_off (gno rfl rfl rfl rfl rfl) rfl rfl ?_
     refine l_v rfl (r_pickT rfl rfl rfl) ?_
     refine l_nil ?_
     exact jn () hM3 ⟨rfl, rfl, rfl, okB (by rw [badHead_eq]; simp only [h6, h9]; simp), trivial⟩
  ·skip
   rintro - w19 hM20
   refine ways (badHead S) (fun h21 => ?_) (fun h21 => ?_)
   ·skip
    refine c_condT rfl h21 ?_
    refine c_sr ?_
    refine l_v rfl (r_assign rfl) ?_
    refine l_nil ?_
    refine c_ret ?_
    refine ret1 rfl rfl ?_
    exact ⟨false, rfl, ⟨fun e => (by cases e), fun hok => (head_bad h21 hok).elim⟩, hM20.kp⟩
   ·skip
    refine c_condF rfl h21 ?_
    refine c_skip ?_
    refine c_sr ?_
    refine l_makeMap hM20 rfl ?_
    intro b22 w23 hM24 hK25 hB26 hm27
    have hbW : w.heap.size ≤ b22 := Nat.le_trans hM20.kp.size hB26
    have hbL : ∀ e ∈ ([(b1, (SRep.cells ((SRep.mk S.ver S.key q.t S.acc q.p q.s q.i q.a q.b))), 37)] : List Ent), e.1 < b22 := fun e he => Nat.lt_of_lt_of_le (hM20.lt e he) hB26
    refine l_v rfl (r_assign rfl) ?_
    refine l_nil ?_
    refine c_sr ?_
    refine l_v rfl (r_fieldAddr SRep.fld_seats rfl) ?_
    refine l_v rfl (r_load1 (v := Sl.val q.s) Tryz.isAgg32 rfl (Holds.sub (hM24.base (i := 0) rfl) (SRep.sub_seats _))) ?_
    refine l_v rfl (r_move rfl) ?_
    refine l_call (gn rfl) rfl rfl (r_call Tryz.call45 rfl) (f45 (A := fun x => A x ∧ x < w.heap.size) (hs1.keep0 hM24.kp) (fun h => absurd h.2 (Nat.not_lt.2 hbW)) hm27) ?_
    rintro v28 w29 ⟨r32, rfl, hr33, hm34, hK30⟩
    have hM31 := hM24.newer hK30 (base := b22) (by simp [New]) hbW hbL
    refine l_v rfl (r_move rfl) ?_
    refine ways r32 (fun h35 => ?_) (fun h35 => ?_)
    ·skip
     refine l_val (gy rfl rfl rfl rfl h35) rfl rfl (r_fieldAddr SRep.fld_invites rfl) ?_
     refine l_val (gy rfl rfl rfl rfl h35) rfl rfl (r_load1 (v := Sl.val q.i) Tryz.isAgg33 rfl (Holds.sub (hM31.base (i := 0) rfl) (SRep.sub_invites _))) ?_
     refine l_val (gy rfl rfl rfl rfl h35) rfl rfl (r_move rfl) ?_
     refine l_call (gy rfl rfl rfl rfl h35) rfl rfl (r_call Tryz.call47 rfl) (f47 (A := fun x => A x ∧ x < w.heap.size) (hs2.keep0 hM31.kp) (fun h => absurd h.2 (Nat.not_lt.2 hbW)) (hm34 h35)) ?_
     rintro v36 w37 ⟨r40, rfl, hr41, hm42, hK38⟩
     have hM39 := hM31.newer hK38 (base := b22) (by simp [New]) hbW hbL
     refine l_v rfl (r_pickT rfl h35 rfl) ?_
     refine l_v rfl (r_move rfl) ?_
     refine ways r40 (fun h43 => ?_) (fun h43 => ?_)
     ·skip
      refine l_val (gy rfl rfl rfl rfl h43) rfl rfl (r_fieldAddr SRep.fld_asks rfl) ?_
      refine l_val (gy rfl rfl rfl rfl h43) rfl rfl (r_load1 (v := Sl.val q.a) Tryz.isAgg34 rfl (Holds.sub (hM39.base (i := 0) rfl) (SRep.sub_asks _))) ?_
      refine l_val (gy rfl rfl rfl rfl h43) rfl rfl (r_move rfl) ?_
      refine l_call (gy rfl rfl rfl rfl h43) rfl rfl (r_call Tryz.call49 rfl) (f49 (A := fun x => A x ∧ x < w.heap.size) (hs3.keep0 hM39.kp) (fun h => absurd h.2 (Nat.not_lt.2 hbW)) (hm42 h43)) ?_
      rintro v44 w45 ⟨r48, rfl, hr49, hm50, hK46⟩
      have hM47 := hM39.newer hK46 (base := b22) (by simp [New]) hbW hbL
      refine l_v rfl (r_pickT rfl h43 rfl) ?_
      refine l_v rfl (r_move rfl) ?_
      refine ways r48 (fun h51 => ?_) (fun h51 => ?_)
      ·skip
       refine l_val (gy rfl rfl rfl rfl h51) rfl rfl (r_fieldAddr SRep.fld_bans rfl) ?_
       refine l_val (gy rfl rfl rfl rfl h51) rfl rfl (r_load1 (v := Sl.val q.b) Tryz.isAgg35 rfl (Holds.sub (hM47.base (i := 0) rfl) (SRep.sub_bans _))) ?_
       refine l_val (gy rfl rfl rfl rfl h51) rfl rfl (r_move rfl) ?_
       refine l_call (gy rfl rfl rfl rfl h51) rfl rfl (r_call Tryz.call51 rfl) (f51 (A := fun x => A x ∧ x < w.heap.size) (hs4.keep0 hM47.kp) (fun h => absurd h.2 (Nat.not_lt.2 hbW)) (hm50 h51)) ?_
       rintro v52 w53 ⟨r56, rfl, hr57, hm58, hK54⟩
       have hM55 := hM47.newer hK54 (base := b22) (by simp [New]) hbW hbL
       refine l_v rfl (r_pickT rfl h51 rfl) ?_
       refine l_v rfl (r_move rfl) ?_
       refine ways r56 (fun h59 => ?_) (fun h59 => ?_)
       ·skip
        refine l_val (gy rfl rfl rfl rfl h59) rfl rfl (r_fieldAddr SRep.fld_seats rfl) ?_
        refine l_val (gy rfl rfl rfl rfl h59) rfl rfl (r_load1 (v := Sl.val q.s) Tryz.isAgg32 rfl (Holds.sub (hM55.base (i := 0) rfl) (SRep.sub_seats _))) ?_
        refine l_call (gy rfl rfl rfl rfl h59) rfl rfl (r_call Tryz.call53 rfl) (f53 (hS.seats.keep0 hM55.kp)) ?_
        rintro v60 w61 ⟨rfl, hK62⟩
        have hM63 := hM55.keep hK62
        refine l_val (gy rfl rfl rfl rfl h59) rfl rfl (r_not rfl) ?_
        refine l_v rfl (r_pickT rfl h59 rfl) ?_
        refine l_v rfl (r_move rfl) ?_
        refine ways (S.seats.any badSeat) (fun h64 => ?_) (fun h64 => ?_)
        ·skip
         refine l_off (gno rfl rfl rfl rfl (congrArg Bool.not h64)) rfl rfl ?_
         refine l_off (gno rfl rfl rfl rfl (congrArg Bool.not h64)) rfl rfl ?_
         refine l_off (gno rfl rfl rfl rfl (congrArg Bool.not h64)) rfl rfl ?_
         refine l_off (gno rfl rfl rfl rfl (congrArg Bool.not h64)) rfl rfl ?_
         refine l_v rfl (r_pickF rfl (congrArg Bool.not h64) rfl) ?_
         refine l_v rfl (r_assign rfl) ?_
         refine l_nil ?_
         refine c_ret ?_
         refine ret1 rfl rfl ?_
         refine ⟨false, rfl, ⟨fun e => (by cases e), fun hok => ?_⟩, hM63.kp⟩
         have := ((ok_rolls S).1 hok).2.2.2.2.2.1
         rw [h64] at this; cases this
        ·skip
         refine l_val (gy rfl rfl rfl rfl (congrArg Bool.not h64)) rfl rfl (r_fieldAddr SRep.fld_invites rfl) ?_
         refine l_val (gy rfl rfl rfl rfl (congrArg Bool.not h64)) rfl rfl (r_load1 (v := Sl.val q.i) Tryz.isAgg33 rfl (Holds.sub (hM63.base (i := 0) rfl) (SRep.sub_invites _))) ?_
         refine l_call (gy rfl rfl rfl rfl (congrArg Bool.not h64)) rfl rfl (r_call Tryz.call56 rfl) (f56 (hS.invites.keep0 hM63.kp)) ?_
         rintro v65 w66 ⟨rfl, hK67⟩
         have hM68 := hM63.keep hK67
         refine l_val (gy rfl rfl rfl rfl (congrArg Bool.not h64)) rfl rfl (r_not rfl) ?_
         refine l_v rfl (r_pickT rfl (congrArg Bool.not h64) rfl) ?_
         refine l_v rfl (r_assign rfl) ?_
         refine l_nil ?_
         refine c_ret ?_
         refine ret1 rfl rfl ?_
         refine ⟨!S.invites.any badInvite, rfl, ?_, hM68.kp⟩
         rw [ok_rolls]
         refine ⟨fun e => ⟨h21, hr33.1 h35, hr41.1 h43, hr49.1 h51, hr57.1 h59, h64, by simpa using e⟩, fun e => by simpa using e.2.2.2.2.2.2⟩
       ·skip
        refine l_off (gno rfl rfl rfl rfl h59) rfl rfl ?_
        refine l_off (gno rfl rfl rfl rfl h59) rfl rfl ?_
        refine l_off (gno rfl rfl rfl rfl h59) rfl rfl ?_
        refine l_off (gno rfl rfl rfl rfl h59) rfl rfl ?_
        refine l_v rfl (r_pickF rfl h59 rfl) ?_
        refine l_v rfl (r_move rfl) ?_
        refine l_off (gno rfl rfl rfl rfl rfl) rfl rfl ?_
        refine l_off (gno rfl rfl rfl rfl rfl) rfl rfl ?_
        refine l_off (gno rfl rfl rfl rfl rfl) rfl rfl ?_
        refine l_off (gno rfl rfl rfl rfl rfl) rfl rfl ?_
        refine l_v rfl (r_pickF rfl rfl rfl) ?_
        refine l_v rfl (r_assign rfl) ?_
        refine l_nil ?_
        refine c_ret ?_
        refine ret1 rfl rfl ?_
        refine ⟨false, rfl, ⟨fun e => (by cases e), fun hok => ?_⟩, hM55.kp⟩
        have := hr57.2 ((ok_rolls S).1 hok).2.2.2.2.1
        rw [h59] at this; cases this
      ·skip
       refine l_off (gno rfl rfl rfl rfl h51) rfl rfl ?_
       refine l_off (gno rfl rfl rfl rfl h51) rfl rfl ?_
       refine l_off (gno rfl rfl rfl rfl h51) rfl rfl ?_
       refine l_off (gno rfl rfl rfl rfl h51) rfl rfl ?_
       refine l_v rfl (r_pickF rfl h51 rfl) ?_
       refine l_v rfl (r_move rfl) ?_
       refine l_off (gno rfl rfl rfl rfl rfl) rfl rfl ?_
       refine l_off (gno rfl rfl rfl rfl rfl) rfl rfl ?_
       refine l_off (gno rfl rfl rfl rfl rfl) rfl rfl ?_
       refine l_off (gno rfl rfl rfl rfl rfl) rfl rfl ?_
       refine l_v rfl (r_pickF rfl rfl rfl) ?_
       refine l_v rfl (r_move rfl) ?_
       refine l_off (gno rfl rfl rfl rfl rfl) rfl rfl ?_
       refine l_off (gno rfl rfl rfl rfl rfl) rfl rfl ?_
       refine l_off (gno rfl rfl rfl rfl rfl) rfl rfl ?_
       refine l_off (gno rfl rfl rfl rfl rfl) rfl rfl ?_
       refine l_v rfl (r_pickF rfl rfl rfl) ?_
       refine l_v rfl (r_assign rfl) ?_
       refine l_nil ?_
       refine c_ret ?_
       refine ret1 rfl rfl ?_
       refine ⟨false, rfl, ⟨fun e => (by cases e), fun hok => ?_⟩, hM47.kp⟩
       have := hr49.2 ((ok_rolls S).1 hok).2.2.2.1
       rw [h51] at this; cases this
     ·skip
      refine l_off (gno rfl rfl rfl rfl h43) rfl rfl ?_
      refine l_off (gno rfl rfl rfl rfl h43) rfl rfl ?_
      refine l_off (gno rfl rfl rfl rfl h43) rfl rfl ?_
      refine l_off (gno rfl rfl rfl rfl h43) rfl rfl ?_
      refine l_v rfl (r_pickF rfl h43 rfl) ?_
      refine l_v rfl (r_move rfl) ?_
      refine l_off (gno rfl rfl rfl rfl rfl) rfl rfl ?_
      refine l_off (gno rfl rfl rfl rfl rfl) rfl rfl ?_
      refine l_off (gno rfl rfl rfl rfl rfl) rfl rfl ?_
      refine l_off (gno rfl rfl rfl rfl rfl) rfl rfl ?_
      refine l_v rfl (r_pickF rfl rfl rfl) ?_
      refine l_v rfl (r_move rfl) ?_
      refine l_off (gno rfl rfl rfl rfl rfl) rfl rfl ?_
      refine l_off (gno rfl rfl rfl rfl rfl) rfl rfl ?_
      refine l_off (gno rfl rfl rfl rfl rfl) rfl rfl ?_
      refine l_off (gno rfl rfl rfl rfl rfl) rfl rfl ?_
      refine l_v rfl (r_pickF rfl rfl rfl) ?_
      refine l_v rfl (r_move rfl) ?_
      refine l_off (gno rfl rfl rfl rfl rfl) rfl rfl ?_
      refine l_off (gno rfl rfl rfl rfl rfl) rfl rfl ?_
      refine l_off (gno rfl rfl rfl rfl rfl) rfl rfl ?_
      refine l_off (gno rfl rfl rfl rfl rfl) rfl rfl ?_
      refine l_v rfl (r_pickF rfl rfl rfl) ?_
      refine l_v rfl (r_assign rfl) ?_
      refine l_nil ?_
      refine c_ret ?_
      refine ret1 rfl rfl ?_
      refine ⟨false, rfl, ⟨fun e => (by cases e), fun hok => ?_⟩, hM39.kp⟩
      have := hr41.2 ((ok_rolls S).1 hok).2.2.1
      rw [h43] at this; cases this
    ·skip
     refine l_off (gno rfl rfl rfl rfl h35) rfl rfl ?_
     refine l_off (gno rfl rfl rfl rfl h35) rfl rfl ?_
     refine l_off (gno rfl rfl rfl rfl h35) rfl rfl ?_
     refine l_off (gno rfl rfl rfl rfl h35) rfl rfl ?_
     refine l_v rfl (r_pickF rfl h35 rfl) ?_
     refine l_v rfl (r_move rfl) ?_
     refine l_off (gno rfl rfl rfl rfl rfl) rfl rfl ?_
     refine l_off (gno rfl rfl rfl rfl rfl) rfl rfl ?_
     refine l_off (gno rfl rfl rfl rfl rfl) rfl rfl ?_
     refine l_off (gno rfl rfl rfl rfl rfl) rfl rfl ?_
     refine l_v rfl (r_pickF rfl rfl rfl) ?_
     refine l_v rfl (r_move rfl) ?_
     refine l_off (gno rfl rfl rfl rfl rfl) rfl rfl ?_
     refine l_off (gno rfl rfl rfl rfl rfl) rfl rfl ?_
     refine l_off (gno rfl rfl rfl rfl rfl) rfl rfl ?_
     refine l_off (gno rfl rfl rfl rfl rfl) rfl rfl ?_
     refine l_v rfl (r_pickF rfl rfl rfl) ?_
     refine l_v rfl (r_move rfl) ?_
     refine l_off (gno rfl rfl rfl rfl rfl) rfl rfl ?_
     refine l_off (gno rfl rfl rfl rfl rfl) rfl rfl ?_
     refine l_off (gno rfl rfl rfl rfl rfl) rfl rfl ?_
     refine l_off (gno rfl rfl rfl rfl rfl) rfl rfl ?_
     refine l_v rfl (r_pickF rfl rfl rfl) ?_
     refine l_v rfl (r_move rfl) ?_
     refine l_off (gno rfl rfl rfl rfl rfl) rfl rfl ?_
     refine l_off (gno rfl rfl rfl rfl rfl) rfl rfl ?_
     refine l_off (gno rfl rfl rfl rfl rfl) rfl rfl ?_
     refine l_off (gno rfl rfl rfl rfl rfl) rfl rfl ?_
     refine l_v rfl (r_pickF rfl rfl rfl) ?_
     refine l_v rfl (r_assign rfl) ?_
     refine l_nil ?_
     refine c_ret ?_
     refine ret1 rfl rfl ?_
     refine ⟨false, rfl, ⟨fun e => (by cases e), fun hok => ?_⟩, hM31.kp⟩
     have := hr33.2 ((ok_rolls S).1 hok).2.1
     rw [h35] at this; cases this
end Go.Proofs.YtekhaogjmmmniaaGreat
namespace Go.Proofs.YtekhaogjmmmniaaGreat
open Go Go.RowKit

theorem f31 {A : Nat → Prop} {w : World} {s : Sl} {l : List UInt8} (hR : Row A w s 1 encB l) : Ret 31 #[s.val] w (fun v w' => ∃ s' : Sl, v = s'.val ∧ Own w.heap.size 5 w' s' 1 encB l ∧ Keeps [] w w') := by
  have hn := hR.bd
  have hM0 := Mem.start w
  have hBs1 : w.heap.size ≤ w.heap.size := Nat.le_refl _
  have hBl2 : True := by simp
  refine enter Tryz.func31 rfl rfl ?_
  refine c_sr ?_
  refine l_v rfl (r_assign rfl) ?_
  refine l_nil ?_
  refine c_seq ?_
  refine c_sr ?_
  refine l_v rfl (r_move rfl) ?_
  refine l_v rfl (r_isNil Tryz.underlying27 rfl rfl) ?_
  refine l_nil ?_
  refine ways s.a.isNone (fun h3 => ?_) (fun h3 => ?_)
  ·skip
   refine c_condT rfl h3 ?_
   refine c_sr ?_
   refine l_v rfl (r_assign rfl) ?_
   refine l_nil ?_
   refine c_ret ?_
   refine ret1 rfl rfl ?_
   exact ⟨Sl.nil, rfl, by rw [hR.none (by assumption)]; exact Own.nil _ _ _, hM0.kp⟩
  ·skip
   refine c_condF rfl h3 ?_
   refine c_skip ?_
   refine c_sr ?_
   refine l_slice0 (enc := encB) (base := w.heap.size) hM0 elB rfl hM0.kp.size ?_
   intro sb4 w5 hM6 hK7 hO8
   refine l_v rfl (r_move rfl) ?_
   refine l_append (l := []) (m := l) (s := sb4) (s2 := s) (enc := encB) hM6 elB enB rfl (gn rfl) rfl rfl hO8 (hR.keep0 hM6.kp) (by simp; omega) hM6.kp.size hBs1 (by simp) ?_
   intro sa9 w10 Y11 hM12 hK13 hY14 hO15
   refine l_v rfl (r_assign rfl) ?_
   refine l_nil ?_
   refine c_ret ?_
   refine ret1 rfl rfl ?_
   exact ⟨sa9, rfl, by simpa using hO15, hM12.kp⟩
theorem f59 {A : Nat → Prop} {w : World} {s : Sl} {l : List Seat} (hR : Row A w s 66 Seat.cells l) (hb : l.length ≤ 1000000) : Ret 59 #[s.val] w (fun v w' => ∃ s' : Sl, v = s'.val ∧ Own w.heap.size 73 w' s' 66 Seat.cells l ∧ Keeps [] w w') := by
  have hn := hR.bd
  have hM0 := Mem.start w
  have hBs1 : w.heap.size ≤ w.heap.size := Nat.le_refl _
  have hBl2 : True := by simp
  refine enter Tryz.func59 rfl rfl ?_
  refine c_sr ?_
  refine l_v rfl (r_assign rfl) ?_
  refine l_nil ?_
  refine c_seq ?_
  refine c_sr ?_
  refine l_v rfl (r_move rfl) ?_
  refine l_v rfl (r_isNil Tryz.underlying32 rfl rfl) ?_
  refine l_nil ?_
  refine ways s.a.isNone (fun h3 => ?_) (fun h3 => ?_)
  ·skip
   refine c_condT rfl h3 ?_
   refine c_sr ?_
   refine l_v rfl (r_assign rfl) ?_
   refine l_nil ?_
   refine c_ret ?_
   refine ret1 rfl rfl ?_
   exact ⟨Sl.nil, rfl, by rw [hR.none (by assumption)]; exact Own.nil _ _ _, hM0.kp⟩
  ·skip
   refine c_condF rfl h3 ?_
   refine c_skip ?_
   refine c_sr ?_
   refine l_slice0 (enc := Seat.cells) (base := w.heap.size) hM0 elSeat rfl hM0.kp.size ?_
   intro sb4 w5 hM6 hK7 hO8
   refine l_v rfl (r_move rfl) ?_
   refine l_append (l := []) (m := l) (s := sb4) (s2 := s) (enc := Seat.cells) hM6 elSeat enSeat rfl (gn rfl) rfl rfl hO8 (hR.keep0 hM6.kp) (by simp; omega) hM6.kp.size hBs1 (by simp) ?_
   intro sa9 w10 Y11 hM12 hK13 hY14 hO15
   refine l_v rfl (r_assign rfl) ?_
   refine l_nil ?_
   refine c_ret ?_
   refine ret1 rfl rfl ?_
   exact ⟨sa9, rfl, by simpa using hO15, hM12.kp⟩
theorem f60 {A : Nat → Prop} {w : World} {s : Sl} {l : List Invite} (hR : Row A w s 129 Invite.cells l) (hb : l.length ≤ 1000000) : Ret 60 #[s.val] w (fun v w' => ∃ s' : Sl, v = s'.val ∧ Own w.heap.size 82 w' s' 129 Invite.cells l ∧ Keeps [] w w') := by
  have hn := hR.bd
  have hM0 := Mem.start w
  have hBs1 : w.heap.size ≤ w.heap.size := Nat.le_refl _
  have hBl2 : True := by simp
  refine enter Tryz.func60 rfl rfl ?_
  refine c_sr ?_
  refine l_v rfl (r_assign rfl) ?_
  refine l_nil ?_
  refine c_seq ?_
  refine c_sr ?_
  refine l_v rfl (r_move rfl) ?_
  refine l_v rfl (r_isNil Tryz.underlying33 rfl rfl) ?_
  refine l_nil ?_
  refine ways s.a.isNone (fun h3 => ?_) (fun h3 => ?_)
  ·skip
   refine c_condT rfl h3 ?_
   refine c_sr ?_
   refine l_v rfl (r_assign rfl) ?_
   refine l_nil ?_
   refine c_ret ?_
   refine ret1 rfl rfl ?_
   exact ⟨Sl.nil, rfl, by rw [hR.none (by assumption)]; exact Own.nil _ _ _, hM0.kp⟩
  ·skip
   refine c_condF rfl h3 ?_
   refine c_skip ?_
   refine c_sr ?_
   refine l_slice0 (enc := Invite.cells) (base := w.heap.size) hM0 elInvite rfl hM0.kp.size ?_
   intro sb4 w5 hM6 hK7 hO8
   refine l_v rfl (r_move rfl) ?_
   refine l_append (l := []) (m := l) (s := sb4) (s2 := s) (enc := Invite.cells) hM6 elInvite enInvite rfl (gn rfl) rfl rfl hO8 (hR.keep0 hM6.kp) (by simp; omega) hM6.kp.size hBs1 (by simp) ?_
   intro sa9 w10 Y11 hM12 hK13 hY14 hO15
   refine l_v rfl (r_assign rfl) ?_
   refine l_nil ?_
   refine c_ret ?_
   refine ret1 rfl rfl ?_
   exact ⟨sa9, rfl, by simpa using hO15, hM12.kp⟩
theorem f61 {A : Nat → Prop} {w : World} {s : Sl} {l : List Ask} (hR : Row A w s 65 Ask.cells l) (hb : l.length ≤ 1000000) : Ret 61 #[s.val] w (fun v w' => ∃ s' : Sl, v = s'.val ∧ Own w.heap.size 84 w' s' 65 Ask.cells l ∧ Keeps [] w w') := by
  have hn := hR.bd
  have hM0 := Mem.start w
  have hBs1 : w.heap.size ≤ w.heap.size := Nat.le_refl _
  have hBl2 : True := by simp
  refine enter Tryz.func61 rfl rfl ?_
  refine c_sr ?_
  refine l_v rfl (r_assign rfl) ?_
  refine l_nil ?_
  refine c_seq ?_
  refine c_sr ?_
  refine l_v rfl (r_move rfl) ?_
  refine l_v rfl (r_isNil Tryz.underlying34 rfl rfl) ?_
  refine l_nil ?_
  refine ways s.a.isNone (fun h3 => ?_) (fun h3 => ?_)
  ·skip
   refine c_condT rfl h3 ?_
   refine c_sr ?_
   refine l_v rfl (r_assign rfl) ?_
   refine l_nil ?_
   refine c_ret ?_
   refine ret1 rfl rfl ?_
   exact ⟨Sl.nil, rfl, by rw [hR.none (by assumption)]; exact Own.nil _ _ _, hM0.kp⟩
  ·skip
   refine c_condF rfl h3 ?_
   refine c_skip ?_
   refine c_sr ?_
   refine l_slice0 (enc := Ask.cells) (base := w.heap.size) hM0 elAsk rfl hM0.kp.size ?_
   intro sb4 w5 hM6 hK7 hO8
   refine l_v rfl (r_move rfl) ?_
   refine l_append (l := []) (m := l) (s := sb4) (s2 := s) (enc := Ask.cells) hM6 elAsk enAsk rfl (gn rfl) rfl rfl hO8 (hR.keep0 hM6.kp) (by simp; omega) hM6.kp.size hBs1 (by simp) ?_
   intro sa9 w10 Y11 hM12 hK13 hY14 hO15
   refine l_v rfl (r_assign rfl) ?_
   refine l_nil ?_
   refine c_ret ?_
   refine ret1 rfl rfl ?_
   exact ⟨sa9, rfl, by simpa using hO15, hM12.kp⟩
theorem f62 {A : Nat → Prop} {w : World} {s : Sl} {l : List Ban} (hR : Row A w s 128 Ban.cells l) (hb : l.length ≤ 1000000) : Ret 62 #[s.val] w (fun v w' => ∃ s' : Sl, v = s'.val ∧ Own w.heap.size 86 w' s' 128 Ban.cells l ∧ Keeps [] w w') := by
  have hn := hR.bd
  have hM0 := Mem.start w
  have hBs1 : w.heap.size ≤ w.heap.size := Nat.le_refl _
  have hBl2 : True := by simp
  refine enter Tryz.func62 rfl rfl ?_
  refine c_sr ?_
  refine l_v rfl (r_assign rfl) ?_
  refine l_nil ?_
  refine c_seq ?_
  refine c_sr ?_
  refine l_v rfl (r_move rfl) ?_
  refine l_v rfl (r_isNil Tryz.underlying35 rfl rfl) ?_
  refine l_nil ?_
  refine ways s.a.isNone (fun h3 => ?_) (fun h3 => ?_)
  ·skip
   refine c_condT rfl h3 ?_
   refine c_sr ?_
   refine l_v rfl (r_assign rfl) ?_
   refine l_nil ?_
   refine c_ret ?_
   refine ret1 rfl rfl ?_
   exact ⟨Sl.nil, rfl, by rw [hR.none (by assumption)]; exact Own.nil _ _ _, hM0.kp⟩
  ·skip
   refine c_condF rfl h3 ?_
   refine c_skip ?_
   refine c_sr ?_
   refine l_slice0 (enc := Ban.cells) (base := w.heap.size) hM0 elBan rfl hM0.kp.size ?_
   intro sb4 w5 hM6 hK7 hO8
   refine l_v rfl (r_move rfl) ?_
   refine l_append (l := []) (m := l) (s := sb4) (s2 := s) (enc := Ban.cells) hM6 elBan enBan rfl (gn rfl) rfl rfl hO8 (hR.keep0 hM6.kp) (by simp; omega) hM6.kp.size hBs1 (by simp) ?_
   intro sa9 w10 Y11 hM12 hK13 hY14 hO15
   refine l_v rfl (r_assign rfl) ?_
   refine l_nil ?_
   refine c_ret ?_
   refine ret1 rfl rfl ?_
   exact ⟨sa9, rfl, by simpa using hO15, hM12.kp⟩
theorem f30 {A : Nat → Prop} {w : World} {S : State} {q : Six} (hS : StV A w q S) (hb : total S ≤ 4000) : Ret 30 #[.agg (S.rep q).cells] w (fun v w' => ∃ q', v = .agg (S.rep q').cells ∧ OwnSt w.heap.size w' q' S ∧ Keeps [] w w') := by
  unfold total at hb
  obtain ⟨hn1, hn2, hn3, hn4, hn5, hn6⟩ := hS.bd
  have hM0 := Mem.start w
  refine enter Tryz.func30 rfl rfl ?_
  refine c_sr ?_
  refine l_box hM0 rfl rfl ?_
  intro b1 w2 hM3 hK4 hB5
  replace hM3 : Mem w [] [(b1, (SRep.cells ((SRep.mk S.ver S.key q.t S.acc q.p q.s q.i q.a q.b))), 37)] w2 := hM3
  refine l_alloc hM3 rfl SRep.zv ?_
  intro b6 w7 hM8 hK9 hB10
  replace hM8 : Mem w [] [(b6, (SRep.cells SRep.zero), 37), (b1, (SRep.cells ((SRep.mk S.ver S.key q.t S.acc q.p q.s q.i q.a q.b))), 37)] w7 := hM8
  refine l_nil ?_
  refine c_seq ?_
  refine c_regD (Mem w [] [(b6, (SRep.cells SRep.zero), 37), (b1, (SRep.cells ((SRep.mk S.ver S.key q.t S.acc q.p q.s q.i q.a q.b))), 37)]) [7, 9] [(0, true), (1, true), (3, true), (4, true), (2, false), (6, true), (5, false), (7, false), (8, false), (9, false)] (by kernel_rfl) ?_
  have hM11 := hM8.drew
  refine s_take hM11 rfl (gn rfl) rfl rfl (fun w h => r_fieldAddr SRep.fld_title rfl) ?_
  refine s_take hM11 rfl (gn rfl) rfl rfl (fun w h => r_load1 (v := Sl.val q.t) Tryz.isAgg27 rfl (Holds.sub (h.base (i := 1) rfl) (SRep.sub_title _))) ?_
  refine s_take hM11 rfl (gn rfl) rfl rfl (fun w h => r_fieldAddr SRep.fld_pass rfl) ?_
  refine s_take hM11 rfl (gn rfl) rfl rfl (fun w h => r_load1 (v := Sl.val q.p) Tryz.isAgg27 rfl (Holds.sub (h.base (i := 1) rfl) (SRep.sub_pass _))) ?_
  refine s_call rfl (gn rfl) rfl rfl (r_call Tryz.call31 rfl) (f31 (hS.title.keep0 hM11.kp)) ?_
  rintro v13 w14 ⟨sn17, rfl, hO18, hK15⟩
  have hM16 := hM11.keep hK15
  have hltsn17_0 : b6 < (w7.drew).heap.size := (hM11.blk (i := 0) rfl).lt
  have hltsn17_1 : b1 < (w7.drew).heap.size := (hM11.blk (i := 1) rfl).lt
  have hszsn17 : w.heap.size ≤ (w7.drew).heap.size := hM11.kp.size
  refine ⟨.inr hM16, ?_⟩
  refine s_take hM16 rfl (gn rfl) rfl rfl (fun w h => r_fieldAddr SRep.fld_title rfl) ?_
  refine s_call rfl (gn rfl) rfl rfl (r_call Tryz.call31 rfl) (f31 (hS.pass.keep0 hM16.kp)) ?_
  rintro v19 w20 ⟨sn23, rfl, hO24, hK21⟩
  have hM22 := hM16.keep hK21
  have hltsn23_0 : b6 < (w14).heap.size := (hM16.blk (i := 0) rfl).lt
  have hltsn23_1 : b1 < (w14).heap.size := (hM16.blk (i := 1) rfl).lt
  have hszsn23 : w.heap.size ≤ (w14).heap.size := hM16.kp.size
  have hzsn17_sn23 : ∀ b, sn17.val.ownBlock = some b → b < (w14).heap.size := fun b h => (hO18.own.lt b h).2
  refine ⟨.inr hM22, ?_⟩
  refine s_store hM22 (j := 1) rfl rfl Tryz.sizeOf27 rfl rfl rfl (by rw [SRep.size]; decide) (one_one rfl) (SRep.put_title _ _) ?_
  intro w25 hM26 hK27
  replace hM26 : Mem w [] [(b6, (SRep.cells SRep.zero), 37), (b1, (SRep.cells ((SRep.mk S.ver S.key sn17 S.acc q.p q.s q.i q.a q.b))), 37)] w25 := hM26
  refine ⟨.inl rfl, ?_⟩
  refine s_val rfl (gn rfl) rfl rfl (r_fieldAddr SRep.fld_pass rfl) (.inl rfl) ?_
  refine s_store hM26 (j := 1) rfl rfl Tryz.sizeOf27 rfl rfl rfl (by rw [SRep.size]; decide) (one_one rfl) (SRep.put_pass _ _) ?_
  intro w28 hM29 hK30
  replace hM29 : Mem w [] [(b6, (SRep.cells SRep.zero), 37), (b1, (SRep.cells ((SRep.mk S.ver S.key sn17 S.acc sn23 q.s q.i q.a q.b))), 37)] w28 := hM29
  refine ⟨.inl rfl, ?_⟩
  refine s_nil ?_
  refine c_seq ?_
  refine c_regD (Mem w [] [(b6, (SRep.cells SRep.zero), 37), (b1, (SRep.cells ((SRep.mk S.ver S.key sn17 S.acc sn23 q.s q.i q.a q.b))), 37)]) [13, 15, 17, 19] [(0, true), (1, true), (3, true), (4, true), (6, true), (7, true), (9, true), (10, true), (2, false), (12, true), (5, false), (8, false), (11, false), (13, false), (14, false), (15, false), (16, false), (17, false), (18, false), (19, false)] (by kernel_rfl) ?_
  have hM31 := hM29.drew
  refine s_take hM31 rfl (gn rfl) rfl rfl (fun w h => r_fieldAddr SRep.fld_seats rfl) ?_
  refine s_take hM31 rfl (gn rfl) rfl rfl (fun w h => r_load1 (v := Sl.val q.s) Tryz.isAgg32 rfl (Holds.sub (h.base (i := 1) rfl) (SRep.sub_seats _))) ?_
  refine s_take hM31 rfl (gn rfl) rfl rfl (fun w h => r_fieldAddr SRep.fld_invites rfl) ?_
  refine s_take hM31 rfl (gn rfl) rfl rfl (fun w h => r_load1 (v := Sl.val q.i) Tryz.isAgg33 rfl (Holds.sub (h.base (i := 1) rfl) (SRep.sub_invites _))) ?_
  refine s_take hM31 rfl (gn rfl) rfl rfl (fun w h => r_fieldAddr SRep.fld_asks rfl) ?_
  refine s_take hM31 rfl (gn rfl) rfl rfl (fun w h => r_load1 (v := Sl.val q.a) Tryz.isAgg34 rfl (Holds.sub (h.base (i := 1) rfl) (SRep.sub_asks _))) ?_
  refine s_take hM31 rfl (gn rfl) rfl rfl (fun w h => r_fieldAddr SRep.fld_bans rfl) ?_
  refine s_take hM31 rfl (gn rfl) rfl rfl (fun w h => r_load1 (v := Sl.val q.b) Tryz.isAgg35 rfl (Holds.sub (h.base (i := 1) rfl) (SRep.sub_bans _))) ?_
  refine s_call rfl (gn rfl) rfl rfl (r_call Tryz.call59 rfl) (f59 (hS.seats.keep0 hM31.kp) (by omega)) ?_
  rintro v33 w34 ⟨sn37, rfl, hO38, hK35⟩
  have hM36 := hM31.keep hK35
  have hltsn37_0 : b6 < (w28.drew).heap.size := (hM31.blk (i := 0) rfl).lt
  have hltsn37_1 : b1 < (w28.drew).heap.size := (hM31.blk (i := 1) rfl).lt
  have hszsn37 : w.heap.size ≤ (w28.drew).heap.size := hM31.kp.size
  have hzsn17_sn37 : ∀ b, sn17.val.ownBlock = some b → b < (w28.drew).heap.size := fun b h => (((((hO18.keep0 hK21).keepL hK27 (fun x hx => by simp only [List.mem_cons, List.not_mem_nil, or_false] at hx; omega)).keepL hK30 (fun x hx => by simp only [List.mem_cons, List.not_mem_nil, or_false] at hx; omega)).keep0 (Keeps.drew _)).own.lt b h).2
  have hzsn23_sn37 : ∀ b, sn23.val.ownBlock = some b → b < (w28.drew).heap.size := fun b h => ((((hO24.keepL hK27 (fun x hx => by simp only [List.mem_cons, List.not_mem_nil, or_false] at hx; omega)).keepL hK30 (fun x hx => by simp only [List.mem_cons, List.not_mem_nil, or_false] at hx; omega)).keep0 (Keeps.drew _)).own.lt b h).2
  refine ⟨.inr hM36, ?_⟩
  refine s_take hM36 rfl (gn rfl) rfl rfl (fun w h => r_fieldAddr SRep.fld_seats rfl) ?_
  refine s_call rfl (gn rfl) rfl rfl (r_call Tryz.call60 rfl) (f60 (hS.invites.keep0 hM36.kp) (by omega)) ?_
  rintro v39 w40 ⟨sn43, rfl, hO44, hK41⟩
  have hM42 := hM36.keep hK41
  have hltsn43_0 : b6 < (w34).heap.size := (hM36.blk (i := 0) rfl).lt
  have hltsn43_1 : b1 < (w34).heap.size := (hM36.blk (i := 1) rfl).lt
  have hszsn43 : w.heap.size ≤ (w34).heap.size := hM36.kp.size
  have hzsn17_sn43 : ∀ b, sn17.val.ownBlock = some b → b < (w34).heap.size := fun b h => ((((((hO18.keep0 hK21).keepL hK27 (fun x hx => by simp only [List.mem_cons, List.not_mem_nil, or_false] at hx; omega)).keepL hK30 (fun x hx => by simp only [List.mem_cons, List.not_mem_nil, or_false] at hx; omega)).keep0 (Keeps.drew _)).keep0 hK35).own.lt b h).2
  have hzsn23_sn43 : ∀ b, sn23.val.ownBlock = some b → b < (w34).heap.size := fun b h => (((((hO24.keepL hK27 (fun x hx => by simp only [List.mem_cons, List.not_mem_nil, or_false] at hx; omega)).keepL hK30 (fun x hx => by simp only [List.mem_cons, List.not_mem_nil, or_false] at hx; omega)).keep0 (Keeps.drew _)).keep0 hK35).own.lt b h).2
  have hzsn37_sn43 : ∀ b, sn37.val.ownBlock = some b → b < (w34).heap.size := fun b h => (hO38.own.lt b h).2
  refine ⟨.inr hM42, ?_⟩
  refine s_call rfl (gn rfl) rfl rfl (r_call Tryz.call61 rfl) (f61 (hS.asks.keep0 hM42.kp) (by omega)) ?_
  rintro v45 w46 ⟨sn49, rfl, hO50, hK47⟩
  have hM48 := hM42.keep hK47
  have hltsn49_0 : b6 < (w40).heap.size := (hM42.blk (i := 0) rfl).lt
  have hltsn49_1 : b1 < (w40).heap.size := (hM42.blk (i := 1) rfl).lt
  have hszsn49 : w.heap.size ≤ (w40).heap.size := hM42.kp.size
  have hzsn17_sn49 : ∀ b, sn17.val.ownBlock = some b → b < (w40).heap.size := fun b h => (((((((hO18.keep0 hK21).keepL hK27 (fun x hx => by simp only [List.mem_cons, List.not_mem_nil, or_false] at hx; omega)).keepL hK30 (fun x hx => by simp only [List.mem_cons, List.not_mem_nil, or_false] at hx; omega)).keep0 (Keeps.drew _)).keep0 hK35).keep0 hK41).own.lt b h).2
  have hzsn23_sn49 : ∀ b, sn23.val.ownBlock = some b → b < (w40).heap.size := fun b h => ((((((hO24.keepL hK27 (fun x hx => by simp only [List.mem_cons, List.not_mem_nil, or_false] at hx; omega)).keepL hK30 (fun x hx => by simp only [List.mem_cons, List.not_mem_nil, or_false] at hx; omega)).keep0 (Keeps.drew _)).keep0 hK35).keep0 hK41).own.lt b h).2
  have hzsn37_sn49 : ∀ b, sn37.val.ownBlock = some b → b < (w40).heap.size := fun b h => ((hO38.keep0 hK41).own.lt b h).2
  have hzsn43_sn49 : ∀ b, sn43.val.ownBlock = some b → b < (w40).heap.size := fun b h => (hO44.own.lt b h).2
  refine ⟨.inr hM48, ?_⟩
  refine s_call rfl (gn rfl) rfl rfl (r_call Tryz.call62 rfl) (f62 (hS.bans.keep0 hM48.kp) (by omega)) ?_
  rintro v51 w52 ⟨sn55, rfl, hO56, hK53⟩
  have hM54 := hM48.keep hK53
  have hltsn55_0 : b6 < (w46).heap.size := (hM48.blk (i := 0) rfl).lt
  have hltsn55_1 : b1 < (w46).heap.size := (hM48.blk (i := 1) rfl).lt
  have hszsn55 : w.heap.size ≤ (w46).heap.size := hM48.kp.size
  have hzsn17_sn55 : ∀ b, sn17.val.ownBlock = some b → b < (w46).heap.size := fun b h => ((((((((hO18.keep0 hK21).keepL hK27 (fun x hx => by simp only [List.mem_cons, List.not_mem_nil, or_false] at hx; omega)).keepL hK30 (fun x hx => by simp only [List.mem_cons, List.not_mem_nil, or_false] at hx; omega)).keep0 (Keeps.drew _)).keep0 hK35).keep0 hK41).keep0 hK47).own.lt b h).2
  have hzsn23_sn55 : ∀ b, sn23.val.ownBlock = some b → b < (w46).heap.size := fun b h => (((((((hO24.keepL hK27 (fun x hx => by simp only [List.mem_cons, List.not_mem_nil, or_false] at hx; omega)).keepL hK30 (fun x hx => by simp only [List.mem_cons, List.not_mem_nil, or_false] at hx; omega)).keep0 (Keeps.drew _)).keep0 hK35).keep0 hK41).keep0 hK47).own.lt b h).2
  have hzsn37_sn55 : ∀ b, sn37.val.ownBlock = some b → b < (w46).heap.size := fun b h => (((hO38.keep0 hK41).keep0 hK47).own.lt b h).2
  have hzsn43_sn55 : ∀ b, sn43.val.ownBlock = some b → b < (w46).heap.size := fun b h => ((hO44.keep0 hK47).own.lt b h).2
  have hzsn49_sn55 : ∀ b, sn49.val.ownBlock = some b → b < (w46).heap.size := fun b h => (hO50.own.lt b h).2
  refine ⟨.inr hM54, ?_⟩
  refine s_store hM54 (j := 1) rfl rfl Tryz.sizeOf32 rfl rfl rfl (by rw [SRep.size]; decide) (one_one rfl) (SRep.put_seats _ _) ?_
  intro w57 hM58 hK59
  replace hM58 : Mem w [] [(b6, (SRep.cells SRep.zero), 37), (b1, (SRep.cells ((SRep.mk S.ver S.key sn17 S.acc sn23 sn37 q.i q.a q.b))), 37)] w57 := hM58
  refine ⟨.inl rfl, ?_⟩
  refine s_val rfl (gn rfl) rfl rfl (r_fieldAddr SRep.fld_invites rfl) (.inl rfl) ?_
  refine s_store hM58 (j := 1) rfl rfl Tryz.sizeOf33 rfl rfl rfl (by rw [SRep.size]; decide) (one_one rfl) (SRep.put_invites _ _) ?_
  intro w60 hM61 hK62
  replace hM61 : Mem w [] [(b6, (SRep.cells SRep.zero), 37), (b1, (SRep.cells ((SRep.mk S.ver S.key sn17 S.acc sn23 sn37 sn43 q.a q.b))), 37)] w60 := hM61
  refine ⟨.inl rfl, ?_⟩
  refine s_val rfl (gn rfl) rfl rfl (r_fieldAddr SRep.fld_asks rfl) (.inl rfl) ?_
  refine s_store hM61 (j := 1) rfl rfl Tryz.sizeOf34 rfl rfl rfl (by rw [SRep.size]; decide) (one_one rfl) (SRep.put_asks _ _) ?_
  intro w63 hM64 hK65
  replace hM64 : Mem w [] [(b6, (SRep.cells SRep.zero), 37), (b1, (SRep.cells ((SRep.mk S.ver S.key sn17 S.acc sn23 sn37 sn43 sn49 q.b))), 37)] w63 := hM64
  refine ⟨.inl rfl, ?_⟩
  refine s_val rfl (gn rfl) rfl rfl (r_fieldAddr SRep.fld_bans rfl) (.inl rfl) ?_
  refine s_store hM64 (j := 1) rfl rfl Tryz.sizeOf35 rfl rfl rfl (by rw [SRep.size]; decide) (one_one rfl) (SRep.put_bans _ _) ?_
  intro w66 hM67 hK68
  replace hM67 : Mem w [] [(b6, (SRep.cells SRep.zero), 37), (b1, (SRep.cells ((SRep.mk S.ver S.key sn17 S.acc sn23 sn37 sn43 sn49 sn55))), 37)] w66 := hM67
  refine ⟨.inl rfl, ?_⟩
  refine s_nil ?_
  refine c_sr ?_
  refine l_v rfl (r_loadA Tryz.isAgg37 Tryz.sizeOf37 (SRep.size _) rfl (hM67.base (i := 1) rfl)) ?_
  refine l_store hM67 (i := 0) rfl Tryz.sizeOf37 rfl rfl (SRep.size _) (by rw [SRep.size]; decide) (SRep.one _) (put_whole _ _ ((SRep.size _).trans (SRep.size _).symm)) ?_
  intro w69 hM70 hK71
  replace hM70 : Mem w [] [(b6, (SRep.cells ((SRep.mk S.ver S.key sn17 S.acc sn23 sn37 sn43 sn49 sn55))), 37), (b1, (SRep.cells ((SRep.mk S.ver S.key sn17 S.acc sn23 sn37 sn43 sn49 sn55))), 37)] w69 := hM70
  refine l_nil ?_
  refine c_ret ?_
  refine retC rfl Tryz.isAgg37 Tryz.sizeOf37 (SRep.size _) rfl (hM70.base (i := 0) rfl) ?_
  exact ⟨⟨sn17, sn23, sn37, sn43, sn49, sn55⟩, rfl, ⟨((((((((((((((hO18.keep0 hK21).keepL hK27 (fun x hx => by simp only [List.mem_cons, List.not_mem_nil, or_false] at hx; omega)).keepL hK30 (fun x hx => by simp only [List.mem_cons, List.not_mem_nil, or_false] at hx; omega)).keep0 (Keeps.drew _)).keep0 hK35).keep0 hK41).keep0 hK47).keep0 hK53).keepL hK59 (fun x hx => by simp only [List.mem_cons, List.not_mem_nil, or_false] at hx; omega)).keepL hK62 (fun x hx => by simp only [List.mem_cons, List.not_mem_nil, or_false] at hx; omega)).keepL hK65 (fun x hx => by simp only [List.mem_cons, List.not_mem_nil, or_false] at hx; omega)).keepL hK68 (fun x hx => by simp only [List.mem_cons, List.not_mem_nil, or_false] at hx; omega)).keepL hK71 (fun x hx => by simp only [List.mem_cons, List.not_mem_nil, or_false] at hx; omega)).lower (by have := hszsn17; omega)), (((((((((((((hO24.keepL hK27 (fun x hx => by simp only [List.mem_cons, List.not_mem_nil, or_false] at hx; omega)).keepL hK30 (fun x hx => by simp only [List.mem_cons, List.not_mem_nil, or_false] at hx; omega)).keep0 (Keeps.drew _)).keep0 hK35).keep0 hK41).keep0 hK47).keep0 hK53).keepL hK59 (fun x hx => by simp only [List.mem_cons, List.not_mem_nil, or_false] at hx; omega)).keepL hK62 (fun x hx => by simp only [List.mem_cons, List.not_mem_nil, or_false] at hx; omega)).keepL hK65 (fun x hx => by simp only [List.mem_cons, List.not_mem_nil, or_false] at hx; omega)).keepL hK68 (fun x hx => by simp only [List.mem_cons, List.not_mem_nil, or_false] at hx; omega)).keepL hK71 (fun x hx => by simp only [List.mem_cons, List.not_mem_nil, or_false] at hx; omega)).lower (by have := hszsn23; omega)), (((((((((hO38.keep0 hK41).keep0 hK47).keep0 hK53).keepL hK59 (fun x hx => by simp only [List.mem_cons, List.not_mem_nil, or_false] at hx; omega)).keepL hK62 (fun x hx => by simp only [List.mem_cons, List.not_mem_nil, or_false] at hx; omega)).keepL hK65 (fun x hx => by simp only [List.mem_cons, List.not_mem_nil, or_false] at hx; omega)).keepL hK68 (fun x hx => by simp only [List.mem_cons, List.not_mem_nil, or_false] at hx; omega)).keepL hK71 (fun x hx => by simp only [List.mem_cons, List.not_mem_nil, or_false] at hx; omega)).lower (by have := hszsn37; omega)), ((((((((hO44.keep0 hK47).keep0 hK53).keepL hK59 (fun x hx => by simp only [List.mem_cons, List.not_mem_nil, or_false] at hx; omega)).keepL hK62 (fun x hx => by simp only [List.mem_cons, List.not_mem_nil, or_false] at hx; omega)).keepL hK65 (fun x hx => by simp only [List.mem_cons, List.not_mem_nil, or_false] at hx; omega)).keepL hK68 (fun x hx => by simp only [List.mem_cons, List.not_mem_nil, or_false] at hx; omega)).keepL hK71 (fun x hx => by simp only [List.mem_cons, List.not_mem_nil, or_false] at hx; omega)).lower (by have := hszsn43; omega)), (((((((hO50.keep0 hK53).keepL hK59 (fun x hx => by simp only [List.mem_cons, List.not_mem_nil, or_false] at hx; omega)).keepL hK62 (fun x hx => by simp only [List.mem_cons, List.not_mem_nil, or_false] at hx; omega)).keepL hK65 (fun x hx => by simp only [List.mem_cons, List.not_mem_nil, or_false] at hx; omega)).keepL hK68 (fun x hx => by simp only [List.mem_cons, List.not_mem_nil, or_false] at hx; omega)).keepL hK71 (fun x hx => by simp only [List.mem_cons, List.not_mem_nil, or_false] at hx; omega)).lower (by have := hszsn49; omega)), ((((((hO56.keepL hK59 (fun x hx => by simp only [List.mem_cons, List.not_mem_nil, or_false] at hx; omega)).keepL hK62 (fun x hx => by simp only [List.mem_cons, List.not_mem_nil, or_false] at hx; omega)).keepL hK65 (fun x hx => by simp only [List.mem_cons, List.not_mem_nil, or_false] at hx; omega)).keepL hK68 (fun x hx => by simp only [List.mem_cons, List.not_mem_nil, or_false] at hx; omega)).keepL hK71 (fun x hx => by simp only [List.mem_cons, List.not_mem_nil, or_false] at hx; omega)).lower (by have := hszsn55; omega)), .cons (by simp only [List.forall_mem_cons]; exact ⟨sep2_of hzsn17_sn23 ((((((((((((hO24.keepL hK27 (fun x hx => by simp only [List.mem_cons, List.not_mem_nil, or_false] at hx; omega)).keepL hK30 (fun x hx => by simp only [List.mem_cons, List.not_mem_nil, or_false] at hx; omega)).keep0 (Keeps.drew _)).keep0 hK35).keep0 hK41).keep0 hK47).keep0 hK53).keepL hK59 (fun x hx => by simp only [List.mem_cons, List.not_mem_nil, or_false] at hx; omega)).keepL hK62 (fun x hx => by simp only [List.mem_cons, List.not_mem_nil, or_false] at hx; omega)).keepL hK65 (fun x hx => by simp only [List.mem_cons, List.not_mem_nil, or_false] at hx; omega)).keepL hK68 (fun x hx => by simp only [List.mem_cons, List.not_mem_nil, or_false] at hx; omega)).keepL hK71 (fun x hx => by simp only [List.mem_cons, List.not_mem_nil, or_false] at hx; omega)), sep2_of hzsn17_sn37 ((((((((hO38.keep0 hK41).keep0 hK47).keep0 hK53).keepL hK59 (fun x hx => by simp only [List.mem_cons, List.not_mem_nil, or_false] at hx; omega)).keepL hK62 (fun x hx => by simp only [List.mem_cons, List.not_mem_nil, or_false] at hx; omega)).keepL hK65 (fun x hx => by simp only [List.mem_cons, List.not_mem_nil, or_false] at hx; omega)).keepL hK68 (fun x hx => by simp only [List.mem_cons, List.not_mem_nil, or_false] at hx; omega)).keepL hK71 (fun x hx => by simp only [List.mem_cons, List.not_mem_nil, or_false] at hx; omega)), sep2_of hzsn17_sn43 (((((((hO44.keep0 hK47).keep0 hK53).keepL hK59 (fun x hx => by simp only [List.mem_cons, List.not_mem_nil, or_false] at hx; omega)).keepL hK62 (fun x hx => by simp only [List.mem_cons, List.not_mem_nil, or_false] at hx; omega)).keepL hK65 (fun x hx => by simp only [List.mem_cons, List.not_mem_nil, or_false] at hx; omega)).keepL hK68 (fun x hx => by simp only [List.mem_cons, List.not_mem_nil, or_false] at hx; omega)).keepL hK71 (fun x hx => by simp only [List.mem_cons, List.not_mem_nil, or_false] at hx; omega)), sep2_of hzsn17_sn49 ((((((hO50.keep0 hK53).keepL hK59 (fun x hx => by simp only [List.mem_cons, List.not_mem_nil, or_false] at hx; omega)).keepL hK62 (fun x hx => by simp only [List.mem_cons, List.not_mem_nil, or_false] at hx; omega)).keepL hK65 (fun x hx => by simp only [List.mem_cons, List.not_mem_nil, or_false] at hx; omega)).keepL hK68 (fun x hx => by simp only [List.mem_cons, List.not_mem_nil, or_false] at hx; omega)).keepL hK71 (fun x hx => by simp only [List.mem_cons, List.not_mem_nil, or_false] at hx; omega)), sep2_of hzsn17_sn55 (((((hO56.keepL hK59 (fun x hx => by simp only [List.mem_cons, List.not_mem_nil, or_false] at hx; omega)).keepL hK62 (fun x hx => by simp only [List.mem_cons, List.not_mem_nil, or_false] at hx; omega)).keepL hK65 (fun x hx => by simp only [List.mem_cons, List.not_mem_nil, or_false] at hx; omega)).keepL hK68 (fun x hx => by simp only [List.mem_cons, List.not_mem_nil, or_false] at hx; omega)).keepL hK71 (fun x hx => by simp only [List.mem_cons, List.not_mem_nil, or_false] at hx; omega)), by simp⟩) (.cons (by simp only [List.forall_mem_cons]; exact ⟨sep2_of hzsn23_sn37 ((((((((hO38.keep0 hK41).keep0 hK47).keep0 hK53).keepL hK59 (fun x hx => by simp only [List.mem_cons, List.not_mem_nil, or_false] at hx; omega)).keepL hK62 (fun x hx => by simp only [List.mem_cons, List.not_mem_nil, or_false] at hx; omega)).keepL hK65 (fun x hx => by simp only [List.mem_cons, List.not_mem_nil, or_false] at hx; omega)).keepL hK68 (fun x hx => by simp only [List.mem_cons, List.not_mem_nil, or_false] at hx; omega)).keepL hK71 (fun x hx => by simp only [List.mem_cons, List.not_mem_nil, or_false] at hx; omega)), sep2_of hzsn23_sn43 (((((((hO44.keep0 hK47).keep0 hK53).keepL hK59 (fun x hx => by simp only [List.mem_cons, List.not_mem_nil, or_false] at hx; omega)).keepL hK62 (fun x hx => by simp only [List.mem_cons, List.not_mem_nil, or_false] at hx; omega)).keepL hK65 (fun x hx => by simp only [List.mem_cons, List.not_mem_nil, or_false] at hx; omega)).keepL hK68 (fun x hx => by simp only [List.mem_cons, List.not_mem_nil, or_false] at hx; omega)).keepL hK71 (fun x hx => by simp only [List.mem_cons, List.not_mem_nil, or_false] at hx; omega)), sep2_of hzsn23_sn49 ((((((hO50.keep0 hK53).keepL hK59 (fun x hx => by simp only [List.mem_cons, List.not_mem_nil, or_false] at hx; omega)).keepL hK62 (fun x hx => by simp only [List.mem_cons, List.not_mem_nil, or_false] at hx; omega)).keepL hK65 (fun x hx => by simp only [List.mem_cons, List.not_mem_nil, or_false] at hx; omega)).keepL hK68 (fun x hx => by simp only [List.mem_cons, List.not_mem_nil, or_false] at hx; omega)).keepL hK71 (fun x hx => by simp only [List.mem_cons, List.not_mem_nil, or_false] at hx; omega)), sep2_of hzsn23_sn55 (((((hO56.keepL hK59 (fun x hx => by simp only [List.mem_cons, List.not_mem_nil, or_false] at hx; omega)).keepL hK62 (fun x hx => by simp only [List.mem_cons, List.not_mem_nil, or_false] at hx; omega)).keepL hK65 (fun x hx => by simp only [List.mem_cons, List.not_mem_nil, or_false] at hx; omega)).keepL hK68 (fun x hx => by simp only [List.mem_cons, List.not_mem_nil, or_false] at hx; omega)).keepL hK71 (fun x hx => by simp only [List.mem_cons, List.not_mem_nil, or_false] at hx; omega)), by simp⟩) (.cons (by simp only [List.forall_mem_cons]; exact ⟨sep2_of hzsn37_sn43 (((((((hO44.keep0 hK47).keep0 hK53).keepL hK59 (fun x hx => by simp only [List.mem_cons, List.not_mem_nil, or_false] at hx; omega)).keepL hK62 (fun x hx => by simp only [List.mem_cons, List.not_mem_nil, or_false] at hx; omega)).keepL hK65 (fun x hx => by simp only [List.mem_cons, List.not_mem_nil, or_false] at hx; omega)).keepL hK68 (fun x hx => by simp only [List.mem_cons, List.not_mem_nil, or_false] at hx; omega)).keepL hK71 (fun x hx => by simp only [List.mem_cons, List.not_mem_nil, or_false] at hx; omega)), sep2_of hzsn37_sn49 ((((((hO50.keep0 hK53).keepL hK59 (fun x hx => by simp only [List.mem_cons, List.not_mem_nil, or_false] at hx; omega)).keepL hK62 (fun x hx => by simp only [List.mem_cons, List.not_mem_nil, or_false] at hx; omega)).keepL hK65 (fun x hx => by simp only [List.mem_cons, List.not_mem_nil, or_false] at hx; omega)).keepL hK68 (fun x hx => by simp only [List.mem_cons, List.not_mem_nil, or_false] at hx; omega)).keepL hK71 (fun x hx => by simp only [List.mem_cons, List.not_mem_nil, or_false] at hx; omega)), sep2_of hzsn37_sn55 (((((hO56.keepL hK59 (fun x hx => by simp only [List.mem_cons, List.not_mem_nil, or_false] at hx; omega)).keepL hK62 (fun x hx => by simp only [List.mem_cons, List.not_mem_nil, or_false] at hx; omega)).keepL hK65 (fun x hx => by simp only [List.mem_cons, List.not_mem_nil, or_false] at hx; omega)).keepL hK68 (fun x hx => by simp only [List.mem_cons, List.not_mem_nil, or_false] at hx; omega)).keepL hK71 (fun x hx => by simp only [List.mem_cons, List.not_mem_nil, or_false] at hx; omega)), by simp⟩) (.cons (by simp only [List.forall_mem_cons]; exact ⟨sep2_of hzsn43_sn49 ((((((hO50.keep0 hK53).keepL hK59 (fun x hx => by simp only [List.mem_cons, List.not_mem_nil, or_false] at hx; omega)).keepL hK62 (fun x hx => by simp only [List.mem_cons, List.not_mem_nil, or_false] at hx; omega)).keepL hK65 (fun x hx => by simp only [List.mem_cons, List.not_mem_nil, or_false] at hx; omega)).keepL hK68 (fun x hx => by simp only [List.mem_cons, List.not_mem_nil, or_false] at hx; omega)).keepL hK71 (fun x hx => by simp only [List.mem_cons, List.not_mem_nil, or_false] at hx; omega)), sep2_of hzsn43_sn55 (((((hO56.keepL hK59 (fun x hx => by simp only [List.mem_cons, List.not_mem_nil, or_false] at hx; omega)).keepL hK62 (fun x hx => by simp only [List.mem_cons, List.not_mem_nil, or_false] at hx; omega)).keepL hK65 (fun x hx => by simp only [List.mem_cons, List.not_mem_nil, or_false] at hx; omega)).keepL hK68 (fun x hx => by simp only [List.mem_cons, List.not_mem_nil, or_false] at hx; omega)).keepL hK71 (fun x hx => by simp only [List.mem_cons, List.not_mem_nil, or_false] at hx; omega)), by simp⟩) (.cons (by simp only [List.forall_mem_cons]; exact ⟨sep2_of hzsn49_sn55 (((((hO56.keepL hK59 (fun x hx => by simp only [List.mem_cons, List.not_mem_nil, or_false] at hx; omega)).keepL hK62 (fun x hx => by simp only [List.mem_cons, List.not_mem_nil, or_false] at hx; omega)).keepL hK65 (fun x hx => by simp only [List.mem_cons, List.not_mem_nil, or_false] at hx; omega)).keepL hK68 (fun x hx => by simp only [List.mem_cons, List.not_mem_nil, or_false] at hx; omega)).keepL hK71 (fun x hx => by simp only [List.mem_cons, List.not_mem_nil, or_false] at hx; omega)), by simp⟩) (.cons (by simp) (.nil))))))⟩, hM70.kp⟩
end Go.Proofs.YtekhaogjmmmniaaGreat
namespace Go.Proofs.YtekhaogjmmmniaaGreat
open Go Go.RowKit

def State.zero : State := ⟨0, Pub.zero, [], Access.zero, [], [], [], [], []⟩
def Six.nil : Six := ⟨Sl.nil, Sl.nil, Sl.nil, Sl.nil, Sl.nil, Sl.nil⟩
theorem zero_rep : State.zero.rep Six.nil = SRep.zero := rfl
theorem sep_nil (x : Sl) : Sep2 Sl.nil x := fun b h => by cases h
theorem ownZero (base : Nat) (w : World) : OwnSt base w Six.nil State.zero :=
  ⟨Own.nil _ _ _, Own.nil _ _ _, Own.nil _ _ _, Own.nil _ _ _, Own.nil _ _ _, Own.nil _ _ _, by simp [Six.nil, sep_nil]⟩
theorem stvZero (A : Nat → Prop) (w : World) : StV A w Six.nil State.zero := ⟨Row.nil, Row.nil, Row.nil, Row.nil, Row.nil, Row.nil⟩
theorem Own.keepT {α : Type} {base : Nat} {e : TypeId} {w0 w w' : World} {s : Sl} {sz : Nat} {enc : α → Array Value} {l l0 : List α} {X : List Nat} (h0 : Own base e w0 s sz enc l0) (h : Own base e w s sz enc l) (k : Keeps X w w')
    (hx : ∀ x ∈ X, x < base ∨ w0.heap.size ≤ x) : Own base e w' s sz enc l := h.keep k fun x hm hc => by
  have h1 := hx x hm
  have h2 := h0.own.lt x hc
  omega
theorem OwnSt.keepT {base : Nat} {w0 w w' : World} {q : Six} {S : State} {X : List Nat} (h0 : OwnSt base w0 q S) (h : OwnSt base w q S) (k : Keeps X w w') (hx : ∀ x ∈ X, x < base ∨ w0.heap.size ≤ x) : OwnSt base w' q S :=
  ⟨h0.t.keepT h.t k hx, h0.p.keepT h.p k hx, h0.s.keepT h.s k hx, h0.i.keepT h.i k hx, h0.a.keepT h.a k hx, h0.b.keepT h.b k hx, h.sep⟩

/-- A new group of one. -/
def newGroup (key : Pub) (title : List UInt8) (acc : Access) (pass : List UInt8) (who : Cipher) : State :=
  { ver := 0, key := key, title := title, acc := acc, pass := pass, seats := [⟨who, 2, 0⟩], invites := [], asks := [], bans := [] }
/-- A state, where it may be. -/
noncomputable def ifOk (S : State) : State := cond (okS S) S State.zero
noncomputable def errOk (S : State) : Nat := cond (okS S) 0 2

theorem f23o {A : Nat → Prop} {w : World} {S : State} {q : Six} (hS : StV A w q S) : Ret 23 #[.agg (S.rep q).cells] w (fun v w' => v = .bool (okS S) ∧ Keeps [] w w') :=
  (f23 hS).mono fun v w' ⟨r, h1, h2, h3⟩ => ⟨by rw [h1, okS_of h2], h3⟩
theorem f28o {A : Nat → Prop} {w : World} {S : State} {q : Six} (hS : StV A w q S) : Ret 28 #[.agg (S.rep q).cells] w (fun v w' => v = .bool (okS S) ∧ Keeps [] w w') :=
  (f28 hS).mono fun v w' ⟨r, h1, h2, h3⟩ => ⟨by rw [h1, okS_of h2], h3⟩
theorem ok_total {S : State} (h : okS S = true) : total S ≤ 4000 := by
  have := okS_iff.1 h
  have h1 := this.l1; have h2 := this.l2; have h3 := this.l3; have h4 := this.l4
  unfold total; omega
end Go.Proofs.YtekhaogjmmmniaaGreat
namespace Go.Proofs.YtekhaogjmmmniaaGreat
open Go Go.RowKit

theorem f20 {A B : Nat → Prop} {w : World} {st sp : Sl} {lt lp : List UInt8} (hT : Row A w st 1 encB lt) (hP : Row B w sp 1 encB lp) (key : Pub) (acc : Access) (who : Cipher) :
    Ret 20 #[.agg key.cells, st.val, .agg acc.cells, sp.val, .agg who.cells] w (fun v w' => ∃ q', v = .tuple #[.agg ((ifOk (newGroup key lt acc lp who)).rep q').cells, .int .i64 ((errOk (newGroup key lt acc lp who) : Nat) : Int)] ∧ OwnSt w.heap.size w' q' (ifOk (newGroup key lt acc lp who)) ∧ Keeps [] w w') := by
  have hT1 := hT.lt (fun _ => by simp [encB])
  have hP1 := hP.lt (fun _ => by simp [encB])
  have hM0 := Mem.start w
  refine enter Tryz.func20 rfl rfl ?_
  refine c_sr ?_
  refine l_box hM0 rfl rfl ?_
  intro b1 w2 hM3 hK4 hB5
  replace hM3 : Mem w [] [(b1, (Pub.cells key), 26)] w2 := hM3
  have hNb1 : w.heap.size ≤ b1 := Nat.le_trans hM0.kp.size hB5
  refine l_box hM3 rfl rfl ?_
  intro b6 w7 hM8 hK9 hB10
  replace hM8 : Mem w [] [(b6, (Access.cells acc), 31), (b1, (Pub.cells key), 26)] w7 := hM8
  have hNb6 : w.heap.size ≤ b6 := Nat.le_trans hM3.kp.size hB10
  refine l_box hM8 rfl rfl ?_
  intro b11 w12 hM13 hK14 hB15
  replace hM13 : Mem w [] [(b11, (Cipher.cells who), 40), (b6, (Access.cells acc), 31), (b1, (Pub.cells key), 26)] w12 := hM13
  have hNb11 : w.heap.size ≤ b11 := Nat.le_trans hM8.kp.size hB15
  refine l_alloc hM13 rfl SRep.zv ?_
  intro b16 w17 hM18 hK19 hB20
  replace hM18 : Mem w [] [(b16, (SRep.cells SRep.zero), 37), (b11, (Cipher.cells who), 40), (b6, (Access.cells acc), 31), (b1, (Pub.cells key), 26)] w17 := hM18
  have hNb16 : w.heap.size ≤ b16 := Nat.le_trans hM13.kp.size hB20
  refine l_v rfl (r_assign rfl) ?_
  refine l_nil ?_
  refine c_sr ?_
  refine l_v rfl (r_loadA Tryz.isAgg26 Tryz.sizeOf26 (Pub.size _) rfl (hM18.base (i := 3) rfl)) ?_
  refine l_v rfl (r_move rfl) ?_
  refine l_v rfl (r_loadA Tryz.isAgg31 Tryz.sizeOf31 (Access.size _) rfl (hM18.base (i := 2) rfl)) ?_
  refine l_v rfl (r_move rfl) ?_
  refine l_v rfl (r_loadA Tryz.isAgg40 Tryz.sizeOf40 (Cipher.size _) rfl (hM18.base (i := 1) rfl)) ?_
  refine l_v rfl (r_build rfl ((Seat.built _).trans (fill_cons rfl (Cipher.size _) (by rw [Seat.size]; decide) (Seat.put_who _ who) (fill_cons rfl rfl (by rw [Seat.size]; decide) (Seat.put_role _ 2) (fill_nil))))) ?_
  have hbs : w.heap.size ≤ (w17).heap.size := hM18.kp.size
  have hll0 : b16 < (w17).heap.size := (hM18.blk (i := 0) rfl).lt
  have hll1 : b11 < (w17).heap.size := (hM18.blk (i := 1) rfl).lt
  have hll2 : b6 < (w17).heap.size := (hM18.blk (i := 2) rfl).lt
  have hll3 : b1 < (w17).heap.size := (hM18.blk (i := 3) rfl).lt
  refine l_slice1 (enc := Seat.cells) (o := (Seat.mk who 2 0)) (base := (w17).heap.size) hM18 elSeat enSeat rfl rfl rfl (by decide) (Nat.le_refl _) ?_
  intro sb21 w22 hM23 hK24 hO25
  have hG26 : StV (fun b => b < w.heap.size ∨ ((w17).heap.size ≤ b ∧ b < (w22).heap.size)) (w22) ⟨st, sp, sb21, Sl.nil, Sl.nil, Sl.nil⟩ (newGroup key lt acc lp who) := ⟨((hT1.keep0 hM23.kp).imp (fun _ h => .inl h.2)), ((hP1.keep0 hM23.kp).imp (fun _ h => .inl h.2)), ((hO25.row enSeat).lt (fun e => by rw [Seat.size]; decide)).imp (fun _ h => .inr h), Row.nil, Row.nil, Row.nil⟩
  have hgs : w.heap.size ≤ (w22).heap.size := hM23.kp.size
  refine l_v rfl (r_build rfl ((SRep.built _).trans (fill_cons rfl (Pub.size _) (by rw [SRep.size]; decide) (SRep.put_key _ key) (fill_cons rfl rfl (by rw [SRep.size]; decide) (SRep.put_title _ st) (fill_cons rfl (Access.size _) (by rw [SRep.size]; decide) (SRep.put_acc _ acc) (fill_cons rfl rfl (by rw [SRep.size]; decide) (SRep.put_pass _ sp) (fill_cons rfl rfl (by rw [SRep.size]; decide) (SRep.put_seats _ sb21) (fill_nil)))))))) ?_
  refine l_alloc hM23 rfl SRep.zv ?_
  intro b27 w28 hM29 hK30 hB31
  replace hM29 : Mem w [] [(b27, (SRep.cells SRep.zero), 37), (b16, (SRep.cells SRep.zero), 37), (b11, (Cipher.cells who), 40), (b6, (Access.cells acc), 31), (b1, (Pub.cells key), 26)] w28 := hM29
  have hNb27 : w.heap.size ≤ b27 := Nat.le_trans hM23.kp.size hB31
  refine l_store hM29 (i := 0) rfl Tryz.sizeOf37 rfl rfl (SRep.size _) (by rw [SRep.size]; decide) (SRep.one _) (put_whole _ _ ((SRep.size _).trans (SRep.size _).symm)) ?_
  intro w32 hM33 hK34
  replace hM33 : Mem w [] [(b27, (SRep.cells ((SRep.mk 0 key st acc sp sb21 Sl.nil Sl.nil Sl.nil))), 37), (b16, (SRep.cells SRep.zero), 37), (b11, (Cipher.cells who), 40), (b6, (Access.cells acc), 31), (b1, (Pub.cells key), 26)] w32 := hM33
  refine l_nil ?_
  refine c_seq ?_
  refine c_sr ?_
  refine l_v rfl (r_loadA Tryz.isAgg37 Tryz.sizeOf37 (SRep.size _) rfl (hM33.base (i := 0) rfl)) ?_
  refine l_call (gn rfl) rfl rfl (r_call Tryz.call28 rfl) (f28o (S := newGroup key lt acc lp who) (q := ⟨st, sp, sb21, Sl.nil, Sl.nil, Sl.nil⟩) ((hG26.keep0 hK30).keep hK34 (fun x hx => by simp only [List.mem_cons, List.not_mem_nil, or_false] at hx; omega))) ?_
  rintro v35 w36 ⟨rfl, hK37⟩
  have hM38 := hM33.keep hK37
  refine l_v rfl (r_not rfl) ?_
  refine l_nil ?_
  refine ways (okS (newGroup key lt acc lp who)) (fun h39 => ?_) (fun h39 => ?_)
  ·skip
   refine c_condF rfl (congrArg Bool.not h39) ?_
   refine c_skip ?_
   refine c_sr ?_
   refine l_v rfl (r_loadA Tryz.isAgg37 Tryz.sizeOf37 (SRep.size _) rfl (hM38.base (i := 0) rfl)) ?_
   refine l_call (gn rfl) rfl rfl (r_call Tryz.call30 rfl) (f30 (S := newGroup key lt acc lp who) (q := ⟨st, sp, sb21, Sl.nil, Sl.nil, Sl.nil⟩) (((hG26.keep0 hK30).keep hK34 (fun x hx => by simp only [List.mem_cons, List.not_mem_nil, or_false] at hx; omega)).keep0 hK37) (ok_total h39)) ?_
   rintro v40 w41 ⟨qo44, rfl, hO45, hK42⟩
   have hM43 := hM38.keep hK42
   have hlhO45_0 : b27 < (w36).heap.size := (hM38.blk (i := 0) rfl).lt
   have hlhO45_1 : b16 < (w36).heap.size := (hM38.blk (i := 1) rfl).lt
   have hlhO45_2 : b11 < (w36).heap.size := (hM38.blk (i := 2) rfl).lt
   have hlhO45_3 : b6 < (w36).heap.size := (hM38.blk (i := 3) rfl).lt
   have hlhO45_4 : b1 < (w36).heap.size := (hM38.blk (i := 4) rfl).lt
   refine l_store hM43 (i := 1) rfl Tryz.sizeOf37 rfl rfl (SRep.size _) (by rw [SRep.size]; decide) (SRep.one _) (put_whole _ _ ((SRep.size _).trans (SRep.size _).symm)) ?_
   intro w46 hM47 hK48
   replace hM47 : Mem w [] [(b27, (SRep.cells ((SRep.mk 0 key st acc sp sb21 Sl.nil Sl.nil Sl.nil))), 37), (b16, (SRep.cells ((SRep.mk ((newGroup key lt acc lp who).ver) ((newGroup key lt acc lp who).key) qo44.t ((newGroup key lt acc lp who).acc) qo44.p qo44.s qo44.i qo44.a qo44.b))), 37), (b11, (Cipher.cells who), 40), (b6, (Access.cells acc), 31), (b1, (Pub.cells key), 26)] w46 := hM47
   refine l_v rfl (r_assign rfl) ?_
   refine l_nil ?_
   refine c_ret ?_
   refine retCT rfl Tryz.isAgg37 Tryz.sizeOf37 (SRep.size _) rfl (hM47.base (i := 1) rfl) rfl ?_
   have hlo : w.heap.size ≤ (w36).heap.size := by have := hM0.kp.size; have := hK4.size; have := hK9.size; have := hK14.size; have := hK19.size; have := hK24.size; have := hK30.size; have := hK34.size; have := hK37.size; have := hK42.size; omega
   exact ⟨qo44, by simp only [ifOk, errOk, h39, cond_true]; rfl, by simp only [ifOk, h39, cond_true]; exact ((hO45.keepT hO45 hK48 (fun x hx => by simp only [List.mem_cons, List.not_mem_nil, or_false] at hx; omega))).lower hlo, hM47.kp⟩
  ·skip
   refine c_condT rfl (congrArg Bool.not h39) ?_
   refine c_sr ?_
   refine l_v rfl (r_build rfl ((SRep.built _).trans (fill_nil))) ?_
   refine l_store hM38 (i := 1) rfl Tryz.sizeOf37 rfl rfl (SRep.size _) (by rw [SRep.size]; decide) (SRep.one _) (put_whole _ _ ((SRep.size _).trans (SRep.size _).symm)) ?_
   intro w49 hM50 hK51
   replace hM50 : Mem w [] [(b27, (SRep.cells ((SRep.mk 0 key st acc sp sb21 Sl.nil Sl.nil Sl.nil))), 37), (b16, (SRep.cells SRep.zero), 37), (b11, (Cipher.cells who), 40), (b6, (Access.cells acc), 31), (b1, (Pub.cells key), 26)] w49 := hM50
   refine l_v rfl (r_assign rfl) ?_
   refine l_nil ?_
   refine c_ret ?_
   refine retCT rfl Tryz.isAgg37 Tryz.sizeOf37 (SRep.size _) rfl (hM50.base (i := 1) rfl) rfl ?_
   exact ⟨Six.nil, by simp only [ifOk, errOk, h39, cond_false, zero_rep]; rfl, by simp only [ifOk, h39, cond_false]; exact ownZero _ _, hM50.kp⟩
end Go.Proofs.YtekhaogjmmmniaaGreat
namespace Go.Proofs.YtekhaogjmmmniaaGreat
open Go Go.RowKit

section ops
variable {n : Nat} {env : List (Nat × Value)} {w : World} {d : Option Nat} {ty : TypeId} {pos : String} {af : Array Edge} {g : Option (Nat × Bool)} {x y : Operand} {k : IntKind}
theorem r_indexArr {T el : TypeId} {b0 off m sz i : Nat} (hT : Tryz.prog.underlying T = some (.array m el)) (hs : ∀ w, (sizeOf el).run Tryz.prog w = .ok sz w)
    (hx : ev env x = some (.pointer (some ⟨b0, off, none⟩))) (hy : ev env y = some (.int k (i : Int))) (hi : i < m) :
    Run n env w ⟨d, .indexAddr T x y, ty, pos, af, g⟩ (.value (.pointer (some ⟨b0, off + i * sz, none⟩))) w := fun a ha => by
  simp [execOp, ha.eval hx, ha.eval hy, Instr.indexAt, Instr.sureAddr, asIntOf, run_underlying hT, hs, hi, addr_add]
end ops
/-- A literal's bytes as bytes: its block is marked. -/
theorem run_convS {w : World} {b n c : Nat} {cur : Array Value} (hg : w.heap[b]? = some (.cells cur 5 (0, 0))) :
    (convert 27 27 (.slice (some ⟨b, 0, none⟩) n c)).run Tryz.prog w = .ok (.slice (some ⟨b, 0, none⟩) n c) (w.freeze ⟨b, cur.size, none⟩ 1) := by
  have hsh : w.shape? b = some (5, cur.size) := by unfold World.shape?; rw [hg]
  simp [convert, run_underlying Tryz.underlying27, run_underlying Tryz.underlying5, markStringish, hsh]
section steps
variable {n : Nat} {env : List (Nat × Value)} {W w : World} {X : List Nat} {L : List Ent} {N : Pst} {E : List (Nat × Pst)} {R : Pst} {ops : Array Oper} {rest : List Oper}
variable {d : Nat} {ty : TypeId} {pos : String} {af : Array Edge} {x : Operand} {base : Nat} {c0 : UInt8} {l : List UInt8} {s : Sl}
theorem l_convS (hM : Mem W X L w) (ho : Own base 5 w s 1 encB (c0 :: l)) (hn : Nat.blt d n = true) (hx : ev env x = some s.val) (hW : W.heap.size ≤ base) (hL : ∀ e ∈ L, e.1 < base)
    (h : ∀ w' Y, Mem W X L w' → Keeps Y w w' → New base Y → Row (fun b => base ≤ b) w' s 1 encB (c0 :: l) → AT n ((d, s.val) :: env) w' (LW ops rest N E R)) :
    AT n env w (LW ops (⟨some d, .convert 27 27 x, ty, pos, af, none⟩ :: rest) N E R) := by
  have hrow := ho.row enB
  rcases ho.own.2 with ⟨_, h2⟩ | ⟨b, cap, cur, h1, hb, hg, hnc, hml, hcs, htake⟩
  · simp at h2
  · have hfr : (w.freeze ⟨b, cur.size, none⟩ 1).heap[b]? = some (.cells cur 5 (cur.size, cur.size + 1)) := by
      unfold World.freeze
      rw [if_neg (by decide)]
      simp [Array.getElem?_modify, hg]
    have hk : Keeps [b] w (w.freeze ⟨b, cur.size, none⟩ 1) := by
      unfold World.freeze
      rw [if_neg (by decide)]
      exact ⟨rfl, rfl, rfl, by simp, fun k _ hk => by
        have : b ≠ k := fun e => hk (by simp [e])
        simp [Array.getElem?_modify, this]⟩
    have hN : New base [b] := fun y hy => by simp at hy; omega
    have hrun : Run n env w ⟨some d, .convert 27 27 x, ty, pos, af, none⟩ (.value s.val) (w.freeze ⟨b, cur.size, none⟩ 1) := fun a ha => by
      have := run_convS (w := w) (n := (c0 :: l).length) (c := cap) hg
      simp only [execOp, ha.eval hx, h1, Sem.run_bind, this, Result.andThen_ok, Sem.run_pure]
    refine l_val (gn rfl) rfl hn hrun (h _ _ (hM.newer hk hN hW hL) hk hN ⟨hrow.len, hrow.cap, hrow.big, hrow.nil0, fun i e hi => ?_⟩)
    obtain ⟨b', off, q1, q2, q3⟩ := hrow.at_ i e hi
    refine ⟨b', off, q1, q2, fun j hj => ?_⟩
    have hs : s.a = some ⟨b, 0, none⟩ := by simp only [Sl.val, Value.slice.injEq] at h1; exact h1.1
    rw [hs] at q1
    cases q1
    have q4 := q3 j hj
    rw [cell_of_row w b _ cur 5 (0, 0) hg] at q4
    rw [cell_of_row _ b _ cur 5 _ hfr, q4]
end steps
theorem wu8 (x : UInt8) (y : UInt8) : IntKind.u8.wrap ((x.toNat : Int) + (y.toNat : Int)) = ((x + y).toNat : Int) := by
  have := x.toNat_lt
  simp [IntKind.wrap, IntKind.bits, IntKind.signed, UInt8.toNat_add]

/-- The handle, and the point, of a letter. -/
def ptOf (c : UInt8) : Pt := Pt.zero.set 0 c
def personOf (c : UInt8) : Cipher := ⟨ptOf c, ptOf (c + 100)⟩
theorem person1 (c : UInt8) : put Cipher.zero.cells 0 #[vU8 c] = Cipher.cells ⟨ptOf c, Pt.zero⟩ := by kernel_rfl
theorem person2 (c e : UInt8) : put (Cipher.cells ⟨ptOf c, Pt.zero⟩) 32 #[vU8 e] = Cipher.cells ⟨ptOf c, ptOf e⟩ := by kernel_rfl

/-- The group of 'a'. -/
def groupA : State := newGroup Pub.zero [116] ⟨2, 2, 0⟩ [] (personOf 97)
theorem okA : okS groupA = true := by
  rw [okS_iff]
  refine ⟨by decide, .inl rfl, by decide, by decide, by decide, by decide, by decide, ?_, ?_, ?_, ?_, ?_, ?_, ?_⟩
  · intro i x y h1 h2; simp [groupA, newGroup] at h2; omega
  · intro i x y h1 h2; simp [groupA, newGroup] at h2
  · intro i x y h1 h2; simp [groupA, newGroup] at h2
  · intro i x y h1 h2; simp [groupA, newGroup] at h2
  · rw [apart_iff]; simp [ciphers, groupA, newGroup]
  · intro x hx; simp [groupA, newGroup] at hx; subst hx; rfl
  · intro x hx; simp [groupA, newGroup] at hx
theorem ifA : ifOk groupA = groupA := by simp only [ifOk, okA, cond_true]
theorem errA : errOk groupA = 0 := by simp only [errOk, okA, cond_true]
end Go.Proofs.YtekhaogjmmmniaaGreat
namespace Go.Proofs.YtekhaogjmmmniaaGreat
open Go Go.RowKit

theorem f27 {w : World} (c : UInt8) : Ret 27 #[vU8 c] w (fun v w' => v = .agg (personOf c).cells ∧ Keeps [] w w') := by
  have hM0 := Mem.start w
  refine enter Tryz.func27 rfl rfl ?_
  refine c_sr ?_
  refine l_alloc hM0 rfl Cipher.zv ?_
  intro b1 w2 hM3 hK4 hB5
  replace hM3 : Mem w [] [(b1, (Cipher.cells Cipher.zero), 40)] w2 := hM3
  refine l_nil ?_
  refine c_sr ?_
  refine l_alloc hM3 rfl Cipher.zv ?_
  intro b6 w7 hM8 hK9 hB10
  replace hM8 : Mem w [] [(b6, (Cipher.cells Cipher.zero), 40), (b1, (Cipher.cells Cipher.zero), 40)] w7 := hM8
  refine l_nil ?_
  refine c_sr ?_
  refine l_v rfl (r_move rfl) ?_
  refine l_v rfl (r_fieldAddr Cipher.fld_E rfl) ?_
  refine l_v rfl (r_indexArr Tryz.underlying24 Tryz.sizeOf5 rfl rfl (by decide)) ?_
  refine l_store hM8 (i := 0) rfl Tryz.sizeOf5 rfl rfl rfl (by rw [Cipher.size]; decide) (one_one rfl) (person1 c) ?_
  intro w11 hM12 hK13
  replace hM12 : Mem w [] [(b6, (Cipher.cells ((Cipher.mk (ptOf c) Pt.zero))), 40), (b1, (Cipher.cells Cipher.zero), 40)] w11 := hM12
  refine l_nil ?_
  refine c_sr ?_
  refine l_v rfl (r_move rfl) ?_
  refine l_v rfl (r_add (r := ((c + 100 : UInt8).toNat : Int)) rfl rfl (wu8 c 100)) ?_
  refine l_v rfl (r_fieldAddr Cipher.fld_F rfl) ?_
  refine l_v rfl (r_indexArr Tryz.underlying24 Tryz.sizeOf5 rfl rfl (by decide)) ?_
  refine l_store hM12 (i := 0) rfl Tryz.sizeOf5 rfl rfl rfl (by rw [Cipher.size]; decide) (one_one rfl) (person2 c (c + 100)) ?_
  intro w14 hM15 hK16
  replace hM15 : Mem w [] [(b6, (Cipher.cells ((personOf c))), 40), (b1, (Cipher.cells Cipher.zero), 40)] w14 := hM15
  refine l_nil ?_
  refine c_sr ?_
  refine l_v rfl (r_loadA Tryz.isAgg40 Tryz.sizeOf40 (Cipher.size _) rfl (hM15.base (i := 0) rfl)) ?_
  refine l_store hM15 (i := 1) rfl Tryz.sizeOf40 rfl rfl (Cipher.size _) (by rw [Cipher.size]; decide) (Cipher.one _) (put_whole _ _ ((Cipher.size _).trans (Cipher.size _).symm)) ?_
  intro w17 hM18 hK19
  replace hM18 : Mem w [] [(b6, (Cipher.cells ((personOf c))), 40), (b1, (Cipher.cells ((personOf c))), 40)] w17 := hM18
  refine l_nil ?_
  refine c_ret ?_
  refine retC rfl Tryz.isAgg40 Tryz.sizeOf40 (Cipher.size _) rfl (hM18.base (i := 1) rfl) ?_
  exact ⟨rfl, hM18.kp⟩
theorem f22 {w : World} : Ret 22 #[] w (fun v w' => ∃ q', v = .tuple #[.agg (groupA.rep q').cells, .bool true] ∧ OwnSt w.heap.size w' q' groupA ∧ Keeps [] w w') := by
  have hM0 := Mem.start w
  refine enter Tryz.func22 rfl rfl ?_
  refine c_sr ?_
  refine l_alloc hM0 rfl SRep.zv ?_
  intro b1 w2 hM3 hK4 hB5
  replace hM3 : Mem w [] [(b1, (SRep.cells SRep.zero), 37)] w2 := hM3
  refine l_v rfl (r_assign rfl) ?_
  refine l_nil ?_
  refine c_sr ?_
  refine l_v rfl (r_build rfl ((Pub.built _).trans (fill_nil))) ?_
  have hbs : w.heap.size ≤ (w2).heap.size := hM3.kp.size
  have hll0 : b1 < (w2).heap.size := (hM3.blk (i := 0) rfl).lt
  refine l_slice1 (enc := encB) (o := 116) (base := (w2).heap.size) hM3 elB enB rfl rfl rfl (by decide) (Nat.le_refl _) ?_
  intro sb6 w7 hM8 hK9 hO10
  refine l_convS hM8 hO10 rfl rfl (by have := hbs; omega) (by simp; omega) ?_
  intro w11 Y12 hM13 hK14 hY15 hR16
  refine l_v rfl (r_build rfl ((Access.built _).trans (fill_cons rfl rfl (by rw [Access.size]; decide) (Access.put_title _ 2) (fill_cons rfl rfl (by rw [Access.size]; decide) (Access.put_members _ 2) (fill_nil))))) ?_
  refine l_call (gn rfl) rfl rfl (r_call Tryz.call27 rfl) (f27 97) ?_
  rintro v17 w18 ⟨rfl, hK19⟩
  have hM20 := hM13.keep hK19
  refine l_call (gn rfl) rfl rfl (r_call Tryz.call20 rfl) (f20 (hR16.keep0 hK19) ((Row.nil (A := fun _ => True)).keep0 hM20.kp) Pub.zero ((Access.mk 2 2 0)) ((personOf 97))) ?_
  rintro v21 w22 ⟨qo25, rfl, hO26, hK23⟩
  have hM24 := hM20.keep hK23
  have hlhO26_0 : b1 < (w18).heap.size := (hM20.blk (i := 0) rfl).lt
  refine l_v rfl (r_move rfl) ?_
  refine l_v rfl (r_extract rfl rfl) ?_
  refine l_v rfl (r_extract rfl rfl) ?_
  refine l_alloc hM24 rfl SRep.zv ?_
  intro b27 w28 hM29 hK30 hB31
  replace hM29 : Mem w [] [(b27, (SRep.cells SRep.zero), 37), (b1, (SRep.cells SRep.zero), 37)] w28 := hM29
  refine l_store hM29 (i := 0) rfl Tryz.sizeOf37 rfl rfl (SRep.size _) (by rw [SRep.size]; decide) (SRep.one _) (put_whole _ _ ((SRep.size _).trans (SRep.size _).symm)) ?_
  intro w32 hM33 hK34
  replace hM33 : Mem w [] [(b27, (SRep.cells ((SRep.mk ((ifOk groupA).ver) ((ifOk groupA).key) qo25.t ((ifOk groupA).acc) qo25.p qo25.s qo25.i qo25.a qo25.b))), 37), (b1, (SRep.cells SRep.zero), 37)] w32 := hM33
  refine l_v rfl (r_assign rfl) ?_
  refine l_nil ?_
  refine c_sr ?_
  refine l_v rfl (r_loadA Tryz.isAgg37 Tryz.sizeOf37 (SRep.size _) rfl (hM33.base (i := 0) rfl)) ?_
  refine l_v rfl (r_move rfl) ?_
  refine l_v rfl (r_eql (b := decide ((errOk groupA : Nat) = 0)) rfl rfl (neq' (errOk groupA) 0)) ?_
  refine l_store hM33 (i := 1) rfl Tryz.sizeOf37 rfl rfl (SRep.size _) (by rw [SRep.size]; decide) (SRep.one _) (put_whole _ _ ((SRep.size _).trans (SRep.size _).symm)) ?_
  intro w35 hM36 hK37
  replace hM36 : Mem w [] [(b27, (SRep.cells ((SRep.mk ((ifOk groupA).ver) ((ifOk groupA).key) qo25.t ((ifOk groupA).acc) qo25.p qo25.s qo25.i qo25.a qo25.b))), 37), (b1, (SRep.cells ((SRep.mk ((ifOk groupA).ver) ((ifOk groupA).key) qo25.t ((ifOk groupA).acc) qo25.p qo25.s qo25.i qo25.a qo25.b))), 37)] w35 := hM36
  refine l_v rfl (r_assign rfl) ?_
  refine l_nil ?_
  refine c_ret ?_
  refine retCT rfl Tryz.isAgg37 Tryz.sizeOf37 (SRep.size _) rfl (hM36.base (i := 1) rfl) rfl ?_
  have hlo : w.heap.size ≤ (w18).heap.size := by have := hM0.kp.size; have := hK4.size; have := hK9.size; have := hK14.size; have := hK19.size; have := hK23.size; omega
  have hoA : OwnSt ((w18).heap.size) _ qo25 (ifOk groupA) := (hO26.keepT (hO26.keepT (hO26.keep0 hK30) hK34 (fun x hx => by simp only [List.mem_cons, List.not_mem_nil, or_false] at hx; omega)) hK37 (fun x hx => by simp only [List.mem_cons, List.not_mem_nil, or_false] at hx; omega))
  rw [ifA] at hoA
  refine ⟨qo25, ?_, hoA.lower hlo, hM36.kp⟩
  rw [ifA, errA]; rfl
end Go.Proofs.YtekhaogjmmmniaaGreat
namespace Go.Proofs.YtekhaogjmmmniaaGreat
open Go Go.RowKit

section sets
variable {α : Type} {sz base : Nat} {enc : α → Array Value} {l : List α} {e : TypeId} {w : World} {s : Sl} {i off : Nat} {x x' : α} {v cur : Array Value}
theorem flat_set (hE : EncT sz enc) (hi : l[i]? = some x) (hput : put (enc x) off v = enc x') (hk : off + v.size ≤ sz) (hc : l.length * sz ≤ cur.size) (ht : cur.toList.take (l.length * sz) = flat enc l) :
    (put cur (i * sz + off) v).toList.take (l.length * sz) = flat enc (l.set i x') := by
  have hil : i < l.length := (List.getElem?_eq_some_iff.1 hi).1
  have hle : (i + 1) * sz ≤ l.length * sz := Nat.mul_le_mul_right _ hil
  rw [Nat.succ_mul] at hle
  have hfit : i * sz + off + v.size ≤ cur.size := by omega
  apply List.ext_getElem?
  intro t
  by_cases hlt : t < l.length * sz
  · have hsz : 0 < sz := by
      rcases Nat.eq_zero_or_pos sz with h0 | h0
      · subst h0; simp at hlt
      · exact h0
    rw [List.getElem?_take_of_lt hlt, Array.getElem?_toList, put_getElem? _ _ _ hfit]
    have hj : t / sz < l.length := (Nat.div_lt_iff_lt_mul hsz).2 hlt
    have hr : t % sz < sz := Nat.mod_lt _ hsz
    have htt : t / sz * sz + t % sz = t := by rw [Nat.mul_comm]; exact Nat.div_add_mod t sz
    have hcur : cur[t]? = (enc l[t / sz])[t % sz]? := by
      have h5 := flat_at hE (List.getElem?_eq_getElem hj) hr
      rw [htt, ← ht, List.getElem?_take_of_lt hlt, Array.getElem?_toList] at h5
      exact h5
    by_cases hji : t / sz = i
    · have h6 := flat_at (l := l.set i x') hE (i := i) (x := x') (by rw [List.getElem?_set_self hil]) hr
      rw [← hji, htt] at h6
      rw [hji] at h6
      rw [h6, ← hput, put_getElem? _ _ _ (by rw [hE.size]; exact hk)]
      have hx : l[t / sz] = x := (List.getElem?_eq_some_iff.1 (show l[t / sz]? = some x by rw [hji]; exact hi)).2
      rw [hx] at hcur
      rw [hji] at htt
      by_cases hin : off ≤ t % sz ∧ t % sz < off + v.size
      · rw [if_pos hin, if_pos (by omega)]
        congr 1; omega
      · rw [if_neg hin, if_neg (by omega), hcur]
    · have h6 := flat_at (l := l.set i x') hE (i := t / sz) (x := l[t / sz]) (by rw [List.getElem?_set_ne (Ne.symm hji)]; exact List.getElem?_eq_getElem hj) hr
      rw [htt] at h6
      rw [h6, if_neg, hcur]
      rintro ⟨h7, h8⟩
      rcases Nat.lt_or_gt_of_ne hji with h9 | h9
      · have := Nat.mul_le_mul_right sz (Nat.succ_le_of_lt h9)
        rw [Nat.succ_mul] at this; omega
      · have := Nat.mul_le_mul_right sz (Nat.succ_le_of_lt h9)
        rw [Nat.succ_mul] at this; omega
  · rw [List.getElem?_eq_none (by simp; omega), List.getElem?_eq_none (by rw [flat_length hE, List.length_set]; omega)]
theorem Own.set (ho : Own base e w s sz enc l) (hE : EncT sz enc) (hi : l[i]? = some x) {b o : Nat} (ha : s.a = some ⟨b, o, none⟩) (hput : put (enc x) off v = enc x') (hk : off + v.size ≤ sz) :
    ∃ cur, o = 0 ∧ base ≤ b ∧ Blk w b cur e ∧ o + i * sz + off + v.size ≤ cur.size ∧ Own base e (w.setRow b (put cur (o + i * sz + off) v)) s sz enc (l.set i x') := by
  have hil : i < l.length := (List.getElem?_eq_some_iff.1 hi).1
  rcases ho.own.2 with ⟨_, h2⟩ | ⟨g, cap, cur, h1, hb, hg, hnc, hml, hcs, htake⟩
  · omega
  · simp only [Sl.val, Value.slice.injEq] at h1
    rw [h1.1] at ha
    cases ha
    have hle : (i + 1) * sz ≤ l.length * sz := Nat.mul_le_mul_right _ hil
    rw [Nat.succ_mul] at hle
    have hc : l.length * sz ≤ cur.size := by rw [hcs]; exact Nat.mul_le_mul_right _ hnc
    have hfit : i * sz + off + v.size ≤ cur.size := by omega
    refine ⟨cur, rfl, hb, hg, by omega, ⟨⟨by rw [flat_length hE], .inr ⟨b, cap, put cur (0 + i * sz + off) v, ?_, hb, setRow_heap w b cur _ e _ hg, by rw [List.length_set]; exact hnc, hml, ?_, ?_⟩⟩, by rw [List.length_set]; exact ho.big⟩⟩
    · simp only [Sl.val, Value.slice.injEq]
      exact ⟨h1.1, by rw [List.length_set]; exact h1.2.1, h1.2.2⟩
    · rw [Nat.zero_add, put_size _ _ _ hfit]; exact hcs
    · rw [List.length_set, Nat.zero_add]
      exact flat_set hE hi hput hk hc htake
end sets

section steps
variable {n : Nat} {env : List (Nat × Value)} {W w : World} {X : List Nat} {L : List Ent} {N : Pst} {E : List (Nat × Pst)} {R : Pst} {ops : Array Oper} {rest : List Oper}
variable {ty : TypeId} {pos : String} {af : Array Edge} {p y : Operand} {T e : TypeId} {α : Type} {sz base : Nat} {enc : α → Array Value} {l : List α} {s : Sl} {i off k : Nat} {x x' : α} {v : Value} {b o : Nat}
variable {S : World → Prop} {late : List Nat} {r : List (Nat × Bool)} {ld : Bool} {j : Nat}
end steps
end Go.Proofs.YtekhaogjmmmniaaGreat
namespace Go.Proofs.YtekhaogjmmmniaaGreat
open Go Go.RowKit

structure Roll where
  b : Nat
  o : Nat
  f : Nat
def Roll.cells (r : Roll) : Array Value := #[.pointer (some ⟨r.b, r.o, none⟩), .func (.func r.f) #[] #[]]
theorem Roll.size (r : Roll) : r.cells.size = 2 := rfl
theorem Roll.one (r : Roll) : ∀ c ∈ r.cells, c.oneCell' = true := by
  intro c hc
  simp only [Roll.cells, List.mem_toArray, List.mem_cons, List.not_mem_nil, or_false] at hc
  rcases hc with rfl | rfl <;> rfl
theorem Roll.sub_l (r : Roll) : Sub r.cells 0 #[.pointer (some ⟨r.b, r.o, none⟩)] := fun j hj => by
  simp at hj; subst hj; rfl
theorem Roll.sub_of (r : Roll) : Sub r.cells 1 #[.func (.func r.f) #[] #[]] := fun j hj => by
  simp at hj; subst hj; rfl

theorem fld115l : FldAt 115 0 0 := ⟨_, _, _, Tryz.underlying115, rfl, rfl, Tryz.sizeOf112, by decide⟩
theorem fld115f : FldAt 115 1 1 := ⟨_, _, _, Tryz.underlying115, rfl, rfl, Tryz.sizeOf113, by decide⟩
theorem fld120l : FldAt 120 0 0 := ⟨_, _, _, Tryz.underlying120, rfl, rfl, Tryz.sizeOf117, by decide⟩
theorem fld120f : FldAt 120 1 1 := ⟨_, _, _, Tryz.underlying120, rfl, rfl, Tryz.sizeOf118, by decide⟩
theorem fld125l : FldAt 125 0 0 := ⟨_, _, _, Tryz.underlying125, rfl, rfl, Tryz.sizeOf122, by decide⟩
theorem fld125f : FldAt 125 1 1 := ⟨_, _, _, Tryz.underlying125, rfl, rfl, Tryz.sizeOf123, by decide⟩
theorem fld157l : FldAt 157 0 0 := ⟨_, _, _, Tryz.underlying157, rfl, rfl, Tryz.sizeOf154, by decide⟩
theorem fld157f : FldAt 157 1 1 := ⟨_, _, _, Tryz.underlying157, rfl, rfl, Tryz.sizeOf155, by decide⟩
def Roll.noCells : Array Value := #[.pointer none, .nilFunc]
theorem Roll.built115 (r : Roll) : Tryz.prog.built 115 [(0, .pointer (some ⟨r.b, r.o, none⟩)), (1, .func (.func r.f) #[] #[])] = some r.cells := by kernel_rfl
theorem Roll.zv115 : ∀ w, (zeroValue 115).run Tryz.prog w = .ok (.agg Roll.noCells) w := fun w => by rw [Tryz.zeroValue115]; rfl
theorem Roll.built120 (r : Roll) : Tryz.prog.built 120 [(0, .pointer (some ⟨r.b, r.o, none⟩)), (1, .func (.func r.f) #[] #[])] = some r.cells := by kernel_rfl
theorem Roll.zv120 : ∀ w, (zeroValue 120).run Tryz.prog w = .ok (.agg Roll.noCells) w := fun w => by rw [Tryz.zeroValue120]; rfl
theorem Roll.built125 (r : Roll) : Tryz.prog.built 125 [(0, .pointer (some ⟨r.b, r.o, none⟩)), (1, .func (.func r.f) #[] #[])] = some r.cells := by kernel_rfl
theorem Roll.zv125 : ∀ w, (zeroValue 125).run Tryz.prog w = .ok (.agg Roll.noCells) w := fun w => by rw [Tryz.zeroValue125]; rfl
theorem Roll.built157 (r : Roll) : Tryz.prog.built 157 [(0, .pointer (some ⟨r.b, r.o, none⟩)), (1, .func (.func r.f) #[] #[])] = some r.cells := by kernel_rfl
theorem Roll.zv157 : ∀ w, (zeroValue 157).run Tryz.prog w = .ok (.agg Roll.noCells) w := fun w => by rw [Tryz.zeroValue157]; rfl
end Go.Proofs.YtekhaogjmmmniaaGreat
namespace Go.Proofs.YtekhaogjmmmniaaGreat
open Go Go.RowKit

def Seat.key (x : Seat) : Pt := x.who.E
def Invite.key (x : Invite) : Pt := x.who.E
def Ask.key (x : Ask) : Pt := x.who.E
def Ban.key (x : Ban) : Pt := x.who.E

section keys
variable {α : Type} (key : α → Pt)
/-- How many lie below e. -/
def posK (l : List α) (e : Pt) : Nat := l.countP fun x => ptLt (key x) e
def isK (e : Pt) (x : α) : Bool := decide (key x = e)
def hasK (l : List α) (e : Pt) : Bool := l.any (isK key e)
/-- The list without e. -/
def outK (l : List α) (e : Pt) : List α := l.filter fun x => !isK key e x
/-- The list with x in its place. -/
def putK (l : List α) (x : α) : List α := l.take (posK key l (key x)) ++ x :: l.drop (posK key l (key x))
/-- The handles rise. -/
def UpK (l : List α) : Prop := l.Pairwise fun x y => ptLt (key x) (key y) = true
end keys

/-! ### The order of handles -/
theorem bytesLess_irrefl : ∀ l : List UInt8, Op.bytesLess l l = false
  | [] => rfl
  | a :: l => by
    simp only [Op.bytesLess]
    simp [bytesLess_irrefl l]
theorem bytesLess_trans : ∀ {x y z : List UInt8}, Op.bytesLess x y = true → Op.bytesLess y z = true → Op.bytesLess x z = true := by
  intro x y z h1 h2
  rw [bytesLess_eq] at h1 h2 ⊢
  exact decide_eq_true (Std.lt_trans (of_decide_eq_true h1) (of_decide_eq_true h2))
theorem cmp_lt0 : ∀ (x y : List UInt8), decide (Lib.compareBytes x y < 0) = Op.bytesLess x y
  | [], [] => by simp [Lib.compareBytes, Op.bytesLess]
  | [], _ :: _ => by simp [Lib.compareBytes, Op.bytesLess]
  | _ :: _, [] => by simp [Lib.compareBytes, Op.bytesLess]
  | a :: x, b :: y => by
    have h := cmp_lt (a :: x) (b :: y)
    have h2 : decide (Lib.compareBytes (a :: x) (b :: y) < 0) = !decide (0 ≤ Lib.compareBytes (a :: x) (b :: y)) := by
      by_cases h3 : Lib.compareBytes (a :: x) (b :: y) < 0
      · rw [decide_eq_true h3, decide_eq_false (by omega)]; rfl
      · rw [decide_eq_false h3, decide_eq_true (by omega)]; rfl
    rw [h2, h]; simp
theorem cmp_eq0 : ∀ (x y : List UInt8), decide (Lib.compareBytes x y = 0) = decide (x = y)
  | [], [] => by simp [Lib.compareBytes]
  | [], _ :: _ => by simp [Lib.compareBytes]
  | _ :: _, [] => by simp [Lib.compareBytes]
  | a :: x, b :: y => by
    have ih := cmp_eq0 x y
    simp only [Lib.compareBytes]
    by_cases h : a < b
    · have : ¬ a = b := fun e => by subst e; exact absurd h (UInt8.lt_irrefl a)
      simp [h, this]
    · by_cases h2 : b < a
      · have : ¬ a = b := fun e => by subst e; exact h h2
        simp [h, h2, this]
      · have : a = b := UInt8.le_antisymm (UInt8.not_lt.1 h2) (UInt8.not_lt.1 h)
        subst this
        simpa [h] using ih
theorem Pt.bytes_inj {a b : Pt} (h : a.bytes = b.bytes) : a = b := by
  cases a with | mk a ha => cases b with | mk b hb =>
  simp only [Pt.bytes, Vector.toList] at h
  have := Array.ext' h
  subst this; rfl
theorem ptCmp_lt (a b : Pt) : decide (ptCmp a b < 0) = ptLt a b := cmp_lt0 _ _
theorem ptCmp_eq (a b : Pt) : decide (ptCmp a b = 0) = decide (a = b) := by
  unfold ptCmp
  rw [cmp_eq0, decide_eq_decide]
  exact ⟨Pt.bytes_inj, fun h => by rw [h]⟩
theorem ptLt_irrefl (a : Pt) : ptLt a a = false := bytesLess_irrefl _
theorem ptLt_trans {a b c : Pt} (h1 : ptLt a b = true) (h2 : ptLt b c = true) : ptLt a c = true := bytesLess_trans h1 h2
theorem ptLt_tri (a b : Pt) : ptLt a b = true ∨ a = b ∨ ptLt b a = true := by
  have h := ptCmp_ge a b
  by_cases h1 : ptLt a b = true
  · exact .inl h1
  · by_cases h2 : a = b
    · exact .inr (.inl h2)
    · refine .inr (.inr ?_)
      rw [ptLt_eq]
      rw [ptLt_eq] at h1
      rw [decide_eq_true_eq] at h1 ⊢
      by_cases h3 : b.bytes < a.bytes
      · exact h3
      · exact absurd (Pt.bytes_inj (Std.le_antisymm (Std.not_lt.1 h3) (Std.not_lt.1 h1))) h2

section lists
variable {α : Type} {key : α → Pt} {l : List α} {e : Pt} {x : α} {k : Nat}
theorem rising_up {who : α → Cipher} (h : Rising (l.map who)) : UpK (fun x => (who x).E) l := by
  unfold UpK
  rw [List.pairwise_iff_getElem]
  -- next to each other, so all
  have step : ∀ i, ∀ (h1 : i + 1 < l.length), ptLt (who l[i]).E (who l[i + 1]).E = true := fun i h1 => by
    have := h (i + 1) (who l[i]) (who l[i + 1]) (by omega) (by simpa using h1) (by rw [Nat.add_sub_cancel, List.getElem?_map, List.getElem?_eq_getElem (by omega)]; rfl) (by rw [List.getElem?_map, List.getElem?_eq_getElem h1]; rfl)
    exact this
  intro i j hi hj hij
  obtain ⟨d, rfl⟩ : ∃ d, j = i + 1 + d := ⟨j - (i + 1), by omega⟩
  induction d with
  | zero => exact step i hj
  | succ d ih => exact ptLt_trans (ih (by omega) (by omega)) (step (i + 1 + d) hj)
theorem up_rising {who : α → Cipher} (h : UpK (fun x => (who x).E) l) : Rising (l.map who) := by
  intro i x y h1 h2 hx hy
  unfold UpK at h
  rw [List.pairwise_iff_getElem] at h
  rw [List.getElem?_map] at hx hy
  simp only [List.length_map] at h2
  have hl : i - 1 < l.length := by omega
  rw [List.getElem?_eq_getElem hl] at hx
  rw [List.getElem?_eq_getElem h2] at hy
  simp only [Option.map_some, Option.some.injEq] at hx hy
  subst hx; subst hy
  exact h (i - 1) i hl h2 (by omega)

/-- What a rising list looks like from the place of e on. -/
theorem up_split (h : UpK key l) (e : Pt) : (∀ x ∈ l.take (posK key l e), ptLt (key x) e = true) ∧ (∀ x ∈ l.drop (posK key l e), ptLt (key x) e = false) := by
  induction l with
  | nil => simp
  | cons a l ih =>
    unfold UpK at h ih
    rw [List.pairwise_cons] at h
    have ih' := ih h.2
    unfold posK at ih' ⊢
    by_cases ha : ptLt (key a) e = true
    · rw [List.countP_cons_of_pos (p := fun x => ptLt (key x) e) ha]
      simp only [List.take_succ_cons, List.drop_succ_cons, List.mem_cons, forall_eq_or_imp]
      exact ⟨⟨ha, ih'.1⟩, ih'.2⟩
    · have h0 : l.countP (fun x => ptLt (key x) e) = 0 := by
        rw [List.countP_eq_zero]
        intro y hy hc
        exact ha (ptLt_trans (h.1 y hy) hc)
      rw [List.countP_cons_of_neg (p := fun x => ptLt (key x) e) ha, h0]
      simp only [List.take_zero, List.not_mem_nil, false_imp_iff, implies_true, List.drop_zero, List.mem_cons, true_and]
      rintro y (rfl | hy)
      · simpa using ha
      · cases hc : ptLt (key y) e with
        | false => rfl
        | true => exact absurd (ptLt_trans (h.1 y hy) hc) ha
theorem pos_le : posK key l e ≤ l.length := List.countP_le_length
theorem up_pos (h1 : ∀ t x, t < k → l[t]? = some x → ptLt (key x) e = true) (h2 : ∀ t x, k ≤ t → l[t]? = some x → ptLt (key x) e = false) (hk : k ≤ l.length) : posK key l e = k := by
  unfold posK
  rw [← List.take_append_drop k l, List.countP_append]
  have a : (l.take k).countP (fun x => ptLt (key x) e) = k := by
    have : (l.take k).countP (fun x => ptLt (key x) e) = (l.take k).length := by
      rw [List.countP_eq_length]
      intro x hx
      obtain ⟨j, hj⟩ := List.mem_iff_getElem?.1 hx
      rw [List.getElem?_take] at hj
      split at hj
      · rename_i hlt; exact h1 j x hlt hj
      · cases hj
    rw [this, List.length_take]; omega
  have b : (l.drop k).countP (fun x => ptLt (key x) e) = 0 := by
    rw [List.countP_eq_zero]
    intro x hx hc
    obtain ⟨j, hj⟩ := List.mem_iff_getElem?.1 hx
    rw [List.getElem?_drop] at hj
    rw [h2 (k + j) x (by omega) hj] at hc; cases hc
  omega
theorem up_mono (h : UpK key l) {s t : Nat} {y : α} (hst : s ≤ t) (hx : l[s]? = some x) (hy : l[t]? = some y) (hl : ptLt (key y) e = true) : ptLt (key x) e = true := by
  rcases Nat.lt_or_eq_of_le hst with h1 | h1
  · unfold UpK at h
    rw [List.pairwise_iff_getElem] at h
    obtain ⟨hs, e1⟩ := List.getElem?_eq_some_iff.1 hx
    obtain ⟨ht, e2⟩ := List.getElem?_eq_some_iff.1 hy
    have := h s t hs ht h1
    rw [e1, e2] at this
    exact ptLt_trans this hl
  · subst h1; rw [hx] at hy; cases hy; exact hl
/-- Who is there stands at that place. -/
theorem has_at (h : UpK key l) (hx : l[posK key l e]? = some x) : hasK key l e = decide (key x = e) := by
  obtain ⟨h1, h2⟩ := up_split h e
  unfold hasK
  by_cases hk : key x = e
  · rw [decide_eq_true hk]
    exact List.any_eq_true.2 ⟨x, List.mem_of_getElem? hx, decide_eq_true hk⟩
  · rw [decide_eq_false hk, List.any_eq_false]
    intro y hy hc
    have hye : key y = e := of_decide_eq_true hc
    rw [← List.take_append_drop (posK key l e) l, List.mem_append] at hy
    rcases hy with hy | hy
    · have := h1 y hy; rw [hye, ptLt_irrefl] at this; cases this
    · obtain ⟨j, hj⟩ := List.mem_iff_getElem?.1 hy
      rw [List.getElem?_drop] at hj
      rcases Nat.eq_zero_or_pos j with h0 | h0
      · subst h0; rw [Nat.add_zero, hx] at hj; cases hj; exact hk hye
      · unfold UpK at h
        rw [List.pairwise_iff_getElem] at h
        obtain ⟨hs, e1⟩ := List.getElem?_eq_some_iff.1 hx
        obtain ⟨ht, e2⟩ := List.getElem?_eq_some_iff.1 hj
        have h3 := h _ _ hs ht (by omega)
        rw [e1, e2, hye] at h3
        have h4 : ptLt (key x) e = false := h2 x (by
          refine List.mem_iff_getElem?.2 ⟨0, ?_⟩
          rw [List.getElem?_drop, Nat.add_zero]; exact hx)
        rw [h3] at h4; cases h4
theorem has_end (h : UpK key l) (hk : ¬ posK key l e < l.length) : hasK key l e = false := by
  obtain ⟨h1, _⟩ := up_split h e
  unfold hasK
  rw [List.any_eq_false]
  intro y hy hc
  have hye : key y = e := of_decide_eq_true hc
  rw [← List.take_of_length_le (Nat.not_lt.1 hk)] at hy
  have := h1 y hy; rw [hye, ptLt_irrefl] at this; cases this
theorem has_find (h : UpK key l) (hh : hasK key l e = true) : ∃ x, l[posK key l e]? = some x ∧ key x = e ∧ l.find? (isK key e) = some x := by
  by_cases hk : posK key l e < l.length
  · have hx := List.getElem?_eq_getElem hk
    have h1 := has_at h hx
    rw [hh] at h1
    have hke := of_decide_eq_true h1.symm
    refine ⟨_, hx, hke, find_at hx (decide_eq_true hke) (fun j y hj hy => ?_)⟩
    have h2 := (up_split h e).1 y (List.mem_iff_getElem?.2 ⟨j, by rw [List.getElem?_take_of_lt hj]; exact hy⟩)
    refine decide_eq_false fun hye => ?_
    rw [hye, ptLt_irrefl] at h2; cases h2
  · rw [has_end h hk] at hh; cases hh
/-- Taking out who stands there. -/
theorem out_has (h : UpK key l) (hh : hasK key l e = true) : outK key l e = l.take (posK key l e) ++ l.drop (posK key l e + 1) := by
  obtain ⟨x, hx, hke, _⟩ := has_find h hh
  obtain ⟨hs, e1⟩ := List.getElem?_eq_some_iff.1 hx
  have hl : l = l.take (posK key l e) ++ x :: l.drop (posK key l e + 1) := by
    rw [← e1, List.getElem_cons_drop hs, List.take_append_drop]
  unfold UpK at h
  generalize posK key l e = k at *
  rw [hl] at h
  rw [List.pairwise_append, List.pairwise_cons] at h
  unfold outK
  conv => lhs; rw [hl]
  have hxx : isK key e x = true := decide_eq_true hke
  rw [List.filter_append, List.filter_cons, hxx]
  simp only [Bool.not_true, Bool.false_eq_true, if_false]
  congr 1
  · rw [List.filter_eq_self]
    intro y hy
    have := h.2.2 y hy x (List.mem_cons_self)
    rw [hke] at this
    simp only [isK, Bool.not_eq_eq_eq_not, Bool.not_true, decide_eq_false_iff_not]
    intro hye; rw [hye, ptLt_irrefl] at this; cases this
  · rw [List.filter_eq_self]
    intro y hy
    have := h.2.1.1 y hy
    rw [hke] at this
    simp only [isK, Bool.not_eq_eq_eq_not, Bool.not_true, decide_eq_false_iff_not]
    intro hye; rw [hye, ptLt_irrefl] at this; cases this
theorem out_no (hh : hasK key l e = false) : outK key l e = l := by
  unfold outK
  rw [List.filter_eq_self]
  intro y hy
  have := List.any_eq_false.1 hh y hy
  simpa using this
theorem out_up (h : UpK key l) (e : Pt) : UpK key (outK key l e) := h.sublist List.filter_sublist
theorem out_len : (outK key l e).length ≤ l.length := List.length_filter_le _ _
theorem put_len : (putK key l x).length = l.length + 1 := by
  have := pos_le (key := key) (l := l) (e := key x)
  simp [putK]; omega
theorem put_up (h : UpK key l) (hn : hasK key l (key x) = false) : UpK key (putK key l x) := by
  obtain ⟨h1, h2⟩ := up_split h (key x)
  unfold UpK putK at *
  have h' := h
  rw [← List.take_append_drop (posK key l (key x)) l, List.pairwise_append] at h'
  rw [List.pairwise_append, List.pairwise_cons]
  refine ⟨h'.1, ⟨fun y hy => ?_, h'.2.1⟩, fun y hy z hz => ?_⟩
  · have h3 := h2 y hy
    rcases ptLt_tri (key x) (key y) with h4 | h4 | h4
    · exact h4
    · have := List.any_eq_false.1 hn y (List.mem_of_mem_drop hy)
      exact absurd (decide_eq_true h4.symm) this
    · rw [h3] at h4; cases h4
  · rw [List.mem_cons] at hz
    rcases hz with rfl | hz
    · exact h1 y hy
    · exact h'.2.2 y hy z hz
theorem mem_put {y : α} : y ∈ putK key l x ↔ y = x ∨ y ∈ l := by
  unfold putK
  rw [List.mem_append, List.mem_cons]
  conv => rhs; rw [← List.take_append_drop (posK key l (key x)) l, List.mem_append]
  constructor
  · rintro (h | h | h)
    · exact .inr (.inl h)
    · exact .inl h
    · exact .inr (.inr h)
  · rintro (h | h | h)
    · exact .inr (.inl h)
    · exact .inl h
    · exact .inr (.inr h)
theorem mem_out {y : α} : y ∈ outK key l e ↔ y ∈ l ∧ ¬ key y = e := by
  simp [outK, isK]
theorem has_iff : hasK key l e = true ↔ ∃ x ∈ l, key x = e := by
  simp [hasK, isK]
theorem has_find? : hasK key l e = (l.find? (isK key e)).isSome := by
  unfold hasK
  rw [Bool.eq_iff_iff, List.any_eq_true, List.find?_isSome]
end lists
end Go.Proofs.YtekhaogjmmmniaaGreat
namespace Go.Proofs.YtekhaogjmmmniaaGreat
open Go Go.RowKit
theorem cu64 (n : Nat) (h : n < 18446744073709551616) : IntKind.u64.wrap (n : Int) = (n : Int) := by
  simp [IntKind.wrap, IntKind.bits, IntKind.signed]; omega
theorem ci64 (n : Nat) (h : n < 9223372036854775808) : IntKind.i64.wrap (n : Int) = (n : Int) := IntWalk.i64_in _ (by omega)
theorem ushr1 (n : Nat) : (n : Int).fdiv (2 ^ (min (1 : Int).toNat IntKind.u64.bits)) = ((n / 2 : Nat) : Int) := by
  have : (2 : Int) ^ (min (1 : Int).toNat IntKind.u64.bits) = 2 := by decide
  rw [this, Int.fdiv_eq_ediv_of_nonneg _ (by decide)]; omega
theorem cmpl_yes {a b : Pt} (h : ptCmp a b < ((0 : Nat) : Int)) : ptLt a b = true := by
  rw [← ptCmp_lt]; exact decide_eq_true h
theorem cmpl_no {a b : Pt} (h : ¬ ptCmp a b < ((0 : Nat) : Int)) : ptLt a b = false := by
  rw [← ptCmp_lt]; exact decide_eq_false h
theorem Blk.whole {w : World} {b : Nat} {cs : Array Value} {t : TypeId} (h : Blk w b cs t) : Holds w b 0 cs := h.holds (Sub.refl _)
abbrev RollS.cells (r : Roll) : Array Value := r.cells
theorem RollS.size (r : Roll) : (RollS.cells r).size = 2 := rfl
theorem RollS.one (r : Roll) : ∀ c ∈ RollS.cells r, c.oneCell' = true := r.one
theorem RollS.sub_l (r : Roll) : Sub (RollS.cells r) 0 #[.pointer (some ⟨r.b, r.o, none⟩)] := r.sub_l
theorem RollS.sub_of (r : Roll) : Sub (RollS.cells r) 1 #[.func (.func r.f) #[] #[]] := r.sub_of
theorem RollS.fld_l : FldAt 115 0 0 := fld115l
theorem RollS.fld_of : FldAt 115 1 1 := fld115f
abbrev RollI.cells (r : Roll) : Array Value := r.cells
theorem RollI.size (r : Roll) : (RollI.cells r).size = 2 := rfl
theorem RollI.one (r : Roll) : ∀ c ∈ RollI.cells r, c.oneCell' = true := r.one
theorem RollI.sub_l (r : Roll) : Sub (RollI.cells r) 0 #[.pointer (some ⟨r.b, r.o, none⟩)] := r.sub_l
theorem RollI.sub_of (r : Roll) : Sub (RollI.cells r) 1 #[.func (.func r.f) #[] #[]] := r.sub_of
theorem RollI.fld_l : FldAt 120 0 0 := fld120l
theorem RollI.fld_of : FldAt 120 1 1 := fld120f
abbrev RollA.cells (r : Roll) : Array Value := r.cells
theorem RollA.size (r : Roll) : (RollA.cells r).size = 2 := rfl
theorem RollA.one (r : Roll) : ∀ c ∈ RollA.cells r, c.oneCell' = true := r.one
theorem RollA.sub_l (r : Roll) : Sub (RollA.cells r) 0 #[.pointer (some ⟨r.b, r.o, none⟩)] := r.sub_l
theorem RollA.sub_of (r : Roll) : Sub (RollA.cells r) 1 #[.func (.func r.f) #[] #[]] := r.sub_of
theorem RollA.fld_l : FldAt 125 0 0 := fld125l
theorem RollA.fld_of : FldAt 125 1 1 := fld125f
abbrev RollB.cells (r : Roll) : Array Value := r.cells
theorem RollB.size (r : Roll) : (RollB.cells r).size = 2 := rfl
theorem RollB.one (r : Roll) : ∀ c ∈ RollB.cells r, c.oneCell' = true := r.one
theorem RollB.sub_l (r : Roll) : Sub (RollB.cells r) 0 #[.pointer (some ⟨r.b, r.o, none⟩)] := r.sub_l
theorem RollB.sub_of (r : Roll) : Sub (RollB.cells r) 1 #[.func (.func r.f) #[] #[]] := r.sub_of
theorem RollB.fld_l : FldAt 157 0 0 := fld157l
theorem RollB.fld_of : FldAt 157 1 1 := fld157f
end Go.Proofs.YtekhaogjmmmniaaGreat
namespace Go.Proofs.YtekhaogjmmmniaaGreat
open Go Go.RowKit

theorem f63 {w : World} (b : Nat) : Ret 63 #[.pointer (some ⟨b, 0, none⟩)] w (fun v w' => v = .agg (Roll.cells ⟨b, 70, 91⟩) ∧ Keeps [] w w') := by
  have hM0 := Mem.start w
  refine enter Tryz.func63 rfl rfl ?_
  refine c_sr ?_
  refine l_alloc hM0 rfl Roll.zv115 ?_
  intro b1 w2 hM3 hK4 hB5
  replace hM3 : Mem w [] [(b1, Roll.noCells, 115)] w2 := hM3
  refine l_nil ?_
  refine c_sr ?_
  refine l_v rfl (r_move rfl) ?_
  refine l_v rfl (r_nilCheck rfl) ?_
  refine l_v rfl (r_fieldAddr SRep.fld_seats rfl) ?_
  refine l_v rfl (r_build rfl (Roll.built115 (⟨b, 70, 91⟩ : Roll))) ?_
  refine l_store hM3 (i := 0) rfl Tryz.sizeOf115 rfl rfl (RollS.size _) (by decide) (RollS.one _) (put_whole _ _ rfl) ?_
  intro w6 hM7 hK8
  replace hM7 : Mem w [] [(b1, (RollS.cells ((⟨b, 70, 91⟩ : Roll))), 115)] w6 := hM7
  refine l_nil ?_
  refine c_ret ?_
  refine retC rfl Tryz.isAgg115 Tryz.sizeOf115 (RollS.size _) rfl (hM7.base (i := 0) rfl) ?_
  exact ⟨rfl, hM7.kp⟩
theorem f91 {w : World} (b o : Nat) : Ret 91 #[.pointer (some ⟨b, o, none⟩)] w (fun v w' => v = .pointer (some ⟨b, o + 0, none⟩) ∧ Keeps [] w w') := by
  have hM0 := Mem.start w
  refine enter Tryz.func91 rfl rfl ?_
  refine c_sr ?_
  refine l_v rfl (r_assign rfl) ?_
  refine l_nil ?_
  refine c_sr ?_
  refine l_v rfl (r_move rfl) ?_
  refine l_v rfl (r_nilCheck rfl) ?_
  refine l_v rfl (r_fieldAddr Seat.fld_who rfl) ?_
  refine l_v rfl (r_assign rfl) ?_
  refine l_nil ?_
  refine c_ret ?_
  refine ret1 rfl rfl ?_
  exact ⟨rfl, hM0.kp⟩
theorem f108 {w : World} {rb bl ol : Nat} (hr : Holds w rb 0 (Roll.cells ⟨bl, ol, 91⟩)) (x : Seat) (e : Pt) : Ret 108 #[.agg x.cells, .agg e.cells, .pointer (some ⟨rb, 0, none⟩)] w (fun v w' => v = .int .i64 (ptCmp x.key e) ∧ Keeps [] w w') := by
  have hM0 := Mem.start w
  refine enter Tryz.func108 rfl rfl ?_
  refine c_sr ?_
  refine l_box hM0 rfl rfl ?_
  intro b1 w2 hM3 hK4 hB5
  replace hM3 : Mem w [] [(b1, (Seat.cells x), 73)] w2 := hM3
  refine l_box hM3 rfl rfl ?_
  intro b6 w7 hM8 hK9 hB10
  replace hM8 : Mem w [] [(b6, (Pt.cells e), 24), (b1, (Seat.cells x), 73)] w7 := hM8
  refine l_v rfl (r_assign rfl) ?_
  refine l_nil ?_
  refine c_sr ?_
  refine l_v rfl (r_fieldAddr RollS.fld_of rfl) ?_
  refine l_v rfl (r_load1 (v := Value.func (Fn.func 91) #[] #[]) Tryz.isAgg113 rfl (Holds.sub (hr.keep hM8.kp (by simp)) (RollS.sub_of _))) ?_
  refine l_call (gn rfl) rfl rfl (r_callv (cap := []) rfl Tryz.call91 rfl) (f91 _ _) ?_
  rintro v11 w12 ⟨rfl, hK13⟩
  have hM14 := hM8.keep hK13
  refine l_v rfl (r_nilCheck rfl) ?_
  refine l_v rfl (r_fieldAddr Cipher.fld_E rfl) ?_
  refine l_v rfl (r_loadA Tryz.isAgg24 Tryz.sizeOf24 (Pt.size _) rfl (Holds.sub (Holds.sub (hM14.base (i := 1) rfl) (Seat.sub_who _)) (Cipher.sub_E _))) ?_
  refine l_alloc hM14 rfl zv_Pt ?_
  intro b15 w16 hM17 hK18 hB19
  replace hM17 : Mem w [] [(b15, (Pt.cells Pt.zero), 24), (b6, (Pt.cells e), 24), (b1, (Seat.cells x), 73)] w16 := hM17
  refine l_store hM17 (i := 0) rfl Tryz.sizeOf24 rfl rfl (Pt.size _) (by rw [Pt.size]; decide) (Pt.one _) (put_whole _ _ ((Pt.size _).trans (Pt.size _).symm)) ?_
  intro w20 hM21 hK22
  replace hM21 : Mem w [] [(b15, (Pt.cells x.who.E), 24), (b6, (Pt.cells e), 24), (b1, (Seat.cells x), 73)] w20 := hM21
  refine l_nil ?_
  refine c_seq ?_
  refine c_regD (Mem w [] [(b15, (Pt.cells x.who.E), 24), (b6, (Pt.cells e), 24), (b1, (Seat.cells x), 73)]) [] [(0, true), (1, true), (2, false), (3, true)] (by kernel_rfl) ?_
  have hM23 := hM21.drew
  refine s_take hM23 rfl (gn rfl) rfl rfl (fun w h => r_sliceArr Tryz.underlying24 Tryz.sizeOf5 rfl) ?_
  refine s_take hM23 rfl (gn rfl) rfl rfl (fun w h => r_sliceArr Tryz.underlying24 Tryz.sizeOf5 rfl) ?_
  refine s_call rfl (gn rfl) rfl rfl (r_call Tryz.call88 rfl) (f88 (hM23.base (i := 0) rfl) (hM23.base (i := 1) rfl)) ?_
  rintro v25 w26 ⟨rfl, hK27⟩
  have hM28 := hM23.keep hK27
  refine ⟨.inr hM28, ?_⟩
  refine s_take hM28 rfl (gn rfl) rfl rfl (fun w h => r_assign rfl) ?_
  refine s_nil ?_
  refine c_ret ?_
  refine ret1 rfl rfl ?_
  exact ⟨rfl, hM28.kp⟩
theorem f107 {A : Nat → Prop} {w : World} {rb bl ol : Nat} {s : Sl} {l : List Seat} (hR : Row A w s 66 Seat.cells l) (hr : Holds w rb 0 (Roll.cells ⟨bl, ol, 91⟩)) (hu : UpK Seat.key l) (e : Pt) :
    Ret 107 #[s.val, .agg e.cells, .func (.func 108) #[] #[.pointer (some ⟨rb, 0, none⟩)]] w (fun v w' => v = .tuple #[.int .i64 ((posK Seat.key l e : Nat) : Int), .bool (hasK Seat.key l e)] ∧ Keeps [] w w') := by
  have hn := hR.bd
  have hM0 := Mem.start w
  refine enter Tryz.func107 rfl rfl ?_
  refine c_sr ?_
  refine l_box hM0 rfl rfl ?_
  intro b1 w2 hM3 hK4 hB5
  replace hM3 : Mem w [] [(b1, (Pt.cells e), 24)] w2 := hM3
  refine l_v rfl (r_assign rfl) ?_
  refine l_v rfl (r_assign rfl) ?_
  refine l_nil ?_
  refine c_sr ?_
  refine l_v rfl (r_move rfl) ?_
  refine l_v rfl (r_lenR Tryz.underlying32 rfl (hR.keep0 hM3.kp).len) ?_
  refine l_v rfl (r_assign rfl) ?_
  refine l_nil ?_
  refine c_sr ?_
  refine l_v rfl (r_move rfl) ?_
  refine l_v rfl (r_assign rfl) ?_
  refine l_v rfl (r_assign rfl) ?_
  refine l_nil ?_
  refine c_seq ?_
  refine c_block ?_
  refine c_loop (ι := Nat × Nat) (fun p_ w_ => Mem w [] [(b1, (Pt.cells e), 24)] w_ ∧ ((p_.1 ≤ p_.2 ∧ p_.2 ≤ l.length ∧ (∀ (t : Nat) (x : Seat), t < p_.1 → l[t]? = some x → ptLt x.key e = true) ∧ (∀ (t : Nat) (x : Seat), p_.2 ≤ t → l[t]? = some x → ptLt x.key e = false)))) (fun p_ => [(0, Sl.val s), (1, Value.agg (Pt.cells e)), (2, Value.func (Fn.func 108) #[] #[Value.pointer (some ⟨rb, 0, none⟩)]), (4, Value.pointer (some ⟨b1, 0, none⟩)), (6, Value.int .i64 ((0 : Nat) : Int)), (7, Value.bool false), (8, Value.int .i64 ((l.length : Nat) : Int)), (9, Value.int .i64 ((p_.1 : Nat) : Int)), (10, Value.int .i64 ((p_.2 : Nat) : Int))]) (fun p_ => p_.2 - p_.1) (0, l.length) ⟨hM3, ⟨Nat.zero_le _, Nat.le_refl _, fun t x h => absurd h (Nat.not_lt_zero _), fun t x h h2 => absurd (List.getElem?_eq_some_iff.1 h2).1 (by omega)⟩⟩ ⟨rfl, rfl, rfl, rfl, rfl, rfl, rfl, rfl, rfl, trivial⟩ ?_
  rintro ⟨i, j⟩ w6 ⟨hM7, hij, hjl, hlo, hhi⟩
  change AT _ [(0, Sl.val s), (1, Value.agg (Pt.cells e)), (2, Value.func (Fn.func 108) #[] #[Value.pointer (some ⟨rb, 0, none⟩)]), (4, Value.pointer (some ⟨b1, 0, none⟩)), (6, Value.int .i64 ((0 : Nat) : Int)), (7, Value.bool false), (8, Value.int .i64 ((l.length : Nat) : Int)), (9, Value.int .i64 ((i : Nat) : Int)), (10, Value.int .i64 ((j : Nat) : Int))] _ _
  replace hM7 : Mem w [] [(b1, (Pt.cells e), 24)] w6 := hM7
  refine c_seq ?_
  refine c_sr ?_
  refine l_v rfl (r_move rfl) ?_
  refine l_v rfl (r_move rfl) ?_
  refine l_v rfl (r_lss (b := decide ((i : Nat) < j)) rfl rfl (nlt i j)) ?_
  refine l_nil ?_
  refine ways (decide ((i : Nat) < j)) (fun h8 => ?_) (fun h8 => ?_)
  ·skip
   have hp9 : (i : Nat) < j := of_decide_eq_true h8
   refine c_condT rfl h8 ?_
   refine c_skip ?_
   refine c_block ?_
   refine c_sr ?_
   refine l_v rfl (r_move rfl) ?_
   refine l_v rfl (r_move rfl) ?_
   refine l_v rfl (r_add (r := ((i + j : Nat) : Int)) rfl rfl (nadd (i := i) (k := j) (m := i + j) (by omega) (by omega))) ?_
   refine l_v rfl (r_convI (r := ((i + j : Nat) : Int)) Tryz.underlying3 Tryz.underlying69 rfl (cu64 _ (by omega))) ?_
   refine l_v rfl (r_shr (r := (((i + j) / 2 : Nat) : Int)) rfl rfl (by decide) (ushr1 _)) ?_
   refine l_v rfl (r_convI (r := (((i + j) / 2 : Nat) : Int)) Tryz.underlying69 Tryz.underlying3 rfl (ci64 _ (by omega))) ?_
   refine l_v rfl (r_assign rfl) ?_
   refine l_nil ?_
   refine c_seq ?_
   refine c_regD (Mem w [] [(b1, (Pt.cells e), 24)]) [] [(0, true), (1, true), (2, true), (3, true), (4, true), (5, true), (6, false), (7, true)] (by kernel_rfl) ?_
   have hM10 := hM7.drew
   refine s_take hM10 rfl (gn rfl) rfl rfl (fun w h => r_move rfl) ?_
   refine s_take hM10 rfl (gn rfl) rfl rfl (fun w h => r_move rfl) ?_
   refine s_take hM10 rfl (gn rfl) rfl rfl (fun w h => r_move rfl) ?_
   have hlt12 : (i + j) / 2 < l.length := by first | assumption | omega
   obtain ⟨x12, hx12⟩ : ∃ x, l[(i + j) / 2]? = some x := ⟨_, List.getElem?_eq_getElem hlt12⟩
   obtain ⟨p12, o12, ha12, hA12, -⟩ := (hR.keep0 hM10.kp).at_ _ _ hx12
   refine s_take hM10 rfl (gn rfl) rfl rfl (fun w h => r_indexR Tryz.underlying32 Tryz.sizeOf73 ⟨_, (hR.keep0 h.kp)⟩ rfl ha12 rfl hlt12) ?_
   refine s_take hM10 rfl (gn rfl) rfl rfl (fun w h => r_loadA Tryz.isAgg73 Tryz.sizeOf73 (Seat.size _) rfl ((hR.keep0 h.kp).ix hx12 ha12)) ?_
   refine s_take hM10 rfl (gn rfl) rfl rfl (fun w h => r_loadA Tryz.isAgg24 Tryz.sizeOf24 (Pt.size _) rfl (h.base (i := 0) rfl)) ?_
   refine s_call rfl (gn rfl) rfl rfl (r_callv (cap := [Value.pointer (some ⟨rb, 0, none⟩)]) rfl Tryz.call108 rfl) (f108 (bl := _) (ol := _) (hr.keep hM10.kp (by simp)) x12 e) ?_
   rintro v13 w14 ⟨rfl, hK15⟩
   have hM16 := hM10.keep hK15
   refine ⟨.inr hM16, ?_⟩
   refine s_take hM16 rfl (gn rfl) rfl rfl (fun w h => r_lss (b := decide (((ptCmp (Seat.key x12) e : Int) : Int) < ((0 : Nat) : Int))) rfl rfl rfl) ?_
   refine s_nil ?_
   refine ways (decide (((ptCmp (Seat.key x12) e : Int) : Int) < ((0 : Nat) : Int))) (fun h17 => ?_) (fun h17 => ?_)
   ·skip
    have hp18 : ((ptCmp (Seat.key x12) e : Int) : Int) < ((0 : Nat) : Int) := of_decide_eq_true h17
    refine c_condT rfl h17 ?_
    refine c_reg ?_
    refine l_v rfl (r_move rfl) ?_
    refine l_v rfl (r_add (r := ((((i + j) / 2) + 1 : Nat) : Int)) rfl rfl (nadd (i := (i + j) / 2) (k := 1) (m := ((i + j) / 2) + 1) (by omega) (by omega))) ?_
    refine l_v rfl (r_assign rfl) ?_
    refine l_nil ?_
    intro a_ ha_
    refine ⟨((i + j) / 2 + 1, j), ⟨hM16, ?_⟩, by omega, ha_.sub ⟨rfl, rfl, rfl, rfl, rfl, rfl, rfl, rfl, rfl, trivial⟩⟩
    exact ⟨by omega, by omega, fun t x h1 h2 => up_mono hu (show t ≤ (i + j) / 2 by omega) h2 hx12 (cmpl_yes (of_decide_eq_true h17)), hhi⟩
   ·skip
    have hp19 : ¬ (((ptCmp (Seat.key x12) e : Int) : Int) < ((0 : Nat) : Int)) := of_decide_eq_false h17
    refine c_condF rfl h17 ?_
    refine c_reg ?_
    refine l_v rfl (r_move rfl) ?_
    refine l_v rfl (r_assign rfl) ?_
    refine l_nil ?_
    intro a_ ha_
    refine ⟨(i, (i + j) / 2), ⟨hM16, ?_⟩, by omega, ha_.sub ⟨rfl, rfl, rfl, rfl, rfl, rfl, rfl, rfl, rfl, trivial⟩⟩
    exact ⟨by omega, by omega, hlo, fun t x h1 h2 => by cases hq : ptLt x.key e with | false => rfl | true => exact absurd (up_mono hu h1 hx12 h2 hq) (by rw [cmpl_no (of_decide_eq_false h17)]; decide)⟩
  ·skip
   have hp20 : ¬ ((i : Nat) < j) := of_decide_eq_false h8
   refine c_condF rfl h8 ?_
   refine c_exit rfl ?_
   refine c_seq ?_
   refine c_regD (Mem w [] [(b1, (Pt.cells e), 24)]) [] [(0, true), (1, true), (2, true), (3, true), (4, true), (5, true), (6, true), (7, true), (8, true), (9, true), (10, true), (11, false), (12, true), (13, true), (14, true), (15, true)] (by kernel_rfl) ?_
   have hM21 := hM7.drew
   refine s_take hM21 rfl (gn rfl) rfl rfl (fun w h => r_move rfl) ?_
   refine s_take hM21 rfl (gn rfl) rfl rfl (fun w h => r_move rfl) ?_
   refine s_take hM21 rfl (gn rfl) rfl rfl (fun w h => r_move rfl) ?_
   refine s_take hM21 rfl (gn rfl) rfl rfl (fun w h => r_lss (b := decide ((i : Nat) < l.length)) rfl rfl (nlt i l.length)) ?_
   refine s_take hM21 rfl (gn rfl) rfl rfl (fun w h => r_move rfl) ?_
   refine ways (decide ((i : Nat) < l.length)) (fun h23 => ?_) (fun h23 => ?_)
   ·skip
    have hp24 : (i : Nat) < l.length := of_decide_eq_true h23
    refine s_take hM21 rfl (gy rfl rfl rfl rfl h23) rfl rfl (fun w h => r_move rfl) ?_
    refine s_take hM21 rfl (gy rfl rfl rfl rfl h23) rfl rfl (fun w h => r_move rfl) ?_
    refine s_take hM21 rfl (gy rfl rfl rfl rfl h23) rfl rfl (fun w h => r_move rfl) ?_
    have hlt25 : i < l.length := by first | assumption | omega
    obtain ⟨x25, hx25⟩ : ∃ x, l[i]? = some x := ⟨_, List.getElem?_eq_getElem hlt25⟩
    obtain ⟨p25, o25, ha25, hA25, -⟩ := (hR.keep0 hM21.kp).at_ _ _ hx25
    refine s_take hM21 rfl (gy rfl rfl rfl rfl h23) rfl rfl (fun w h => r_indexR Tryz.underlying32 Tryz.sizeOf73 ⟨_, (hR.keep0 h.kp)⟩ rfl ha25 rfl hlt25) ?_
    refine s_take hM21 rfl (gy rfl rfl rfl rfl h23) rfl rfl (fun w h => r_loadA Tryz.isAgg73 Tryz.sizeOf73 (Seat.size _) rfl ((hR.keep0 h.kp).ix hx25 ha25)) ?_
    refine s_take hM21 rfl (gy rfl rfl rfl rfl h23) rfl rfl (fun w h => r_loadA Tryz.isAgg24 Tryz.sizeOf24 (Pt.size _) rfl (h.base (i := 0) rfl)) ?_
    refine s_call rfl (gy rfl rfl rfl rfl h23) rfl rfl (r_callv (cap := [Value.pointer (some ⟨rb, 0, none⟩)]) rfl Tryz.call108 rfl) (f108 (bl := _) (ol := _) (hr.keep hM21.kp (by simp)) x25 e) ?_
    rintro v26 w27 ⟨rfl, hK28⟩
    have hM29 := hM21.keep hK28
    refine ⟨.inr hM29, ?_⟩
    refine s_take hM29 rfl (gy rfl rfl rfl rfl h23) rfl rfl (fun w h => r_eql (b := decide (((ptCmp (Seat.key x25) e : Int) : Int) = ((0 : Nat) : Int))) rfl rfl rfl) ?_
    refine s_take hM29 rfl (gn rfl) rfl rfl (fun w h => r_pickT rfl h23 rfl) ?_
    refine s_take hM29 rfl (gn rfl) rfl rfl (fun w h => r_assign rfl) ?_
    refine s_take hM29 rfl (gn rfl) rfl rfl (fun w h => r_assign rfl) ?_
    refine s_nil ?_
    refine c_ret ?_
    refine ret2 rfl rfl rfl ?_
    have hpos : posK Seat.key l e = i := up_pos hlo (fun t x h1 => hhi t x (by omega)) (by omega)
    have hhas : hasK Seat.key l e = decide (ptCmp (Seat.key x25) e = ((0 : Nat) : Int)) := by rw [has_at hu (by rw [hpos]; exact hx25), ← ptCmp_eq]; rfl
    exact ⟨by rw [hpos, hhas], hM29.kp⟩
   ·skip
    have hp30 : ¬ ((i : Nat) < l.length) := of_decide_eq_false h23
    refine s_off hM21 rfl (gno rfl rfl rfl rfl h23) rfl rfl ?_
    refine s_off hM21 rfl (gno rfl rfl rfl rfl h23) rfl rfl ?_
    refine s_off hM21 rfl (gno rfl rfl rfl rfl h23) rfl rfl ?_
    refine s_off hM21 rfl (gno rfl rfl rfl rfl h23) rfl rfl ?_
    refine s_off hM21 rfl (gno rfl rfl rfl rfl h23) rfl rfl ?_
    refine s_off hM21 rfl (gno rfl rfl rfl rfl h23) rfl rfl ?_
    refine s_offx (.inr hM21) rfl (gno rfl rfl rfl rfl h23) rfl rfl ?_
    refine s_off hM21 rfl (gno rfl rfl rfl rfl h23) rfl rfl ?_
    refine s_take hM21 rfl (gn rfl) rfl rfl (fun w h => r_pickF rfl h23 rfl) ?_
    refine s_take hM21 rfl (gn rfl) rfl rfl (fun w h => r_assign rfl) ?_
    refine s_take hM21 rfl (gn rfl) rfl rfl (fun w h => r_assign rfl) ?_
    refine s_nil ?_
    refine c_ret ?_
    refine ret2 rfl rfl rfl ?_
    have hpos : posK Seat.key l e = i := up_pos hlo (fun t x h1 => hhi t x (by omega)) (by omega)
    have hhas : hasK Seat.key l e = false := has_end hu (by rw [hpos]; assumption)
    exact ⟨by rw [hpos, hhas], hM21.kp⟩
theorem f78 {A : Nat → Prop} {w : World} {bl ol : Nat} {s : Sl} {l : List Seat} (hc : Holds w bl ol #[s.val]) (hR : Row A w s 66 Seat.cells l) (hu : UpK Seat.key l) (e : Pt) :
    Ret 78 #[.agg (Roll.cells ⟨bl, ol, 91⟩), .agg e.cells] w (fun v w' => v = .tuple #[.int .i64 ((posK Seat.key l e : Nat) : Int), .bool (hasK Seat.key l e)] ∧ Keeps [] w w') := by
  have hM0 := Mem.start w
  refine enter Tryz.func78 rfl rfl ?_
  refine c_sr ?_
  refine l_box hM0 rfl rfl ?_
  intro b1 w2 hM3 hK4 hB5
  replace hM3 : Mem w [] [(b1, (RollS.cells ((⟨bl, ol, 91⟩ : Roll))), 115)] w2 := hM3
  refine l_box hM3 rfl rfl ?_
  intro b6 w7 hM8 hK9 hB10
  replace hM8 : Mem w [] [(b6, (Pt.cells e), 24), (b1, (RollS.cells ((⟨bl, ol, 91⟩ : Roll))), 115)] w7 := hM8
  refine l_v rfl (r_assign rfl) ?_
  refine l_v rfl (r_assign rfl) ?_
  refine l_nil ?_
  refine c_seq ?_
  refine c_regD (Mem w [] [(b6, (Pt.cells e), 24), (b1, (RollS.cells ((⟨bl, ol, 91⟩ : Roll))), 115)]) [] [(0, true), (1, true), (2, true), (3, true), (4, true), (5, true), (6, false), (7, true), (8, true), (9, true), (10, true)] (by kernel_rfl) ?_
  have hM11 := hM8.drew
  refine s_take hM11 rfl (gn rfl) rfl rfl (fun w h => r_fieldAddr RollS.fld_l rfl) ?_
  refine s_take hM11 rfl (gn rfl) rfl rfl (fun w h => r_load1 (v := Value.pointer (some ⟨bl, ol, none⟩)) Tryz.isAgg112 rfl (Holds.sub (h.base (i := 1) rfl) (RollS.sub_l _))) ?_
  refine s_take hM11 rfl (gn rfl) rfl rfl (fun w h => r_nilCheck rfl) ?_
  refine s_take hM11 rfl (gn rfl) rfl rfl (fun w h => r_load1 (v := Sl.val s) Tryz.isAgg32 rfl (hc.keep h.kp (by simp))) ?_
  refine s_take hM11 rfl (gn rfl) rfl rfl (fun w h => r_loadA Tryz.isAgg24 Tryz.sizeOf24 (Pt.size _) rfl (h.base (i := 0) rfl)) ?_
  refine s_take hM11 rfl (gn rfl) rfl rfl (fun w h => r_makeFunc rfl) ?_
  refine s_call rfl (gn rfl) rfl rfl (r_call Tryz.call107 rfl) (f107 (bl := _) (ol := _) (hR.keep0 hM11.kp) (hM11.base (i := 1) rfl) hu e) ?_
  rintro v13 w14 ⟨rfl, hK15⟩
  have hM16 := hM11.keep hK15
  refine ⟨.inr hM16, ?_⟩
  refine s_take hM16 rfl (gn rfl) rfl rfl (fun w h => r_extract rfl rfl) ?_
  refine s_take hM16 rfl (gn rfl) rfl rfl (fun w h => r_extract rfl rfl) ?_
  refine s_take hM16 rfl (gn rfl) rfl rfl (fun w h => r_assign rfl) ?_
  refine s_take hM16 rfl (gn rfl) rfl rfl (fun w h => r_assign rfl) ?_
  refine s_nil ?_
  refine c_ret ?_
  refine ret2 rfl rfl rfl ?_
  exact ⟨rfl, hM16.kp⟩
theorem f76 {A : Nat → Prop} {w : World} {bl ol : Nat} {s : Sl} {l : List Seat} (hc : Holds w bl ol #[s.val]) (hR : Row A w s 66 Seat.cells l) (hu : UpK Seat.key l) (e : Pt) :
    Ret 76 #[.agg (Roll.cells ⟨bl, ol, 91⟩), .agg e.cells] w (fun v w' => v = .bool (hasK Seat.key l e) ∧ Keeps [] w w') := by
  have hM0 := Mem.start w
  refine enter Tryz.func76 rfl rfl ?_
  refine c_sr ?_
  refine l_box hM0 rfl rfl ?_
  intro b1 w2 hM3 hK4 hB5
  replace hM3 : Mem w [] [(b1, (RollS.cells ((⟨bl, ol, 91⟩ : Roll))), 115)] w2 := hM3
  refine l_box hM3 rfl rfl ?_
  intro b6 w7 hM8 hK9 hB10
  replace hM8 : Mem w [] [(b6, (Pt.cells e), 24), (b1, (RollS.cells ((⟨bl, ol, 91⟩ : Roll))), 115)] w7 := hM8
  refine l_v rfl (r_assign rfl) ?_
  refine l_nil ?_
  refine c_sr ?_
  refine l_v rfl (r_loadA Tryz.isAgg115 Tryz.sizeOf115 (RollS.size _) rfl (hM8.base (i := 1) rfl)) ?_
  refine l_v rfl (r_loadA Tryz.isAgg24 Tryz.sizeOf24 (Pt.size _) rfl (hM8.base (i := 0) rfl)) ?_
  refine l_call (gn rfl) rfl rfl (r_call Tryz.call78 rfl) (f78 (hc.keep hM8.kp (by simp)) (hR.keep0 hM8.kp) hu e) ?_
  rintro v11 w12 ⟨rfl, hK13⟩
  have hM14 := hM8.keep hK13
  refine l_v rfl (r_move rfl) ?_
  refine l_v rfl (r_extract rfl rfl) ?_
  refine l_v rfl (r_extract rfl rfl) ?_
  refine l_v rfl (r_assign rfl) ?_
  refine l_v rfl (r_assign rfl) ?_
  refine l_nil ?_
  refine c_sr ?_
  refine l_v rfl (r_move rfl) ?_
  refine l_v rfl (r_assign rfl) ?_
  refine l_nil ?_
  refine c_ret ?_
  refine ret1 rfl rfl ?_
  exact ⟨rfl, hM14.kp⟩
theorem f67 {A : Nat → Prop} {w : World} {bl ol : Nat} {s : Sl} {l : List Seat} (hc : Holds w bl ol #[s.val]) (hR : Row A w s 66 Seat.cells l) :
    Ret 67 #[.agg (Roll.cells ⟨bl, ol, 91⟩)] w (fun v w' => v = .bool (decide (40 ≤ l.length)) ∧ Keeps [] w w') := by
  have hM0 := Mem.start w
  refine enter Tryz.func67 rfl rfl ?_
  refine c_sr ?_
  refine l_box hM0 rfl rfl ?_
  intro b1 w2 hM3 hK4 hB5
  replace hM3 : Mem w [] [(b1, (RollS.cells ((⟨bl, ol, 91⟩ : Roll))), 115)] w2 := hM3
  refine l_v rfl (r_assign rfl) ?_
  refine l_nil ?_
  refine c_sr ?_
  refine l_v rfl (r_fieldAddr RollS.fld_l rfl) ?_
  refine l_v rfl (r_load1 (v := Value.pointer (some ⟨bl, ol, none⟩)) Tryz.isAgg112 rfl (Holds.sub (hM3.base (i := 0) rfl) (RollS.sub_l _))) ?_
  refine l_v rfl (r_nilCheck rfl) ?_
  refine l_v rfl (r_load1 (v := Sl.val s) Tryz.isAgg32 rfl (hc.keep hM3.kp (by simp))) ?_
  refine l_v rfl (r_lenR Tryz.underlying32 rfl (hR.keep0 hM3.kp).len) ?_
  refine l_v rfl (r_geq (b := decide ((40 : Nat) ≤ l.length)) rfl rfl (nle 40 l.length)) ?_
  refine l_v rfl (r_assign rfl) ?_
  refine l_nil ?_
  refine c_ret ?_
  refine ret1 rfl rfl ?_
  exact ⟨rfl, hM3.kp⟩
theorem f64 {w : World} (b : Nat) : Ret 64 #[.pointer (some ⟨b, 0, none⟩)] w (fun v w' => v = .agg (Roll.cells ⟨b, 71, 92⟩) ∧ Keeps [] w w') := by
  have hM0 := Mem.start w
  refine enter Tryz.func64 rfl rfl ?_
  refine c_sr ?_
  refine l_alloc hM0 rfl Roll.zv120 ?_
  intro b1 w2 hM3 hK4 hB5
  replace hM3 : Mem w [] [(b1, Roll.noCells, 120)] w2 := hM3
  refine l_nil ?_
  refine c_sr ?_
  refine l_v rfl (r_move rfl) ?_
  refine l_v rfl (r_nilCheck rfl) ?_
  refine l_v rfl (r_fieldAddr SRep.fld_invites rfl) ?_
  refine l_v rfl (r_build rfl (Roll.built120 (⟨b, 71, 92⟩ : Roll))) ?_
  refine l_store hM3 (i := 0) rfl Tryz.sizeOf120 rfl rfl (RollI.size _) (by decide) (RollI.one _) (put_whole _ _ rfl) ?_
  intro w6 hM7 hK8
  replace hM7 : Mem w [] [(b1, (RollI.cells ((⟨b, 71, 92⟩ : Roll))), 120)] w6 := hM7
  refine l_nil ?_
  refine c_ret ?_
  refine retC rfl Tryz.isAgg120 Tryz.sizeOf120 (RollI.size _) rfl (hM7.base (i := 0) rfl) ?_
  exact ⟨rfl, hM7.kp⟩
theorem f92 {w : World} (b o : Nat) : Ret 92 #[.pointer (some ⟨b, o, none⟩)] w (fun v w' => v = .pointer (some ⟨b, o + 0, none⟩) ∧ Keeps [] w w') := by
  have hM0 := Mem.start w
  refine enter Tryz.func92 rfl rfl ?_
  refine c_sr ?_
  refine l_v rfl (r_assign rfl) ?_
  refine l_nil ?_
  refine c_sr ?_
  refine l_v rfl (r_move rfl) ?_
  refine l_v rfl (r_nilCheck rfl) ?_
  refine l_v rfl (r_fieldAddr Invite.fld_who rfl) ?_
  refine l_v rfl (r_assign rfl) ?_
  refine l_nil ?_
  refine c_ret ?_
  refine ret1 rfl rfl ?_
  exact ⟨rfl, hM0.kp⟩
theorem f120 {w : World} {rb bl ol : Nat} (hr : Holds w rb 0 (Roll.cells ⟨bl, ol, 92⟩)) (x : Invite) (e : Pt) : Ret 120 #[.agg x.cells, .agg e.cells, .pointer (some ⟨rb, 0, none⟩)] w (fun v w' => v = .int .i64 (ptCmp x.key e) ∧ Keeps [] w w') := by
  have hM0 := Mem.start w
  refine enter Tryz.func120 rfl rfl ?_
  refine c_sr ?_
  refine l_box hM0 rfl rfl ?_
  intro b1 w2 hM3 hK4 hB5
  replace hM3 : Mem w [] [(b1, (Invite.cells x), 82)] w2 := hM3
  refine l_box hM3 rfl rfl ?_
  intro b6 w7 hM8 hK9 hB10
  replace hM8 : Mem w [] [(b6, (Pt.cells e), 24), (b1, (Invite.cells x), 82)] w7 := hM8
  refine l_v rfl (r_assign rfl) ?_
  refine l_nil ?_
  refine c_sr ?_
  refine l_v rfl (r_fieldAddr RollI.fld_of rfl) ?_
  refine l_v rfl (r_load1 (v := Value.func (Fn.func 92) #[] #[]) Tryz.isAgg118 rfl (Holds.sub (hr.keep hM8.kp (by simp)) (RollI.sub_of _))) ?_
  refine l_call (gn rfl) rfl rfl (r_callv (cap := []) rfl Tryz.call92 rfl) (f92 _ _) ?_
  rintro v11 w12 ⟨rfl, hK13⟩
  have hM14 := hM8.keep hK13
  refine l_v rfl (r_nilCheck rfl) ?_
  refine l_v rfl (r_fieldAddr Cipher.fld_E rfl) ?_
  refine l_v rfl (r_loadA Tryz.isAgg24 Tryz.sizeOf24 (Pt.size _) rfl (Holds.sub (Holds.sub (hM14.base (i := 1) rfl) (Invite.sub_who _)) (Cipher.sub_E _))) ?_
  refine l_alloc hM14 rfl zv_Pt ?_
  intro b15 w16 hM17 hK18 hB19
  replace hM17 : Mem w [] [(b15, (Pt.cells Pt.zero), 24), (b6, (Pt.cells e), 24), (b1, (Invite.cells x), 82)] w16 := hM17
  refine l_store hM17 (i := 0) rfl Tryz.sizeOf24 rfl rfl (Pt.size _) (by rw [Pt.size]; decide) (Pt.one _) (put_whole _ _ ((Pt.size _).trans (Pt.size _).symm)) ?_
  intro w20 hM21 hK22
  replace hM21 : Mem w [] [(b15, (Pt.cells x.who.E), 24), (b6, (Pt.cells e), 24), (b1, (Invite.cells x), 82)] w20 := hM21
  refine l_nil ?_
  refine c_seq ?_
  refine c_regD (Mem w [] [(b15, (Pt.cells x.who.E), 24), (b6, (Pt.cells e), 24), (b1, (Invite.cells x), 82)]) [] [(0, true), (1, true), (2, false), (3, true)] (by kernel_rfl) ?_
  have hM23 := hM21.drew
  refine s_take hM23 rfl (gn rfl) rfl rfl (fun w h => r_sliceArr Tryz.underlying24 Tryz.sizeOf5 rfl) ?_
  refine s_take hM23 rfl (gn rfl) rfl rfl (fun w h => r_sliceArr Tryz.underlying24 Tryz.sizeOf5 rfl) ?_
  refine s_call rfl (gn rfl) rfl rfl (r_call Tryz.call88 rfl) (f88 (hM23.base (i := 0) rfl) (hM23.base (i := 1) rfl)) ?_
  rintro v25 w26 ⟨rfl, hK27⟩
  have hM28 := hM23.keep hK27
  refine ⟨.inr hM28, ?_⟩
  refine s_take hM28 rfl (gn rfl) rfl rfl (fun w h => r_assign rfl) ?_
  refine s_nil ?_
  refine c_ret ?_
  refine ret1 rfl rfl ?_
  exact ⟨rfl, hM28.kp⟩
theorem f119 {A : Nat → Prop} {w : World} {rb bl ol : Nat} {s : Sl} {l : List Invite} (hR : Row A w s 129 Invite.cells l) (hr : Holds w rb 0 (Roll.cells ⟨bl, ol, 92⟩)) (hu : UpK Invite.key l) (e : Pt) :
    Ret 119 #[s.val, .agg e.cells, .func (.func 120) #[] #[.pointer (some ⟨rb, 0, none⟩)]] w (fun v w' => v = .tuple #[.int .i64 ((posK Invite.key l e : Nat) : Int), .bool (hasK Invite.key l e)] ∧ Keeps [] w w') := by
  have hn := hR.bd
  have hM0 := Mem.start w
  refine enter Tryz.func119 rfl rfl ?_
  refine c_sr ?_
  refine l_box hM0 rfl rfl ?_
  intro b1 w2 hM3 hK4 hB5
  replace hM3 : Mem w [] [(b1, (Pt.cells e), 24)] w2 := hM3
  refine l_v rfl (r_assign rfl) ?_
  refine l_v rfl (r_assign rfl) ?_
  refine l_nil ?_
  refine c_sr ?_
  refine l_v rfl (r_move rfl) ?_
  refine l_v rfl (r_lenR Tryz.underlying33 rfl (hR.keep0 hM3.kp).len) ?_
  refine l_v rfl (r_assign rfl) ?_
  refine l_nil ?_
  refine c_sr ?_
  refine l_v rfl (r_move rfl) ?_
  refine l_v rfl (r_assign rfl) ?_
  refine l_v rfl (r_assign rfl) ?_
  refine l_nil ?_
  refine c_seq ?_
  refine c_block ?_
  refine c_loop (ι := Nat × Nat) (fun p_ w_ => Mem w [] [(b1, (Pt.cells e), 24)] w_ ∧ ((p_.1 ≤ p_.2 ∧ p_.2 ≤ l.length ∧ (∀ (t : Nat) (x : Invite), t < p_.1 → l[t]? = some x → ptLt x.key e = true) ∧ (∀ (t : Nat) (x : Invite), p_.2 ≤ t → l[t]? = some x → ptLt x.key e = false)))) (fun p_ => [(0, Sl.val s), (1, Value.agg (Pt.cells e)), (2, Value.func (Fn.func 120) #[] #[Value.pointer (some ⟨rb, 0, none⟩)]), (4, Value.pointer (some ⟨b1, 0, none⟩)), (6, Value.int .i64 ((0 : Nat) : Int)), (7, Value.bool false), (8, Value.int .i64 ((l.length : Nat) : Int)), (9, Value.int .i64 ((p_.1 : Nat) : Int)), (10, Value.int .i64 ((p_.2 : Nat) : Int))]) (fun p_ => p_.2 - p_.1) (0, l.length) ⟨hM3, ⟨Nat.zero_le _, Nat.le_refl _, fun t x h => absurd h (Nat.not_lt_zero _), fun t x h h2 => absurd (List.getElem?_eq_some_iff.1 h2).1 (by omega)⟩⟩ ⟨rfl, rfl, rfl, rfl, rfl, rfl, rfl, rfl, rfl, trivial⟩ ?_
  rintro ⟨i, j⟩ w6 ⟨hM7, hij, hjl, hlo, hhi⟩
  change AT _ [(0, Sl.val s), (1, Value.agg (Pt.cells e)), (2, Value.func (Fn.func 120) #[] #[Value.pointer (some ⟨rb, 0, none⟩)]), (4, Value.pointer (some ⟨b1, 0, none⟩)), (6, Value.int .i64 ((0 : Nat) : Int)), (7, Value.bool false), (8, Value.int .i64 ((l.length : Nat) : Int)), (9, Value.int .i64 ((i : Nat) : Int)), (10, Value.int .i64 ((j : Nat) : Int))] _ _
  replace hM7 : Mem w [] [(b1, (Pt.cells e), 24)] w6 := hM7
  refine c_seq ?_
  refine c_sr ?_
  refine l_v rfl (r_move rfl) ?_
  refine l_v rfl (r_move rfl) ?_
  refine l_v rfl (r_lss (b := decide ((i : Nat) < j)) rfl rfl (nlt i j)) ?_
  refine l_nil ?_
  refine ways (decide ((i : Nat) < j)) (fun h8 => ?_) (fun h8 => ?_)
  ·skip
   have hp9 : (i : Nat) < j := of_decide_eq_true h8
   refine c_condT rfl h8 ?_
   refine c_skip ?_
   refine c_block ?_
   refine c_sr ?_
   refine l_v rfl (r_move rfl) ?_
   refine l_v rfl (r_move rfl) ?_
   refine l_v rfl (r_add (r := ((i + j : Nat) : Int)) rfl rfl (nadd (i := i) (k := j) (m := i + j) (by omega) (by omega))) ?_
   refine l_v rfl (r_convI (r := ((i + j : Nat) : Int)) Tryz.underlying3 Tryz.underlying69 rfl (cu64 _ (by omega))) ?_
   refine l_v rfl (r_shr (r := (((i + j) / 2 : Nat) : Int)) rfl rfl (by decide) (ushr1 _)) ?_
   refine l_v rfl (r_convI (r := (((i + j) / 2 : Nat) : Int)) Tryz.underlying69 Tryz.underlying3 rfl (ci64 _ (by omega))) ?_
   refine l_v rfl (r_assign rfl) ?_
   refine l_nil ?_
   refine c_seq ?_
   refine c_regD (Mem w [] [(b1, (Pt.cells e), 24)]) [] [(0, true), (1, true), (2, true), (3, true), (4, true), (5, true), (6, false), (7, true)] (by kernel_rfl) ?_
   have hM10 := hM7.drew
   refine s_take hM10 rfl (gn rfl) rfl rfl (fun w h => r_move rfl) ?_
   refine s_take hM10 rfl (gn rfl) rfl rfl (fun w h => r_move rfl) ?_
   refine s_take hM10 rfl (gn rfl) rfl rfl (fun w h => r_move rfl) ?_
   have hlt12 : (i + j) / 2 < l.length := by first | assumption | omega
   obtain ⟨x12, hx12⟩ : ∃ x, l[(i + j) / 2]? = some x := ⟨_, List.getElem?_eq_getElem hlt12⟩
   obtain ⟨p12, o12, ha12, hA12, -⟩ := (hR.keep0 hM10.kp).at_ _ _ hx12
   refine s_take hM10 rfl (gn rfl) rfl rfl (fun w h => r_indexR Tryz.underlying33 Tryz.sizeOf82 ⟨_, (hR.keep0 h.kp)⟩ rfl ha12 rfl hlt12) ?_
   refine s_take hM10 rfl (gn rfl) rfl rfl (fun w h => r_loadA Tryz.isAgg82 Tryz.sizeOf82 (Invite.size _) rfl ((hR.keep0 h.kp).ix hx12 ha12)) ?_
   refine s_take hM10 rfl (gn rfl) rfl rfl (fun w h => r_loadA Tryz.isAgg24 Tryz.sizeOf24 (Pt.size _) rfl (h.base (i := 0) rfl)) ?_
   refine s_call rfl (gn rfl) rfl rfl (r_callv (cap := [Value.pointer (some ⟨rb, 0, none⟩)]) rfl Tryz.call120 rfl) (f120 (bl := _) (ol := _) (hr.keep hM10.kp (by simp)) x12 e) ?_
   rintro v13 w14 ⟨rfl, hK15⟩
   have hM16 := hM10.keep hK15
   refine ⟨.inr hM16, ?_⟩
   refine s_take hM16 rfl (gn rfl) rfl rfl (fun w h => r_lss (b := decide (((ptCmp (Invite.key x12) e : Int) : Int) < ((0 : Nat) : Int))) rfl rfl rfl) ?_
   refine s_nil ?_
   refine ways (decide (((ptCmp (Invite.key x12) e : Int) : Int) < ((0 : Nat) : Int))) (fun h17 => ?_) (fun h17 => ?_)
   ·skip
    have hp18 : ((ptCmp (Invite.key x12) e : Int) : Int) < ((0 : Nat) : Int) := of_decide_eq_true h17
    refine c_condT rfl h17 ?_
    refine c_reg ?_
    refine l_v rfl (r_move rfl) ?_
    refine l_v rfl (r_add (r := ((((i + j) / 2) + 1 : Nat) : Int)) rfl rfl (nadd (i := (i + j) / 2) (k := 1) (m := ((i + j) / 2) + 1) (by omega) (by omega))) ?_
    refine l_v rfl (r_assign rfl) ?_
    refine l_nil ?_
    intro a_ ha_
    refine ⟨((i + j) / 2 + 1, j), ⟨hM16, ?_⟩, by omega, ha_.sub ⟨rfl, rfl, rfl, rfl, rfl, rfl, rfl, rfl, rfl, trivial⟩⟩
    exact ⟨by omega, by omega, fun t x h1 h2 => up_mono hu (show t ≤ (i + j) / 2 by omega) h2 hx12 (cmpl_yes (of_decide_eq_true h17)), hhi⟩
   ·skip
    have hp19 : ¬ (((ptCmp (Invite.key x12) e : Int) : Int) < ((0 : Nat) : Int)) := of_decide_eq_false h17
    refine c_condF rfl h17 ?_
    refine c_reg ?_
    refine l_v rfl (r_move rfl) ?_
    refine l_v rfl (r_assign rfl) ?_
    refine l_nil ?_
    intro a_ ha_
    refine ⟨(i, (i + j) / 2), ⟨hM16, ?_⟩, by omega, ha_.sub ⟨rfl, rfl, rfl, rfl, rfl, rfl, rfl, rfl, rfl, trivial⟩⟩
    exact ⟨by omega, by omega, hlo, fun t x h1 h2 => by cases hq : ptLt x.key e with | false => rfl | true => exact absurd (up_mono hu h1 hx12 h2 hq) (by rw [cmpl_no (of_decide_eq_false h17)]; decide)⟩
  ·skip
   have hp20 : ¬ ((i : Nat) < j) := of_decide_eq_false h8
   refine c_condF rfl h8 ?_
   refine c_exit rfl ?_
   refine c_seq ?_
   refine c_regD (Mem w [] [(b1, (Pt.cells e), 24)]) [] [(0, true), (1, true), (2, true), (3, true), (4, true), (5, true), (6, true), (7, true), (8, true), (9, true), (10, true), (11, false), (12, true), (13, true), (14, true), (15, true)] (by kernel_rfl) ?_
   have hM21 := hM7.drew
   refine s_take hM21 rfl (gn rfl) rfl rfl (fun w h => r_move rfl) ?_
   refine s_take hM21 rfl (gn rfl) rfl rfl (fun w h => r_move rfl) ?_
   refine s_take hM21 rfl (gn rfl) rfl rfl (fun w h => r_move rfl) ?_
   refine s_take hM21 rfl (gn rfl) rfl rfl (fun w h => r_lss (b := decide ((i : Nat) < l.length)) rfl rfl (nlt i l.length)) ?_
   refine s_take hM21 rfl (gn rfl) rfl rfl (fun w h => r_move rfl) ?_
   refine ways (decide ((i : Nat) < l.length)) (fun h23 => ?_) (fun h23 => ?_)
   ·skip
    have hp24 : (i : Nat) < l.length := of_decide_eq_true h23
    refine s_take hM21 rfl (gy rfl rfl rfl rfl h23) rfl rfl (fun w h => r_move rfl) ?_
    refine s_take hM21 rfl (gy rfl rfl rfl rfl h23) rfl rfl (fun w h => r_move rfl) ?_
    refine s_take hM21 rfl (gy rfl rfl rfl rfl h23) rfl rfl (fun w h => r_move rfl) ?_
    have hlt25 : i < l.length := by first | assumption | omega
    obtain ⟨x25, hx25⟩ : ∃ x, l[i]? = some x := ⟨_, List.getElem?_eq_getElem hlt25⟩
    obtain ⟨p25, o25, ha25, hA25, -⟩ := (hR.keep0 hM21.kp).at_ _ _ hx25
    refine s_take hM21 rfl (gy rfl rfl rfl rfl h23) rfl rfl (fun w h => r_indexR Tryz.underlying33 Tryz.sizeOf82 ⟨_, (hR.keep0 h.kp)⟩ rfl ha25 rfl hlt25) ?_
    refine s_take hM21 rfl (gy rfl rfl rfl rfl h23) rfl rfl (fun w h => r_loadA Tryz.isAgg82 Tryz.sizeOf82 (Invite.size _) rfl ((hR.keep0 h.kp).ix hx25 ha25)) ?_
    refine s_take hM21 rfl (gy rfl rfl rfl rfl h23) rfl rfl (fun w h => r_loadA Tryz.isAgg24 Tryz.sizeOf24 (Pt.size _) rfl (h.base (i := 0) rfl)) ?_
    refine s_call rfl (gy rfl rfl rfl rfl h23) rfl rfl (r_callv (cap := [Value.pointer (some ⟨rb, 0, none⟩)]) rfl Tryz.call120 rfl) (f120 (bl := _) (ol := _) (hr.keep hM21.kp (by simp)) x25 e) ?_
    rintro v26 w27 ⟨rfl, hK28⟩
    have hM29 := hM21.keep hK28
    refine ⟨.inr hM29, ?_⟩
    refine s_take hM29 rfl (gy rfl rfl rfl rfl h23) rfl rfl (fun w h => r_eql (b := decide (((ptCmp (Invite.key x25) e : Int) : Int) = ((0 : Nat) : Int))) rfl rfl rfl) ?_
    refine s_take hM29 rfl (gn rfl) rfl rfl (fun w h => r_pickT rfl h23 rfl) ?_
    refine s_take hM29 rfl (gn rfl) rfl rfl (fun w h => r_assign rfl) ?_
    refine s_take hM29 rfl (gn rfl) rfl rfl (fun w h => r_assign rfl) ?_
    refine s_nil ?_
    refine c_ret ?_
    refine ret2 rfl rfl rfl ?_
    have hpos : posK Invite.key l e = i := up_pos hlo (fun t x h1 => hhi t x (by omega)) (by omega)
    have hhas : hasK Invite.key l e = decide (ptCmp (Invite.key x25) e = ((0 : Nat) : Int)) := by rw [has_at hu (by rw [hpos]; exact hx25), ← ptCmp_eq]; rfl
    exact ⟨by rw [hpos, hhas], hM29.kp⟩
   ·skip
    have hp30 : ¬ ((i : Nat) < l.length) := of_decide_eq_false h23
    refine s_off hM21 rfl (gno rfl rfl rfl rfl h23) rfl rfl ?_
    refine s_off hM21 rfl (gno rfl rfl rfl rfl h23) rfl rfl ?_
    refine s_off hM21 rfl (gno rfl rfl rfl rfl h23) rfl rfl ?_
    refine s_off hM21 rfl (gno rfl rfl rfl rfl h23) rfl rfl ?_
    refine s_off hM21 rfl (gno rfl rfl rfl rfl h23) rfl rfl ?_
    refine s_off hM21 rfl (gno rfl rfl rfl rfl h23) rfl rfl ?_
    refine s_offx (.inr hM21) rfl (gno rfl rfl rfl rfl h23) rfl rfl ?_
    refine s_off hM21 rfl (gno rfl rfl rfl rfl h23) rfl rfl ?_
    refine s_take hM21 rfl (gn rfl) rfl rfl (fun w h => r_pickF rfl h23 rfl) ?_
    refine s_take hM21 rfl (gn rfl) rfl rfl (fun w h => r_assign rfl) ?_
    refine s_take hM21 rfl (gn rfl) rfl rfl (fun w h => r_assign rfl) ?_
    refine s_nil ?_
    refine c_ret ?_
    refine ret2 rfl rfl rfl ?_
    have hpos : posK Invite.key l e = i := up_pos hlo (fun t x h1 => hhi t x (by omega)) (by omega)
    have hhas : hasK Invite.key l e = false := has_end hu (by rw [hpos]; assumption)
    exact ⟨by rw [hpos, hhas], hM21.kp⟩
theorem f99 {A : Nat → Prop} {w : World} {bl ol : Nat} {s : Sl} {l : List Invite} (hc : Holds w bl ol #[s.val]) (hR : Row A w s 129 Invite.cells l) (hu : UpK Invite.key l) (e : Pt) :
    Ret 99 #[.agg (Roll.cells ⟨bl, ol, 92⟩), .agg e.cells] w (fun v w' => v = .tuple #[.int .i64 ((posK Invite.key l e : Nat) : Int), .bool (hasK Invite.key l e)] ∧ Keeps [] w w') := by
  have hM0 := Mem.start w
  refine enter Tryz.func99 rfl rfl ?_
  refine c_sr ?_
  refine l_box hM0 rfl rfl ?_
  intro b1 w2 hM3 hK4 hB5
  replace hM3 : Mem w [] [(b1, (RollI.cells ((⟨bl, ol, 92⟩ : Roll))), 120)] w2 := hM3
  refine l_box hM3 rfl rfl ?_
  intro b6 w7 hM8 hK9 hB10
  replace hM8 : Mem w [] [(b6, (Pt.cells e), 24), (b1, (RollI.cells ((⟨bl, ol, 92⟩ : Roll))), 120)] w7 := hM8
  refine l_v rfl (r_assign rfl) ?_
  refine l_v rfl (r_assign rfl) ?_
  refine l_nil ?_
  refine c_seq ?_
  refine c_regD (Mem w [] [(b6, (Pt.cells e), 24), (b1, (RollI.cells ((⟨bl, ol, 92⟩ : Roll))), 120)]) [] [(0, true), (1, true), (2, true), (3, true), (4, true), (5, true), (6, false), (7, true), (8, true), (9, true), (10, true)] (by kernel_rfl) ?_
  have hM11 := hM8.drew
  refine s_take hM11 rfl (gn rfl) rfl rfl (fun w h => r_fieldAddr RollI.fld_l rfl) ?_
  refine s_take hM11 rfl (gn rfl) rfl rfl (fun w h => r_load1 (v := Value.pointer (some ⟨bl, ol, none⟩)) Tryz.isAgg117 rfl (Holds.sub (h.base (i := 1) rfl) (RollI.sub_l _))) ?_
  refine s_take hM11 rfl (gn rfl) rfl rfl (fun w h => r_nilCheck rfl) ?_
  refine s_take hM11 rfl (gn rfl) rfl rfl (fun w h => r_load1 (v := Sl.val s) Tryz.isAgg33 rfl (hc.keep h.kp (by simp))) ?_
  refine s_take hM11 rfl (gn rfl) rfl rfl (fun w h => r_loadA Tryz.isAgg24 Tryz.sizeOf24 (Pt.size _) rfl (h.base (i := 0) rfl)) ?_
  refine s_take hM11 rfl (gn rfl) rfl rfl (fun w h => r_makeFunc rfl) ?_
  refine s_call rfl (gn rfl) rfl rfl (r_call Tryz.call119 rfl) (f119 (bl := _) (ol := _) (hR.keep0 hM11.kp) (hM11.base (i := 1) rfl) hu e) ?_
  rintro v13 w14 ⟨rfl, hK15⟩
  have hM16 := hM11.keep hK15
  refine ⟨.inr hM16, ?_⟩
  refine s_take hM16 rfl (gn rfl) rfl rfl (fun w h => r_extract rfl rfl) ?_
  refine s_take hM16 rfl (gn rfl) rfl rfl (fun w h => r_extract rfl rfl) ?_
  refine s_take hM16 rfl (gn rfl) rfl rfl (fun w h => r_assign rfl) ?_
  refine s_take hM16 rfl (gn rfl) rfl rfl (fun w h => r_assign rfl) ?_
  refine s_nil ?_
  refine c_ret ?_
  refine ret2 rfl rfl rfl ?_
  exact ⟨rfl, hM16.kp⟩
theorem f96 {A : Nat → Prop} {w : World} {bl ol : Nat} {s : Sl} {l : List Invite} (hc : Holds w bl ol #[s.val]) (hR : Row A w s 129 Invite.cells l) (hu : UpK Invite.key l) (e : Pt) :
    Ret 96 #[.agg (Roll.cells ⟨bl, ol, 92⟩), .agg e.cells] w (fun v w' => v = .bool (hasK Invite.key l e) ∧ Keeps [] w w') := by
  have hM0 := Mem.start w
  refine enter Tryz.func96 rfl rfl ?_
  refine c_sr ?_
  refine l_box hM0 rfl rfl ?_
  intro b1 w2 hM3 hK4 hB5
  replace hM3 : Mem w [] [(b1, (RollI.cells ((⟨bl, ol, 92⟩ : Roll))), 120)] w2 := hM3
  refine l_box hM3 rfl rfl ?_
  intro b6 w7 hM8 hK9 hB10
  replace hM8 : Mem w [] [(b6, (Pt.cells e), 24), (b1, (RollI.cells ((⟨bl, ol, 92⟩ : Roll))), 120)] w7 := hM8
  refine l_v rfl (r_assign rfl) ?_
  refine l_nil ?_
  refine c_sr ?_
  refine l_v rfl (r_loadA Tryz.isAgg120 Tryz.sizeOf120 (RollI.size _) rfl (hM8.base (i := 1) rfl)) ?_
  refine l_v rfl (r_loadA Tryz.isAgg24 Tryz.sizeOf24 (Pt.size _) rfl (hM8.base (i := 0) rfl)) ?_
  refine l_call (gn rfl) rfl rfl (r_call Tryz.call99 rfl) (f99 (hc.keep hM8.kp (by simp)) (hR.keep0 hM8.kp) hu e) ?_
  rintro v11 w12 ⟨rfl, hK13⟩
  have hM14 := hM8.keep hK13
  refine l_v rfl (r_move rfl) ?_
  refine l_v rfl (r_extract rfl rfl) ?_
  refine l_v rfl (r_extract rfl rfl) ?_
  refine l_v rfl (r_assign rfl) ?_
  refine l_v rfl (r_assign rfl) ?_
  refine l_nil ?_
  refine c_sr ?_
  refine l_v rfl (r_move rfl) ?_
  refine l_v rfl (r_assign rfl) ?_
  refine l_nil ?_
  refine c_ret ?_
  refine ret1 rfl rfl ?_
  exact ⟨rfl, hM14.kp⟩
theorem f71 {A : Nat → Prop} {w : World} {bl ol : Nat} {s : Sl} {l : List Invite} (hc : Holds w bl ol #[s.val]) (hR : Row A w s 129 Invite.cells l) :
    Ret 71 #[.agg (Roll.cells ⟨bl, ol, 92⟩)] w (fun v w' => v = .bool (decide (40 ≤ l.length)) ∧ Keeps [] w w') := by
  have hM0 := Mem.start w
  refine enter Tryz.func71 rfl rfl ?_
  refine c_sr ?_
  refine l_box hM0 rfl rfl ?_
  intro b1 w2 hM3 hK4 hB5
  replace hM3 : Mem w [] [(b1, (RollI.cells ((⟨bl, ol, 92⟩ : Roll))), 120)] w2 := hM3
  refine l_v rfl (r_assign rfl) ?_
  refine l_nil ?_
  refine c_sr ?_
  refine l_v rfl (r_fieldAddr RollI.fld_l rfl) ?_
  refine l_v rfl (r_load1 (v := Value.pointer (some ⟨bl, ol, none⟩)) Tryz.isAgg117 rfl (Holds.sub (hM3.base (i := 0) rfl) (RollI.sub_l _))) ?_
  refine l_v rfl (r_nilCheck rfl) ?_
  refine l_v rfl (r_load1 (v := Sl.val s) Tryz.isAgg33 rfl (hc.keep hM3.kp (by simp))) ?_
  refine l_v rfl (r_lenR Tryz.underlying33 rfl (hR.keep0 hM3.kp).len) ?_
  refine l_v rfl (r_geq (b := decide ((40 : Nat) ≤ l.length)) rfl rfl (nle 40 l.length)) ?_
  refine l_v rfl (r_assign rfl) ?_
  refine l_nil ?_
  refine c_ret ?_
  refine ret1 rfl rfl ?_
  exact ⟨rfl, hM3.kp⟩
theorem f65 {w : World} (b : Nat) : Ret 65 #[.pointer (some ⟨b, 0, none⟩)] w (fun v w' => v = .agg (Roll.cells ⟨b, 72, 93⟩) ∧ Keeps [] w w') := by
  have hM0 := Mem.start w
  refine enter Tryz.func65 rfl rfl ?_
  refine c_sr ?_
  refine l_alloc hM0 rfl Roll.zv125 ?_
  intro b1 w2 hM3 hK4 hB5
  replace hM3 : Mem w [] [(b1, Roll.noCells, 125)] w2 := hM3
  refine l_nil ?_
  refine c_sr ?_
  refine l_v rfl (r_move rfl) ?_
  refine l_v rfl (r_nilCheck rfl) ?_
  refine l_v rfl (r_fieldAddr SRep.fld_asks rfl) ?_
  refine l_v rfl (r_build rfl (Roll.built125 (⟨b, 72, 93⟩ : Roll))) ?_
  refine l_store hM3 (i := 0) rfl Tryz.sizeOf125 rfl rfl (RollA.size _) (by decide) (RollA.one _) (put_whole _ _ rfl) ?_
  intro w6 hM7 hK8
  replace hM7 : Mem w [] [(b1, (RollA.cells ((⟨b, 72, 93⟩ : Roll))), 125)] w6 := hM7
  refine l_nil ?_
  refine c_ret ?_
  refine retC rfl Tryz.isAgg125 Tryz.sizeOf125 (RollA.size _) rfl (hM7.base (i := 0) rfl) ?_
  exact ⟨rfl, hM7.kp⟩
theorem f93 {w : World} (b o : Nat) : Ret 93 #[.pointer (some ⟨b, o, none⟩)] w (fun v w' => v = .pointer (some ⟨b, o + 0, none⟩) ∧ Keeps [] w w') := by
  have hM0 := Mem.start w
  refine enter Tryz.func93 rfl rfl ?_
  refine c_sr ?_
  refine l_v rfl (r_assign rfl) ?_
  refine l_nil ?_
  refine c_sr ?_
  refine l_v rfl (r_move rfl) ?_
  refine l_v rfl (r_nilCheck rfl) ?_
  refine l_v rfl (r_fieldAddr Ask.fld_who rfl) ?_
  refine l_v rfl (r_assign rfl) ?_
  refine l_nil ?_
  refine c_ret ?_
  refine ret1 rfl rfl ?_
  exact ⟨rfl, hM0.kp⟩
theorem f122 {w : World} {rb bl ol : Nat} (hr : Holds w rb 0 (Roll.cells ⟨bl, ol, 93⟩)) (x : Ask) (e : Pt) : Ret 122 #[.agg x.cells, .agg e.cells, .pointer (some ⟨rb, 0, none⟩)] w (fun v w' => v = .int .i64 (ptCmp x.key e) ∧ Keeps [] w w') := by
  have hM0 := Mem.start w
  refine enter Tryz.func122 rfl rfl ?_
  refine c_sr ?_
  refine l_box hM0 rfl rfl ?_
  intro b1 w2 hM3 hK4 hB5
  replace hM3 : Mem w [] [(b1, (Ask.cells x), 84)] w2 := hM3
  refine l_box hM3 rfl rfl ?_
  intro b6 w7 hM8 hK9 hB10
  replace hM8 : Mem w [] [(b6, (Pt.cells e), 24), (b1, (Ask.cells x), 84)] w7 := hM8
  refine l_v rfl (r_assign rfl) ?_
  refine l_nil ?_
  refine c_sr ?_
  refine l_v rfl (r_fieldAddr RollA.fld_of rfl) ?_
  refine l_v rfl (r_load1 (v := Value.func (Fn.func 93) #[] #[]) Tryz.isAgg123 rfl (Holds.sub (hr.keep hM8.kp (by simp)) (RollA.sub_of _))) ?_
  refine l_call (gn rfl) rfl rfl (r_callv (cap := []) rfl Tryz.call93 rfl) (f93 _ _) ?_
  rintro v11 w12 ⟨rfl, hK13⟩
  have hM14 := hM8.keep hK13
  refine l_v rfl (r_nilCheck rfl) ?_
  refine l_v rfl (r_fieldAddr Cipher.fld_E rfl) ?_
  refine l_v rfl (r_loadA Tryz.isAgg24 Tryz.sizeOf24 (Pt.size _) rfl (Holds.sub (Holds.sub (hM14.base (i := 1) rfl) (Ask.sub_who _)) (Cipher.sub_E _))) ?_
  refine l_alloc hM14 rfl zv_Pt ?_
  intro b15 w16 hM17 hK18 hB19
  replace hM17 : Mem w [] [(b15, (Pt.cells Pt.zero), 24), (b6, (Pt.cells e), 24), (b1, (Ask.cells x), 84)] w16 := hM17
  refine l_store hM17 (i := 0) rfl Tryz.sizeOf24 rfl rfl (Pt.size _) (by rw [Pt.size]; decide) (Pt.one _) (put_whole _ _ ((Pt.size _).trans (Pt.size _).symm)) ?_
  intro w20 hM21 hK22
  replace hM21 : Mem w [] [(b15, (Pt.cells x.who.E), 24), (b6, (Pt.cells e), 24), (b1, (Ask.cells x), 84)] w20 := hM21
  refine l_nil ?_
  refine c_seq ?_
  refine c_regD (Mem w [] [(b15, (Pt.cells x.who.E), 24), (b6, (Pt.cells e), 24), (b1, (Ask.cells x), 84)]) [] [(0, true), (1, true), (2, false), (3, true)] (by kernel_rfl) ?_
  have hM23 := hM21.drew
  refine s_take hM23 rfl (gn rfl) rfl rfl (fun w h => r_sliceArr Tryz.underlying24 Tryz.sizeOf5 rfl) ?_
  refine s_take hM23 rfl (gn rfl) rfl rfl (fun w h => r_sliceArr Tryz.underlying24 Tryz.sizeOf5 rfl) ?_
  refine s_call rfl (gn rfl) rfl rfl (r_call Tryz.call88 rfl) (f88 (hM23.base (i := 0) rfl) (hM23.base (i := 1) rfl)) ?_
  rintro v25 w26 ⟨rfl, hK27⟩
  have hM28 := hM23.keep hK27
  refine ⟨.inr hM28, ?_⟩
  refine s_take hM28 rfl (gn rfl) rfl rfl (fun w h => r_assign rfl) ?_
  refine s_nil ?_
  refine c_ret ?_
  refine ret1 rfl rfl ?_
  exact ⟨rfl, hM28.kp⟩
theorem f121 {A : Nat → Prop} {w : World} {rb bl ol : Nat} {s : Sl} {l : List Ask} (hR : Row A w s 65 Ask.cells l) (hr : Holds w rb 0 (Roll.cells ⟨bl, ol, 93⟩)) (hu : UpK Ask.key l) (e : Pt) :
    Ret 121 #[s.val, .agg e.cells, .func (.func 122) #[] #[.pointer (some ⟨rb, 0, none⟩)]] w (fun v w' => v = .tuple #[.int .i64 ((posK Ask.key l e : Nat) : Int), .bool (hasK Ask.key l e)] ∧ Keeps [] w w') := by
  have hn := hR.bd
  have hM0 := Mem.start w
  refine enter Tryz.func121 rfl rfl ?_
  refine c_sr ?_
  refine l_box hM0 rfl rfl ?_
  intro b1 w2 hM3 hK4 hB5
  replace hM3 : Mem w [] [(b1, (Pt.cells e), 24)] w2 := hM3
  refine l_v rfl (r_assign rfl) ?_
  refine l_v rfl (r_assign rfl) ?_
  refine l_nil ?_
  refine c_sr ?_
  refine l_v rfl (r_move rfl) ?_
  refine l_v rfl (r_lenR Tryz.underlying34 rfl (hR.keep0 hM3.kp).len) ?_
  refine l_v rfl (r_assign rfl) ?_
  refine l_nil ?_
  refine c_sr ?_
  refine l_v rfl (r_move rfl) ?_
  refine l_v rfl (r_assign rfl) ?_
  refine l_v rfl (r_assign rfl) ?_
  refine l_nil ?_
  refine c_seq ?_
  refine c_block ?_
  refine c_loop (ι := Nat × Nat) (fun p_ w_ => Mem w [] [(b1, (Pt.cells e), 24)] w_ ∧ ((p_.1 ≤ p_.2 ∧ p_.2 ≤ l.length ∧ (∀ (t : Nat) (x : Ask), t < p_.1 → l[t]? = some x → ptLt x.key e = true) ∧ (∀ (t : Nat) (x : Ask), p_.2 ≤ t → l[t]? = some x → ptLt x.key e = false)))) (fun p_ => [(0, Sl.val s), (1, Value.agg (Pt.cells e)), (2, Value.func (Fn.func 122) #[] #[Value.pointer (some ⟨rb, 0, none⟩)]), (4, Value.pointer (some ⟨b1, 0, none⟩)), (6, Value.int .i64 ((0 : Nat) : Int)), (7, Value.bool false), (8, Value.int .i64 ((l.length : Nat) : Int)), (9, Value.int .i64 ((p_.1 : Nat) : Int)), (10, Value.int .i64 ((p_.2 : Nat) : Int))]) (fun p_ => p_.2 - p_.1) (0, l.length) ⟨hM3, ⟨Nat.zero_le _, Nat.le_refl _, fun t x h => absurd h (Nat.not_lt_zero _), fun t x h h2 => absurd (List.getElem?_eq_some_iff.1 h2).1 (by omega)⟩⟩ ⟨rfl, rfl, rfl, rfl, rfl, rfl, rfl, rfl, rfl, trivial⟩ ?_
  rintro ⟨i, j⟩ w6 ⟨hM7, hij, hjl, hlo, hhi⟩
  change AT _ [(0, Sl.val s), (1, Value.agg (Pt.cells e)), (2, Value.func (Fn.func 122) #[] #[Value.pointer (some ⟨rb, 0, none⟩)]), (4, Value.pointer (some ⟨b1, 0, none⟩)), (6, Value.int .i64 ((0 : Nat) : Int)), (7, Value.bool false), (8, Value.int .i64 ((l.length : Nat) : Int)), (9, Value.int .i64 ((i : Nat) : Int)), (10, Value.int .i64 ((j : Nat) : Int))] _ _
  replace hM7 : Mem w [] [(b1, (Pt.cells e), 24)] w6 := hM7
  refine c_seq ?_
  refine c_sr ?_
  refine l_v rfl (r_move rfl) ?_
  refine l_v rfl (r_move rfl) ?_
  refine l_v rfl (r_lss (b := decide ((i : Nat) < j)) rfl rfl (nlt i j)) ?_
  refine l_nil ?_
  refine ways (decide ((i : Nat) < j)) (fun h8 => ?_) (fun h8 => ?_)
  ·skip
   have hp9 : (i : Nat) < j := of_decide_eq_true h8
   refine c_condT rfl h8 ?_
   refine c_skip ?_
   refine c_block ?_
   refine c_sr ?_
   refine l_v rfl (r_move rfl) ?_
   refine l_v rfl (r_move rfl) ?_
   refine l_v rfl (r_add (r := ((i + j : Nat) : Int)) rfl rfl (nadd (i := i) (k := j) (m := i + j) (by omega) (by omega))) ?_
   refine l_v rfl (r_convI (r := ((i + j : Nat) : Int)) Tryz.underlying3 Tryz.underlying69 rfl (cu64 _ (by omega))) ?_
   refine l_v rfl (r_shr (r := (((i + j) / 2 : Nat) : Int)) rfl rfl (by decide) (ushr1 _)) ?_
   refine l_v rfl (r_convI (r := (((i + j) / 2 : Nat) : Int)) Tryz.underlying69 Tryz.underlying3 rfl (ci64 _ (by omega))) ?_
   refine l_v rfl (r_assign rfl) ?_
   refine l_nil ?_
   refine c_seq ?_
   refine c_regD (Mem w [] [(b1, (Pt.cells e), 24)]) [] [(0, true), (1, true), (2, true), (3, true), (4, true), (5, true), (6, false), (7, true)] (by kernel_rfl) ?_
   have hM10 := hM7.drew
   refine s_take hM10 rfl (gn rfl) rfl rfl (fun w h => r_move rfl) ?_
   refine s_take hM10 rfl (gn rfl) rfl rfl (fun w h => r_move rfl) ?_
   refine s_take hM10 rfl (gn rfl) rfl rfl (fun w h => r_move rfl) ?_
   have hlt12 : (i + j) / 2 < l.length := by first | assumption | omega
   obtain ⟨x12, hx12⟩ : ∃ x, l[(i + j) / 2]? = some x := ⟨_, List.getElem?_eq_getElem hlt12⟩
   obtain ⟨p12, o12, ha12, hA12, -⟩ := (hR.keep0 hM10.kp).at_ _ _ hx12
   refine s_take hM10 rfl (gn rfl) rfl rfl (fun w h => r_indexR Tryz.underlying34 Tryz.sizeOf84 ⟨_, (hR.keep0 h.kp)⟩ rfl ha12 rfl hlt12) ?_
   refine s_take hM10 rfl (gn rfl) rfl rfl (fun w h => r_loadA Tryz.isAgg84 Tryz.sizeOf84 (Ask.size _) rfl ((hR.keep0 h.kp).ix hx12 ha12)) ?_
   refine s_take hM10 rfl (gn rfl) rfl rfl (fun w h => r_loadA Tryz.isAgg24 Tryz.sizeOf24 (Pt.size _) rfl (h.base (i := 0) rfl)) ?_
   refine s_call rfl (gn rfl) rfl rfl (r_callv (cap := [Value.pointer (some ⟨rb, 0, none⟩)]) rfl Tryz.call122 rfl) (f122 (bl := _) (ol := _) (hr.keep hM10.kp (by simp)) x12 e) ?_
   rintro v13 w14 ⟨rfl, hK15⟩
   have hM16 := hM10.keep hK15
   refine ⟨.inr hM16, ?_⟩
   refine s_take hM16 rfl (gn rfl) rfl rfl (fun w h => r_lss (b := decide (((ptCmp (Ask.key x12) e : Int) : Int) < ((0 : Nat) : Int))) rfl rfl rfl) ?_
   refine s_nil ?_
   refine ways (decide (((ptCmp (Ask.key x12) e : Int) : Int) < ((0 : Nat) : Int))) (fun h17 => ?_) (fun h17 => ?_)
   ·skip
    have hp18 : ((ptCmp (Ask.key x12) e : Int) : Int) < ((0 : Nat) : Int) := of_decide_eq_true h17
    refine c_condT rfl h17 ?_
    refine c_reg ?_
    refine l_v rfl (r_move rfl) ?_
    refine l_v rfl (r_add (r := ((((i + j) / 2) + 1 : Nat) : Int)) rfl rfl (nadd (i := (i + j) / 2) (k := 1) (m := ((i + j) / 2) + 1) (by omega) (by omega))) ?_
    refine l_v rfl (r_assign rfl) ?_
    refine l_nil ?_
    intro a_ ha_
    refine ⟨((i + j) / 2 + 1, j), ⟨hM16, ?_⟩, by omega, ha_.sub ⟨rfl, rfl, rfl, rfl, rfl, rfl, rfl, rfl, rfl, trivial⟩⟩
    exact ⟨by omega, by omega, fun t x h1 h2 => up_mono hu (show t ≤ (i + j) / 2 by omega) h2 hx12 (cmpl_yes (of_decide_eq_true h17)), hhi⟩
   ·skip
    have hp19 : ¬ (((ptCmp (Ask.key x12) e : Int) : Int) < ((0 : Nat) : Int)) := of_decide_eq_false h17
    refine c_condF rfl h17 ?_
    refine c_reg ?_
    refine l_v rfl (r_move rfl) ?_
    refine l_v rfl (r_assign rfl) ?_
    refine l_nil ?_
    intro a_ ha_
    refine ⟨(i, (i + j) / 2), ⟨hM16, ?_⟩, by omega, ha_.sub ⟨rfl, rfl, rfl, rfl, rfl, rfl, rfl, rfl, rfl, trivial⟩⟩
    exact ⟨by omega, by omega, hlo, fun t x h1 h2 => by cases hq : ptLt x.key e with | false => rfl | true => exact absurd (up_mono hu h1 hx12 h2 hq) (by rw [cmpl_no (of_decide_eq_false h17)]; decide)⟩
  ·skip
   have hp20 : ¬ ((i : Nat) < j) := of_decide_eq_false h8
   refine c_condF rfl h8 ?_
   refine c_exit rfl ?_
   refine c_seq ?_
   refine c_regD (Mem w [] [(b1, (Pt.cells e), 24)]) [] [(0, true), (1, true), (2, true), (3, true), (4, true), (5, true), (6, true), (7, true), (8, true), (9, true), (10, true), (11, false), (12, true), (13, true), (14, true), (15, true)] (by kernel_rfl) ?_
   have hM21 := hM7.drew
   refine s_take hM21 rfl (gn rfl) rfl rfl (fun w h => r_move rfl) ?_
   refine s_take hM21 rfl (gn rfl) rfl rfl (fun w h => r_move rfl) ?_
   refine s_take hM21 rfl (gn rfl) rfl rfl (fun w h => r_move rfl) ?_
   refine s_take hM21 rfl (gn rfl) rfl rfl (fun w h => r_lss (b := decide ((i : Nat) < l.length)) rfl rfl (nlt i l.length)) ?_
   refine s_take hM21 rfl (gn rfl) rfl rfl (fun w h => r_move rfl) ?_
   refine ways (decide ((i : Nat) < l.length)) (fun h23 => ?_) (fun h23 => ?_)
   ·skip
    have hp24 : (i : Nat) < l.length := of_decide_eq_true h23
    refine s_take hM21 rfl (gy rfl rfl rfl rfl h23) rfl rfl (fun w h => r_move rfl) ?_
    refine s_take hM21 rfl (gy rfl rfl rfl rfl h23) rfl rfl (fun w h => r_move rfl) ?_
    refine s_take hM21 rfl (gy rfl rfl rfl rfl h23) rfl rfl (fun w h => r_move rfl) ?_
    have hlt25 : i < l.length := by first | assumption | omega
    obtain ⟨x25, hx25⟩ : ∃ x, l[i]? = some x := ⟨_, List.getElem?_eq_getElem hlt25⟩
    obtain ⟨p25, o25, ha25, hA25, -⟩ := (hR.keep0 hM21.kp).at_ _ _ hx25
    refine s_take hM21 rfl (gy rfl rfl rfl rfl h23) rfl rfl (fun w h => r_indexR Tryz.underlying34 Tryz.sizeOf84 ⟨_, (hR.keep0 h.kp)⟩ rfl ha25 rfl hlt25) ?_
    refine s_take hM21 rfl (gy rfl rfl rfl rfl h23) rfl rfl (fun w h => r_loadA Tryz.isAgg84 Tryz.sizeOf84 (Ask.size _) rfl ((hR.keep0 h.kp).ix hx25 ha25)) ?_
    refine s_take hM21 rfl (gy rfl rfl rfl rfl h23) rfl rfl (fun w h => r_loadA Tryz.isAgg24 Tryz.sizeOf24 (Pt.size _) rfl (h.base (i := 0) rfl)) ?_
    refine s_call rfl (gy rfl rfl rfl rfl h23) rfl rfl (r_callv (cap := [Value.pointer (some ⟨rb, 0, none⟩)]) rfl Tryz.call122 rfl) (f122 (bl := _) (ol := _) (hr.keep hM21.kp (by simp)) x25 e) ?_
    rintro v26 w27 ⟨rfl, hK28⟩
    have hM29 := hM21.keep hK28
    refine ⟨.inr hM29, ?_⟩
    refine s_take hM29 rfl (gy rfl rfl rfl rfl h23) rfl rfl (fun w h => r_eql (b := decide (((ptCmp (Ask.key x25) e : Int) : Int) = ((0 : Nat) : Int))) rfl rfl rfl) ?_
    refine s_take hM29 rfl (gn rfl) rfl rfl (fun w h => r_pickT rfl h23 rfl) ?_
    refine s_take hM29 rfl (gn rfl) rfl rfl (fun w h => r_assign rfl) ?_
    refine s_take hM29 rfl (gn rfl) rfl rfl (fun w h => r_assign rfl) ?_
    refine s_nil ?_
    refine c_ret ?_
    refine ret2 rfl rfl rfl ?_
    have hpos : posK Ask.key l e = i := up_pos hlo (fun t x h1 => hhi t x (by omega)) (by omega)
    have hhas : hasK Ask.key l e = decide (ptCmp (Ask.key x25) e = ((0 : Nat) : Int)) := by rw [has_at hu (by rw [hpos]; exact hx25), ← ptCmp_eq]; rfl
    exact ⟨by rw [hpos, hhas], hM29.kp⟩
   ·skip
    have hp30 : ¬ ((i : Nat) < l.length) := of_decide_eq_false h23
    refine s_off hM21 rfl (gno rfl rfl rfl rfl h23) rfl rfl ?_
    refine s_off hM21 rfl (gno rfl rfl rfl rfl h23) rfl rfl ?_
    refine s_off hM21 rfl (gno rfl rfl rfl rfl h23) rfl rfl ?_
    refine s_off hM21 rfl (gno rfl rfl rfl rfl h23) rfl rfl ?_
    refine s_off hM21 rfl (gno rfl rfl rfl rfl h23) rfl rfl ?_
    refine s_off hM21 rfl (gno rfl rfl rfl rfl h23) rfl rfl ?_
    refine s_offx (.inr hM21) rfl (gno rfl rfl rfl rfl h23) rfl rfl ?_
    refine s_off hM21 rfl (gno rfl rfl rfl rfl h23) rfl rfl ?_
    refine s_take hM21 rfl (gn rfl) rfl rfl (fun w h => r_pickF rfl h23 rfl) ?_
    refine s_take hM21 rfl (gn rfl) rfl rfl (fun w h => r_assign rfl) ?_
    refine s_take hM21 rfl (gn rfl) rfl rfl (fun w h => r_assign rfl) ?_
    refine s_nil ?_
    refine c_ret ?_
    refine ret2 rfl rfl rfl ?_
    have hpos : posK Ask.key l e = i := up_pos hlo (fun t x h1 => hhi t x (by omega)) (by omega)
    have hhas : hasK Ask.key l e = false := has_end hu (by rw [hpos]; assumption)
    exact ⟨by rw [hpos, hhas], hM21.kp⟩
theorem f101 {A : Nat → Prop} {w : World} {bl ol : Nat} {s : Sl} {l : List Ask} (hc : Holds w bl ol #[s.val]) (hR : Row A w s 65 Ask.cells l) (hu : UpK Ask.key l) (e : Pt) :
    Ret 101 #[.agg (Roll.cells ⟨bl, ol, 93⟩), .agg e.cells] w (fun v w' => v = .tuple #[.int .i64 ((posK Ask.key l e : Nat) : Int), .bool (hasK Ask.key l e)] ∧ Keeps [] w w') := by
  have hM0 := Mem.start w
  refine enter Tryz.func101 rfl rfl ?_
  refine c_sr ?_
  refine l_box hM0 rfl rfl ?_
  intro b1 w2 hM3 hK4 hB5
  replace hM3 : Mem w [] [(b1, (RollA.cells ((⟨bl, ol, 93⟩ : Roll))), 125)] w2 := hM3
  refine l_box hM3 rfl rfl ?_
  intro b6 w7 hM8 hK9 hB10
  replace hM8 : Mem w [] [(b6, (Pt.cells e), 24), (b1, (RollA.cells ((⟨bl, ol, 93⟩ : Roll))), 125)] w7 := hM8
  refine l_v rfl (r_assign rfl) ?_
  refine l_v rfl (r_assign rfl) ?_
  refine l_nil ?_
  refine c_seq ?_
  refine c_regD (Mem w [] [(b6, (Pt.cells e), 24), (b1, (RollA.cells ((⟨bl, ol, 93⟩ : Roll))), 125)]) [] [(0, true), (1, true), (2, true), (3, true), (4, true), (5, true), (6, false), (7, true), (8, true), (9, true), (10, true)] (by kernel_rfl) ?_
  have hM11 := hM8.drew
  refine s_take hM11 rfl (gn rfl) rfl rfl (fun w h => r_fieldAddr RollA.fld_l rfl) ?_
  refine s_take hM11 rfl (gn rfl) rfl rfl (fun w h => r_load1 (v := Value.pointer (some ⟨bl, ol, none⟩)) Tryz.isAgg122 rfl (Holds.sub (h.base (i := 1) rfl) (RollA.sub_l _))) ?_
  refine s_take hM11 rfl (gn rfl) rfl rfl (fun w h => r_nilCheck rfl) ?_
  refine s_take hM11 rfl (gn rfl) rfl rfl (fun w h => r_load1 (v := Sl.val s) Tryz.isAgg34 rfl (hc.keep h.kp (by simp))) ?_
  refine s_take hM11 rfl (gn rfl) rfl rfl (fun w h => r_loadA Tryz.isAgg24 Tryz.sizeOf24 (Pt.size _) rfl (h.base (i := 0) rfl)) ?_
  refine s_take hM11 rfl (gn rfl) rfl rfl (fun w h => r_makeFunc rfl) ?_
  refine s_call rfl (gn rfl) rfl rfl (r_call Tryz.call121 rfl) (f121 (bl := _) (ol := _) (hR.keep0 hM11.kp) (hM11.base (i := 1) rfl) hu e) ?_
  rintro v13 w14 ⟨rfl, hK15⟩
  have hM16 := hM11.keep hK15
  refine ⟨.inr hM16, ?_⟩
  refine s_take hM16 rfl (gn rfl) rfl rfl (fun w h => r_extract rfl rfl) ?_
  refine s_take hM16 rfl (gn rfl) rfl rfl (fun w h => r_extract rfl rfl) ?_
  refine s_take hM16 rfl (gn rfl) rfl rfl (fun w h => r_assign rfl) ?_
  refine s_take hM16 rfl (gn rfl) rfl rfl (fun w h => r_assign rfl) ?_
  refine s_nil ?_
  refine c_ret ?_
  refine ret2 rfl rfl rfl ?_
  exact ⟨rfl, hM16.kp⟩
theorem f97 {A : Nat → Prop} {w : World} {bl ol : Nat} {s : Sl} {l : List Ask} (hc : Holds w bl ol #[s.val]) (hR : Row A w s 65 Ask.cells l) (hu : UpK Ask.key l) (e : Pt) :
    Ret 97 #[.agg (Roll.cells ⟨bl, ol, 93⟩), .agg e.cells] w (fun v w' => v = .bool (hasK Ask.key l e) ∧ Keeps [] w w') := by
  have hM0 := Mem.start w
  refine enter Tryz.func97 rfl rfl ?_
  refine c_sr ?_
  refine l_box hM0 rfl rfl ?_
  intro b1 w2 hM3 hK4 hB5
  replace hM3 : Mem w [] [(b1, (RollA.cells ((⟨bl, ol, 93⟩ : Roll))), 125)] w2 := hM3
  refine l_box hM3 rfl rfl ?_
  intro b6 w7 hM8 hK9 hB10
  replace hM8 : Mem w [] [(b6, (Pt.cells e), 24), (b1, (RollA.cells ((⟨bl, ol, 93⟩ : Roll))), 125)] w7 := hM8
  refine l_v rfl (r_assign rfl) ?_
  refine l_nil ?_
  refine c_sr ?_
  refine l_v rfl (r_loadA Tryz.isAgg125 Tryz.sizeOf125 (RollA.size _) rfl (hM8.base (i := 1) rfl)) ?_
  refine l_v rfl (r_loadA Tryz.isAgg24 Tryz.sizeOf24 (Pt.size _) rfl (hM8.base (i := 0) rfl)) ?_
  refine l_call (gn rfl) rfl rfl (r_call Tryz.call101 rfl) (f101 (hc.keep hM8.kp (by simp)) (hR.keep0 hM8.kp) hu e) ?_
  rintro v11 w12 ⟨rfl, hK13⟩
  have hM14 := hM8.keep hK13
  refine l_v rfl (r_move rfl) ?_
  refine l_v rfl (r_extract rfl rfl) ?_
  refine l_v rfl (r_extract rfl rfl) ?_
  refine l_v rfl (r_assign rfl) ?_
  refine l_v rfl (r_assign rfl) ?_
  refine l_nil ?_
  refine c_sr ?_
  refine l_v rfl (r_move rfl) ?_
  refine l_v rfl (r_assign rfl) ?_
  refine l_nil ?_
  refine c_ret ?_
  refine ret1 rfl rfl ?_
  exact ⟨rfl, hM14.kp⟩
theorem f74 {A : Nat → Prop} {w : World} {bl ol : Nat} {s : Sl} {l : List Ask} (hc : Holds w bl ol #[s.val]) (hR : Row A w s 65 Ask.cells l) :
    Ret 74 #[.agg (Roll.cells ⟨bl, ol, 93⟩)] w (fun v w' => v = .bool (decide (40 ≤ l.length)) ∧ Keeps [] w w') := by
  have hM0 := Mem.start w
  refine enter Tryz.func74 rfl rfl ?_
  refine c_sr ?_
  refine l_box hM0 rfl rfl ?_
  intro b1 w2 hM3 hK4 hB5
  replace hM3 : Mem w [] [(b1, (RollA.cells ((⟨bl, ol, 93⟩ : Roll))), 125)] w2 := hM3
  refine l_v rfl (r_assign rfl) ?_
  refine l_nil ?_
  refine c_sr ?_
  refine l_v rfl (r_fieldAddr RollA.fld_l rfl) ?_
  refine l_v rfl (r_load1 (v := Value.pointer (some ⟨bl, ol, none⟩)) Tryz.isAgg122 rfl (Holds.sub (hM3.base (i := 0) rfl) (RollA.sub_l _))) ?_
  refine l_v rfl (r_nilCheck rfl) ?_
  refine l_v rfl (r_load1 (v := Sl.val s) Tryz.isAgg34 rfl (hc.keep hM3.kp (by simp))) ?_
  refine l_v rfl (r_lenR Tryz.underlying34 rfl (hR.keep0 hM3.kp).len) ?_
  refine l_v rfl (r_geq (b := decide ((40 : Nat) ≤ l.length)) rfl rfl (nle 40 l.length)) ?_
  refine l_v rfl (r_assign rfl) ?_
  refine l_nil ?_
  refine c_ret ?_
  refine ret1 rfl rfl ?_
  exact ⟨rfl, hM3.kp⟩
theorem f94 {w : World} (b : Nat) : Ret 94 #[.pointer (some ⟨b, 0, none⟩)] w (fun v w' => v = .agg (Roll.cells ⟨b, 73, 117⟩) ∧ Keeps [] w w') := by
  have hM0 := Mem.start w
  refine enter Tryz.func94 rfl rfl ?_
  refine c_sr ?_
  refine l_alloc hM0 rfl Roll.zv157 ?_
  intro b1 w2 hM3 hK4 hB5
  replace hM3 : Mem w [] [(b1, Roll.noCells, 157)] w2 := hM3
  refine l_nil ?_
  refine c_sr ?_
  refine l_v rfl (r_move rfl) ?_
  refine l_v rfl (r_nilCheck rfl) ?_
  refine l_v rfl (r_fieldAddr SRep.fld_bans rfl) ?_
  refine l_v rfl (r_build rfl (Roll.built157 (⟨b, 73, 117⟩ : Roll))) ?_
  refine l_store hM3 (i := 0) rfl Tryz.sizeOf157 rfl rfl (RollB.size _) (by decide) (RollB.one _) (put_whole _ _ rfl) ?_
  intro w6 hM7 hK8
  replace hM7 : Mem w [] [(b1, (RollB.cells ((⟨b, 73, 117⟩ : Roll))), 157)] w6 := hM7
  refine l_nil ?_
  refine c_ret ?_
  refine retC rfl Tryz.isAgg157 Tryz.sizeOf157 (RollB.size _) rfl (hM7.base (i := 0) rfl) ?_
  exact ⟨rfl, hM7.kp⟩
theorem f117 {w : World} (b o : Nat) : Ret 117 #[.pointer (some ⟨b, o, none⟩)] w (fun v w' => v = .pointer (some ⟨b, o + 0, none⟩) ∧ Keeps [] w w') := by
  have hM0 := Mem.start w
  refine enter Tryz.func117 rfl rfl ?_
  refine c_sr ?_
  refine l_v rfl (r_assign rfl) ?_
  refine l_nil ?_
  refine c_sr ?_
  refine l_v rfl (r_move rfl) ?_
  refine l_v rfl (r_nilCheck rfl) ?_
  refine l_v rfl (r_fieldAddr Ban.fld_who rfl) ?_
  refine l_v rfl (r_assign rfl) ?_
  refine l_nil ?_
  refine c_ret ?_
  refine ret1 rfl rfl ?_
  exact ⟨rfl, hM0.kp⟩
theorem f131 {w : World} {rb bl ol : Nat} (hr : Holds w rb 0 (Roll.cells ⟨bl, ol, 117⟩)) (x : Ban) (e : Pt) : Ret 131 #[.agg x.cells, .agg e.cells, .pointer (some ⟨rb, 0, none⟩)] w (fun v w' => v = .int .i64 (ptCmp x.key e) ∧ Keeps [] w w') := by
  have hM0 := Mem.start w
  refine enter Tryz.func131 rfl rfl ?_
  refine c_sr ?_
  refine l_box hM0 rfl rfl ?_
  intro b1 w2 hM3 hK4 hB5
  replace hM3 : Mem w [] [(b1, (Ban.cells x), 86)] w2 := hM3
  refine l_box hM3 rfl rfl ?_
  intro b6 w7 hM8 hK9 hB10
  replace hM8 : Mem w [] [(b6, (Pt.cells e), 24), (b1, (Ban.cells x), 86)] w7 := hM8
  refine l_v rfl (r_assign rfl) ?_
  refine l_nil ?_
  refine c_sr ?_
  refine l_v rfl (r_fieldAddr RollB.fld_of rfl) ?_
  refine l_v rfl (r_load1 (v := Value.func (Fn.func 117) #[] #[]) Tryz.isAgg155 rfl (Holds.sub (hr.keep hM8.kp (by simp)) (RollB.sub_of _))) ?_
  refine l_call (gn rfl) rfl rfl (r_callv (cap := []) rfl Tryz.call117 rfl) (f117 _ _) ?_
  rintro v11 w12 ⟨rfl, hK13⟩
  have hM14 := hM8.keep hK13
  refine l_v rfl (r_nilCheck rfl) ?_
  refine l_v rfl (r_fieldAddr Cipher.fld_E rfl) ?_
  refine l_v rfl (r_loadA Tryz.isAgg24 Tryz.sizeOf24 (Pt.size _) rfl (Holds.sub (Holds.sub (hM14.base (i := 1) rfl) (Ban.sub_who _)) (Cipher.sub_E _))) ?_
  refine l_alloc hM14 rfl zv_Pt ?_
  intro b15 w16 hM17 hK18 hB19
  replace hM17 : Mem w [] [(b15, (Pt.cells Pt.zero), 24), (b6, (Pt.cells e), 24), (b1, (Ban.cells x), 86)] w16 := hM17
  refine l_store hM17 (i := 0) rfl Tryz.sizeOf24 rfl rfl (Pt.size _) (by rw [Pt.size]; decide) (Pt.one _) (put_whole _ _ ((Pt.size _).trans (Pt.size _).symm)) ?_
  intro w20 hM21 hK22
  replace hM21 : Mem w [] [(b15, (Pt.cells x.who.E), 24), (b6, (Pt.cells e), 24), (b1, (Ban.cells x), 86)] w20 := hM21
  refine l_nil ?_
  refine c_seq ?_
  refine c_regD (Mem w [] [(b15, (Pt.cells x.who.E), 24), (b6, (Pt.cells e), 24), (b1, (Ban.cells x), 86)]) [] [(0, true), (1, true), (2, false), (3, true)] (by kernel_rfl) ?_
  have hM23 := hM21.drew
  refine s_take hM23 rfl (gn rfl) rfl rfl (fun w h => r_sliceArr Tryz.underlying24 Tryz.sizeOf5 rfl) ?_
  refine s_take hM23 rfl (gn rfl) rfl rfl (fun w h => r_sliceArr Tryz.underlying24 Tryz.sizeOf5 rfl) ?_
  refine s_call rfl (gn rfl) rfl rfl (r_call Tryz.call88 rfl) (f88 (hM23.base (i := 0) rfl) (hM23.base (i := 1) rfl)) ?_
  rintro v25 w26 ⟨rfl, hK27⟩
  have hM28 := hM23.keep hK27
  refine ⟨.inr hM28, ?_⟩
  refine s_take hM28 rfl (gn rfl) rfl rfl (fun w h => r_assign rfl) ?_
  refine s_nil ?_
  refine c_ret ?_
  refine ret1 rfl rfl ?_
  exact ⟨rfl, hM28.kp⟩
theorem f130 {A : Nat → Prop} {w : World} {rb bl ol : Nat} {s : Sl} {l : List Ban} (hR : Row A w s 128 Ban.cells l) (hr : Holds w rb 0 (Roll.cells ⟨bl, ol, 117⟩)) (hu : UpK Ban.key l) (e : Pt) :
    Ret 130 #[s.val, .agg e.cells, .func (.func 131) #[] #[.pointer (some ⟨rb, 0, none⟩)]] w (fun v w' => v = .tuple #[.int .i64 ((posK Ban.key l e : Nat) : Int), .bool (hasK Ban.key l e)] ∧ Keeps [] w w') := by
  have hn := hR.bd
  have hM0 := Mem.start w
  refine enter Tryz.func130 rfl rfl ?_
  refine c_sr ?_
  refine l_box hM0 rfl rfl ?_
  intro b1 w2 hM3 hK4 hB5
  replace hM3 : Mem w [] [(b1, (Pt.cells e), 24)] w2 := hM3
  refine l_v rfl (r_assign rfl) ?_
  refine l_v rfl (r_assign rfl) ?_
  refine l_nil ?_
  refine c_sr ?_
  refine l_v rfl (r_move rfl) ?_
  refine l_v rfl (r_lenR Tryz.underlying35 rfl (hR.keep0 hM3.kp).len) ?_
  refine l_v rfl (r_assign rfl) ?_
  refine l_nil ?_
  refine c_sr ?_
  refine l_v rfl (r_move rfl) ?_
  refine l_v rfl (r_assign rfl) ?_
  refine l_v rfl (r_assign rfl) ?_
  refine l_nil ?_
  refine c_seq ?_
  refine c_block ?_
  refine c_loop (ι := Nat × Nat) (fun p_ w_ => Mem w [] [(b1, (Pt.cells e), 24)] w_ ∧ ((p_.1 ≤ p_.2 ∧ p_.2 ≤ l.length ∧ (∀ (t : Nat) (x : Ban), t < p_.1 → l[t]? = some x → ptLt x.key e = true) ∧ (∀ (t : Nat) (x : Ban), p_.2 ≤ t → l[t]? = some x → ptLt x.key e = false)))) (fun p_ => [(0, Sl.val s), (1, Value.agg (Pt.cells e)), (2, Value.func (Fn.func 131) #[] #[Value.pointer (some ⟨rb, 0, none⟩)]), (4, Value.pointer (some ⟨b1, 0, none⟩)), (6, Value.int .i64 ((0 : Nat) : Int)), (7, Value.bool false), (8, Value.int .i64 ((l.length : Nat) : Int)), (9, Value.int .i64 ((p_.1 : Nat) : Int)), (10, Value.int .i64 ((p_.2 : Nat) : Int))]) (fun p_ => p_.2 - p_.1) (0, l.length) ⟨hM3, ⟨Nat.zero_le _, Nat.le_refl _, fun t x h => absurd h (Nat.not_lt_zero _), fun t x h h2 => absurd (List.getElem?_eq_some_iff.1 h2).1 (by omega)⟩⟩ ⟨rfl, rfl, rfl, rfl, rfl, rfl, rfl, rfl, rfl, trivial⟩ ?_
  rintro ⟨i, j⟩ w6 ⟨hM7, hij, hjl, hlo, hhi⟩
  change AT _ [(0, Sl.val s), (1, Value.agg (Pt.cells e)), (2, Value.func (Fn.func 131) #[] #[Value.pointer (some ⟨rb, 0, none⟩)]), (4, Value.pointer (some ⟨b1, 0, none⟩)), (6, Value.int .i64 ((0 : Nat) : Int)), (7, Value.bool false), (8, Value.int .i64 ((l.length : Nat) : Int)), (9, Value.int .i64 ((i : Nat) : Int)), (10, Value.int .i64 ((j : Nat) : Int))] _ _
  replace hM7 : Mem w [] [(b1, (Pt.cells e), 24)] w6 := hM7
  refine c_seq ?_
  refine c_sr ?_
  refine l_v rfl (r_move rfl) ?_
  refine l_v rfl (r_move rfl) ?_
  refine l_v rfl (r_lss (b := decide ((i : Nat) < j)) rfl rfl (nlt i j)) ?_
  refine l_nil ?_
  refine ways (decide ((i : Nat) < j)) (fun h8 => ?_) (fun h8 => ?_)
  ·skip
   have hp9 : (i : Nat) < j := of_decide_eq_true h8
   refine c_condT rfl h8 ?_
   refine c_skip ?_
   refine c_block ?_
   refine c_sr ?_
   refine l_v rfl (r_move rfl) ?_
   refine l_v rfl (r_move rfl) ?_
   refine l_v rfl (r_add (r := ((i + j : Nat) : Int)) rfl rfl (nadd (i := i) (k := j) (m := i + j) (by omega) (by omega))) ?_
   refine l_v rfl (r_convI (r := ((i + j : Nat) : Int)) Tryz.underlying3 Tryz.underlying69 rfl (cu64 _ (by omega))) ?_
   refine l_v rfl (r_shr (r := (((i + j) / 2 : Nat) : Int)) rfl rfl (by decide) (ushr1 _)) ?_
   refine l_v rfl (r_convI (r := (((i + j) / 2 : Nat) : Int)) Tryz.underlying69 Tryz.underlying3 rfl (ci64 _ (by omega))) ?_
   refine l_v rfl (r_assign rfl) ?_
   refine l_nil ?_
   refine c_seq ?_
   refine c_regD (Mem w [] [(b1, (Pt.cells e), 24)]) [] [(0, true), (1, true), (2, true), (3, true), (4, true), (5, true), (6, false), (7, true)] (by kernel_rfl) ?_
   have hM10 := hM7.drew
   refine s_take hM10 rfl (gn rfl) rfl rfl (fun w h => r_move rfl) ?_
   refine s_take hM10 rfl (gn rfl) rfl rfl (fun w h => r_move rfl) ?_
   refine s_take hM10 rfl (gn rfl) rfl rfl (fun w h => r_move rfl) ?_
   have hlt12 : (i + j) / 2 < l.length := by first | assumption | omega
   obtain ⟨x12, hx12⟩ : ∃ x, l[(i + j) / 2]? = some x := ⟨_, List.getElem?_eq_getElem hlt12⟩
   obtain ⟨p12, o12, ha12, hA12, -⟩ := (hR.keep0 hM10.kp).at_ _ _ hx12
   refine s_take hM10 rfl (gn rfl) rfl rfl (fun w h => r_indexR Tryz.underlying35 Tryz.sizeOf86 ⟨_, (hR.keep0 h.kp)⟩ rfl ha12 rfl hlt12) ?_
   refine s_take hM10 rfl (gn rfl) rfl rfl (fun w h => r_loadA Tryz.isAgg86 Tryz.sizeOf86 (Ban.size _) rfl ((hR.keep0 h.kp).ix hx12 ha12)) ?_
   refine s_take hM10 rfl (gn rfl) rfl rfl (fun w h => r_loadA Tryz.isAgg24 Tryz.sizeOf24 (Pt.size _) rfl (h.base (i := 0) rfl)) ?_
   refine s_call rfl (gn rfl) rfl rfl (r_callv (cap := [Value.pointer (some ⟨rb, 0, none⟩)]) rfl Tryz.call131 rfl) (f131 (bl := _) (ol := _) (hr.keep hM10.kp (by simp)) x12 e) ?_
   rintro v13 w14 ⟨rfl, hK15⟩
   have hM16 := hM10.keep hK15
   refine ⟨.inr hM16, ?_⟩
   refine s_take hM16 rfl (gn rfl) rfl rfl (fun w h => r_lss (b := decide (((ptCmp (Ban.key x12) e : Int) : Int) < ((0 : Nat) : Int))) rfl rfl rfl) ?_
   refine s_nil ?_
   refine ways (decide (((ptCmp (Ban.key x12) e : Int) : Int) < ((0 : Nat) : Int))) (fun h17 => ?_) (fun h17 => ?_)
   ·skip
    have hp18 : ((ptCmp (Ban.key x12) e : Int) : Int) < ((0 : Nat) : Int) := of_decide_eq_true h17
    refine c_condT rfl h17 ?_
    refine c_reg ?_
    refine l_v rfl (r_move rfl) ?_
    refine l_v rfl (r_add (r := ((((i + j) / 2) + 1 : Nat) : Int)) rfl rfl (nadd (i := (i + j) / 2) (k := 1) (m := ((i + j) / 2) + 1) (by omega) (by omega))) ?_
    refine l_v rfl (r_assign rfl) ?_
    refine l_nil ?_
    intro a_ ha_
    refine ⟨((i + j) / 2 + 1, j), ⟨hM16, ?_⟩, by omega, ha_.sub ⟨rfl, rfl, rfl, rfl, rfl, rfl, rfl, rfl, rfl, trivial⟩⟩
    exact ⟨by omega, by omega, fun t x h1 h2 => up_mono hu (show t ≤ (i + j) / 2 by omega) h2 hx12 (cmpl_yes (of_decide_eq_true h17)), hhi⟩
   ·skip
    have hp19 : ¬ (((ptCmp (Ban.key x12) e : Int) : Int) < ((0 : Nat) : Int)) := of_decide_eq_false h17
    refine c_condF rfl h17 ?_
    refine c_reg ?_
    refine l_v rfl (r_move rfl) ?_
    refine l_v rfl (r_assign rfl) ?_
    refine l_nil ?_
    intro a_ ha_
    refine ⟨(i, (i + j) / 2), ⟨hM16, ?_⟩, by omega, ha_.sub ⟨rfl, rfl, rfl, rfl, rfl, rfl, rfl, rfl, rfl, trivial⟩⟩
    exact ⟨by omega, by omega, hlo, fun t x h1 h2 => by cases hq : ptLt x.key e with | false => rfl | true => exact absurd (up_mono hu h1 hx12 h2 hq) (by rw [cmpl_no (of_decide_eq_false h17)]; decide)⟩
  ·skip
   have hp20 : ¬ ((i : Nat) < j) := of_decide_eq_false h8
   refine c_condF rfl h8 ?_
   refine c_exit rfl ?_
   refine c_seq ?_
   refine c_regD (Mem w [] [(b1, (Pt.cells e), 24)]) [] [(0, true), (1, true), (2, true), (3, true), (4, true), (5, true), (6, true), (7, true), (8, true), (9, true), (10, true), (11, false), (12, true), (13, true), (14, true), (15, true)] (by kernel_rfl) ?_
   have hM21 := hM7.drew
   refine s_take hM21 rfl (gn rfl) rfl rfl (fun w h => r_move rfl) ?_
   refine s_take hM21 rfl (gn rfl) rfl rfl (fun w h => r_move rfl) ?_
   refine s_take hM21 rfl (gn rfl) rfl rfl (fun w h => r_move rfl) ?_
   refine s_take hM21 rfl (gn rfl) rfl rfl (fun w h => r_lss (b := decide ((i : Nat) < l.length)) rfl rfl (nlt i l.length)) ?_
   refine s_take hM21 rfl (gn rfl) rfl rfl (fun w h => r_move rfl) ?_
   refine ways (decide ((i : Nat) < l.length)) (fun h23 => ?_) (fun h23 => ?_)
   ·skip
    have hp24 : (i : Nat) < l.length := of_decide_eq_true h23
    refine s_take hM21 rfl (gy rfl rfl rfl rfl h23) rfl rfl (fun w h => r_move rfl) ?_
    refine s_take hM21 rfl (gy rfl rfl rfl rfl h23) rfl rfl (fun w h => r_move rfl) ?_
    refine s_take hM21 rfl (gy rfl rfl rfl rfl h23) rfl rfl (fun w h => r_move rfl) ?_
    have hlt25 : i < l.length := by first | assumption | omega
    obtain ⟨x25, hx25⟩ : ∃ x, l[i]? = some x := ⟨_, List.getElem?_eq_getElem hlt25⟩
    obtain ⟨p25, o25, ha25, hA25, -⟩ := (hR.keep0 hM21.kp).at_ _ _ hx25
    refine s_take hM21 rfl (gy rfl rfl rfl rfl h23) rfl rfl (fun w h => r_indexR Tryz.underlying35 Tryz.sizeOf86 ⟨_, (hR.keep0 h.kp)⟩ rfl ha25 rfl hlt25) ?_
    refine s_take hM21 rfl (gy rfl rfl rfl rfl h23) rfl rfl (fun w h => r_loadA Tryz.isAgg86 Tryz.sizeOf86 (Ban.size _) rfl ((hR.keep0 h.kp).ix hx25 ha25)) ?_
    refine s_take hM21 rfl (gy rfl rfl rfl rfl h23) rfl rfl (fun w h => r_loadA Tryz.isAgg24 Tryz.sizeOf24 (Pt.size _) rfl (h.base (i := 0) rfl)) ?_
    refine s_call rfl (gy rfl rfl rfl rfl h23) rfl rfl (r_callv (cap := [Value.pointer (some ⟨rb, 0, none⟩)]) rfl Tryz.call131 rfl) (f131 (bl := _) (ol := _) (hr.keep hM21.kp (by simp)) x25 e) ?_
    rintro v26 w27 ⟨rfl, hK28⟩
    have hM29 := hM21.keep hK28
    refine ⟨.inr hM29, ?_⟩
    refine s_take hM29 rfl (gy rfl rfl rfl rfl h23) rfl rfl (fun w h => r_eql (b := decide (((ptCmp (Ban.key x25) e : Int) : Int) = ((0 : Nat) : Int))) rfl rfl rfl) ?_
    refine s_take hM29 rfl (gn rfl) rfl rfl (fun w h => r_pickT rfl h23 rfl) ?_
    refine s_take hM29 rfl (gn rfl) rfl rfl (fun w h => r_assign rfl) ?_
    refine s_take hM29 rfl (gn rfl) rfl rfl (fun w h => r_assign rfl) ?_
    refine s_nil ?_
    refine c_ret ?_
    refine ret2 rfl rfl rfl ?_
    have hpos : posK Ban.key l e = i := up_pos hlo (fun t x h1 => hhi t x (by omega)) (by omega)
    have hhas : hasK Ban.key l e = decide (ptCmp (Ban.key x25) e = ((0 : Nat) : Int)) := by rw [has_at hu (by rw [hpos]; exact hx25), ← ptCmp_eq]; rfl
    exact ⟨by rw [hpos, hhas], hM29.kp⟩
   ·skip
    have hp30 : ¬ ((i : Nat) < l.length) := of_decide_eq_false h23
    refine s_off hM21 rfl (gno rfl rfl rfl rfl h23) rfl rfl ?_
    refine s_off hM21 rfl (gno rfl rfl rfl rfl h23) rfl rfl ?_
    refine s_off hM21 rfl (gno rfl rfl rfl rfl h23) rfl rfl ?_
    refine s_off hM21 rfl (gno rfl rfl rfl rfl h23) rfl rfl ?_
    refine s_off hM21 rfl (gno rfl rfl rfl rfl h23) rfl rfl ?_
    refine s_off hM21 rfl (gno rfl rfl rfl rfl h23) rfl rfl ?_
    refine s_offx (.inr hM21) rfl (gno rfl rfl rfl rfl h23) rfl rfl ?_
    refine s_off hM21 rfl (gno rfl rfl rfl rfl h23) rfl rfl ?_
    refine s_take hM21 rfl (gn rfl) rfl rfl (fun w h => r_pickF rfl h23 rfl) ?_
    refine s_take hM21 rfl (gn rfl) rfl rfl (fun w h => r_assign rfl) ?_
    refine s_take hM21 rfl (gn rfl) rfl rfl (fun w h => r_assign rfl) ?_
    refine s_nil ?_
    refine c_ret ?_
    refine ret2 rfl rfl rfl ?_
    have hpos : posK Ban.key l e = i := up_pos hlo (fun t x h1 => hhi t x (by omega)) (by omega)
    have hhas : hasK Ban.key l e = false := has_end hu (by rw [hpos]; assumption)
    exact ⟨by rw [hpos, hhas], hM21.kp⟩
theorem f118 {A : Nat → Prop} {w : World} {bl ol : Nat} {s : Sl} {l : List Ban} (hc : Holds w bl ol #[s.val]) (hR : Row A w s 128 Ban.cells l) (hu : UpK Ban.key l) (e : Pt) :
    Ret 118 #[.agg (Roll.cells ⟨bl, ol, 117⟩), .agg e.cells] w (fun v w' => v = .tuple #[.int .i64 ((posK Ban.key l e : Nat) : Int), .bool (hasK Ban.key l e)] ∧ Keeps [] w w') := by
  have hM0 := Mem.start w
  refine enter Tryz.func118 rfl rfl ?_
  refine c_sr ?_
  refine l_box hM0 rfl rfl ?_
  intro b1 w2 hM3 hK4 hB5
  replace hM3 : Mem w [] [(b1, (RollB.cells ((⟨bl, ol, 117⟩ : Roll))), 157)] w2 := hM3
  refine l_box hM3 rfl rfl ?_
  intro b6 w7 hM8 hK9 hB10
  replace hM8 : Mem w [] [(b6, (Pt.cells e), 24), (b1, (RollB.cells ((⟨bl, ol, 117⟩ : Roll))), 157)] w7 := hM8
  refine l_v rfl (r_assign rfl) ?_
  refine l_v rfl (r_assign rfl) ?_
  refine l_nil ?_
  refine c_seq ?_
  refine c_regD (Mem w [] [(b6, (Pt.cells e), 24), (b1, (RollB.cells ((⟨bl, ol, 117⟩ : Roll))), 157)]) [] [(0, true), (1, true), (2, true), (3, true), (4, true), (5, true), (6, false), (7, true), (8, true), (9, true), (10, true)] (by kernel_rfl) ?_
  have hM11 := hM8.drew
  refine s_take hM11 rfl (gn rfl) rfl rfl (fun w h => r_fieldAddr RollB.fld_l rfl) ?_
  refine s_take hM11 rfl (gn rfl) rfl rfl (fun w h => r_load1 (v := Value.pointer (some ⟨bl, ol, none⟩)) Tryz.isAgg154 rfl (Holds.sub (h.base (i := 1) rfl) (RollB.sub_l _))) ?_
  refine s_take hM11 rfl (gn rfl) rfl rfl (fun w h => r_nilCheck rfl) ?_
  refine s_take hM11 rfl (gn rfl) rfl rfl (fun w h => r_load1 (v := Sl.val s) Tryz.isAgg35 rfl (hc.keep h.kp (by simp))) ?_
  refine s_take hM11 rfl (gn rfl) rfl rfl (fun w h => r_loadA Tryz.isAgg24 Tryz.sizeOf24 (Pt.size _) rfl (h.base (i := 0) rfl)) ?_
  refine s_take hM11 rfl (gn rfl) rfl rfl (fun w h => r_makeFunc rfl) ?_
  refine s_call rfl (gn rfl) rfl rfl (r_call Tryz.call130 rfl) (f130 (bl := _) (ol := _) (hR.keep0 hM11.kp) (hM11.base (i := 1) rfl) hu e) ?_
  rintro v13 w14 ⟨rfl, hK15⟩
  have hM16 := hM11.keep hK15
  refine ⟨.inr hM16, ?_⟩
  refine s_take hM16 rfl (gn rfl) rfl rfl (fun w h => r_extract rfl rfl) ?_
  refine s_take hM16 rfl (gn rfl) rfl rfl (fun w h => r_extract rfl rfl) ?_
  refine s_take hM16 rfl (gn rfl) rfl rfl (fun w h => r_assign rfl) ?_
  refine s_take hM16 rfl (gn rfl) rfl rfl (fun w h => r_assign rfl) ?_
  refine s_nil ?_
  refine c_ret ?_
  refine ret2 rfl rfl rfl ?_
  exact ⟨rfl, hM16.kp⟩
theorem f95 {A : Nat → Prop} {w : World} {bl ol : Nat} {s : Sl} {l : List Ban} (hc : Holds w bl ol #[s.val]) (hR : Row A w s 128 Ban.cells l) (hu : UpK Ban.key l) (e : Pt) :
    Ret 95 #[.agg (Roll.cells ⟨bl, ol, 117⟩), .agg e.cells] w (fun v w' => v = .bool (hasK Ban.key l e) ∧ Keeps [] w w') := by
  have hM0 := Mem.start w
  refine enter Tryz.func95 rfl rfl ?_
  refine c_sr ?_
  refine l_box hM0 rfl rfl ?_
  intro b1 w2 hM3 hK4 hB5
  replace hM3 : Mem w [] [(b1, (RollB.cells ((⟨bl, ol, 117⟩ : Roll))), 157)] w2 := hM3
  refine l_box hM3 rfl rfl ?_
  intro b6 w7 hM8 hK9 hB10
  replace hM8 : Mem w [] [(b6, (Pt.cells e), 24), (b1, (RollB.cells ((⟨bl, ol, 117⟩ : Roll))), 157)] w7 := hM8
  refine l_v rfl (r_assign rfl) ?_
  refine l_nil ?_
  refine c_sr ?_
  refine l_v rfl (r_loadA Tryz.isAgg157 Tryz.sizeOf157 (RollB.size _) rfl (hM8.base (i := 1) rfl)) ?_
  refine l_v rfl (r_loadA Tryz.isAgg24 Tryz.sizeOf24 (Pt.size _) rfl (hM8.base (i := 0) rfl)) ?_
  refine l_call (gn rfl) rfl rfl (r_call Tryz.call118 rfl) (f118 (hc.keep hM8.kp (by simp)) (hR.keep0 hM8.kp) hu e) ?_
  rintro v11 w12 ⟨rfl, hK13⟩
  have hM14 := hM8.keep hK13
  refine l_v rfl (r_move rfl) ?_
  refine l_v rfl (r_extract rfl rfl) ?_
  refine l_v rfl (r_extract rfl rfl) ?_
  refine l_v rfl (r_assign rfl) ?_
  refine l_v rfl (r_assign rfl) ?_
  refine l_nil ?_
  refine c_sr ?_
  refine l_v rfl (r_move rfl) ?_
  refine l_v rfl (r_assign rfl) ?_
  refine l_nil ?_
  refine c_ret ?_
  refine ret1 rfl rfl ?_
  exact ⟨rfl, hM14.kp⟩
theorem f113 {A : Nat → Prop} {w : World} {bl ol : Nat} {s : Sl} {l : List Ban} (hc : Holds w bl ol #[s.val]) (hR : Row A w s 128 Ban.cells l) :
    Ret 113 #[.agg (Roll.cells ⟨bl, ol, 117⟩)] w (fun v w' => v = .bool (decide (40 ≤ l.length)) ∧ Keeps [] w w') := by
  have hM0 := Mem.start w
  refine enter Tryz.func113 rfl rfl ?_
  refine c_sr ?_
  refine l_box hM0 rfl rfl ?_
  intro b1 w2 hM3 hK4 hB5
  replace hM3 : Mem w [] [(b1, (RollB.cells ((⟨bl, ol, 117⟩ : Roll))), 157)] w2 := hM3
  refine l_v rfl (r_assign rfl) ?_
  refine l_nil ?_
  refine c_sr ?_
  refine l_v rfl (r_fieldAddr RollB.fld_l rfl) ?_
  refine l_v rfl (r_load1 (v := Value.pointer (some ⟨bl, ol, none⟩)) Tryz.isAgg154 rfl (Holds.sub (hM3.base (i := 0) rfl) (RollB.sub_l _))) ?_
  refine l_v rfl (r_nilCheck rfl) ?_
  refine l_v rfl (r_load1 (v := Sl.val s) Tryz.isAgg35 rfl (hc.keep hM3.kp (by simp))) ?_
  refine l_v rfl (r_lenR Tryz.underlying35 rfl (hR.keep0 hM3.kp).len) ?_
  refine l_v rfl (r_geq (b := decide ((40 : Nat) ≤ l.length)) rfl rfl (nle 40 l.length)) ?_
  refine l_v rfl (r_assign rfl) ?_
  refine l_nil ?_
  refine c_ret ?_
  refine ret1 rfl rfl ?_
  exact ⟨rfl, hM3.kp⟩
end Go.Proofs.YtekhaogjmmmniaaGreat
